/- A small verified interpreter over names, its proofs, and what was proved with it. No condition. -/
import Derived.Test.YtfllomlghjolpaaDoorW04
set_option linter.all false
set_option linter.deprecated false
section
namespace Go.Ai
abbrev AlP:=List (Nat×Nat×Option Blk)
noncomputable def slotOf (fr:Fr) (d:Option Tmp) : Option AV:=match d with | some d=>fr.get d | none=>none
noncomputable def againW (P:Program) (W:WF) (ops:Array Oper) (fr:Fr) (H:Mem) : List Nat→Prop
 | []=>True
 | i :: l=>(match ops[i]? with
  | some o=>oneW P W ops o fr H (fun fr' _=>slotOf fr' o.dst=slotOf fr o.dst) (fun _=>False)
  | none=>False)∧againW P W ops fr H l
noncomputable def keptW (H:Mem) (as:List Nat) : AlP→Prop
 | []=>True
 | (i,a,b) :: l=>(i∈as→H.get a=b)∧keptW H as l
noncomputable def planW (P:Program) (W:WF) (ops:Array Oper) (Q:Out→Prop) : List It→Fr→Mem→AlP→Prop
 | [],fr,H,_=>Q (.norm fr H)
 | .run i :: l,fr,H,als=>match ops[i]? with
  | some o=>oneW P W ops o fr H (fun fr H=>planW P W ops Q l fr H als) Q
  | none=>False
 | .mk i :: l,fr,H,als=>match ops[i]? with
  | some o=>oneW P W ops o fr H (fun fr H'=>planW P W ops Q l fr H' ((i,H.next,H'.get H.next) :: als)) Q
  | none=>False
 | .gate hs as :: l,fr,H,als=>againW P W ops fr H hs∧keptW H as als∧planW P W ops Q l fr H als
noncomputable def clearQ (Q:Out→Prop) : Out→Prop
 | .panic v fr H=>Q (.panic v fr.clear H)
 | r=>Q r
theorem Mem.get_add_same (H:Mem) (b:Blk) : (H.add b).get H.next=some b:=by
 obtain ⟨t,n⟩:=H
 cases t with
 | tr t =>
  show get4 (u4 t n (.v n b)) n=some b
  unfold get4
  rw [at4_same]
  simp [leaf]
 | fn g=>exact if_pos rfl
variable {P:Program} {W:WF} {ops:Array Oper} {g:Nat→Option AV} {ds:List Dfr} {Q:Out→Prop} {S:Nat} {res:ResF} {H:Mem} {held:List Nat} {als:Als} {alsP:AlP} {i:Nat} {o:Oper}
structure PI (ops:Array Oper) (S:Nat) (res:ResF) : Prop where
 un:∀ j,S.testBit j=false→res j=none
 dn:∀ j,S.testBit j=true→∃ v,res j=some v
 down:∀ j k,S.testBit j=true→isAnc (ancs [] ops.toList) j k=true→S.testBit k=true
noncomputable def Gs (ops:Array Oper) (g:Nat→Option AV) (S:Nat) (res:ResF) : Nat→Option AV:=fun t=>match writer t ops.toList 0 with
 | some j=>(match S.testBit j with | true=>res j | false=>g t)
 | none=>g t
theorem bit_or {i j:Nat} : (S ||| 2 ^ i).testBit j=(S.testBit j || decide (i=j)):=by rw [Nat.testBit_or,Nat.testBit_two_pow]
theorem PI.step (h:PI ops S res) (hi:S.testBit i=false) (ha:∀ j,isAnc (ancs [] ops.toList) i j=true→S.testBit j=true) (v:AV) : PI ops (S ||| 2 ^ i) (rput res i v):=by
 refine ⟨fun j hj=>?_,fun j hj=>?_,fun j k hj hk=>?_⟩
 ·rw [bit_or,Bool.or_eq_false_iff] at hj
  have hne:¬j=i:=fun e=>of_decide_eq_false hj.2 e.symm
  unfold rput
  rw [if_neg hne]
  exact h.un j hj.1
 ·unfold rput
  by_cases e:j=i
  ·rw [if_pos e]; exact ⟨v,rfl⟩
  ·rw [if_neg e]
   rw [bit_or] at hj
   have:¬i=j:=fun e'=>e e'.symm
   simp [this] at hj
   exact h.dn j hj
 ·rw [bit_or] at hj ⊢
  by_cases e:i=j
  ·subst e; rw [ha k hk]; rfl
  ·simp [e] at hj
   rw [h.down j k hj hk]; rfl
theorem fit_writer (hfit:fit ops.toList ops.toList 0=true) (ho:ops[i]?=some o) {d:Tmp} (hd:o.dst=some d) : writer d ops.toList 0=some i:=by
 have hone:=fit_spec hfit i o (toList_at.2 ho)
 unfold fitOne at hone
 simp only [Bool.and_eq_true] at hone
 have h:=hone.1.1.1
 rw [hd] at h
 dsimp only at h
 split at h
 ·rename_i j hj
  rw [hj]
  have:=Nat.eq_of_beq_eq_true h
  rw [Nat.zero_add] at this
  rw [this]
 ·cases h
theorem put_eq (hfit:fit ops.toList ops.toList 0=true) (ho:ops[i]?=some o) (v:AV) :
  (Fr.f (Gs ops g S res) ds).put o.dst v=.f (Gs ops g (S ||| 2 ^ i) (rput res i v)) ds:=by
 have other:∀ t,o.dst≠some t→Gs ops g (S ||| 2 ^ i) (rput res i v) t=Gs ops g S res t:=by
  intro t ht
  unfold Gs
  split
  ·rename_i j hj
   obtain ⟨_,oj,hoj,hdj⟩:=writer_spec hj
   have hji:¬i=j:=by
    intro e
    subst e
    have hoj' : ops[i]?=some oj:=toList_at.1 (by simpa using hoj)
    rw [ho] at hoj'
    cases hoj'
    exact ht hdj
   rw [bit_or]
   simp only [hji,decide_false,Bool.or_false]
   unfold rput
   rw [if_neg (fun e=>hji e.symm)]
  ·rfl
 cases hd:o.dst with
 | none =>
  show Fr.f (Gs ops g S res) ds=_
  congr 1
  funext t
  exact (other t (by rw [hd]; simp)).symm
 | some d =>
  show Fr.f (fput (Gs ops g S res) d v) ds=_
  congr 1
  funext t
  unfold fput
  by_cases e:t=d
  ·subst e
   rw [if_pos rfl]
   unfold Gs
   rw [fit_writer hfit ho hd]
   dsimp only
   rw [bit_or]
   simp [rput]
  ·rw [if_neg e]
   exact (other t (by rw [hd]; intro e'; exact e (Option.some.inj e').symm)).symm
theorem mem_tmps {t:Tmp} (h:Operand.tmp t∈o.op.operands.toList) : t∈tmpsOf o:=List.mem_filterMap.2 ⟨_,h,rfl⟩
theorem ev_eq (h:PI ops S res) (hi:S.testBit i=false) (ha:∀ j,isAnc (ancs [] ops.toList) i j=true→S.testBit j=true)
  (hc:(tmpsOf o).all (cmpW (ancs [] ops.toList) ops.toList i)=true) : ∀ x∈o.op.operands.toList,(Fr.f (Gs ops g S res) ds).ev x=envF ops (ancs [] ops.toList) (.f g ds) res i x:=by
 intro x hx
 cases x with
 | tmp t =>
  have hct:=List.all_eq_true.1 hc t (mem_tmps hx)
  show Gs ops g S res t=envTF ops (ancs [] ops.toList) (.f g ds) res i t
  unfold cmpW at hct
  unfold Gs envTF
  split at hct
  ·rename_i hw; rw [hw]; rfl
  ·rename_i j hw
   rw [hw]
   dsimp only
   cases hb:isAnc (ancs [] ops.toList) i j with
   | true=>rw [ha j hb]
   | false =>
    rw [hb,Bool.false_or] at hct
    rw [hct]
    have:S.testBit j=false:=by
     cases hs:S.testBit j with
     | false=>rfl
     | true =>
      exfalso
      rcases Bool.or_eq_true _ _ ▸ hct with h1 | h1
      ·rw [h.down j i hs h1] at hi; cases hi
      ·have:=Nat.eq_of_beq_eq_true h1
       subst this; rw [hs] at hi; cases hi
    rw [this]
    rfl
 | const c=>rfl
 | global c=>rfl
 | func f=>rfl
theorem ev_again (h:PI ops S res) (hi:S.testBit i=true)
  (hc:(tmpsOf o).all (ahead (ancs [] ops.toList) ops.toList i)=true) : ∀ x∈o.op.operands.toList,(Fr.f (Gs ops g S res) ds).ev x=envF ops (ancs [] ops.toList) (.f g ds) res i x:=by
 intro x hx
 cases x with
 | tmp t =>
  have hct:=List.all_eq_true.1 hc t (mem_tmps hx)
  show Gs ops g S res t=envTF ops (ancs [] ops.toList) (.f g ds) res i t
  unfold ahead at hct
  unfold Gs envTF
  split at hct
  ·rename_i hw; rw [hw]; rfl
  ·rename_i j hw
   rw [hw]
   dsimp only
   rw [hct,h.down i j hi hct]
 | const c=>rfl
 | global c=>rfl
 | func f=>rfl
theorem env_stable (h:PI ops S res) (hi:S.testBit i=true) {k:Nat} (hk:S.testBit k=false) (v:AV) (fr:Fr) : envF ops (ancs [] ops.toList) fr (rput res k v) i=envF ops (ancs [] ops.toList) fr res i:=by
 funext x
 cases x with
 | tmp t =>
  show envTF ops (ancs [] ops.toList) fr (rput res k v) i t=envTF ops (ancs [] ops.toList) fr res i t
  unfold envTF
  split
  ·rfl
  ·rename_i j hw
   cases hb:isAnc (ancs [] ops.toList) i j with
   | true =>
    dsimp only
    unfold rput
    rw [if_neg]
    intro e
    subst e
    rw [h.down i j hi hb] at hk; cases hk
   | false=>rfl
 | const c=>rfl
 | global c=>rfl
 | func f=>rfl
theorem topo_anc {tab:List Nat} (h:Nat.beq ((tab.getD i 0) &&& S) (tab.getD i 0)=true) : ∀ j,isAnc tab i j=true→S.testBit j=true:=by
 intro j hj
 have e:=Nat.eq_of_beq_eq_true h
 unfold isAnc at hj
 rw [← e,Nat.testBit_and,Bool.and_eq_true] at hj
 exact hj.2
theorem flatAll_spec {tab:List Nat} {opl:List Oper} : ∀ {l:List Oper} {k:Nat},flatAll P tab opl l k=true→∀ i o,l[i]?=some o→flatOne P tab opl o (k+i)=true
 | [],_,_,i,o,h=>by simp at h
 | x :: l,k,h,i,o,ho=>by
  simp only [flatAll,Bool.and_eq_true] at h
  cases i with
  | zero=>simp at ho; subst ho; exact h.1
  | succ i =>
   have:=flatAll_spec h.2 i o (by simpa using ho)
   rw [show k+(i+1)=k+1+i by omega]; exact this
theorem byGuard_to {x:Option AV} {w:Bool} {A B yes no:Prop} (h:byGuard x w A B) (h1:x=some (.lit (.bool w))→A→yes) (h2:B→no) : byGuard x w yes no:=by
 unfold byGuard at h ⊢
 split at h
 ·rename_i b
  exact ⟨fun e=>h1 (by rw [e]) (h.1 e),fun e=>h2 (h.2 e)⟩
 ·exact h2 h
 ·exact h.elim
theorem slot_eq (hfit:fit ops.toList ops.toList 0=true) (ho:ops[i]?=some o) {gd:Nat×Bool} (hg:o.guard=some gd) (hS:S.testBit gd.1=true) :
  guardSlot ops (.f (Gs ops g S res) ds) gd.1=res gd.1:=by
 have hone:=fit_spec hfit i o (toList_at.2 ho)
 unfold fitOne at hone
 simp only [Bool.and_eq_true] at hone
 have h:=hone.2
 rw [hg] at h
 dsimp only at h
 unfold guardSlot
 cases hj:ops[gd.1]? with
 | none =>
  have hj' : ops.toList[gd.1]?=none:=by rw [Array.getElem?_toList]; exact hj
  rw [hj'] at h; cases h
 | some oj =>
  have hj' : ops.toList[gd.1]?=some oj:=toList_at.2 hj
  rw [hj'] at h
  dsimp only at h ⊢
  cases hd:oj.dst with
  | none=>rw [hd] at h; cases h
  | some d =>
   show Gs ops g S res d=res gd.1
   unfold Gs
   rw [fit_writer hfit hj hd]
   dsimp only
   rw [hS]
end Go.Ai
end
section
namespace Go.Ai
variable {P:Program} {W:WF} {ops:Array Oper} {g:Nat→Option AV} {ds:List Dfr} {Q:Out→Prop} {S:Nat} {res:ResF} {H:Mem} {held:List Nat} {als:Als} {alsP:AlP} {i:Nat} {o:Oper} {s:Hs}
def Rq (P:Program) (ops:Array Oper) (g:Nat→Option AV) (ds:List Dfr) (H:Mem) (res:ResF) (i:Nat) : Prop :=
 ∃ o v,ops[i]?=some o∧res i=some v∧quiet P H (envF ops (ancs [] ops.toList) (.f g ds) res i) o=some v
def Ran (ops:Array Oper) (res:ResF) (i:Nat) : Prop:=∃ o,ops[i]?=some o∧cls o.op=.read∧∀ gd,o.guard=some gd→res gd.1=some (.lit (.bool gd.2))
structure PS (P:Program) (ops:Array Oper) (g:Nat→Option AV) (ds:List Dfr) (s:Hs) (S:Nat) (res:ResF) (H:Mem) (held:List Nat) (als:Als) (alsP:AlP) : Prop where
 pi:PI ops S res
 hd:∀ i∈held,S.testBit i=true∧Ran ops res i∧(i∈s.di∨(i∈s.cl∧Rq P ops g ds H res i))
 al:∀ x∈als,(x.1,x.2.1,some x.2.2)∈alsP∧(x.1∈s.adi∨(x.1∈s.acl∧H.get x.2.1=some x.2.2))
theorem rput_keep {k:Nat} {v:AV} (h:res k=none) : GrF res (rput res k v):=by
 intro j y hj
 unfold rput
 by_cases e:j=k
 ·subst e; rw [h] at hj; cases hj
 ·rw [if_neg e]; exact hj
theorem Ran.grow {res' : ResF} (h:Ran ops res i) (hg:GrF res res') : Ran ops res' i:=by
 obtain ⟨o,h1,h2,h3⟩:=h
 exact ⟨o,h1,h2,fun gd e=>hg _ _ (h3 gd e)⟩
theorem Rq.grow {k:Nat} {v:AV} (hp:PI ops S res) (hi:S.testBit i=true) (hk:S.testBit k=false) (h:Rq P ops g ds H res i) : Rq P ops g ds H (rput res k v) i:=by
 obtain ⟨o,y,h1,h2,h3⟩:=h
 refine ⟨o,y,h1,rput_keep (hp.un k hk) _ _ h2,?_⟩
 rw [env_stable hp hi hk]; exact h3
theorem PS.step (h:PS P ops g ds s S res H held als alsP) (hi:S.testBit i=false) (ha:∀ j,isAnc (ancs [] ops.toList) i j=true→S.testBit j=true) (v:AV) :
  PS P ops g ds s (S ||| 2 ^ i) (rput res i v) H held als alsP :=
 ⟨h.pi.step hi ha v,fun j hj=>let ⟨a,b,c⟩:=h.hd j hj; ⟨by rw [bit_or,a]; rfl,b.grow (rput_keep (h.pi.un i hi)),c.imp id fun ⟨d,e⟩=>⟨d,e.grow h.pi a hi⟩⟩,h.al⟩
theorem PS.soil {H' : Mem} {acl:List Nat} {cl:List Nat} (h:PS P ops g ds s S res H held als alsP) (p:Nat×Nat×Option Blk) : PS P ops g ds ⟨cl,s.cl++s.di,acl,s.acl++s.adi⟩ S res H' held als (p :: alsP) :=
 ⟨h.pi,fun j hj=>let ⟨a,b,c⟩:=h.hd j hj; ⟨a,b,.inl (by rcases c with c | ⟨c,_⟩ <;> simp [c])⟩,
  fun x hx=>let ⟨a,c⟩:=h.al x hx; ⟨List.mem_cons_of_mem _ a,.inl (by rcases c with c | ⟨c,_⟩ <;> simp [c])⟩⟩
variable {KW:StW} {K:Hs→List It}
theorem plan_stage (hfit:fit ops.toList ops.toList 0=true) (hall:flatAll P (ancs [] ops.toList) ops.toList ops.toList 0=true)
  (hK:∀ s S res H held als alsP,PS P ops g ds s S res H held als alsP→topo (ancs [] ops.toList) ops.toList S (K s)=true→planW P W ops Q (K s) (.f (Gs ops g S res) ds) H alsP→KW res H held als) :
  ∀ (L:List Nat) (s:Hs) (S:Nat) (res:ResF) (H:Mem) (held:List Nat) (als:Als) (alsP:AlP),(∀ i∈L,∃ o,ops[i]?=some o∧isChain o.op=false∧cls o.op≠.no) →
   PS P ops g ds s S res H held als alsP→topo (ancs [] ops.toList) ops.toList S (planStage ops.toList L s K)=true→planW P W ops Q (planStage ops.toList L s K) (.f (Gs ops g S res) ds) H alsP →
   stageW P ops (ancs [] ops.toList) (.f g ds) KW L res H held als
 | [],s,S,res,H,held,als,alsP,_,ps,ht,hp=>hK s S res H held als alsP ps ht hp
 | i :: L,s,S,res,H,held,als,alsP,hL,ps,ht,hp=>by
  obtain ⟨o,ho,hch,hno⟩:=hL i (by simp)
  have hL' : ∀ j∈L,∃ o,ops[j]?=some o∧isChain o.op=false∧cls o.op≠.no:=fun j hj=>hL j (by simp [hj])
  have hone:=flatAll_spec hall i o (toList_at.2 ho)
  rw [Nat.zero_add] at hone
  unfold flatOne at hone
  simp only [Bool.and_eq_true] at hone
  obtain ⟨⟨hcmp,hgd⟩,hcv⟩:=hone
  have hnc:cls o.op≠.chain:=by intro e; unfold isChain at hch; rw [e] at hch; cases hch
  have step:∀ {k:Fr→Mem→Prop} {yes no:Prop},(∀ j,isAnc (ancs [] ops.toList) i j=true→S.testBit j=true)→S.testBit i=false→oneW P W ops o (.f (Gs ops g S res) ds) H k Q →
    ((∀ gd,o.guard=some gd→res gd.1=some (.lit (.bool gd.2)))→afterW W o (.f (Gs ops g S res) ds) k Q (opV P H (envF ops (ancs [] ops.toList) (.f g ds) res i) o)→yes) →
    (k (.f (Gs ops g (S ||| 2 ^ i) (rput res i (.lit undef))) ds) H→no)→wantedW (ancs [] ops.toList) res i o yes no:=by
   intro k yes no ha hi h h1 h2
   have hev:=opV_evs (P:=P) (H:=H) (noSelect hno) (ev_eq (g:=g) (ds:=ds) ps.pi hi ha hcmp)
   unfold oneW at h
   unfold wantedW
   split at h
   ·rename_i hg
    rw [hev] at h
    exact h1 (fun gd e=>by rw [hg] at e; cases e) h
   ·rename_i gd hg
    rw [hg] at hgd
    dsimp only at hgd
    rw [slot_eq hfit ho hg (ha _ hgd),put_eq hfit ho,hev] at h
    exact ⟨hgd,byGuard_to h (fun e=>h1 fun gd' e'=>by rw [hg] at e'; cases e'; exact e) h2⟩
  have quietCase:cls o.op≠.alloc→∀ {k:Fr→Mem→Prop},afterW W o (.f (Gs ops g S res) ds) k Q (opV P H (envF ops (ancs [] ops.toList) (.f g ds) res i) o) →
    ∃ v,quiet P H (envF ops (ancs [] ops.toList) (.f g ds) res i) o=some v∧k (.f (Gs ops g (S ||| 2 ^ i) (rput res i v)) ds) H:=by
   intro hna k h
   rcases quiet_form (P:=P) (H:=H) (ev:=envF ops (ancs [] ops.toList) (.f g ds) res i) hnc hno hna hcv with hb | ⟨v,hv,hq⟩
   ·rw [hb] at h; exact h.elim
   ·rw [hv] at h
    refine ⟨v,hq,?_⟩
    have h' : k ((Fr.f (Gs ops g S res) ds).put o.dst v) H:=h
    rw [put_eq hfit ho] at h'
    exact h'
  have ho' : ops.toList[i]?=some o:=toList_at.2 ho
  unfold stageW stepW
  rw [ho]
  dsimp only
  unfold planStage at ht hp
  rw [ho'] at ht hp
  dsimp only at ht hp
  cases hcl:cls o.op with
  | chain=>exact absurd hcl hnc
  | no=>exact absurd hcl hno
  | alloc =>
   rw [hcl] at ht hp
   simp only [topo,Bool.and_eq_true] at ht
   obtain ⟨⟨h1,h2⟩,ht⟩:=ht
   have hi:S.testBit i=false:=by simpa using h1
   have ha:=topo_anc h2
   unfold planW at hp
   rw [ho] at hp
   dsimp only at hp ⊢
   refine step ha hi hp ?_ ?_
   ·intro hgr h
    have hvb:=vb_alloc (P:=P) (H:=H) (ev:=envF ops (ancs [] ops.toList) (.f g ds) res i) hcl
    cases hv:opV P H (envF ops (ancs [] ops.toList) (.f g ds) res i) o with
    | val v H' =>
     rw [hv] at h
     obtain ⟨f,x,e1,e2,_⟩:=alloc_sound (B:=0) hcl hv
     have h' : planW P W ops Q (planStage ops.toList L ⟨[],s.cl++s.di,[i],s.acl++s.adi⟩ K) ((Fr.f (Gs ops g S res) ds).put o.dst v) H' ((i,H.next,H'.get H.next) :: alsP):=h
     rw [put_eq hfit ho] at h'
     have hget:H'.get H.next=some x:=by rw [e2]; exact Mem.get_add_same _ _
     unfold allocW
     dsimp only
     rw [hget]
     refine ⟨ps.pi.un i hi,?_⟩
     refine plan_stage hfit hall hK L _ _ _ _ _ _ _ hL' ?_ ht h'
     have p1:=(ps.step hi ha v).soil (H':=H') (acl:=[i]) (cl:=[]) (i,H.next,H'.get H.next)
     refine ⟨p1.pi,p1.hd,fun y hy=>?_⟩
     rcases List.mem_cons.1 hy with rfl | hy
     ·exact ⟨by rw [hget]; simp,.inr ⟨by simp,hget⟩⟩
     ·exact p1.al y hy
    | bad=>rw [hv] at h; exact h.elim
    | _=>rw [hv] at hvb; cases hvb
   ·intro h
    refine ⟨ps.pi.un i hi,?_⟩
    exact plan_stage hfit hall hK L _ _ _ _ _ _ _ hL' ((ps.step hi ha _).soil _) ht h
  | read =>
   rw [hcl] at ht hp
   simp only [topo,Bool.and_eq_true] at ht
   obtain ⟨⟨h1,h2⟩,ht⟩:=ht
   have hi:S.testBit i=false:=by simpa using h1
   have ha:=topo_anc h2
   unfold planW at hp
   rw [ho] at hp
   dsimp only at hp ⊢
   refine step ha hi hp ?_ ?_
   ·intro hgr h
    obtain ⟨v,hq,h'⟩:=quietCase (by rw [hcl]; simp) h
    unfold quietW
    rw [hq]
    refine ⟨ps.pi.un i hi,?_⟩
    refine plan_stage hfit hall hK L _ _ _ _ _ _ _ hL' ?_ ht h'
    have p1:=ps.step hi ha v
    refine ⟨p1.pi,fun j hj=>?_,p1.al⟩
    rcases List.mem_cons.1 hj with rfl | hj
    ·refine ⟨by rw [bit_or]; simp,⟨o,ho,hcl,fun gd e=>rput_keep (ps.pi.un _ hi) _ _ (hgr gd e)⟩,.inr ⟨by simp,o,v,ho,if_pos rfl,?_⟩⟩
     have:envF ops (ancs [] ops.toList) (.f g ds) (rput res j v) j=envF ops (ancs [] ops.toList) (.f g ds) res j:=by
      funext x
      cases x with
      | tmp t =>
       show envTF ops (ancs [] ops.toList) (.f g ds) (rput res j v) j t=envTF ops (ancs [] ops.toList) (.f g ds) res j t
       unfold envTF
       split
       ·rfl
       ·rename_i k hw
        cases hb:isAnc (ancs [] ops.toList) j k with
        | true =>
         dsimp only
         unfold rput
         rw [if_neg]
         intro e
         subst e
         rw [ha _ hb] at hi; cases hi
        | false=>rfl
      | const c=>rfl
      | global c=>rfl
      | func f=>rfl
     rw [this]; exact hq
    ·obtain ⟨a,b,c⟩:=p1.hd j hj
     exact ⟨a,b,c.imp id fun ⟨d,e⟩=>⟨by simp [d],e⟩⟩
   ·intro h
    refine ⟨ps.pi.un i hi,?_⟩
    refine plan_stage hfit hall hK L _ _ _ _ _ _ _ hL' ?_ ht h
    have p1:=ps.step hi ha (.lit undef)
    exact ⟨p1.pi,fun j hj=>let ⟨a,b,c⟩:=p1.hd j hj; ⟨a,b,c.imp id fun ⟨d,e⟩=>⟨by simp [d],e⟩⟩,p1.al⟩
  | free =>
   rw [hcl] at ht hp
   simp only [topo,Bool.and_eq_true] at ht
   obtain ⟨⟨h1,h2⟩,ht⟩:=ht
   have hi:S.testBit i=false:=by simpa using h1
   have ha:=topo_anc h2
   unfold planW at hp
   rw [ho] at hp
   dsimp only at hp ⊢
   refine step ha hi hp ?_ ?_
   ·intro hgr h
    obtain ⟨v,hq,h'⟩:=quietCase (by rw [hcl]; simp) h
    unfold quietW
    rw [hq]
    exact ⟨ps.pi.un i hi,plan_stage hfit hall hK L _ _ _ _ _ _ _ hL' (ps.step hi ha v) ht h'⟩
   ·intro h
    exact ⟨ps.pi.un i hi,plan_stage hfit hall hK L _ _ _ _ _ _ _ hL' (ps.step hi ha _) ht h⟩
  | gen =>
   rw [hcl] at ht hp
   simp only [topo,Bool.and_eq_true] at ht
   obtain ⟨⟨h1,h2⟩,ht⟩:=ht
   have hi:S.testBit i=false:=by simpa using h1
   have ha:=topo_anc h2
   unfold planW at hp
   rw [ho] at hp
   dsimp only at hp ⊢
   refine step ha hi hp ?_ ?_
   ·intro hgr h
    obtain ⟨v,hq,h'⟩:=quietCase (by rw [hcl]; simp) h
    unfold quietW
    rw [hq]
    exact ⟨ps.pi.un i hi,plan_stage hfit hall hK L _ _ _ _ _ _ _ hL' (ps.step hi ha v) ht h'⟩
   ·intro h
    exact ⟨ps.pi.un i hi,plan_stage hfit hall hK L _ _ _ _ _ _ _ hL' (ps.step hi ha _) ht h⟩
end Go.Ai
end
section
namespace Go.Ai
variable {P:Program} {W:WF} {ops:Array Oper} {g:Nat→Option AV} {ds:List Dfr} {Q:Out→Prop} {S:Nat} {res:ResF} {H:Mem} {held:List Nat} {als:Als} {alsP:AlP} {i:Nat} {o:Oper} {s:Hs} {K:Hs→List It}
theorem recheck_of {tab:List Nat} {fr:Fr} : ∀ {held:List Nat},(∀ i∈held,∃ o v,ops[i]?=some o∧res i=some v∧quiet P H (envF ops tab fr res i) o=some v)→recheckW P ops tab fr res H held
 | [],_=>trivial
 | i :: l,h=>by
  obtain ⟨o,v,h1,h2,h3⟩:=h i (by simp)
  refine ⟨?_,recheck_of fun j hj=>h j (by simp [hj])⟩
  rw [h1]
  exact ⟨v,h2,h3⟩
theorem stays_of:∀ {als:Als},(∀ x∈als,H.get x.2.1=some x.2.2)→staysW H als
 | [],_=>trivial
 | (a,b,c) :: l,h=>⟨h (a,b,c) (by simp),stays_of fun y hy=>h y (by simp [hy])⟩
theorem still_mem {tab:List Nat} {c i:Nat} : ∀ {held:List Nat},i∈still tab c held→i∈held∧isAnc tab c i=false
 | [],h=>by cases h
 | j :: held,h=>by
  unfold still at h
  split at h
  ·obtain ⟨a,b⟩:=still_mem h; exact ⟨by simp [a],b⟩
  ·rename_i hb
   rcases List.mem_cons.1 h with rfl | h
   ·exact ⟨by simp,hb⟩
   ·obtain ⟨a,b⟩:=still_mem h; exact ⟨by simp [a],b⟩
theorem stillA_mem {tab:List Nat} {c:Nat} : ∀ {als:Als} {x:Nat×Nat×Blk},x∈stillA tab c als→x∈als∧isAnc tab c x.1=false
 | [],_,h=>by cases h
 | y :: als,x,h=>by
  unfold stillA at h
  split at h
  ·obtain ⟨a,b⟩:=stillA_mem h; exact ⟨by simp [a],b⟩
  ·rename_i hb
   rcases List.mem_cons.1 h with rfl | h
   ·exact ⟨by simp,hb⟩
   ·obtain ⟨a,b⟩:=stillA_mem h; exact ⟨by simp [a],b⟩
theorem again_mem {fr:Fr} : ∀ {hs:List Nat},againW P W ops fr H hs→∀ i∈hs,∃ o,ops[i]?=some o∧oneW P W ops o fr H (fun fr' _=>slotOf fr' o.dst=slotOf fr o.dst) (fun _=>False)
 | j :: hs,h,i,hi=>by
  rcases List.mem_cons.1 hi with rfl | hi
  ·have h1:=h.1
   split at h1
   ·rename_i o ho; exact ⟨o,ho,h1⟩
   ·exact h1.elim
  ·exact again_mem h.2 i hi
theorem kept_mem {as:List Nat} : ∀ {l:AlP},keptW H as l→∀ x∈l,x.1∈as→H.get x.2.1=x.2.2
 | (i,a,b) :: l,h,x,hx,hm=>by
  rcases List.mem_cons.1 hx with rfl | hx
  ·exact h.1 hm
  ·exact kept_mem h.2 x hx hm
theorem again_Rq (hfit:fit ops.toList ops.toList 0=true) (hall:flatAll P (ancs [] ops.toList) ops.toList ops.toList 0=true) (hp:PI ops S res) (hi:S.testBit i=true) (hr:Ran ops res i)
  (hag:againFit (ancs [] ops.toList) ops.toList i=true) (ho:ops[i]?=some o) (h:oneW P W ops o (.f (Gs ops g S res) ds) H (fun fr' _=>slotOf fr' o.dst=slotOf (.f (Gs ops g S res) ds) o.dst) (fun _=>False)) :
  Rq P ops g ds H res i:=by
 obtain ⟨o',ho',hcl,hg⟩:=hr
 rw [ho] at ho'; cases ho'
 have hone:=flatAll_spec hall i o (toList_at.2 ho)
 rw [Nat.zero_add] at hone
 unfold flatOne at hone
 simp only [Bool.and_eq_true] at hone
 obtain ⟨⟨_,hgd⟩,hcv⟩:=hone
 unfold againFit at hag
 rw [toList_at.2 ho] at hag
 simp only [Bool.and_eq_true] at hag
 obtain ⟨hds,hah⟩:=hag
 obtain ⟨d,hd⟩:=Option.isSome_iff_exists.1 hds
 have hno:cls o.op≠.no:=by rw [hcl]; simp
 have key:afterW W o (.f (Gs ops g S res) ds) (fun fr' _=>slotOf fr' o.dst=slotOf (.f (Gs ops g S res) ds) o.dst) (fun _=>False) (opV P H (Fr.f (Gs ops g S res) ds).ev o)→Rq P ops g ds H res i:=by
  intro h
  rw [opV_evs (P:=P) (H:=H) (noSelect hno) (ev_again (g:=g) (ds:=ds) hp hi hah)] at h
  rcases quiet_form (P:=P) (H:=H) (ev:=envF ops (ancs [] ops.toList) (.f g ds) res i) (o:=o) (by rw [hcl]; simp) hno (by rw [hcl]; simp) hcv with hb | ⟨v,hv,hq⟩
  ·rw [hb] at h; exact h.elim
  ·rw [hv] at h
   have h' : slotOf ((Fr.f (Gs ops g S res) ds).put o.dst v) o.dst=slotOf (.f (Gs ops g S res) ds) o.dst:=h
   rw [hd] at h'
   have h2:some v=Gs ops g S res d:=by
    rw [show slotOf ((Fr.f (Gs ops g S res) ds).put (some d) v) (some d)=some v from if_pos rfl] at h'
    exact h'
   unfold Gs at h2
   rw [fit_writer hfit ho hd] at h2
   dsimp only at h2
   rw [hi] at h2
   exact ⟨o,v,ho,h2.symm,hq⟩
 unfold oneW at h
 split at h
 ·exact key h
 ·rename_i gd hgx
  rw [hgx] at hgd
  have hgd' : isAnc (ancs [] ops.toList) i gd.1=true:=hgd
  rw [slot_eq hfit ho hgx (hp.down _ _ hi hgd'),hg gd hgx] at h
  exact key (h.1 rfl)
theorem gateP_ok (hfit:fit ops.toList ops.toList 0=true) (hall:flatAll P (ancs [] ops.toList) ops.toList ops.toList 0=true) (h:PS P ops g ds s S res H held als alsP)
  (ht:topo (ancs [] ops.toList) ops.toList S (gateK s K)=true) (hp:planW P W ops Q (gateK s K) (.f (Gs ops g S res) ds) H alsP) :
  recheckW P ops (ancs [] ops.toList) (.f g ds) res H held∧staysW H als∧∃ s',s'.di=[]∧s'.adi=[]∧PS P ops g ds s' S res H held als alsP ∧
   topo (ancs [] ops.toList) ops.toList S (K s')=true∧planW P W ops Q (K s') (.f (Gs ops g S res) ds) H alsP:=by
 have done:s.di=[]→s.adi=[]→topo (ancs [] ops.toList) ops.toList S (K s)=true→planW P W ops Q (K s) (.f (Gs ops g S res) ds) H alsP→recheckW P ops (ancs [] ops.toList) (.f g ds) res H held∧staysW H als∧∃ s',s'.di=[]∧s'.adi=[]∧PS P ops g ds s' S res H held als alsP ∧
   topo (ancs [] ops.toList) ops.toList S (K s')=true∧planW P W ops Q (K s') (.f (Gs ops g S res) ds) H alsP:=by
  intro e1 e2 ht hp
  refine ⟨recheck_of fun i hi=>?_,stays_of fun x hx=>?_,s,e1,e2,h,ht,hp⟩
  ·obtain ⟨_,_,c⟩:=h.hd i hi
   rcases c with c | ⟨_,c⟩
   ·rw [e1] at c; cases c
   ·exact c
  ·obtain ⟨_,c⟩:=h.al x hx
   rcases c with c | ⟨_,c⟩
   ·rw [e2] at c; cases c
   ·exact c
 have go:topo (ancs [] ops.toList) ops.toList S (.gate s.di s.adi :: K ⟨s.di++s.cl,[],s.adi++s.acl,[]⟩)=true →
   planW P W ops Q (.gate s.di s.adi :: K ⟨s.di++s.cl,[],s.adi++s.acl,[]⟩) (.f (Gs ops g S res) ds) H alsP→recheckW P ops (ancs [] ops.toList) (.f g ds) res H held∧staysW H als∧∃ s',s'.di=[]∧s'.adi=[]∧PS P ops g ds s' S res H held als alsP ∧
   topo (ancs [] ops.toList) ops.toList S (K s')=true∧planW P W ops Q (K s') (.f (Gs ops g S res) ds) H alsP:=by
  intro ht hp
  simp only [topo,Bool.and_eq_true] at ht
  obtain ⟨hag,ht⟩:=ht
  obtain ⟨h1,h2,h3⟩:=hp
  have hR:∀ i∈held,Rq P ops g ds H res i:=by
   intro i hi
   obtain ⟨a,b,c⟩:=h.hd i hi
   rcases c with c | ⟨_,c⟩
   ·obtain ⟨o,ho,ho'⟩:=again_mem h1 i c
    exact again_Rq hfit hall h.pi a b (List.all_eq_true.1 hag i c) ho ho'
   ·exact c
  have hA:∀ x∈als,H.get x.2.1=some x.2.2:=by
   intro x hx
   obtain ⟨a,c⟩:=h.al x hx
   rcases c with c | ⟨_,c⟩
   ·exact kept_mem h2 _ a c
   ·exact c
  refine ⟨recheck_of hR,stays_of hA,_,rfl,rfl,⟨h.pi,fun i hi=>?_,fun x hx=>?_⟩,ht,h3⟩
  ·obtain ⟨a,b,c⟩:=h.hd i hi
   exact ⟨a,b,.inr ⟨by rcases c with c | ⟨c,_⟩ <;> simp [c],hR i hi⟩⟩
  ·obtain ⟨a,c⟩:=h.al x hx
   exact ⟨a,.inr ⟨by rcases c with c | ⟨c,_⟩ <;> simp [c],hA x hx⟩⟩
 unfold gateK at ht hp
 split at ht
 ·rename_i e1 e2
  rw [e1,e2] at hp
  exact done e1 e2 ht hp
 ·rename_i hne
  split at hp
  ·rename_i e1 e2; exact absurd e2 (hne e1)
  ·exact go ht hp
def WMono (W:WF) : Prop:=∀ (f:FuncId) (args:List AV) (H:Mem) (K K' : COut→Prop),(∀ r,K r→K' r)→W f args H K→W f args H K'
theorem WC_mono' (G:Nat) (P:Program) : WMono (WC G P):=fun _ _ _ _ _ hk h=>h.mono hk
theorem orW_mono {O:CallF} (h:WMono W) : WMono (orW O W):=by
 intro f args H K K' hk hw
 unfold orW at hw ⊢
 split
 ·rename_i e; rw [e] at hw; exact h _ _ _ _ _ hk hw
 ·rename_i hne
  split at hw
  ·rename_i e; exact absurd e hne
  ·exact hk _ hw
theorem act_plan (hW:WMono W) (hfit:fit ops.toList ops.toList 0=true) (hall:flatAll P (ancs [] ops.toList) ops.toList ops.toList 0=true) (hp:PI ops S res) (ho:ops[i]?=some o) (hc:cls o.op=.chain)
  (hi:S.testBit i=false) (ha:∀ j,isAnc (ancs [] ops.toList) i j=true→S.testBit j=true) {k:Fr→Mem→Prop} {K' : ResF→Mem→Prop}
  (h:oneW P W ops o (.f (Gs ops g S res) ds) H k (clearQ Q)) (hK:∀ v H',k (.f (Gs ops g (S ||| 2 ^ i) (rput res i v)) ds) H'→K' (rput res i v) H') :
  actW P W ops (ancs [] ops.toList) (.f g ds) i res H K' Q:=by
 have hone:=flatAll_spec hall i o (toList_at.2 ho)
 rw [Nat.zero_add] at hone
 unfold flatOne at hone
 simp only [Bool.and_eq_true] at hone
 obtain ⟨⟨hcmp,hgd⟩,hcv⟩:=hone
 have hno:cls o.op≠.no:=by rw [hc]; simp
 have hev:=opV_evs (P:=P) (H:=H) (noSelect hno) (ev_eq (g:=g) (ds:=ds) hp hi ha hcmp)
 have put:=fun v=>put_eq (g:=g) (ds:=ds) (S:=S) (res:=res) hfit ho v
 have act:afterW W o (.f (Gs ops g S res) ds) k (clearQ Q) (opV P H (envF ops (ancs [] ops.toList) (.f g ds) res i) o) →
   actRW W (.f g ds) i res K' Q (opV P H (envF ops (ancs [] ops.toList) (.f g ds) res i) o):=by
  intro h
  have hac:=acts_chain (P:=P) (H:=H) (ev:=envF ops (ancs [] ops.toList) (.f g ds) res i) hc
  cases hv:opV P H (envF ops (ancs [] ops.toList) (.f g ds) res i) o with
  | val v H' =>
   rw [hv] at h
   refine ⟨hp.un i hi,hK v H' ?_⟩
   rw [← put]; exact h
  | skip H' =>
   rw [hv] at h
   refine ⟨hp.un i hi,hK _ H' ?_⟩
   rw [← put]; exact h
  | enter f args H' =>
   rw [hv] at h
   refine hW _ _ _ _ _ ?_ h
   intro r hr
   cases r with
   | ret v H2 =>
    refine ⟨hp.un i hi,hK v H2 ?_⟩
    rw [← put]; exact hr
   | panic v H2=>exact hr
   | bad=>exact hr
  | bad=>rw [hv] at h; exact h.elim
  | dfr _ _ _ _=>rw [hv] at hac; cases hac
  | recover=>rw [hv] at hac; cases hac
  | panic _ _=>rw [hv] at hac; cases hac
 unfold actW
 rw [ho]
 dsimp only
 unfold oneW at h
 unfold wantedW
 split at h
 ·rename_i hg
  rw [hev] at h
  exact act h
 ·rename_i gd hg
  rw [hg] at hgd
  dsimp only at hgd
  rw [slot_eq hfit ho hg (ha _ hgd),put,hev] at h
  exact ⟨hgd,byGuard_to h (fun _=>act) fun h=>⟨hp.un i hi,hK _ _ h⟩⟩
theorem Gs_bits {S' : Nat} (h:∀ j,j < ops.size→S.testBit j=S'.testBit j) : Gs ops g S res=Gs ops g S' res:=by
 funext t
 unfold Gs
 split
 ·rename_i j hj
  obtain ⟨_,o,ho,_⟩:=writer_spec hj
  have:j < ops.size:=lt_of_at (toList_at.1 (by simpa using ho))
  rw [h j this]
 ·rfl
theorem fin_plan (hfit:fit ops.toList ops.toList 0=true) {KF:Fr→Prop} (hall:∀ j,j < ops.size→∃ v,res j=some v) : ∀ (l:List Oper) (k:Nat),ops.toList.drop k=l→k+l.length=ops.size →
  KF (.f (Gs ops g (2 ^ ops.size - 1) res) ds)→finW res KF l k (.f (Gs ops g (2 ^ k - 1) res) ds)
 | [],k,_,hl,h=>by
  have:k=ops.size:=by simpa using hl
  subst this
  exact h
 | o :: l,k,hk,hl,h=>by
  have hlt:k < ops.size:=by simp at hl; omega
  obtain ⟨v,hv⟩:=hall k hlt
  have hko:ops.toList[k]?=some o:=by
   have:(ops.toList.drop k)[0]?=some o:=by rw [hk]; rfl
   simpa using this
  unfold finW
  rw [hv]
  dsimp only
  rw [put_eq hfit (toList_at.1 hko)]
  have e1:rput res k v=res:=by
   funext j
   unfold rput
   by_cases e:j=k
   ·subst e; rw [if_pos rfl,hv]
   ·rw [if_neg e]
  rw [e1,Gs_bits (S':=2 ^ (k+1) - 1) (fun j _=>by
   rw [bit_or,Nat.testBit_two_pow_sub_one,Nat.testBit_two_pow_sub_one]
   by_cases e:k=j
   ·subst e; simp
   ·simp only [e,decide_false,Bool.or_false,decide_eq_decide]; omega)]
  refine fin_plan hfit hall l (k+1) ?_ (by simp at hl; omega) h
  have:=congrArg List.tail hk
  simpa using this
theorem plan_stages (hW:WMono W) (hfit:fit ops.toList ops.toList 0=true) (hall:flatAll P (ancs [] ops.toList) ops.toList ops.toList 0=true) (all:List Nat) :
  ∀ (cs:List Nat) (k:Nat) (s:Hs) (S:Nat) (res:ResF) (H:Mem) (held:List Nat) (als:Als) (alsP:AlP),(∀ c∈cs,∃ o,ops[c]?=some o∧isChain o.op=true) →
   PS P ops g ds s S res H held als alsP→topo (ancs [] ops.toList) ops.toList S (planIn (ancs [] ops.toList) all ops.toList k cs s)=true →
   planW P W ops (clearQ Q) (planIn (ancs [] ops.toList) all ops.toList k cs s) (.f (Gs ops g S res) ds) H alsP →
   stagesW P W ops (ancs [] ops.toList) (.f g ds) all Q k cs res H held als:=by
 intro cs
 induction cs with
 | nil =>
  intro k s S res H held als alsP _ ps ht hp
  rw [stagesW_eq]
  unfold planIn at ht hp
  refine plan_stage hfit hall ?_ _ _ _ _ _ _ _ _ (fun j hj=>?_) ps ht hp
  ·intro s S res H held als alsP ps ht hp
   obtain ⟨h1,h2,s',_,_,ps',ht',hp'⟩:=gateP_ok hfit hall ps ht hp
   refine ⟨h1,h2,?_⟩
   have hS:S+1=2 ^ ops.toList.length:=Nat.eq_of_beq_eq_true ht'
   have hS' : S=2 ^ ops.size - 1:=by rw [Array.length_toList] at hS; omega
   have hq:Q (.norm (.f (Gs ops g S res) ds) H):=hp'
   subst hS'
   have hz:Fr.f g ds=.f (Gs ops g (2 ^ 0 - 1) res) ds:=by
    congr 1
    funext t
    unfold Gs
    split
    ·rw [show (2 ^ 0 - 1:Nat)=0 from rfl,Nat.zero_testBit]
    ·rfl
   show finW res (fun fr=>Q (.norm fr H)) ops.toList 0 (.f g ds)
   rw [hz]
   refine fin_plan hfit (fun j hj=>ps'.pi.dn j ?_) ops.toList 0 rfl (by simp) hq
   rw [Nat.testBit_two_pow_sub_one]; simpa using hj
  ·obtain ⟨_,oj,hoj,hcj,_⟩:=mem_stageOf.1 hj
   have hoj' : ops[j]?=some oj:=toList_at.1 (by simpa using hoj)
   exact ⟨oj,hoj',hcj,fit_no hfit hoj'⟩
 | cons c cs ih =>
  intro k s S res H held als alsP hcs ps ht hp
  rw [stagesW_eq]
  unfold planIn at ht hp
  refine plan_stage hfit hall ?_ _ _ _ _ _ _ _ _ (fun j hj=>?_) ps ht hp
  ·intro s S res H held als alsP ps ht hp
   obtain ⟨h1,h2,s',e1,e2,ps',ht',hp'⟩:=gateP_ok hfit hall ps ht hp
   refine ⟨h1,h2,?_⟩
   simp only [topo,Bool.and_eq_true] at ht'
   obtain ⟨⟨t1,t2⟩,ht'⟩:=ht'
   have hi:S.testBit c=false:=by simpa using t1
   have ha:=topo_anc t2
   obtain ⟨o,ho,hch⟩:=hcs c (by simp)
   have hcl:cls o.op=.chain:=by
    unfold isChain at hch
    cases h:cls o.op <;> rw [h] at hch <;> first | rfl | cases hch
   unfold planW at hp'
   rw [ho] at hp'
   dsimp only at hp'
   refine act_plan hW hfit hall ps'.pi ho hcl hi ha hp' ?_
   intro v H' hk
   refine ih _ _ _ _ _ _ _ _ (fun c hc=>hcs c (by simp [hc])) ?_ ht' hk
   have p1:=ps'.step hi ha v
   refine ⟨p1.pi,fun j hj=>?_,fun x hx=>?_⟩
   ·have hm:j∈held∧isAnc (ancs [] ops.toList) c j=false:=still_mem hj
    obtain ⟨a,b,d⟩:=p1.hd j hm.1
    refine ⟨a,b,.inl ?_⟩
    rcases d with d | ⟨d,_⟩
    ·rw [e1] at d; cases d
    ·exact List.mem_filter.2 ⟨d,by rw [hm.2]; rfl⟩
   ·have hm:x∈als∧isAnc (ancs [] ops.toList) c x.1=false:=stillA_mem hx
    obtain ⟨a,d⟩:=p1.al x hm.1
    refine ⟨a,.inl ?_⟩
    rcases d with d | ⟨d,_⟩
    ·rw [e2] at d; cases d
    ·exact List.mem_filter.2 ⟨d,by rw [hm.2]; rfl⟩
  ·obtain ⟨_,oj,hoj,hcj,_⟩:=mem_stageOf.1 hj
   have hoj' : ops[j]?=some oj:=toList_at.1 (by simpa using hoj)
   exact ⟨oj,hoj',hcj,fit_no hfit hoj'⟩
theorem planW_drawn (hW:WMono W) (hok:flatOk P ops.toList=true) (h:planW P W ops (clearQ Q) (planOf ops.toList) (.f g ds) H []) : drawnW P W ops (.f g ds) H Q:=by
 unfold flatOk at hok
 simp only [Bool.and_eq_true] at hok
 obtain ⟨⟨⟨h1,h2⟩,h3⟩,h4⟩:=hok
 have hfit:fit ops.toList ops.toList 0=true:=by
  unfold planOk at h1
  simp only [Bool.and_eq_true] at h1
  exact h1.2
 have hz:Fr.f g ds=.f (Gs ops g 0 (fun _=>none)) ds:=by
  congr 1
  funext t
  unfold Gs
  split
  ·rw [Nat.zero_testBit]
  ·rfl
 refine ⟨h1,h2,?_⟩
 unfold planOf at h h4
 rw [hz] at h
 refine plan_stages hW hfit h3 _ _ _ _ 0 _ _ _ _ [] (fun c hc=>?_) ⟨⟨fun _ _=>rfl,fun j hj=>?_,fun j k hj=>?_⟩,fun _ h=>(by cases h),fun _ h=>(by cases h)⟩ h4 h
 ·obtain ⟨_,o,ho,hch⟩:=mem_chainOf.1 hc
  exact ⟨o,toList_at.1 (by simpa using ho),hch⟩
 ·rw [Nat.zero_testBit] at hj; cases hj
 ·rw [Nat.zero_testBit] at hj; cases hj
end Go.Ai
end
section
namespace Go.Ai
open Go.RowKit (Below)
def planAt:List (Nat×List It)→Nat→List It
 | [],_=>[]
 | (k,l) :: r,i=>if k=i then l else planAt r i
def codeOk (P:Program) (plan:List (Nat×List It)) : Code→Bool
 | .region id ops true=>flatOk P ops.toList && decide (planOf ops.toList=planAt plan id)
 | .seq a b=>codeOk P plan a && codeOk P plan b
 | .cond _ a b=>codeOk P plan a && codeOk P plan b
 | .block _ b=>codeOk P plan b
 | .loop b=>codeOk P plan b
 | _=>true
noncomputable def regP (P:Program) (W:WF) (ops:Array Oper) (Q:Out→Prop) (l:List It) (fr:Fr) (H:Mem) : Prop:=match fr with
 | .f g ds=>planW P W ops (clearQ Q) l (.f g ds) H []
 | _=>False
noncomputable def execP (P:Program) (W:WF) (L:LF) (plan:List (Nat×List It)) : Code→Fr→Mem→(Out→Prop)→Prop
 | .skip,fr,H,Q=>Q (.norm fr H)
 | .region _ ops false,fr,H,Q=>seqW P W ops Q ops.toList fr H
 | .region id ops true,fr,H,Q=>regP P W ops Q (planAt plan id) fr H
 | .seq a b,fr,H,Q=>execP P W L plan a fr H (thenW (fun fr H=>execP P W L plan b fr H Q) Q)
 | .cond c a b,fr,H,Q=>condW (fr.ev c) (execP P W L plan a fr H Q) (execP P W L plan b fr H Q)
 | .block id b,fr,H,Q=>execP P W L plan b fr H (inBlockW id Q)
 | .loop b,fr,H,Q=>L b fr H Q
 | .exit id,fr,H,Q=>Q (.exit id fr H)
 | .label _,fr,H,Q=>Q (.norm fr H)
 | .ret,fr,H,Q=>Q (.ret fr H)
 | _,_,_,_=>False
variable {B G:Nat} {P:Program} {n n0:Nat} {ρ0 ρ:Rn} {w0 w:World} {fr:Fr} {H:Mem} {a:Act} {W:WF} {Q:Out→Prop} {plan:List (Nat×List It)}
theorem execP_sound (hW:WOK G P W) (hM:WMono W) (hG:G=P.globals.size) : ∀ (c:Code) (fr:Fr) (H:Mem) (Q:Out→Prop),dstsOk n c=true→codeOk P plan c=true→execP P W (LX G P n) plan c fr H Q→XW G P n c fr H Q:=by
 intro c
 induction c with
 | skip=>intro fr H Q _ _ h B n0 ρ0 w0 ρ a w s; exact wp_skip ⟨_,h,ρ,s⟩
 | region id ops draw =>
  intro fr H Q hd hc h B n0 ρ0 w0 ρ a w s
  cases draw with
  | false=>exact wp_region_list (seqW_sound hW hG ops.toList fr H ρ a w (fun o ho=>List.all_eq_true.1 hd o ho) s h)
  | true =>
   simp only [codeOk,Bool.and_eq_true,decide_eq_true_eq] at hc
   have h' : regP P W ops Q (planAt plan id) fr H:=h
   rw [← hc.2] at h'
   cases fr with
   | f g ds=>exact drawnW_sound hW hG s hd (planW_drawn hM hc.1 h')
   | _=>exact h'.elim
 | seq x y ihx ihy =>
  intro fr H Q hd hc h B n0 ρ0 w0 ρ a w s
  simp only [dstsOk,Bool.and_eq_true] at hd
  simp only [codeOk,Bool.and_eq_true] at hc
  refine wp_seq (Code.wp_mono ?_ (ihx fr H _ hd.1 hc.1 h B n0 ρ0 w0 ρ a w s))
  rintro e a' w' ⟨out,hq,ho⟩
  cases out with
  | norm fr' H' =>
   cases e with
   | normal=>obtain ⟨ρ',s'⟩:=ho; exact ihy fr' H' Q hd.2 hc.2 hq B n0 ρ0 w0 ρ' a' w' s'
   | _=>exact ho.elim
  | exit id fr' H'=>cases e <;> first | exact ho.elim | exact ⟨_,hq,ho⟩
  | ret fr' H'=>cases e <;> first | exact ho.elim | exact ⟨_,hq,ho⟩
  | panic v fr' H'=>cases e <;> first | exact ho.elim | exact ⟨_,hq,ho⟩
  | bad=>exact hq.elim
 | cond cnd x y ihx ihy =>
  intro fr H Q hd hc h B n0 ρ0 w0 ρ a w s
  simp only [dstsOk,Bool.and_eq_true] at hd
  simp only [codeOk,Bool.and_eq_true] at hc
  have h' : condW (fr.ev cnd) (execP P W (LX G P n) plan x fr H Q) (execP P W (LX G P n) plan y fr H Q):=h
  unfold condW at h'
  split at h'
  ·rename_i b hev
   have:=s.ev _ _ hev
   cases b with
   | true=>exact wp_cond_true this (ihx fr H Q hd.1 hc.1 (h'.1 rfl) B n0 ρ0 w0 ρ a w s)
   | false=>exact wp_cond_false this (ihy fr H Q hd.2 hc.2 (h'.2 rfl) B n0 ρ0 w0 ρ a w s)
  ·exact h'.elim
 | block id b ih =>
  intro fr H Q hd hc h B n0 ρ0 w0 ρ a w s
  refine wp_block (Code.wp_mono ?_ (ih fr H _ hd hc h B n0 ρ0 w0 ρ a w s))
  rintro e a' w' ⟨out,hq,ho⟩
  cases out with
  | norm fr' H'=>cases e <;> first | exact ho.elim | exact ⟨_,hq,ho⟩
  | exit id' fr' H' =>
   cases e with
   | exit id2 =>
    obtain ⟨rfl,ρ',s'⟩:=ho
    have hq' : if id2=id then Q (.norm fr' H') else Q (.exit id2 fr' H'):=hq
    by_cases e:id2=id
    ·subst e
     rw [if_pos rfl] at hq'
     simp only [Exit.inBlock,if_true]
     exact ⟨_,hq',ρ',s'⟩
    ·rw [if_neg e] at hq'
     simp only [Exit.inBlock,e,if_false]
     exact ⟨_,hq',rfl,ρ',s'⟩
   | _=>exact ho.elim
  | ret fr' H'=>cases e <;> first | exact ho.elim | exact ⟨_,hq,ho⟩
  | panic v fr' H'=>cases e <;> first | exact ho.elim | exact ⟨_,hq,ho⟩
  | bad=>exact hq.elim
 | loop b ih =>
  intro fr H Q hd hc h B n0 ρ0 w0 ρ a w s
  exact LW.wp (h B n0 ρ0 w0 ρ a w s)
 | rangeFunc f ps x y ihx ihy=>intro fr H Q hd hc h; exact h.elim
 | exit id=>intro fr H Q hd hc h B n0 ρ0 w0 ρ a w s; exact wp_exit ⟨_,h,rfl,ρ,s⟩
 | scope b ih=>intro fr H Q hd hc h; exact h.elim
 | label l=>intro fr H Q hd hc h B n0 ρ0 w0 ρ a w s; exact wp_label ⟨_,h,ρ,s⟩
 | goto l=>intro fr H Q hd hc h; exact h.elim
 | ret=>intro fr H Q hd hc h B n0 ρ0 w0 ρ a w s; exact wp_ret ⟨_,h,ρ,s⟩
 | refuse why=>intro fr H Q hd hc h; exact h.elim
theorem LX.roundP {O:CallF} (hO:∀ B,CallOK B G P O) (hG:G=P.globals.size) (plan:List (Nat×List It)) {b:Code} (hd:(dstsOk n b && codeOk P plan b)=true)
  (h:execP P (orW O (WC G P)) (LX G P n) plan b fr H (thenW (fun fr H=>LX G P n b fr H Q) Q)) : LX G P n b fr H Q:=by
 rw [Bool.and_eq_true] at hd
 intro B n0 ρ0 w0 ρ a w s
 refine LW.unroll (Code.wp_mono ?_ (execP_sound (orW_ok hO) (orW_mono (WC_mono' G P)) hG b fr H _ hd.1 hd.2 h B n0 ρ0 w0 ρ a w s))
 rintro e a' w' ⟨out,hq,ho⟩
 cases out with
 | norm fr' H' =>
  cases e with
  | normal=>obtain ⟨ρ',s'⟩:=ho; exact hq B n0 ρ0 w0 ρ' a' w' s'
  | _=>exact ho.elim
 | exit id fr' H'=>cases e <;> first | exact ho.elim | exact ⟨_,hq,ho⟩
 | ret fr' H'=>cases e <;> first | exact ho.elim | exact ⟨_,hq,ho⟩
 | panic v fr' H'=>cases e <;> first | exact ho.elim | exact ⟨_,hq,ho⟩
 | bad=>exact hq.elim
theorem WC.enterP {f:FuncId} {fn:Func} {c:Code} {args:List AV} {K:COut→Prop} {O:CallF} (hO:∀ B,CallOK B G P O) (hG:G=P.globals.size) (plan:List (Nat×List It)) (hf:P.funcs[f]?=some fn) (hb:fn.body=some c)
  (hd:(dstsOk fn.ntmps c && codeOk P plan c)=true) (hl:args.length≤fn.ntmps) (h:execP P (orW O (WC G P)) (LX G P fn.ntmps) plan c (frameW args) H (leaveW P O fn K)) : WC G P f args H K:=by
 rw [Bool.and_eq_true] at hd
 intro B ρ us w s hv
 have s1:St B G fn.ntmps H.next ρ w ρ (frameW args) H { tmps:=us++Array.replicate (fn.ntmps - us.size) undef,defers:=[] } w:=⟨Ext.refl _ _ _ _,s,frameW_entered hv hl,Nat.le_refl _⟩
 refine calls_of_wp_defers hf hb (Code.wp_mono ?_ (execP_sound (orW_ok hO) (orW_mono (WC_mono' G P)) hG c _ H _ hd.1 hd.2 h B H.next ρ w ρ _ w s1))
 rintro e a' w' ⟨out,hq,ho⟩
 have fin:∀ {fr' : Fr} {u:Mode} {H' : Mem} {ρ' : Rn} {m:FrameMode},(match leave P O (fun _ _ _=>.bad) fn fr' fr'.defers u H' with | .bad=>False | r=>K r)→St B G fn.ntmps H.next ρ w ρ' fr' H' a' w'→MR ρ' u m →
   Leaves P fn a'.tmps (fun e w'=>∃ r,K r∧CPost B G H.next ρ w r e w') a'.defers m w':=by
  intro fr' u H' ρ' m hm s' hmr
  have key:∀ r,leave P O (fun _ _ _=>.bad) fn fr' fr'.defers u H'=r→r≠.bad→K r→Leaves P fn a'.tmps (fun e w'=>∃ r,K r∧CPost B G H.next ρ w r e w') a'.defers m w':=by
   intro r hr hne hk
   refine Leaves_mono (fun e w' hc=>⟨r,hk,hc⟩) ?_
   exact leave_sound (hO B) (badLoop_ok B G P) hG hne _ _ u H' ρ' m w' s'.frel.dfr s' hmr hr
  generalize hr:leave P O (fun _ _ _=>.bad) fn fr' fr'.defers u H'=r at hm
  cases r with
  | bad=>exact hm.elim
  | ret v H2=>exact key _ hr (by simp) hm
  | panic v H2=>exact key _ hr (by simp) hm
 cases out with
 | norm fr' H' =>
  cases e with
  | normal=>obtain ⟨ρ',s'⟩:=ho; exact fin (u:=.returning) (m:=.returning) hq s' rfl
  | _=>exact ho.elim
 | ret fr' H' =>
  cases e with
  | ret=>obtain ⟨ρ',s'⟩:=ho; exact fin (u:=.returning) (m:=.returning) hq s' rfl
  | _=>exact ho.elim
 | panic v fr' H' =>
  cases e with
  | panic chain=>obtain ⟨ρ',x,rfl,hx,s'⟩:=ho; exact fin (u:=.panicking v) hq s' ⟨x,rfl,hx⟩
  | _=>exact ho.elim
 | exit id fr' H'=>exact hq.elim
 | bad=>exact hq.elim
end Go.Ai
end
section
namespace Go.Ai
variable {P:Program} {W:WF} {L:LF} {Q:Out→Prop} {fr:Fr} {H:Mem} {plan:List (Nat×List It)} {ops:Array Oper} {al:AlP}
theorem execP_congr {tk:Nat} (_h0:tick=tk) {c:Code} {fr fr' : Fr} {H H' : Mem} (h1:fr=fr') (h2:H=H') : execP P W L plan c fr H Q=execP P W L plan c fr' H' Q:=by rw [h1,h2]
theorem planW_congr {tk:Nat} (_h0:tick=tk) {l:List It} {fr fr' : Fr} {H H' : Mem} (h1:fr=fr') (h2:H=H') : planW P W ops Q l fr H al=planW P W ops Q l fr' H' al:=by rw [h1,h2]
theorem againW_congr {tk:Nat} (_h0:tick=tk) {l:List Nat} {fr fr' : Fr} {H H' : Mem} (h1:fr=fr') (h2:H=H') : againW P W ops fr H l=againW P W ops fr' H' l:=by rw [h1,h2]
theorem regP_congr {tk:Nat} (_h0:tick=tk) {l l' : List It} {fr fr' : Fr} {H H' : Mem} (h0:l=l') (h1:fr=fr') (h2:H=H') : regP P W ops Q l fr H=regP P W ops Q l' fr' H':=by rw [h0,h1,h2]
theorem clearQ_congr {tk:Nat} (_h0:tick=tk) {o o' : Out} (h:o=o') : clearQ Q o=clearQ Q o':=by rw [h]
def atW (l:List Oper) (i:Nat) (k:Oper→Prop) : Prop:=match l[i]? with | some o=>k o | none=>False
theorem atW_zero {o:Oper} {l:List Oper} {k:Oper→Prop} : atW (o :: l) 0 k=k o:=(rfl)
theorem atW_succ {o:Oper} {l:List Oper} {n:Nat} {k:Oper→Prop} : atW (o :: l) (n+1) k=atW l n k:=(rfl)
theorem atW_congr {tk:Nat} (_h0:tick=tk) {l:List Oper} {i:Nat} {k:Oper→Prop} : atW l i k=atW l i k:=rfl
attribute [congr] execP_congr planW_congr againW_congr regP_congr clearQ_congr atW_congr
theorem execP_skip:execP P W L plan .skip fr H Q=Q (.norm fr H):=(rfl)
theorem execP_region {id:Nat} {l:List Oper} : execP P W L plan (.region id l.toArray false) fr H Q=seqW P W l.toArray Q l fr H:=(rfl)
theorem execP_drawn {id:Nat} : execP P W L plan (.region id ops true) fr H Q=regP P W ops Q (planAt plan id) fr H:=(rfl)
theorem execP_seq {a b:Code} : execP P W L plan (.seq a b) fr H Q=execP P W L plan a fr H (thenW (fun fr H=>execP P W L plan b fr H Q) Q):=(rfl)
theorem execP_cond {x:Operand} {a b:Code} : execP P W L plan (.cond x a b) fr H Q=condW (fr.ev x) (execP P W L plan a fr H Q) (execP P W L plan b fr H Q):=(rfl)
theorem execP_block {id:Nat} {b:Code} : execP P W L plan (.block id b) fr H Q=execP P W L plan b fr H (inBlockW id Q):=(rfl)
theorem execP_loop {b:Code} : execP P W L plan (.loop b) fr H Q=L b fr H Q:=(rfl)
theorem execP_exit {id:Nat} : execP P W L plan (.exit id) fr H Q=Q (.exit id fr H):=(rfl)
theorem execP_ret:execP P W L plan .ret fr H Q=Q (.ret fr H):=(rfl)
theorem regP_f {g:Nat→Option AV} {ds:List Dfr} {l:List It} : regP P W ops Q l (.f g ds) H=planW P W ops (clearQ Q) l (.f g ds) H []:=(rfl)
theorem clearQ_norm:clearQ Q (.norm fr H)=Q (.norm fr H):=(rfl)
theorem planW_nil:planW P W ops Q [] fr H al=Q (.norm fr H):=(rfl)
theorem planW_run {l:List Oper} {i:Nat} {r:List It} : planW P W l.toArray Q (.run i :: r) fr H al=atW l i fun o=>oneW P W l.toArray o fr H (fun fr H=>planW P W l.toArray Q r fr H al) Q:=by
 rw [planW,List.getElem?_toArray]; rfl
theorem planW_mk {l:List Oper} {i:Nat} {r:List It} : planW P W l.toArray Q (.mk i :: r) fr H al=atW l i fun o=>oneW P W l.toArray o fr H (fun fr H'=>planW P W l.toArray Q r fr H' ((i,H.next,H'.get H.next) :: al)) Q:=by
 rw [planW,List.getElem?_toArray]; rfl
theorem planW_gate {hs as:List Nat} {r:List It} : planW P W ops Q (.gate hs as :: r) fr H al=(againW P W ops fr H hs∧keptW H as al∧planW P W ops Q r fr H al):=(rfl)
theorem againW_nil:againW P W ops fr H []=True:=(rfl)
theorem againW_cons {l:List Oper} {i:Nat} {hs:List Nat} : againW P W l.toArray fr H (i :: hs)=((atW l i fun o=>oneW P W l.toArray o fr H (fun fr' _=>slotOf fr' o.dst=slotOf fr o.dst) fun _=>False)∧againW P W l.toArray fr H hs):=by
 rw [againW,List.getElem?_toArray]; rfl
theorem slotOf_some {d:Tmp} : slotOf fr (some d)=fr.get d:=(rfl)
theorem keptW_nil {as:List Nat} : keptW H as []=True:=(rfl)
theorem keptW_cons {as:List Nat} {i a:Nat} {b:Option Blk} {l:AlP} : keptW H as ((i,a,b) :: l)=((i∈as→H.get a=b)∧keptW H as l):=(rfl)
attribute [simp] execP_skip execP_region execP_drawn execP_seq execP_cond execP_block execP_loop execP_exit execP_ret regP_f clearQ_norm
 planW_nil planW_run planW_mk planW_gate againW_nil againW_cons slotOf_some keptW_nil keptW_cons atW_zero atW_succ
end Go.Ai
end
section
namespace Go.Ai
variable {P:Program} {W:WF} {L:LF} {Q:Out→Prop} {fr:Fr} {H:Mem}
section
variable {ev:Ev} {d:Option Tmp} {ty:TypeId} {p:String} {af:Array Edge} {g:Option (Nat×Bool)}
def fdI (P:Program) (t:TypeId) (f:Nat) : Option (Bool×Nat×Nat):=match P.underlying t with
 | some (.struct fields)=>match fields[f]? with
  | some fd=>match tIsAgg P fd.type with
   | some (ag,sz)=>some (ag,fd.offset,sz)
   | none=>none
  | none=>none
 | _=>none
def partS (ag:Bool) (sz off:Nat) (l:List AV) : Option AV:=match ag with
 | true=>if off+sz≤l.length then some (.agg ((l.drop off).take sz)) else none
 | false=>l[off]?
theorem partS_one {sz off:Nat} {l:List AV} : partS false sz off l=l[off]?:=(rfl)
theorem partL_eq {e:TypeId} {ag:Bool} {sz off:Nat} {l:List AV} (h:tIsAgg P e=some (ag,sz)) : partL P e l off=partS ag sz off l:=by
 unfold partL partS
 rw [h]
 cases ag with
 | false=>rfl
 | true =>
  dsimp only
  by_cases hl:off+sz≤l.length
  ·rw [if_pos hl,Nat.ble_eq_true_of_le hl]
  ·rw [if_neg hl]
   cases hb:Nat.ble (off+sz) l.length with
   | false=>rfl
   | true=>exact absurd (Nat.le_of_ble_eq_true hb) hl
theorem oField_agg {t:TypeId} {l:List AV} {f off sz:Nat} {ag:Bool} (hq:fdI P t f=some (ag,off,sz)) : oField P H t (some (.agg l)) f=ofOpt H (partS ag sz off l):=by
 have:field P t (.agg l) f=partS ag sz off l:=by
  unfold fdI at hq
  unfold field
  split at hq
  ·rename_i fields hd
   split at hq
   ·rename_i fd hf
    split at hq
    ·rename_i ag' sz' ha
     simp only [Option.some.injEq,Prod.mk.injEq] at hq
     obtain ⟨rfl,rfl,rfl⟩:=hq
     rw [hd]
     dsimp only [asAggL]
     rw [hf]
     dsimp only
     exact partL_eq ha
    ·cases hq
   ·cases hq
  ·cases hq
 unfold oField
 dsimp only
 rw [this]
noncomputable def fdQ (P:Program) (H:Mem) (t:TypeId) (f:Nat) (q:Option (Bool×Nat×Nat)) (x:Option AV) : R:=match q,x with
 | some (ag,off,sz),some (.agg l)=>ofOpt H (partS ag sz off l)
 | _,x=>oField P H t x f
theorem op_fieldQ {t:TypeId} {x:Operand} {f:Nat} : opV P H ev ⟨d,.field t x f,ty,p,af,g⟩=fdQ P H t f (fdI P t f) (ev x):=by
 show oField P H t (ev x) f=_
 unfold fdQ
 split
 ·rename_i hq hx; rw [hx]; exact oField_agg hq
 ·rfl
theorem fdQ_congr {tk:Nat} (_h0:tick=tk) {t:TypeId} {f:Nat} {q q' : Option (Bool×Nat×Nat)} {x x' : Option AV} {H H' : Mem} (h0:q=q') (h1:H=H') (h2:x=x') : fdQ P H t f q x=fdQ P H' t f q' x':=by rw [h0,h1,h2]
theorem fdQ_some {t:TypeId} {l:List AV} {f off sz:Nat} {ag:Bool} : fdQ P H t f (some (ag,off,sz)) (some (.agg l))=ofOpt H (partS ag sz off l):=(rfl)
attribute [congr] fdQ_congr
attribute [simp] op_fieldQ fdQ_some
attribute [simp] partS_one
end
end Go.Ai
end
section
namespace Go.Ai
variable {P:Program} {H:Mem}
section
variable {ev:Ev} {d:Option Tmp} {ty:TypeId} {p:String} {af:Array Edge} {g:Option (Nat×Bool)}
theorem pureV_info {t:TypeId} {i:TypeInfo} (h:P.info? t=some i) : pureV P (typeInfo t)=some i:=by
 unfold typeInfo
 show pureV P (match P.info? t with | some d=>pure d | none=>stuck "no such type")=_
 rw [h]; rfl
theorem ia_lit {t:TypeId} {x i:Operand} {b off n sz:Nat} {k:IntKind} {j:Int} (hx:ev x=some (.lit (.pointer (some ⟨b,off,none⟩)))) (hi:ev i=some (.lit (.int k j)))
  (hq:elSz P t=some (some n,sz)) (h0:0≤j) (h:j.toNat < n) :
  iaS P H ev ⟨d,.indexAddr t x i,ty,p,af,g⟩ t (some (some n,sz)) (some (.lit (.pointer (some ⟨b,off,none⟩)))) (some (.lit (.int k j)))=.val (.lit (.pointer (some ⟨b,off+j.toNat * sz,none⟩))) H:=by
 obtain ⟨e,inf,hu,hinf,hs⟩ : ∃ e inf,P.underlying t=some (.array n e)∧P.info? e=some inf∧inf.size=sz:=by
  unfold elSz at hq
  split at hq
  ·split at hq <;> cases hq
  ·rename_i n' e hu
   split at hq
   ·rename_i jj hj; cases hq; exact ⟨e,jj,hu,hj,rfl⟩
   ·cases hq
  ·cases hq
 have hn:indexAddr P t (.lit (.pointer (some ⟨b,off,none⟩))) (.lit (.int k j))=none:=by
  unfold indexAddr
  rw [hu]
 have hadd:(Addr.add ⟨b,off,none⟩ (j.toNat * sz))=⟨b,off+j.toNat * sz,none⟩:=by
  unfold Addr.add
  split
  ·rename_i e0; rw [e0]; rfl
  ·rfl
 have hg:generic P ev ⟨d,.indexAddr t x i,ty,p,af,g⟩=some (.lit (.pointer (some ⟨b,off+j.toNat * sz,none⟩))):=by
  refine generic2 (u:=.pointer (some ⟨b,off,none⟩)) (u':=.int k j) rfl hx hi fun ρ h1 h2=>?_
  have key:pureV P (Instr.indexAt t (ρ x) (ρ i))=some (.pointer (some ⟨b,off+j.toNat * sz,none⟩)):=by
   rw [h1,h2]
   unfold Instr.indexAt
   refine (pureV_then (m:=asIntOf (.int k j)) (a:=(k,j)) rfl).trans ?_
   dsimp only
   refine (pureV_then (m:=underlying t) (pureV_underlying hu)).trans ?_
   dsimp only
   refine (pureV_then (m:=Instr.sureAddr (.pointer (some ⟨b,off,none⟩))) (a:=⟨b,off,none⟩) rfl).trans ?_
   refine (pureV_then (m:=pure (some (⟨b,off,none⟩ : Addr),n,e)) (a:=(some (⟨b,off,none⟩ : Addr),n,e)) rfl).trans ?_
   refine (pureV_then (m:=underlying t) (pureV_underlying hu)).trans ?_
   dsimp only
   rw [if_pos ⟨h0,by omega⟩]
   refine (pureV_then (m:=sizeOf e) (a:=sz) ?_).trans ?_
   ·unfold sizeOf
    refine (pureV_then (pureV_info hinf)).trans ?_
    rw [hs]; rfl
   ·rw [hadd]; rfl
  show pureV P (do pure (Next.value (← Instr.indexAt t (ρ x) (ρ i))))=_
  exact (pureV_then key).trans rfl
 unfold iaS
 dsimp only
 unfold oIndexAddr orGen
 dsimp only
 rw [hn]
 dsimp only
 rw [hg]
 rfl
theorem fa_lit {t:TypeId} {x:Operand} {b off f q:Nat} (hx:ev x=some (.lit (.pointer (some ⟨b,off,none⟩)))) (hq:fldOff P t f=some q) :
  faS P H ev ⟨d,.fieldAddr t x f,ty,p,af,g⟩ t (some q) (some (.lit (.pointer (some ⟨b,off,none⟩)))) f=.val (.lit (.pointer (some ⟨b,off+q,none⟩))) H:=by
 obtain ⟨fields,fd,inf,hu,hfd,hinf,hz,hof⟩ : ∃ fields fd inf,P.underlying t=some (.struct fields)∧fields[f]?=some fd∧P.info? fd.type=some inf∧inf.size≠0∧fd.offset=q:=by
  unfold fldOff at hq
  split at hq
  ·rename_i fields hu
   split at hq
   ·rename_i fd hfd
    split at hq
    ·rename_i inf hi
     split at hq
     ·cases hq
     ·rename_i hb
      cases hq
      exact ⟨fields,fd,inf,hu,hfd,hi,(fun e=>by rw [e] at hb; cases hb),rfl⟩
    ·cases hq
   ·cases hq
  ·cases hq
 have hn:fieldAddr P t (.lit (.pointer (some ⟨b,off,none⟩))) f=none:=by
  unfold fieldAddr
  rw [hu]
 have hadd:(Addr.add ⟨b,off,none⟩ q)=⟨b,off+q,none⟩:=by
  unfold Addr.add
  split
  ·rename_i e0; rw [e0]; rfl
  ·rfl
 have hg:generic P ev ⟨d,.fieldAddr t x f,ty,p,af,g⟩=some (.lit (.pointer (some ⟨b,off+q,none⟩))):=by
  refine generic1 (u:=.pointer (some ⟨b,off,none⟩)) rfl hx fun ρ h1=>?_
  have key:pureV P (Instr.fieldAt t (ρ x) f)=some (.pointer (some ⟨b,off+q,none⟩)):=by
   rw [h1]
   unfold Instr.fieldAt
   refine (pureV_then (m:=underlying t) (pureV_underlying hu)).trans ?_
   dsimp only
   rw [hfd]
   dsimp only
   refine (pureV_then (m:=Instr.sureAddr (.pointer (some ⟨b,off,none⟩))) (a:=⟨b,off,none⟩) rfl).trans ?_
   refine (pureV_then (m:=fieldPlace ⟨b,off,none⟩ fd) (a:=⟨b,off+q,none⟩) ?_).trans rfl
   unfold fieldPlace
   refine (pureV_then (m:=sizeOf fd.type) (a:=inf.size) ?_).trans ?_
   ·unfold sizeOf
    refine (pureV_then (pureV_info hinf)).trans ?_
    rfl
   ·rw [if_neg hz,hof,hadd]; rfl
  show pureV P (do pure (Next.value (← Instr.fieldAt t (ρ x) f)))=_
  exact (pureV_then key).trans rfl
 unfold faS
 dsimp only
 unfold oFieldAddr orGen
 dsimp only
 rw [hn]
 dsimp only
 rw [hg]
 rfl
attribute [simp] ia_lit fa_lit
end
end Go.Ai
end
section
namespace Go.Ai
structure GraphM where
 n:Nat
 succ:Nat→List Nat
abbrev SetS:=Nat→Bool
def GraphM.ok (G:GraphM) : Prop:=∀ s,s < G.n→∀ t∈G.succ s,t < G.n
def leS (n:Nat) (X Y:SetS) : Prop:=∀ s,s < n→X s=true→Y s=true
def eqS (n:Nat) (X Y:SetS) : Prop:=∀ s,s < n→X s=Y s
theorem eqS.le {n:Nat} {X Y:SetS} (h:eqS n X Y) : leS n X Y:=fun s hs hx=>by rw [← h s hs]; exact hx
theorem eqS.symm {n:Nat} {X Y:SetS} (h:eqS n X Y) : eqS n Y X:=fun s hs=>(h s hs).symm
theorem eqS.trans {n:Nat} {X Y Z:SetS} (h:eqS n X Y) (h' : eqS n Y Z) : eqS n X Z:=fun s hs=>(h s hs).trans (h' s hs)
theorem leS.antisymm {n:Nat} {X Y:SetS} (h:leS n X Y) (h' : leS n Y X) : eqS n X Y:=fun s hs=>by
 cases hx:X s with
 | true=>exact (h s hs hx).symm
 | false =>
  cases hy:Y s with
  | false=>rfl
  | true=>rw [h' s hs hy] at hx; cases hx
def GraphM.ends (G:GraphM) : SetS:=fun s=>(G.succ s).isEmpty
def GraphM.pre (G:GraphM) (X:SetS) : SetS:=fun s=>(G.succ s).any X
def GraphM.post (G:GraphM) (X:SetS) : SetS:=fun s=>(G.succ s).all X
def GraphM.fE (G:GraphM) (a b X:SetS) : SetS:=fun s=>b s || (a s && G.pre X s)
def GraphM.fA (G:GraphM) (a b X:SetS) : SetS:=fun s=>b s || (a s && (!G.ends s && G.post X s))
theorem GraphM.pre_mono {G:GraphM} (hG:G.ok) {X Y:SetS} (h:leS G.n X Y) : leS G.n (G.pre X) (G.pre Y):=fun s hs hx=>by
 simp only [GraphM.pre,List.any_eq_true] at hx ⊢
 obtain ⟨t,h1,h2⟩:=hx
 exact ⟨t,h1,h t (hG s hs t h1) h2⟩
theorem GraphM.post_mono {G:GraphM} (hG:G.ok) {X Y:SetS} (h:leS G.n X Y) : leS G.n (G.post X) (G.post Y):=fun s hs hx=>by
 simp only [GraphM.post,List.all_eq_true] at hx ⊢
 exact fun t ht=>h t (hG s hs t ht) (hx t ht)
theorem GraphM.fE_mono {G:GraphM} (hG:G.ok) (a b:SetS) {X Y:SetS} (h:leS G.n X Y) : leS G.n (G.fE a b X) (G.fE a b Y):=fun s hs hx=>by
 simp only [GraphM.fE,Bool.or_eq_true,Bool.and_eq_true] at hx ⊢
 exact hx.imp id fun ⟨h1,h2⟩=>⟨h1,G.pre_mono hG h s hs h2⟩
theorem GraphM.fA_mono {G:GraphM} (hG:G.ok) (a b:SetS) {X Y:SetS} (h:leS G.n X Y) : leS G.n (G.fA a b X) (G.fA a b Y):=fun s hs hx=>by
 simp only [GraphM.fA,Bool.or_eq_true,Bool.and_eq_true] at hx ⊢
 exact hx.imp id fun ⟨h1,h2,h3⟩=>⟨h1,h2,G.post_mono hG h s hs h3⟩
structure IsL (n:Nat) (F:SetS→SetS) (L:SetS) : Prop where
 fix:eqS n (F L) L
 least:∀ Z,leS n (F Z) Z→leS n L Z
theorem IsL.uniq {n:Nat} {F:SetS→SetS} {L M:SetS} (h:IsL n F L) (h' : IsL n F M) : eqS n L M:=(h.least M h'.fix.le).antisymm (h'.least L h.fix.le)
def iterS (F:SetS→SetS) : Nat→SetS
 | 0=>fun _=>false
 | k+1=>F (iterS F k)
def cnt (X:SetS) : Nat→Nat
 | 0=>0
 | k+1=>cnt X k+(if X k then 1 else 0)
theorem cnt_le (X:SetS) : ∀ k,cnt X k≤k
 | 0=>Nat.le_refl _
 | k+1=>by have:=cnt_le X k; unfold cnt; split <;> omega
theorem cnt_mono {X Y:SetS} : ∀ k,leS k X Y→cnt X k≤cnt Y k
 | 0,_=>Nat.le_refl _
 | k+1,h=>by
  have:=cnt_mono k (fun s hs=>h s (by omega))
  unfold cnt
  cases hx:X k with
  | false=>simp; split <;> omega
  | true=>rw [h k (by omega) hx]; simp; omega
theorem cnt_eq {X Y:SetS} : ∀ k,leS k X Y→cnt Y k≤cnt X k→eqS k X Y
 | 0,_,_=>fun s hs=>by omega
 | k+1,h,hc=>by
  have hm:=cnt_mono k (fun s hs=>h s (by omega))
  unfold cnt at hc
  cases hx:X k with
  | false =>
   rw [hx] at hc
   cases hy:Y k with
   | true=>rw [hy] at hc; simp at hc; omega
   | false =>
    rw [hy] at hc
    have:=cnt_eq k (fun s hs=>h s (by omega)) (by simpa using hc)
    intro s hs
    by_cases e:s=k
    ·rw [e,hx,hy]
    ·exact this s (by omega)
  | true =>
   have hy:=h k (by omega) hx
   rw [hx,hy] at hc
   have:=cnt_eq k (fun s hs=>h s (by omega)) (by simp at hc; omega)
   intro s hs
   by_cases e:s=k
   ·rw [e,hx,hy]
   ·exact this s (by omega)
theorem iter_le {n:Nat} {F:SetS→SetS} (hF:∀ X Y,leS n X Y→leS n (F X) (F Y)) : ∀ k,leS n (iterS F k) (iterS F (k+1))
 | 0=>fun _ _ h=>by cases h
 | k+1=>hF _ _ (iter_le hF k)
theorem iter_stable {n:Nat} {F:SetS→SetS} (hF:∀ X Y,leS n X Y→leS n (F X) (F Y)) {k:Nat} (h:eqS n (iterS F k) (iterS F (k+1))) : eqS n (iterS F (k+1)) (iterS F (k+2)):=(hF _ _ h.le).antisymm (hF _ _ h.symm.le)
theorem iter_count {n:Nat} {F:SetS→SetS} (hF:∀ X Y,leS n X Y→leS n (F X) (F Y)) : ∀ k,eqS n (iterS F k) (iterS F (k+1))∨k+1≤cnt (iterS F (k+1)) n
 | 0=>by
  by_cases h:cnt (iterS F (0+1)) n≤cnt (iterS F 0) n
  ·exact .inl (cnt_eq n (iter_le hF 0) h)
  ·right; omega
 | k+1=>by
  rcases iter_count hF k with h | h
  ·exact .inl (iter_stable hF h)
  ·by_cases h' : cnt (iterS F (k+1+1)) n≤cnt (iterS F (k+1)) n
   ·exact .inl (cnt_eq n (iter_le hF (k+1)) h')
   ·right; omega
theorem iter_lfp {n:Nat} {F:SetS→SetS} (hF:∀ X Y,leS n X Y→leS n (F X) (F Y)) : IsL n F (iterS F (n+1)):=by
 have h:eqS n (iterS F n) (iterS F (n+1)):=by
  rcases iter_count hF n with h | h
  ·exact h
  ·have:=cnt_le (iterS F (n+1)) n; omega
 refine ⟨(iter_stable hF h).symm,fun Z hZ=>?_⟩
 have key:∀ k,leS n (iterS F k) Z:=by
  intro k
  induction k with
  | zero=>exact fun _ _ h=>by cases h
  | succ k ih=>exact fun s hs hx=>hZ s hs (hF _ _ ih s hs hx)
 exact key _
theorem grow_lfp {n:Nat} {F:SetS→SetS} {b X:SetS} (hb:leS n (F X) X) (hl:∀ Z,leS n (F Z) Z→leS n X Z) (hF:∀ X Y,leS n X Y→leS n (F X) (F Y)) : IsL n F X:=by
 refine ⟨hb.antisymm ?_,hl⟩
 exact hl _ (hF _ _ hb)
def notS (X:SetS) : SetS:=fun s=>!X s
theorem not_pre (G:GraphM) (X:SetS) (s:Nat) : G.pre (notS X) s = !G.post X s:=by
 show (G.succ s).any (fun t=>!X t) = !(G.succ s).all X
 rw [List.not_all_eq_any_not]
theorem until_all {G:GraphM} (hG:G.ok) {a b A L E:SetS} (hL:IsL G.n (G.fA a b) L) (hA:IsL G.n (G.fA (fun _=>true) b) A) (hE:IsL G.n (G.fE (notS b) (notS (fun s=>a s || b s))) E) :
  eqS G.n L (fun s=>A s && !E s):=by
 refine leS.antisymm ?_ ?_
 ·
  have h1:leS G.n L A:=hL.least A (fun s hs hx=>by
   rw [← hA.fix s hs]
   simp only [GraphM.fA,Bool.or_eq_true,Bool.and_eq_true] at hx ⊢
   exact hx.imp id fun ⟨_,h⟩=>⟨by trivial,h⟩)
  have h2:leS G.n E (notS L):=hE.least _ (fun s hs hx=>by
   simp only [notS,Bool.not_eq_true']
   rw [← hL.fix s hs]
   simp only [GraphM.fE,GraphM.fA,notS,Bool.or_eq_true,Bool.and_eq_true,Bool.not_eq_true',Bool.or_eq_false_iff,Bool.and_eq_false_iff] at hx ⊢
   rcases hx with ⟨h3,h4⟩ | ⟨h3,h4⟩
   ·exact ⟨h4,.inl h3⟩
   ·refine ⟨h3,.inr (.inr ?_)⟩
    have:=not_pre G L s
    rw [show G.pre (notS L) s=true from h4] at this
    simpa using this)
  intro s hs hx
  simp only [Bool.and_eq_true,Bool.not_eq_true']
  refine ⟨h1 s hs hx,?_⟩
  cases he:E s with
  | false=>rfl
  | true =>
   have:=h2 s hs he
   simp only [notS,hx] at this
   cases this
 ·
  have h1:leS G.n A (fun s=>L s || E s):=hA.least _ (fun s hs hx=>by
   simp only [Bool.or_eq_true]
   rw [← hL.fix s hs,← hE.fix s hs]
   simp only [GraphM.fA,GraphM.fE,notS,Bool.or_eq_true,Bool.and_eq_true,Bool.not_eq_true',Bool.or_eq_false_iff] at hx ⊢
   rcases hx with h | ⟨_,h2,h3⟩
   ·exact .inl (.inl h)
   ·cases hb:b s with
    | true=>exact .inl (.inl rfl)
    | false =>
     cases ha:a s with
     | false=>exact .inr (.inl ⟨rfl,rfl⟩)
     | true =>
      by_cases hp:G.pre E s=true
      ·exact .inr (.inr ⟨rfl,hp⟩)
      ·refine .inl (.inr ⟨rfl,h2,?_⟩)
       simp only [GraphM.post,List.all_eq_true,Bool.or_eq_true] at h3 ⊢
       simp only [GraphM.pre,List.any_eq_true,not_exists,not_and] at hp
       intro t ht
       rcases h3 t ht with h | h
       ·exact h
       ·exact absurd h (hp t ht))
  intro s hs hx
  simp only [Bool.and_eq_true,Bool.not_eq_true'] at hx
  have:=h1 s hs hx.1
  simp only [Bool.or_eq_true,hx.2] at this
  rcases this with h | h
  ·exact h
  ·cases h
end Go.Ai
end
section
namespace Go.Ai
variable {B G:Nat} {P:Program} {ρ:Rn} {H:Mem} {w:World}
noncomputable def orR (x:COut) (y:COut) : COut:=COut.rec (motive:=fun _=>COut) (fun v H=>.ret v H) (fun v H=>.panic v H) y x
noncomputable def orC (O c:CallF) : CallF:=fun f a H=>orR (O f a H) (c f a H)
theorem orC_ok {O c:CallF} (hO:CallOK B G P O) (hc:CallOK B G P c) : CallOK B G P (orC O c):=by
 intro f args H hne ρ us w s hv
 unfold orC at hne ⊢
 cases hr:O f args H with
 | bad=>rw [hr] at hne; exact hc f args H hne ρ us w s hv
 | ret v H'=>have:=hO f args H (by rw [hr]; simp) ρ us w s hv; rw [hr] at this; exact this
 | panic v H'=>have:=hO f args H (by rw [hr]; simp) ρ us w s hv; rw [hr] at this; exact this
noncomputable def Mem.fn (H:Mem) : Mem:=⟨.fn H.get,H.next⟩
theorem Sim.toFn (s:Sim B G ρ H w) : Sim B G ρ H.fn w:=⟨s.blk,s.inj,s.fresh,s.glob,s.names,s.base⟩
theorem Sim.ofFn (s:Sim B G ρ H.fn w) : Sim B G ρ H w:=⟨s.blk,s.inj,s.fresh,s.glob,s.names,s.base⟩
theorem WC.ofFn {f:FuncId} {args:List AV} {v:AV} (h:WC G P f args H.fn fun r=>r=.ret v H.fn) : WC G P f args H fun r=>r=.ret v H:=by
 intro B ρ us w s hv
 refine (h B ρ us w s.toFn hv).mono ?_
 rintro e w' ⟨r,rfl,hc⟩
 refine ⟨_,rfl,?_⟩
 cases e with
 | returned u =>
  obtain ⟨ρ',h1,h2,h3,h4⟩:=hc
  exact ⟨ρ',h1,h2.ofFn,h3,Nat.le_refl _⟩
 | panicked chain=>exact hc.elim
 | outgrown=>exact hc.elim
mutual
def belowV (n:Nat) : AV→Bool
 | .lit _=>true
 | .es=>true
 | .ptr a _=>Nat.blt a n
 | .sl a _ _ _=>Nat.blt a n
 | .slq a _ _ _=>Nat.blt a n
 | .map a=>Nat.blt a n
 | .func _ x y=>belowL n x && belowL n y
 | .iface _ v=>belowV n v
 | .agg l=>belowL n l
 | .tup l=>belowL n l
def belowL (n:Nat) : List AV→Bool
 | []=>true
 | v :: l=>belowV n v && belowL n l
end
def restr (n:Nat) (ρ:Rn) : Rn:=fun a=>if a < n then ρ a else none
theorem restr_lt {n a:Nat} {ρ:Rn} (h:Nat.blt a n=true) : restr n ρ a=ρ a:=if_pos (Nat.le_of_ble_eq_true h)
mutual
theorem below_VR {n:Nat} {ρ:Rn} : ∀ {v:AV} {u:Value},belowV n v=true→VR ρ v u→VR (restr n ρ) v u
 | .lit _,_,_,r=>r
 | .es,_,_,r=>r
 | .ptr a _,_,hb,⟨b,o,k,e,r⟩=>⟨b,o,k,(restr_lt (by simpa [belowV] using hb)).trans e,r⟩
 | .sl a _ _ _,_,hb,⟨b,o,k,e,r⟩=>⟨b,o,k,(restr_lt (by simpa [belowV] using hb)).trans e,r⟩
 | .slq a _ _ _,_,hb,⟨b,o,k,e,r⟩=>⟨b,o,k,(restr_lt (by simpa [belowV] using hb)).trans e,r⟩
 | .map a,_,hb,⟨b,o,k,e,r⟩=>⟨b,o,k,(restr_lt (by simpa [belowV] using hb)).trans e,r⟩
 | .func _ _ _,_,hb,⟨f',c',e,r,q⟩=>by
  simp only [belowV,Bool.and_eq_true] at hb
  exact ⟨f',c',e,below_VRs hb.1 r,below_VRs hb.2 q⟩
 | .iface _ _,_,hb,⟨u',e,r⟩=>⟨u',e,below_VR (by simpa [belowV] using hb) r⟩
 | .agg _,_,hb,⟨cs,e,r⟩=>⟨cs,e,below_VRs (by simpa [belowV] using hb) r⟩
 | .tup _,_,hb,⟨cs,e,r⟩=>⟨cs,e,below_VRs (by simpa [belowV] using hb) r⟩
theorem below_VRs {n:Nat} {ρ:Rn} : ∀ {l:List AV} {us:List Value},belowL n l=true→VRs ρ l us→VRs (restr n ρ) l us
 | [],_,_,r=>r
 | _ :: _,_,hb,⟨u,us',e,r,q⟩=>by
  simp only [belowL,Bool.and_eq_true] at hb
  exact ⟨u,us',e,below_VR hb.1 r,below_VRs hb.2 q⟩
end
def startB (n:Nat) : Option Blk→Bool
 | none=>true
 | some (.cells l own _)=>!own && belowL n l
 | _=>false
def retIs (v:AV) : COut→Bool
 | .ret u _=>eqAV u v
 | _=>false
theorem Sim.small {H0:Mem} (s:Sim B G ρ H w) (hG:G≤H0.next) (hst:∀ a,startB H0.next (H0.get a)=true) (hsub:∀ a x,H0.get a=some x→H.get a=some x) (hlt:∀ a x,H0.get a=some x→a < H0.next) :
  Sim w.heap.size G (restr H0.next ρ) H0 w:=by
 refine ⟨fun a x ha=>?_,fun a a' x x' b o k o' k' ha _ _ hown=>?_,fun a ha=>if_neg (Nat.not_lt.2 ha),fun a x hlt' ha=>?_,hG,Nat.le_refl _⟩
 ·have hr:restr H0.next ρ a=ρ a:=if_pos (hlt a x ha)
  rcases s.blk a x (hsub a x ha) with hn | ⟨b,o,k,h1,h2⟩
  ·exact .inl (hr.trans hn)
  ·refine .inr ⟨b,o,k,hr.trans h1,?_⟩
   have hs:=hst a
   rw [ha] at hs
   cases x with
   | cells l own z =>
    simp only [startB,Bool.and_eq_true,Bool.not_eq_true'] at hs
    obtain ⟨c,e,fz,h3,h4,h5⟩:=h2
    refine ⟨c,e,fz,h3,fun i v hi=>?_,fun hown=>by rw [hs.1] at hown; cases hown⟩
    obtain ⟨u,hu,hv⟩:=h4 i v hi
    refine ⟨u,hu,below_VR ?_ hv⟩
    have key:∀ (l:List AV) (i:Nat),belowL H0.next l=true→l[i]?=some v→belowV H0.next v=true:=by
     intro l
     induction l with
     | nil=>intro i _ h; simp at h
     | cons y l ih =>
      intro i hb h
      simp only [belowL,Bool.and_eq_true] at hb
      cases i with
      | zero=>simp at h; subst h; exact hb.1
      | succ i=>exact ih i hb.2 (by simpa using h)
    exact key l i hs.2 hi
   | map _ _=>cases hs
   | siter _ _=>cases hs
 ·have hs:=hst a
  rw [ha] at hs
  cases x with
  | cells l own z =>
   simp only [startB,Bool.and_eq_true,Bool.not_eq_true'] at hs
   have:own=true:=hown
   rw [hs.1] at this; cases this
  | map _ _=>cases hs
  | siter _ _=>cases hs
 ·have hr:restr H0.next ρ a=ρ a:=if_pos (hlt a x ha)
  exact hr.trans (s.glob a x hlt' (hsub a x ha))
theorem WC.local {H0:Mem} {O:CallF} {f:FuncId} {args:List AV} {v:AV} (hO:∀ B,CallOK B G P O) (hrun:retIs v (O f args H0)=true) (hv:plainV v=true) (hargs:belowL 0 args=true)
  (hG:G≤H0.next) (hst:∀ a,startB H0.next (H0.get a)=true) (hsub:∀ a x,H0.get a=some x→H.get a=some x) (hlt:∀ a x,H0.get a=some x→a < H0.next) :
  WC G P f args H fun r=>r=.ret v H:=by
 intro B ρ us w s hva
 have mono0:∀ (n:Nat),(∀ v,belowV 0 v=true→belowV n v=true)∧(∀ l,belowL 0 l=true→belowL n l=true):=by
  intro n
  have hV:∀ v,belowV 0 v=true→belowV n v=true:=by
   intro v
   refine AV.rec (motive_1:=fun v=>belowV 0 v=true→belowV n v=true) (motive_2:=fun l=>belowL 0 l=true→belowL n l=true) ?_ ?_ ?_ ?_ ?_ ?_ ?_ ?_ ?_ ?_ ?_ ?_ v
   all_goals intros
   all_goals simp_all [belowV,belowL]
  have hL:∀ l,belowL 0 l=true→belowL n l=true:=by
   intro l
   induction l with
   | nil=>intro _; rfl
   | cons x l ih =>
    intro h
    simp only [belowL,Bool.and_eq_true] at h ⊢
    exact ⟨hV x h.1,ih h.2⟩
  exact ⟨hV,hL⟩
 have s0:=s.small hG hst hsub hlt
 have hrr:∃ u H1,O f args H0=.ret u H1∧u=v:=by
  cases hr:O f args H0 with
  | ret u H1=>rw [hr] at hrun; exact ⟨u,H1,rfl,eqAV_sound _ _ hrun⟩
  | panic u H1=>rw [hr] at hrun; cases hrun
  | bad=>rw [hr] at hrun; cases hrun
 obtain ⟨u,H1,hr,rfl⟩:=hrr
 refine (hO _ f args H0 (by rw [hr]; simp) _ us w s0 (below_VRs ((mono0 H0.next).2 args hargs) hva)).mono ?_
 intro e w' hc
 rw [hr] at hc
 refine ⟨_,rfl,?_⟩
 cases e with
 | returned x =>
  obtain ⟨ρ',h1,h2,h3,h4⟩:=hc
  have hb:=h1.below
  have hb' : Go.RowKit.Below B w w':=⟨hb.os,hb.tape,hb.output,hb.size,fun a ha=>hb.block a (Nat.lt_of_lt_of_le ha s.base)⟩
  refine ⟨ρ,⟨fun _ _=>rfl,hb'⟩,?_,plain_VR hv h3,Nat.le_refl _⟩
  refine s.other hb.size fun a x b o k ha hra=>?_
  exact hb.block b (s.at ha hra).lt
 | panicked chain=>exact hc.elim
 | outgrown=>exact hc.elim
end Go.Ai
end
section
namespace Go.Ai
variable {B G:Nat} {P:Program} {ρ ρ' : Rn} {H H' H2:Mem} {w w' : World}
def plainB:Blk→Bool
 | .cells l _ _=>l.all plainV
 | .siter _ _=>true
 | _=>false
theorem plain_BR {ρ'' : Rn} {x:Blk} {b o k:Nat} (h:plainB x=true) (hb:BR B ρ x b o k w) : BR B ρ'' x b o k w:=by
 cases x with
 | cells l own z =>
  obtain ⟨c,e,fz,h1,h2,h3⟩:=hb
  refine ⟨c,e,fz,h1,fun i v hi=>?_,h3⟩
  obtain ⟨u,hu,hv⟩:=h2 i v hi
  exact ⟨u,hu,plain_VR (List.all_eq_true.1 h v (List.mem_of_getElem? hi)) hv⟩
 | siter s p=>exact hb
 | map es c=>cases h
theorem Sim.back2 (s:Sim B G ρ H w) (hx:Ext B H.next ρ w ρ' w') (s' : Sim B G ρ' H' w') (hn:H2.next=H.next)
  (hb:∀ a x,a < H.next→H2.get a=some x→H'.get a=some x∧(H.get a=some x∨plainB x=true)) : Sim B G ρ H2 w':=by
 have hsub:=hx.sub s
 refine ⟨fun a x ha=>?_,fun a a' x x' b o k o' k' ha ha' hne hown hr hr'=>?_,fun a ha=>s.fresh a (by rw [← hn]; exact ha),fun a x hlt ha=>?_,by rw [hn]; exact s.names,s'.base⟩
 ·rcases Nat.lt_or_ge a H.next with h1 | h1
  ·obtain ⟨h2,h3⟩:=hb a x h1 ha
   rcases s'.blk a x h2 with h | ⟨b,o,k,hr,hbr⟩
   ·exact .inl ((hx.same a h1).symm.trans h)
   ·have hr0:ρ a=some (b,o,k):=(hx.same a h1).symm.trans hr
    refine .inr ⟨b,o,k,hr0,?_⟩
    rcases h3 with h3 | h3
    ·exact (s.at h3 hr0).back hsub hbr
    ·exact plain_BR h3 hbr
  ·exact .inl (s.fresh a h1)
 ·have h1:=s.lt_next hr
  have h1':=s.lt_next hr'
  exact s'.inj a a' x x' b o k o' k' (hb a x h1 ha).1 (hb a' x' h1' ha').1 hne hown ((hx.same a h1).trans hr) ((hx.same a' h1').trans hr')
 ·have h1:a < H.next:=Nat.lt_of_lt_of_le hlt s.names
  exact (hx.same a h1).symm.trans (s'.glob a x hlt (hb a x h1 ha).1)
theorem WC.drop2 {f:FuncId} {args:List AV} {g:Nat→Option Blk} {n p:Nat} {v:AV} {x:Blk} (hp:plainV v=true) (hx:plainB x=true)
  (h:WC G P f args ⟨.fn g,n⟩ fun r=>∃ g' n',r=.ret v ⟨.fn g',n'⟩∧n≤n'∧(∀ b,b < n→b≠p→g' b=g b)∧g' p=some x) :
  WC G P f args ⟨.fn g,n⟩ fun r=>r=.ret v ⟨.fn (gput g p (some x)),n⟩:=by
 intro B ρ us w s hv
 refine (h B ρ us w s hv).mono ?_
 rintro e w' ⟨r,⟨g',n',rfl,hn,h1,h2⟩,hc⟩
 refine ⟨_,rfl,?_⟩
 cases e with
 | returned u =>
  obtain ⟨ρ',k1,k2,k3,k4⟩:=hc
  refine ⟨ρ,⟨fun _ _=>rfl,k1.below⟩,s.back2 k1 k2 rfl fun a y hlt ha=>?_,plain_VR hp k3,Nat.le_refl _⟩
  have ha' : gput g p (some x) a=some y:=ha
  unfold gput at ha'
  by_cases e:a=p
  ·subst e
   rw [if_pos rfl] at ha'
   cases ha'
   exact ⟨h2,.inr hx⟩
  ·rw [if_neg e] at ha'
   exact ⟨(h1 a hlt e).trans ha',.inl ha'⟩
 | panicked chain=>exact hc.elim
 | outgrown=>exact hc.elim
end Go.Ai
end
section
namespace Go.Ai
section
variable {G:Nat} {P:Program} {W:WF} {Q:Out→Prop} {fr:Fr} {H:Mem} {ev:Ev} {d:Option Tmp} {ty:TypeId} {p:String} {af:Array Edge} {g:Option (Nat×Bool)}
noncomputable def maxS (P:Program) (H:Mem) (ev:Ev) (o:Oper) (x y:Option AV) : R:=match x,y with
 | some (.lit (.int k a)),some (.lit (.int _ b))=>.val (.lit (.int k (if b > a then b else a))) H
 | _,_=>opV P H ev o
theorem op_max {x y:Operand} {s t:TypeId} : opV P H ev ⟨d,.call ⟨.builtin .max,#[x,y],#[s,t]⟩,ty,p,af,g⟩=maxS P H ev ⟨d,.call ⟨.builtin .max,#[x,y],#[s,t]⟩,ty,p,af,g⟩ (ev x) (ev y):=by
 unfold maxS
 split
 ·rename_i k a k' b hx hy
  have hg:generic P ev ⟨d,.call ⟨.builtin .max,#[x,y],#[s,t]⟩,ty,p,af,g⟩=some (.lit (.int k (if b > a then b else a))):=by
   refine generic2 (u:=.int k a) (u':=.int k' b) (by simp [Op.operands,Call.operands]) hx hy fun ρ h1 h2=>?_
   rw [exec_builtin (b:=.max) (c:=⟨.builtin .max,#[x,y],#[s,t]⟩) rfl rfl]
   have ea:(#[x,y] : Array Operand).map ρ=#[ρ x,ρ y]:=by simp
   have hm:pureV P (Builtin.max_ #[s,t] ty #[ρ x,ρ y])=some (.int k (if b > a then b else a)):=by
    rw [h1,h2]
    rfl
   show pureV P (builtin .max #[s,t] ty _ ((#[x,y] : Array Operand).map ρ))=_
   rw [ea]
   show pureV P (do pure (Next.value (← Builtin.max_ #[s,t] ty #[ρ x,ρ y])))=_
   exact (pureV_then hm).trans rfl
  show callOp P H ev _ ⟨.builtin .max,#[x,y],#[s,t]⟩=_
  unfold callOp
  rw [show (#[x,y] : Array Operand).toList=[x,y] from rfl]
  simp only [evals,hx,hy]
  unfold oBuiltin
  dsimp only
  rw [hg]
  rfl
 ·rfl
theorem maxS_congr {tk:Nat} (_h0:tick=tk) {o:Oper} {x x' y y' : Option AV} {H H' : Mem} (h1:H=H') (h2:x=x') (h3:y=y') : maxS P H ev o x y=maxS P H' ev o x' y':=by rw [h1,h2,h3]
attribute [congr] maxS_congr
theorem maxS_int {o:Oper} {k k' : IntKind} {a b:Int} : maxS P H ev o (some (.lit (.int k a))) (some (.lit (.int k' b)))=.val (.lit (.int k (if b > a then b else a))) H:=(rfl)
attribute [simp] op_max maxS_int
end
end Go.Ai
end
section
namespace Go.Ai
section
variable {P:Program} {H:Mem} {ev:Ev} {d:Option Tmp} {ty:TypeId} {p:String} {af:Array Edge} {g:Option (Nat×Bool)} {x y:Operand} {s t:TypeId} {size bytes:Nat}
theorem firstL_row {a n c:Nat} {l:List AV} {own:Bool} {z:Nat} (h:H.get a=some (.cells l own z)) (hl:l.length=n * size) : firstL H size n (.sl a 0 n c)=some l:=by
 rw [firstL_sl h (by omega),List.drop_zero,List.take_of_length_le (by omega)]
theorem firstL_rowq {a n c:Nat} {l:List AV} {own:Bool} {z:Nat} (h:H.get a=some (.cells l own z)) (hl:n * size≤l.length) : firstL H size n (.slq a 0 n c)=some (l.take (n * size)):=by
 rw [firstL_slq h (by omega),List.drop_zero]
variable {hp:apI P s t=some (size,bytes)} {hs:0 < size} {hb:bytes≤1048576}
theorem ap_nil {b c:Nat} {l:List AV} {own:Bool} {z:Nat} {hx:ev x=some (.lit (.slice none 0 0))} {hy:ev y=some (.sl b 0 1 c)} (hp:apI P s t=some (size,bytes)) (hs:(decide (0 < size) && decide (bytes≤1048576))=true)
  (hg:H.get b=some (.cells l own z)) (hl:l.length=size) :
  ex2 P H ev ⟨d,.call ⟨.builtin .append,#[x,y],#[s,t]⟩,ty,p,af,g⟩ x y (some (.lit (.slice none 0 0))) (some (.sl b 0 1 c)) hx hy=.val (.slq H.next 0 1 0) (H.add (.cells l true size)):=by
 simp only [Bool.and_eq_true,decide_eq_true_eq] at hs
 show opV P H ev _=_
 rw [append_of hx hy hp,appendN_nil (n:=0) rfl hs.1 (firstL_row hg (by omega)) (by omega) (by omega) hs.2]
theorem ap_sl0 {a b c off:Nat} {l l0:List AV} {own own0:Bool} {z z0:Nat} {hx:ev x=some (.sl a off 0 0)} {hy:ev y=some (.sl b 0 1 c)} (hp:apI P s t=some (size,bytes)) (hs:(decide (0 < size) && decide (bytes≤1048576))=true)
  (hg:H.get b=some (.cells l own z)) (hg0:H.get a=some (.cells l0 own0 z0)) (hl:l.length=size) (ho:off≤l0.length) :
  ex2 P H ev ⟨d,.call ⟨.builtin .append,#[x,y],#[s,t]⟩,ty,p,af,g⟩ x y (some (.sl a off 0 0)) (some (.sl b 0 1 c)) hx hy=.val (.slq H.next 0 1 0) (H.add (.cells l true size)):=by
 simp only [Bool.and_eq_true,decide_eq_true_eq] at hs
 show opV P H ev _=_
 rw [append_of hx hy hp,appendN_full (n:=0) rfl hs.1 (firstL_row hg (by omega)) (by omega) hg0 (by omega) (by omega) (by omega) hs.2]
 simp
theorem ap_slq {a b c k:Nat} {l r:List AV} {own:Bool} {z:Nat} {hx:ev x=some (.slq a 0 k 0)} {hy:ev y=some (.sl b 0 1 c)} (hp:apI P s t=some (size,bytes)) (hs:(decide (0 < size) && decide (bytes≤1048576))=true)
  (hg:H.get b=some (.cells l own z)) (hg0:H.get a=some (.cells r true size)) (hl:l.length=size) (hr:r.length=k * size) (hk:k≤1000000) (h1:allOne l=true) :
  ex2 P H ev ⟨d,.call ⟨.builtin .append,#[x,y],#[s,t]⟩,ty,p,af,g⟩ x y (some (.slq a 0 k 0)) (some (.sl b 0 1 c)) hx hy=.val (.slq H.next 0 (k+1) 0) ((H.rm a).add (.cells (r++l) true size)):=by
 simp only [Bool.and_eq_true,decide_eq_true_eq] at hs
 show opV P H ev _=_
 rw [append_of hx hy hp,appendN_grow (n:=0) rfl hs.1 (firstL_row hg (by omega)) (by omega) hg0 hr (by omega) hs.2 h1]
 rfl
theorem ap_none {a b c off n m:Nat} {hx:ev x=some (.sl a off n m)} {hy:ev y=some (.slq b 0 0 c)} (hp:(apI P s t).isSome=true) :
  ex2 P H ev ⟨d,.call ⟨.builtin .append,#[x,y],#[s,t]⟩,ty,p,af,g⟩ x y (some (.sl a off n m)) (some (.slq b 0 0 c)) hx hy=.val (.sl a off n m) H:=by
 cases hq:apI P s t with
 | none=>rw [hq] at hp; cases hp
 | some q =>
  obtain ⟨q1,q2⟩:=q
  show opV P H ev _=_
  rw [append_of hx hy hq]
  rfl
theorem ap_some {a b c off n:Nat} {r l0:List AV} {own own0:Bool} {z z0:Nat} {hx:ev x=some (.sl a off 0 0)} {hy:ev y=some (.slq b 0 (n+1) c)} (hp:apI P s t=some (size,bytes)) (hs:(decide (0 < size) && decide (bytes≤1048576))=true)
  (hg:H.get b=some (.cells r own z)) (hg0:H.get a=some (.cells l0 own0 z0)) (hl:(n+1) * size≤r.length) (ho:off≤l0.length) (hn:n≤1000000) :
  ex2 P H ev ⟨d,.call ⟨.builtin .append,#[x,y],#[s,t]⟩,ty,p,af,g⟩ x y (some (.sl a off 0 0)) (some (.slq b 0 (n+1) c)) hx hy=.val (.slq H.next 0 (n+1) 0) (H.add (.cells (r.take ((n+1) * size)) true size)):=by
 simp only [Bool.and_eq_true,decide_eq_true_eq] at hs
 show opV P H ev _=_
 rw [append_of hx hy hp,appendN_full (n:=n) rfl hs.1 (firstL_rowq hg hl) (by rw [List.length_take]; omega) hg0 (by omega) (by omega) (by omega) hs.2]
 simp
/- The same,by what the blocks hold. -/
noncomputable def apN (q:Option (Nat×Nat)) (gb:Option Blk) (H:Mem) (els:R) : R:=match q,gb with
 | some (size,bytes),some (.cells l _ _)=>if 0 < size∧bytes≤1048576∧l.length=size then .val (.slq H.next 0 1 0) (H.add (.cells l true size)) else els
 | _,_=>els
noncomputable def apZ (q:Option (Nat×Nat)) (off:Nat) (ga gb:Option Blk) (H:Mem) (els:R) : R:=match q,ga,gb with
 | some (size,bytes),some (.cells l0 _ _),some (.cells l _ _)=>if 0 < size∧bytes≤1048576∧l.length=size∧off≤l0.length then .val (.slq H.next 0 1 0) (H.add (.cells l true size)) else els
 | _,_,_=>els
noncomputable def apQ (q:Option (Nat×Nat)) (k a:Nat) (ga gb:Option Blk) (H:Mem) (els:R) : R:=match q,ga,gb with
 | some (size,bytes),some (.cells r true z),some (.cells l _ _)=>if z=size∧0 < size∧bytes≤1048576∧l.length=size∧r.length=k * size∧k≤1000000∧allOne l=true then .val (.slq H.next 0 (k+1) 0) ((H.rm a).add (.cells (r++l) true size)) else els
 | _,_,_=>els
noncomputable def apM (q:Option (Nat×Nat)) (n off:Nat) (ga gb:Option Blk) (H:Mem) (els:R) : R:=match q,ga,gb with
 | some (size,bytes),some (.cells l0 _ _),some (.cells r _ _)=>if 0 < size∧bytes≤1048576∧(n+1) * size≤r.length∧off≤l0.length∧n≤1000000 then .val (.slq H.next 0 (n+1) 0) (H.add (.cells (r.take ((n+1) * size)) true size)) else els
 | _,_,_=>els
theorem ap_nil' {b c:Nat} {hx:ev x=some (.lit (.slice none 0 0))} {hy:ev y=some (.sl b 0 1 c)} :
  ex2 P H ev ⟨d,.call ⟨.builtin .append,#[x,y],#[s,t]⟩,ty,p,af,g⟩ x y (some (.lit (.slice none 0 0))) (some (.sl b 0 1 c)) hx hy=apN (apI P s t) (H.get b) H (opV P H ev ⟨d,.call ⟨.builtin .append,#[x,y],#[s,t]⟩,ty,p,af,g⟩):=by
 unfold apN
 split
 ·rename_i size bytes l own z h1 h2
  split
  ·rename_i h; exact ap_nil h1 (by simp [h.1,h.2.1]) h2 h.2.2
  ·rfl
 ·rfl
theorem ap_sl0' {a b c off:Nat} {hx:ev x=some (.sl a off 0 0)} {hy:ev y=some (.sl b 0 1 c)} :
  ex2 P H ev ⟨d,.call ⟨.builtin .append,#[x,y],#[s,t]⟩,ty,p,af,g⟩ x y (some (.sl a off 0 0)) (some (.sl b 0 1 c)) hx hy=apZ (apI P s t) off (H.get a) (H.get b) H (opV P H ev ⟨d,.call ⟨.builtin .append,#[x,y],#[s,t]⟩,ty,p,af,g⟩):=by
 unfold apZ
 split
 ·rename_i size bytes l0 o0 z0 l own z h1 h2 h3
  split
  ·rename_i h; exact ap_sl0 h1 (by simp [h.1,h.2.1]) h3 h2 h.2.2.1 h.2.2.2
  ·rfl
 ·rfl
theorem ap_slq' {a b c k:Nat} {hx:ev x=some (.slq a 0 k 0)} {hy:ev y=some (.sl b 0 1 c)} :
  ex2 P H ev ⟨d,.call ⟨.builtin .append,#[x,y],#[s,t]⟩,ty,p,af,g⟩ x y (some (.slq a 0 k 0)) (some (.sl b 0 1 c)) hx hy=apQ (apI P s t) k a (H.get a) (H.get b) H (opV P H ev ⟨d,.call ⟨.builtin .append,#[x,y],#[s,t]⟩,ty,p,af,g⟩):=by
 unfold apQ
 split
 ·rename_i size bytes r z l own w h1 h2 h3
  split
  ·rename_i h
   obtain ⟨rfl,e2,e3,e4,e5,e6,e7⟩:=h
   exact ap_slq h1 (by simp [e2,e3]) h3 h2 e4 e5 e6 e7
  ·rfl
 ·rfl
theorem ap_some' {a b c off n:Nat} {hx:ev x=some (.sl a off 0 0)} {hy:ev y=some (.slq b 0 (n+1) c)} :
  ex2 P H ev ⟨d,.call ⟨.builtin .append,#[x,y],#[s,t]⟩,ty,p,af,g⟩ x y (some (.sl a off 0 0)) (some (.slq b 0 (n+1) c)) hx hy=apM (apI P s t) n off (H.get a) (H.get b) H (opV P H ev ⟨d,.call ⟨.builtin .append,#[x,y],#[s,t]⟩,ty,p,af,g⟩):=by
 unfold apM
 split
 ·rename_i size bytes l0 o0 z0 r own w h1 h2 h3
  split
  ·rename_i h
   obtain ⟨e2,e3,e4,e5,e6⟩:=h
   exact ap_some h1 (by simp [e2,e3]) h3 h2 e4 e5 e6
  ·rfl
 ·rfl
theorem apN_congr {tk:Nat} (_h0:tick=tk) {q q' : Option (Nat×Nat)} {gb gb' : Option Blk} {H:Mem} {els:R} (h1:q=q') (h2:gb=gb') : apN q gb H els=apN q' gb' H els:=by rw [h1,h2]
theorem apZ_congr {tk:Nat} (_h0:tick=tk) {q q' : Option (Nat×Nat)} {off:Nat} {ga ga' gb gb' : Option Blk} {H:Mem} {els:R} (h1:q=q') (h2:ga=ga') (h3:gb=gb') : apZ q off ga gb H els=apZ q' off ga' gb' H els:=by rw [h1,h2,h3]
theorem apQ_congr {tk:Nat} (_h0:tick=tk) {q q' : Option (Nat×Nat)} {k a:Nat} {ga ga' gb gb' : Option Blk} {H:Mem} {els:R} (h1:q=q') (h2:ga=ga') (h3:gb=gb') : apQ q k a ga gb H els=apQ q' k a ga' gb' H els:=by rw [h1,h2,h3]
theorem apM_congr {tk:Nat} (_h0:tick=tk) {q q' : Option (Nat×Nat)} {n off:Nat} {ga ga' gb gb' : Option Blk} {H:Mem} {els:R} (h1:q=q') (h2:ga=ga') (h3:gb=gb') : apM q n off ga gb H els=apM q' n off ga' gb' H els:=by rw [h1,h2,h3]
attribute [congr] apN_congr apZ_congr apQ_congr apM_congr
variable {els:R} {z w:Nat} {l r l0:List AV} {own own0:Bool} {k a n off:Nat} {G:Nat→Option Blk}
theorem apN_ok (h1:0 < size) (h2:bytes≤1048576) (h3:l.length=size) : apN (some (size,bytes)) (some (.cells l own z)) ⟨.fn G,n⟩ els=.val (.slq n 0 1 0) ⟨.fn (gput G n (some (.cells l true size))),n+1⟩:=if_pos ⟨h1,h2,h3⟩
theorem apZ_ok (h1:0 < size) (h2:bytes≤1048576) (h3:l.length=size) (h4:off≤l0.length) : apZ (some (size,bytes)) off (some (.cells l0 own0 w)) (some (.cells l own z)) ⟨.fn G,n⟩ els=.val (.slq n 0 1 0) ⟨.fn (gput G n (some (.cells l true size))),n+1⟩:=if_pos ⟨h1,h2,h3,h4⟩
theorem apQ_ok (h1:0 < size) (h2:bytes≤1048576) (h3:l.length=size) (h4:r.length=k * size) (h5:k≤1000000) (h6:allOne l=true) :
  apQ (some (size,bytes)) k a (some (.cells r true size)) (some (.cells l own w)) ⟨.fn G,n⟩ els=.val (.slq n 0 (k+1) 0) ⟨.fn (gput (gput G a none) n (some (.cells (r++l) true size))),n+1⟩:=if_pos ⟨rfl,h1,h2,h3,h4,h5,h6⟩
theorem apM_ok {m:Nat} (h1:0 < size) (h2:bytes≤1048576) (h3:(m+1) * size≤r.length) (h4:off≤l0.length) (h5:m≤1000000) :
  apM (some (size,bytes)) m off (some (.cells l0 own0 w)) (some (.cells r own z)) ⟨.fn G,n⟩ els=.val (.slq n 0 (m+1) 0) ⟨.fn (gput G n (some (.cells (r.take ((m+1) * size)) true size))),n+1⟩:=if_pos ⟨h1,h2,h3,h4,h5⟩
attribute [simp] ap_nil' ap_sl0' ap_slq' ap_none ap_some' apN_ok apZ_ok apQ_ok apM_ok
end
def rOf:R→Option AV
 | .val v _=>some v
 | _=>none
theorem resVar_cell {P:Program} {g:Nat→Option AV} {ds:List Dfr} {H:Mem} {a:Tmp} {t:TypeId} : resVar P (.f g ds) H (.cell a t)=rOf (oLoad P H t (g a)):=by
 show (match g a with | some p=>load P H t p | none=>none)=_
 unfold oLoad
 cases g a with
 | none=>rfl
 | some p =>
  dsimp only
  cases load P H t p <;> rfl
theorem rOf_val {v:AV} {H:Mem} : rOf (.val v H)=some v:=(rfl)
attribute [simp] resVar_cell rOf_val
theorem bsS_nil' {P:Program} {t:TypeId} {z:List AV} {size n:Nat} {g:Nat→Option Blk} (h:bsI P t=some (z,size)) :
  bsS P ⟨.fn g,n⟩ t 0 (some (z,size)) (some [])=.val (.sl n 0 0 0) ⟨.fn (gput g n (some (.cells [] true 0))),n+1⟩:=by
 unfold bsS
 dsimp only
 rw [if_neg (by omega)]
 exact bsS_nil h
attribute [simp] bsS_nil'
end Go.Ai
end
section
namespace Go.Ai
section
variable {P:Program} {H:Mem} {ev:Ev} {d:Option Tmp} {ty:TypeId} {p:String} {af:Array Edge} {g:Option (Nat×Bool)} {x y:Operand} {s t:TypeId} {size bytes:Nat}
noncomputable def apF (q:Option (Nat×Nat)) (k off:Nat) (ga gb:Option Blk) (H:Mem) (els:R) : R:=match q,ga,gb with
 | some (size,bytes),some (.cells l0 _ _),some (.cells l _ _)=>if 0 < size∧bytes≤1048576∧l.length=size∧off+(k+1) * size≤l0.length∧k≤1000000 then .val (.slq H.next 0 (k+1+1) 0) (H.add (.cells ((l0.drop off).take ((k+1) * size)++l) true size)) else els
 | _,_,_=>els
theorem ap_full' {a b c off k:Nat} {hx:ev x=some (.sl a off (k+1) (k+1))} {hy:ev y=some (.sl b 0 1 c)} :
  ex2 P H ev ⟨d,.call ⟨.builtin .append,#[x,y],#[s,t]⟩,ty,p,af,g⟩ x y (some (.sl a off (k+1) (k+1))) (some (.sl b 0 1 c)) hx hy=apF (apI P s t) k off (H.get a) (H.get b) H (opV P H ev ⟨d,.call ⟨.builtin .append,#[x,y],#[s,t]⟩,ty,p,af,g⟩):=by
 unfold apF
 split
 ·rename_i size bytes l0 o0 z0 l own z h1 h2 h3
  split
  ·rename_i h
   obtain ⟨e1,e2,e3,e4,e5⟩:=h
   show opV P H ev _=_
   rw [append_of hx hy h1,appendN_full (n:=0) rfl e1 (firstL_row h3 (by omega)) (by omega) h2 e4 (by omega) (by omega) e2]
  ·rfl
 ·rfl
theorem apF_congr {tk:Nat} (_h0:tick=tk) {q q' : Option (Nat×Nat)} {k off:Nat} {ga ga' gb gb' : Option Blk} {H:Mem} {els:R} (h1:q=q') (h2:ga=ga') (h3:gb=gb') : apF q k off ga gb H els=apF q' k off ga' gb' H els:=by rw [h1,h2,h3]
attribute [congr] apF_congr
variable {els:R} {z w:Nat} {l l0:List AV} {own own0:Bool} {k n off:Nat} {G:Nat→Option Blk}
theorem apF_ok (h1:0 < size) (h2:bytes≤1048576) (h3:l.length=size) (h4:off+(k+1) * size≤l0.length) (h5:k≤1000000) :
  apF (some (size,bytes)) k off (some (.cells l0 own0 w)) (some (.cells l own z)) ⟨.fn G,n⟩ els=.val (.slq n 0 (k+1+1) 0) ⟨.fn (gput G n (some (.cells ((l0.drop off).take ((k+1) * size)++l) true size))),n+1⟩:=if_pos ⟨h1,h2,h3,h4,h5⟩
attribute [simp] ap_full' apF_ok
end
end Go.Ai
end
section
namespace Go.Ai
section
variable {P:Program} {W:WF} {Q:Out→Prop} {fr:Fr} {H:Mem} {ev:Ev} {d:Option Tmp} {ty:TypeId} {p:String} {af:Array Edge} {g:Option (Nat×Bool)}
theorem generic3 {o:Oper} {x y z:Operand} {u u' u'' r:Value} (ho:o.op.operands=#[x,y,z]) (hx:ev x=some (.lit u)) (hy:ev y=some (.lit u')) (hz:ev z=some (.lit u''))
  (hr:∀ ρ:Operand→Value,ρ x=u→ρ y=u'→ρ z=u''→pureV P (execOp ρ o)=some (.value r)) : generic P ev o=some (.lit r):=by
 have h1:o.op.operands.toList=[x,y,z]:=by rw [ho]
 unfold generic
 simp only [h1,List.all_cons,List.all_nil,hx,hy,hz,toLit,Bool.and_true,if_true]
 rw [hr _ (by simp [hx]) (by simp [hy]) (by simp [hz])]
end
end Go.Ai
end
section
namespace Go.Ai
section
variable {P:Program} {W:WF} {Q:Out→Prop} {fr:Fr} {H:Mem} {ev:Ev} {d:Option Tmp} {ty:TypeId} {p:String} {af:Array Edge} {g:Option (Nat×Bool)}
noncomputable def shrS (P:Program) (H:Mem) (ev:Ev) (o:Oper) (t:TypeId) (x y:Option AV) : R:=match x,y with
 | some (.lit (.int k a)),some (.lit (.int k' b))=>if 0≤b∧b≤63∧b.toNat≤k.bits then .val (.lit (.int k (a.fdiv (2 ^ b.toNat)))) H else oBin P H ev o .shr t (some (.lit (.int k a))) (some (.lit (.int k' b)))
 | x,y=>oBin P H ev o .shr t x y
theorem op_shr {t rt:TypeId} {x y:Operand} : opV P H ev ⟨d,.binOp .shr t x y rt,ty,p,af,g⟩=shrS P H ev ⟨d,.binOp .shr t x y rt,ty,p,af,g⟩ t (ev x) (ev y):=by
 rw [op_bin]
 unfold shrS
 split
 ·rename_i k a k' b hx hy
  rw [hx,hy]
  split
  ·rename_i h
   obtain ⟨h0,h1,h2⟩:=h
   have hf:fastBin .shr (.lit (.int k a)) (.lit (.int k' b))=none:=by unfold fastBin; dsimp only; cases kEq k k' <;> rfl
   refine oBin_generic hf (generic2 rfl hx hy fun ρ e1 e2=>execOp_bin e1 e2 rfl ?_)
   show pureV P (Op.shift .shr k a k' b)=_
   unfold Op.shift
   rw [if_neg (by omega)]
   dsimp only
   rw [Nat.min_eq_left h2]
   rfl
  ·rfl
 ·rfl
theorem shrS_ok {o:Oper} {t:TypeId} {k k' : IntKind} {a b:Int} (h0:0≤b) (h1:b≤63) (h2:b.toNat≤k.bits) : shrS P H ev o t (some (.lit (.int k a))) (some (.lit (.int k' b)))=.val (.lit (.int k (a.fdiv (2 ^ b.toNat)))) H:=if_pos ⟨h0,h1,h2⟩
theorem bits_u64:IntKind.u64.bits=64:=(rfl)
theorem binS_shr {t rt:TypeId} {x y:Operand} {k k' : IntKind} {a b:Int} (hx:ev x=some (.lit (.int k a))) (hy:ev y=some (.lit (.int k' b))) (h0:0≤b) (h1:b≤63) (h2:b.toNat≤k.bits) :
  binS P H ev ⟨d,.binOp .shr t x y rt,ty,p,af,g⟩ .shr t (some (.lit (.int k a))) (some (.lit (.int k' b)))=.val (.lit (.int k (a / (2 ^ b.toNat)))) H:=by
 have e:=op_bin' (P:=P) (H:=H) (ev:=ev) (d:=d) (ty:=ty) (p:=p) (af:=af) (g:=g) (op:=.shr) (t:=t) (rt:=rt) (x:=x) (y:=y)
 rw [hx,hy] at e
 rw [← e,op_shr,hx,hy]
 rw [shrS_ok h0 h1 h2,Int.fdiv_eq_ediv_of_nonneg _ (Int.le_of_lt (Int.pow_pos (by decide)))]
theorem wrap_u64 {a:Int} (h1:0≤a) (h2:a≤18446744073709551615) : IntKind.u64.wrap a=a:=by
 simp only [IntKind.wrap,IntKind.bits,IntKind.signed]
 simp
 omega
attribute [simp] bits_u64 binS_shr wrap_u64
end
end Go.Ai
end
section
namespace Go.Ai
section
variable {P:Program} {H:Mem} {ev:Ev} {d:Option Tmp} {ty:TypeId} {p:String} {af:Array Edge} {g:Option (Nat×Bool)}
end
end Go.Ai
end
section
namespace Go.Ai
section
variable {P:Program} {W:WF} {Q:Out→Prop} {fr:Fr} {H:Mem} {ev:Ev} {d:Option Tmp} {ty:TypeId} {p:String} {af:Array Edge} {g:Option (Nat×Bool)}
end
end Go.Ai
end
section
namespace Go.Ai
set_option maxRecDepth 10000
theorem gput_ne {g:Nat→Option Blk} {a j:Nat} {x:Option Blk} (h:j≠a) : gput g a x j=g j:=if_neg h
theorem gput_eq {g:Nat→Option Blk} {a:Nat} {x:Option Blk} : gput g a x a=x:=if_pos rfl
theorem ba_size_append (a b:ByteArray) : (a++b).size=a.size+b.size:=by simp
def SliceV (g:Nat→Option Blk) (b:Nat) (sv:AV) (len:Nat) (cs:List AV) : Prop :=
 (len=0∧cs=[]∧(sv=.lit (.slice none 0 0)∨sv=.es))∨∃ a off,a < b∧((∃ c,sv=.sl a off len c)∨∃ c,sv=.slq a off len c)∧Row g a off cs
theorem SliceV.mono {g g' : Nat→Option Blk} {b b' len:Nat} {sv:AV} {cs:List AV} (hb:b≤b') (h:∀ a,a < b→g' a=g a) : SliceV g b sv len cs→SliceV g' b' sv len cs :=
 fun hs=>hs.imp id fun ⟨a,off,h1,h2,h3⟩=>⟨a,off,by omega,h2,h3.mono (h a h1)⟩
theorem sliceV_all {g:Nat→Option Blk} {a n len c:Nat} {cs:List AV} {own:Bool} {z:Nat} (h:g a=some (.cells cs own z)) (ha:a < n) : SliceV g n (.sl a 0 len c) len cs :=
 .inr ⟨a,0,ha,.inl ⟨c,rfl⟩,⟨cs,own,z,h,by simp,by simp⟩⟩
inductive NodeM where
 | mk (op:Nat) (a b:Int) (subs:List NodeM)
def NodeM.op:NodeM→Nat
 | .mk op _ _ _=>op
mutual
def sizeN:NodeM→Nat
 | .mk _ _ _ l=>sizeL l+1
def sizeL:List NodeM→Nat
 | []=>0
 | x :: l=>sizeN x+sizeL l
end
theorem size_mem:∀ {l:List NodeM} {x:NodeM},x∈l→sizeN x≤sizeL l
 | y :: l,x,h=>by
  unfold sizeL
  rcases List.mem_cons.1 h with rfl | h
  ·omega
  ·have:=size_mem h; omega
theorem size_pos:∀ (x:NodeM),1≤sizeN x
 | .mk _ _ _ _=>by unfold sizeN; omega
theorem len_size:∀ (l:List NodeM),l.length≤sizeL l
 | []=>Nat.le_refl _
 | x :: l=>by
  have:=len_size l
  have h1:=size_pos x
  unfold sizeL
  simp only [List.length_cons]
  omega
mutual
def repN (g:Nat→Option Blk) (b:Nat) : NodeM→List AV→Prop
  | .mk op k q subs,cs=>op < 256∧∃ sv,cs=[.lit (.int .u8 op),.lit (.int .i64 k),.lit (.int .i64 q),sv] ∧
    ((subs=[]∧(sv=.lit (.slice none 0 0)∨sv=.es)) ∨
     ∃ a off r,a < b∧((∃ c,sv=.sl a off subs.length c)∨(∃ c,sv=.slq a off subs.length c))∧Row g a off r∧repL g b subs r)
def repL (g:Nat→Option Blk) (b:Nat) : List NodeM→List AV→Prop
 | [],cs=>cs=[]
 | x :: l,cs=>∃ c r,cs=c++r∧repN g b x c∧repL g b l r
end
mutual
theorem repN_ext {g g' : Nat→Option Blk} {b b' : Nat} (hb:b≤b') (h:∀ a x,a < b→g a=some x→g' a=some x) : ∀ {x:NodeM} {cs:List AV},repN g b x cs→repN g' b' x cs
 | .mk op k q subs,cs,⟨h0,sv,h1,h2⟩=>⟨h0,sv,h1,h2.imp id fun ⟨a,off,r,h3,h4,⟨l,own,z,h5,h6⟩,h7⟩=>⟨a,off,r,by omega,h4,⟨l,own,z,h a _ h3 h5,h6⟩,repL_ext hb h h7⟩⟩
theorem repL_ext {g g' : Nat→Option Blk} {b b' : Nat} (hb:b≤b') (h:∀ a x,a < b→g a=some x→g' a=some x) : ∀ {l:List NodeM} {cs:List AV},repL g b l cs→repL g' b' l cs
 | [],_,h0=>h0
 | _ :: _,_,⟨c,r,h1,h2,h3⟩=>⟨c,r,h1,repN_ext hb h h2,repL_ext hb h h3⟩
end
theorem repN_mono {g g' : Nat→Option Blk} {b b' : Nat} (hb:b≤b') (h:∀ a,a < b→g' a=g a) {x:NodeM} {cs:List AV} (hr:repN g b x cs) : repN g' b' x cs:=repN_ext hb (fun a z ha hz=>(h a ha).trans hz) hr
theorem repN_len {g:Nat→Option Blk} {b:Nat} {x:NodeM} {cs:List AV} (h:repN g b x cs) : cs.length=4:=by
 cases x with
 | mk op k q subs=>obtain ⟨_,sv,rfl,_⟩:=h; rfl
theorem repL_len {g:Nat→Option Blk} {b:Nat} : ∀ {l:List NodeM} {cs:List AV},repL g b l cs→cs.length=l.length * 4
 | [],cs,h=>by have h' : cs=[]:=h; rw [h']; rfl
 | x :: l,cs,⟨c,r,h1,h2,h3⟩=>by rw [h1,List.length_append,repN_len h2,repL_len h3,List.length_cons]; omega
theorem repL_at {g:Nat→Option Blk} {b:Nat} : ∀ {l:List NodeM} {cs:List AV},repL g b l cs→∀ (k:Nat) (h:k < l.length),repN g b l[k] ((cs.drop (k * 4)).take 4)
 | x :: l,cs,⟨c,r,h1,h2,h3⟩,0,h=>by
  subst h1
  have:=repN_len h2
  simp only [Nat.zero_mul,List.drop_zero,List.getElem_cons_zero]
  rw [List.take_append_of_le_length (by omega),List.take_of_length_le (by omega)]
  exact h2
 | x :: l,cs,⟨c,r,h1,h2,h3⟩,k+1,h=>by
  subst h1
  have hl:=repN_len h2
  have:=repL_at h3 k (by simpa using h)
  simp only [List.getElem_cons_succ]
  rw [show (k+1) * 4=c.length+k * 4 by omega,← List.drop_drop,List.drop_left' rfl]
  exact this
theorem repN_one {g:Nat→Option Blk} {b:Nat} {x:NodeM} {cs:List AV} (h:repN g b x cs) : ∃ k q sv,cs=[.lit (.int .u8 x.op),.lit (.int .i64 k),.lit (.int .i64 q),sv]∧oneC sv=true∧x.op < 256:=by
 cases x with
 | mk op k q subs =>
  obtain ⟨h0,sv,rfl,h⟩:=h
  refine ⟨_,_,sv,rfl,?_,h0⟩
  rcases h with ⟨_,rfl | rfl⟩ | ⟨a,off,r,_,⟨c,rfl⟩ | ⟨c,rfl⟩,_⟩ <;> rfl
mutual
theorem repN_put {g g' : Nat→Option Blk} {b b' p:Nat} {v v' : AV} {o o' : Bool} {z z' : Nat} (hb:b≤b') (h:∀ a,a < b→a≠p→g' a=g a) (h1:g p=some (.cells [v] o z)) (h2:g' p=some (.cells [v'] o' z')) :
  ∀ {x:NodeM} {cs:List AV},repN g b x cs→repN g' b' x cs
 | .mk op k q subs,cs,⟨h0,sv,e1,e2⟩=>⟨h0,sv,e1,e2.imp id fun ⟨a,off,r,h3,h4,h5,h6⟩=>by
   refine ⟨a,off,r,by omega,h4,?_,repL_put hb h h1 h2 h6⟩
   by_cases e:a=p
   ·subst e
    obtain ⟨l,ow,zz,k1,k2,k3⟩:=h5
    rw [h1] at k1
    cases k1
    have hl:=repL_len h6
    simp at k2
    have hr:r=[]:=List.length_eq_zero_iff.1 (by omega)
    subst hr
    exact ⟨[v'],o',z',h2,by simp at k2 ⊢; omega,rfl⟩
   ·exact h5.mono (h a h3 e)⟩
theorem repL_put {g g' : Nat→Option Blk} {b b' p:Nat} {v v' : AV} {o o' : Bool} {z z' : Nat} (hb:b≤b') (h:∀ a,a < b→a≠p→g' a=g a) (h1:g p=some (.cells [v] o z)) (h2:g' p=some (.cells [v'] o' z')) :
  ∀ {l:List NodeM} {cs:List AV},repL g b l cs→repL g' b' l cs
 | [],_,h0=>h0
 | _ :: _,_,⟨c,r,e1,e2,e3⟩=>⟨c,r,e1,repN_put hb h h1 h2 e2,repL_put hb h h1 h2 e3⟩
end
theorem row_ne {g:Nat→Option Blk} {a off p:Nat} {r:List AV} {v:AV} {o:Bool} {z:Nat} (h:Row g a off r) (hp:g p=some (.cells [v] o z)) (hr:2≤r.length) : a≠p:=by
 rintro rfl
 obtain ⟨l,ow,zz,k1,k2,k3⟩:=h
 rw [hp] at k1
 cases k1
 simp at k2
 omega
theorem repL_one {g:Nat→Option Blk} {b:Nat} {x:NodeM} {cs:List AV} (h:repN g b x cs) : repL g b [x] cs:=⟨cs,[],by simp,h,rfl⟩
theorem node_rep {gk:Nat→Option Blk} {n' n2 S op k:Nat} {subs:List NodeM} {cs:List AV} (hs:repL gk n' subs cs) (hk:subs.length=k) (hop:op < 256) (h1:n'≤S) (h2:S < n2) :
  repN (gput gk S (some (.cells cs true 0))) n2 (.mk op 0 0 subs) [.lit (.int .u8 op),.lit (.int .i64 0),.lit (.int .i64 0),.sl S 0 k k]:=by
 subst hk
 refine ⟨hop,_,rfl,.inr ⟨S,0,cs,h2,.inl ⟨_,rfl⟩,⟨cs,true,0,gput_eq,by simp,by simp⟩,?_⟩⟩
 exact repL_ext (by omega) (fun a z ha hz=>by rw [gput_lt (by omega)]; exact hz) hs
def FreshN (g:Nat→Option Blk) (n n' : Nat) (x:NodeM) (cs:List AV) : Prop:=∃ gk:Nat→Option Blk,(∀ a z,gk a=some z→g a=some z∧n≤a∧a < n')∧repN gk n' x cs
theorem FreshN.keep {g g' : Nat→Option Blk} {n0 n n' n2:Nat} {x:NodeM} {cs:List AV} (h:FreshN g n n' x cs) (h0:n0≤n) (h2:n'≤n2) (hg:∀ a,n≤a→a < n'→g' a=g a) : FreshN g' n0 n2 x cs:=by
 obtain ⟨gk,h1,h3⟩:=h
 refine ⟨gk,fun a z hz=>?_,repN_ext h2 (fun a z _ hz=>hz) h3⟩
 obtain ⟨e1,e2,e3⟩:=h1 a z hz
 exact ⟨(hg a e2 e3).trans e1,by omega,by omega⟩
theorem FreshN.rep {g:Nat→Option Blk} {n n' : Nat} {x:NodeM} {cs:List AV} (h:FreshN g n n' x cs) : repN g n' x cs:=by
 obtain ⟨gk,h1,h3⟩:=h
 exact repN_ext (Nat.le_refl _) (fun a z _ hz=>(h1 a z hz).1) h3
def FreshL (g:Nat→Option Blk) (n n' : Nat) (l:List NodeM) (cs:List AV) : Prop:=∃ gk:Nat→Option Blk,(∀ a z,gk a=some z→g a=some z∧n≤a∧a < n')∧repL gk n' l cs
theorem FreshL.one {g:Nat→Option Blk} {n n' : Nat} {x:NodeM} {cs:List AV} (h:FreshN g n n' x cs) : FreshL g n n' [x] cs:=by
 obtain ⟨gk,h1,h3⟩:=h
 exact ⟨gk,h1,repL_one h3⟩
theorem FreshL.two {g:Nat→Option Blk} {n n' : Nat} {x y:NodeM} {cs ds:List AV} (h:FreshN g n n' x cs) (h' : FreshN g n n' y ds) : FreshL g n n' [x,y] (cs++ds):=by
 obtain ⟨gk,h1,h3⟩:=h
 obtain ⟨gl,h4,h5⟩:=h'
 refine ⟨fun a=>if n≤a∧a < n' then g a else none,fun a z hz=>?_,cs,ds,rfl,repN_ext (Nat.le_refl _) (fun a z _ hz=>?_) h3,repL_one (repN_ext (Nat.le_refl _) (fun a z _ hz=>?_) h5)⟩
 ·dsimp only at hz
  split at hz
  ·rename_i h; exact ⟨hz,h⟩
  ·cases hz
 ·obtain ⟨e1,e2⟩:=h1 a z hz
  rw [if_pos e2,e1]
 ·obtain ⟨e1,e2⟩:=h4 a z hz
  rw [if_pos e2,e1]
def FreshQ (g:Nat→Option Blk) (n q n' : Nat) (x:NodeM) (cs:List AV) : Prop:=∃ gk:Nat→Option Blk,(∀ a z,gk a=some z→g a=some z∧n≤a∧a < n'∧a≠q)∧repN gk n' x cs
theorem FreshQ.rep {g:Nat→Option Blk} {n q n' : Nat} {x:NodeM} {cs:List AV} (h:FreshQ g n q n' x cs) : repN g n' x cs:=by
 obtain ⟨gk,h1,h3⟩:=h
 exact repN_ext (Nat.le_refl _) (fun a z _ hz=>(h1 a z hz).1) h3
theorem FreshQ.fresh {g g' : Nat→Option Blk} {n0 n q n' n2:Nat} {x:NodeM} {cs:List AV} (h:FreshQ g n q n' x cs) (h0:n0≤n) (h2:n'≤n2) (hg:∀ a,n≤a→a < n'→a≠q→g' a=g a) : FreshN g' n0 n2 x cs:=by
 obtain ⟨gk,h1,h3⟩:=h
 refine ⟨gk,fun a z hz=>?_,repN_ext h2 (fun a z _ hz=>hz) h3⟩
 obtain ⟨e1,e2,e3,e4⟩:=h1 a z hz
 exact ⟨(hg a e2 e3 e4).trans e1,by omega,by omega⟩
theorem FreshQ.keep {g g' : Nat→Option Blk} {n q n' n2:Nat} {x:NodeM} {cs:List AV} (h:FreshQ g n q n' x cs) (h2:n'≤n2) (hg:∀ a,n≤a→a < n'→a≠q→g' a=g a) : FreshQ g' n q n2 x cs:=by
 obtain ⟨gk,h1,h3⟩:=h
 refine ⟨gk,fun a z hz=>?_,repN_ext h2 (fun a z _ hz=>hz) h3⟩
 obtain ⟨e1,e2,e3,e4⟩:=h1 a z hz
 exact ⟨(hg a e2 e3 e4).trans e1,by omega,by omega,e4⟩
mutual
def smallM:NodeM→Int→Bool×Int
 | .mk _ _ _ subs,left=>smallL subs (left - 1)
def smallL:List NodeM→Int→Bool×Int
 | [],left=>(decide (0≤left),left)
 | y :: l,left=>if left < 0 then (false,left) else match smallM y left with
  | (true,left')=>smallL l left'
  | (false,left')=>(false,left')
end
mutual
theorem smallM_lo:∀ (x:NodeM) (left:Int),0≤left → -1≤(smallM x left).2∧(smallM x left).2≤left
 | .mk _ _ _ subs,left,h=>by
  have:=smallL_lo subs (left - 1) (by omega)
  unfold smallM
  omega
theorem smallL_lo:∀ (l:List NodeM) (left:Int),-1≤left → -1≤(smallL l left).2∧(smallL l left).2≤left
 | [],left,h=>⟨h,Int.le_refl _⟩
 | y :: l,left,h=>by
  unfold smallL
  by_cases h0:left < 0
  ·rw [if_pos h0]; exact ⟨h,Int.le_refl _⟩
  ·rw [if_neg h0]
   have h1:=smallM_lo y left (by omega)
   cases hs:smallM y left with
   | mk b left' =>
    rw [hs] at h1
    cases b with
    | false=>exact h1
    | true =>
     have h2:=smallL_lo l left' h1.1
     dsimp only at h1 ⊢
     omega
end
theorem smallL_true {y:NodeM} {l:List NodeM} {left:Int} (h:¬left < 0) (h1:(smallM y left).1=true) : smallL (y :: l) left=smallL l (smallM y left).2:=by
 rw [smallL,if_neg h]
 cases hs:smallM y left with
 | mk b q=>rw [hs] at h1; cases b <;> simp_all
theorem smallL_false {y:NodeM} {l:List NodeM} {left:Int} (h:¬left < 0) (h1:(smallM y left).1=false) : smallL (y :: l) left=(false,(smallM y left).2):=by
 rw [smallL,if_neg h]
 cases hs:smallM y left with
 | mk b q=>rw [hs] at h1; cases b <;> simp_all
end Go.Ai
end
section
namespace Go.Ai
set_option maxRecDepth 10000
def letterM (c:Int) : Bool:=decide (97≤c∧c≤122) || decide (65≤c∧c≤90)
def digitM (c:Int) : Bool:=decide (48≤c∧c≤57)
theorem digit_in {c:Int} (h:digitM c=true) : 48≤c∧c≤57:=by simpa [digitM] using h
def runF (F:Nat→Int→Bool) (s:ByteArray) (k:Nat) : Nat→Nat→Nat
 | 0,j=>j
 | m+1,j=>if k+j < s.size then (if F j (bAt s (k+j))=true then runF F s k m (j+1) else j) else j
def fLetter:Nat→Int→Bool:=fun _ c=>letterM c
def fDigit:Nat→Int→Bool:=fun _ c=>digitM c
theorem runF_le {F:Nat→Int→Bool} {s:ByteArray} {k:Nat} : ∀ (m j:Nat),k+j≤s.size→j≤runF F s k m j∧k+runF F s k m j≤s.size
 | 0,j,h=>⟨Nat.le_refl _,h⟩
 | m+1,j,h=>by
  unfold runF
  split
  ·split
   ·have:=runF_le (F:=F) (s:=s) (k:=k) m (j+1) (by omega); omega
   ·exact ⟨Nat.le_refl _,h⟩
  ·exact ⟨Nat.le_refl _,h⟩
def skipM (s:ByteArray) : Nat→Nat→Nat
 | 0,k=>k
 | m+1,k=>if k < s.size then (if bAt s k=32 then skipM s m (k+1) else k) else k
theorem skipM_le {s:ByteArray} : ∀ (m k:Nat),k≤s.size→k≤skipM s m k∧skipM s m k≤s.size
 | 0,k,h=>⟨Nat.le_refl _,h⟩
 | m+1,k,h=>by
  unfold skipM
  split
  ·split
   ·have:=skipM_le (s:=s) m (k+1) (by omega); omega
   ·omega
  ·omega
def tokN (s:ByteArray) (k:Nat) : Nat :=
 if letterM (bAt s k)=true then runF fLetter s k (s.size - k - 1) 1 else if digitM (bAt s k)=true then runF fDigit s k (s.size - k - 1) 1 else 1
theorem tokN_le {s:ByteArray} {k:Nat} (h:k < s.size) : 1≤tokN s k∧k+tokN s k≤s.size:=by
 have h1:=runF_le (F:=fLetter) (s:=s) (k:=k) (s.size - k - 1) 1 (by omega)
 have h2:=runF_le (F:=fDigit) (s:=s) (k:=k) (s.size - k - 1) 1 (by omega)
 unfold tokN
 split
 ·omega
 ·split <;> omega
def tokB (s:ByteArray) (k:Nat) : ByteArray:=if k=s.size then ⟨#[]⟩ else s.extract k (k+tokN s k)
def advM (s:ByteArray) (j:Nat) : Nat:=skipM s (s.size - j) j
def nxtM (s:ByteArray) (k:Nat) : Nat:=advM s (k+(tokB s k).size)
theorem tok_size {s:ByteArray} {k:Nat} (h:k < s.size) : (tokB s k).size=tokN s k:=by
 have:=tokN_le h
 unfold tokB
 rw [if_neg (by omega),ByteArray.size_extract]
 omega
theorem tok_le {s:ByteArray} {k:Nat} (h:k≤s.size) : k+(tokB s k).size≤s.size:=by
 by_cases h1:k=s.size
 ·have:(tokB s k).size=0:=by unfold tokB; rw [if_pos h1]; rfl
  omega
 ·rw [tok_size (by omega)]
  exact (tokN_le (by omega)).2
theorem advM_le {s:ByteArray} {j:Nat} (h:j≤s.size) : j≤advM s j∧advM s j≤s.size:=skipM_le _ _ h
theorem nxtM_le {s:ByteArray} {k:Nat} (h:k≤s.size) : nxtM s k≤s.size:=(advM_le (tok_le h)).2
theorem nxtM_ge {s:ByteArray} {k:Nat} (h:k≤s.size) : k≤nxtM s k:=by
 have h1:=(advM_le (tok_le h)).1
 unfold nxtM
 omega
theorem nxtM_lt {s:ByteArray} {k:Nat} (h:k < s.size) : k < nxtM s k:=by
 have h1:=(advM_le (tok_le (Nat.le_of_lt h))).1
 have h2:=tok_size h
 have h3:=tokN_le h
 unfold nxtM
 omega
theorem tok_empty {s:ByteArray} {k:Nat} (h:k≤s.size) : tokB s k=⟨#[]⟩↔k=s.size:=by
 constructor
 ·intro e
  apply Classical.byContradiction
  intro hne
  have h2:=tok_size (s:=s) (k:=k) (by omega)
  have h3:=tokN_le (s:=s) (k:=k) (by omega)
  rw [e] at h2
  have:(⟨#[]⟩ : ByteArray).size=0:=rfl
  omega
 ·intro e; unfold tokB; rw [if_pos e]
theorem adv_stay {s:ByteArray} {k:Nat} (h:k=s.size∨bAt s k≠32) : advM s k=k:=by
 unfold advM
 rcases h with h | h
 ·rw [h,Nat.sub_self]; rfl
 ·cases hm:s.size - k with
  | zero=>rfl
  | succ m =>
   unfold skipM
   split
   ·first | rfl | rw [if_neg h]
   ·rfl
theorem adv_skip {s:ByteArray} {k:Nat} (hk:k < s.size) (h:bAt s k=32) : advM s k=advM s (k+1):=by
 unfold advM
 rw [show s.size - k=(s.size - (k+1))+1 by omega,skipM,if_pos hk,if_pos h]
def signs:List ByteArray:=[⟨#[116,114,117,101]⟩,⟨#[115,116,97,116,101]⟩,⟨#[99,97,110]⟩,⟨#[103,105,118,101,115]⟩,⟨#[110,111,116]⟩,⟨#[97,110,100]⟩,⟨#[111,114]⟩,⟨#[69,88]⟩,⟨#[69,70]⟩,⟨#[69,71]⟩,⟨#[69]⟩,⟨#[65,88]⟩,⟨#[65,70]⟩,⟨#[65,71]⟩,⟨#[65]⟩]
def signB (o:Nat) : ByteArray:=signs.getD o ⟨#[]⟩
def openT:ByteArray:=⟨#[40]⟩
def closeT:ByteArray:=⟨#[41]⟩
def leftT:ByteArray:=⟨#[91]⟩
def rightT:ByteArray:=⟨#[93]⟩
def untilT:ByteArray:=⟨#[85]⟩
def subsM (o:Nat) : Nat:=if o < 4 then 0 else if o=5∨o=6∨o=10∨o=14 then 2 else 1
def opFrom (t:ByteArray) : List Nat→Option Nat
 | []=>none
 | o :: l=>if o≠5∧o≠6∧signB o=t then some o else opFrom t l
def opOf (t:ByteArray) : Option Nat:=opFrom t (List.range 15)
def valN (s:ByteArray) : Nat→Nat→Nat→Nat
 | 0,_,a=>a
 | m+1,k,a=>valN s m (k+1) (a * 10+(bAt s k - 48).toNat)
def valB (s:ByteArray) : Nat:=valN s s.size 0 0
def digitsB (s:ByteArray) : Prop:=∀ k,k < s.size→digitM (bAt s k)=true
open Classical in
noncomputable def numM (t:ByteArray) : Option Nat:=if 0 < t.size∧t.size≤4∧digitsB t∧¬(bAt t 0=48∧1 < t.size) then some (valB t) else none
def bopM (rank:Nat) : Nat:=if rank=2 then 5 else 6
inductive ParR where
 | ok (x:NodeM) (k:Nat)
 | err (k:Nat)
section
variable (s:ByteArray)
mutual
noncomputable def readF:Nat→Nat→Nat→Option ParR
 | 0,_,_=>none
 | m+1,rank,k =>
  if 3≤rank then singF m k
  else match readF m (rank+1) k with
   | some (.ok x k')=>loopF m rank x k'
   | r=>r
noncomputable def loopF:Nat→Nat→NodeM→Nat→Option ParR
 | 0,_,_,_=>none
 | m+1,rank,x,k =>
  if tokB s k=signB (bopM rank) then
   match readF m (rank+1) (nxtM s k) with
   | some (.ok y k')=>loopF m rank (.mk (bopM rank) 0 0 [x,y]) k'
   | r=>r
  else some (.ok x k)
noncomputable def singF:Nat→Nat→Option ParR
 | 0,_=>none
 | m+1,k =>
  if tokB s k=openT then
   match readF m 1 (nxtM s k) with
   | some (.ok x k')=>if tokB s k'=closeT then some (.ok x (nxtM s k')) else some (.err k')
   | r=>r
  else match opOf (tokB s k) with
   | none=>some (.err k)
   | some o =>
    if subsM o=2 then
     if tokB s (nxtM s k)=leftT then
      match readF m 1 (nxtM s (nxtM s k)) with
      | some (.ok a k1) =>
       if tokB s k1=untilT then
        match readF m 1 (nxtM s k1) with
        | some (.ok b k2)=>if tokB s k2=rightT then some (.ok (.mk o 0 0 [a,b]) (nxtM s k2)) else some (.err k2)
        | r=>r
       else some (.err k1)
      | r=>r
     else some (.err (nxtM s k))
    else if subsM o=1 then
     match singF m (nxtM s k) with
     | some (.ok x k')=>some (.ok (.mk o 0 0 [x]) k')
     | r=>r
    else if o=0 then some (.ok (.mk 0 0 0 []) (nxtM s k))
    else match numM (tokB s (nxtM s k)) with
     | none=>some (.err (nxtM s k))
     | some a =>
      if o=3 then
       match numM (tokB s (nxtM s (nxtM s k))) with
       | none=>some (.err (nxtM s (nxtM s k)))
       | some b=>some (.ok (.mk 3 (a:Nat) (b:Nat) []) (nxtM s (nxtM s (nxtM s k))))
      else some (.ok (.mk o (a:Nat) 0 []) (nxtM s (nxtM s k)))
end
end
mutual
def validM (st inp out:Int) : NodeM→Bool
 | .mk op a b subs=>decide (op < 15) && (decide (subs.length=subsM op) && (decide (0≤a) && (decide (0≤b) && (decide (a < if op=1 then st else if op=2∨op=3 then inp else 1) && (decide (b < if op=3 then out else 1) && validL st inp out subs)))))
def validL (st inp out:Int) : List NodeM→Bool
 | []=>true
 | x :: l=>validM st inp out x && validL st inp out l
end
end Go.Ai
end
section
namespace Go.Ai
structure MachM where
 inp:Int
 out:Int
 rows:List (List (Int×Int))
def MachM.edge (M:MachM) (s:Nat) (i:Nat) : Int×Int:=((M.rows.getD s []).getD i (-1,-1))
def succL:List (Int×Int)→List Nat
 | []=>[]
 | e :: l=>if e.1 < 0 then succL l else e.1.toNat :: succL l
def MachM.gr (M:MachM) : GraphM:=⟨M.rows.length,fun s=>succL (M.rows.getD s [])⟩
def edgeOK (n:Nat) (out:Int) (e:Int×Int) : Bool:=decide (e=(-1,-1)) || (decide (0≤e.1) && (decide (e.1 < n) && (decide (0≤e.2) && decide (e.2 < out))))
def MachM.ok (M:MachM) : Prop:=1≤M.inp∧M.inp≤16∧1≤M.out∧M.out≤16∧1≤M.rows.length∧M.rows.length≤64∧∀ r∈M.rows,(r.length:Int)=M.inp∧∀ e∈r,edgeOK M.rows.length M.out e=true
theorem succL_mem:∀ {l:List (Int×Int)} {t:Nat},t∈succL l→∃ e∈l,0≤e.1∧e.1.toNat=t
 | e :: l,t,h=>by
  unfold succL at h
  split at h
  ·obtain ⟨x,h1,h2⟩:=succL_mem h
   exact ⟨x,List.mem_cons_of_mem _ h1,h2⟩
  ·rcases List.mem_cons.1 h with rfl | h
   ·exact ⟨e,List.mem_cons_self ..,by omega,rfl⟩
   ·obtain ⟨x,h1,h2⟩:=succL_mem h
    exact ⟨x,List.mem_cons_of_mem _ h1,h2⟩
theorem MachM.gr_ok {M:MachM} (h:M.ok) : M.gr.ok:=fun s hs t ht=>by
 obtain ⟨e,h1,h2,h3⟩:=succL_mem ht
 have hr:M.rows.getD s []∈M.rows:=by
  rw [List.getD_eq_getElem?_getD,List.getElem?_eq_getElem hs]
  exact List.getElem_mem hs
 have:=(h.2.2.2.2.2.2 _ hr).2 e h1
 unfold edgeOK at this
 simp only [Bool.or_eq_true,Bool.and_eq_true,decide_eq_true_eq] at this
 show t < M.rows.length
 rcases this with h4 | ⟨h4,h5,_⟩
 ·rw [h4] at h2; exact absurd h2 (by decide)
 ·omega
def allS:SetS:=fun _=>true
def opSem (M:MachM) (op:Nat) (a b:Int) (A B X:SetS) : Prop :=
 match op with
 | 0=>eqS M.gr.n X allS
 | 1=>eqS M.gr.n X fun s=>decide ((s:Int)=a)
 | 2=>eqS M.gr.n X fun s=>decide (0≤(M.edge s a.toNat).1)
 | 3=>eqS M.gr.n X fun s=>decide (0≤(M.edge s a.toNat).1) && decide ((M.edge s a.toNat).2=b)
 | 4=>eqS M.gr.n X (notS A)
 | 5=>eqS M.gr.n X fun s=>A s && B s
 | 6=>eqS M.gr.n X fun s=>A s || B s
 | 7=>eqS M.gr.n X (M.gr.pre A)
 | 8=>IsL M.gr.n (M.gr.fE allS A) X
 | 9=>IsL M.gr.n (M.gr.fA allS (notS A)) (notS X)
 | 10=>IsL M.gr.n (M.gr.fE A B) X
 | 11=>eqS M.gr.n X (M.gr.post A)
 | 12=>IsL M.gr.n (M.gr.fA allS A) X
 | 13=>IsL M.gr.n (M.gr.fE allS (notS A)) (notS X)
 | 14=>IsL M.gr.n (M.gr.fA A B) X
 | _=>False
theorem eqS.refl (n:Nat) (X:SetS) : eqS n X X:=fun _ _=>rfl
theorem notS_eq {n:Nat} {X Y:SetS} (h:eqS n X Y) : eqS n (notS X) (notS Y):=fun s hs=>by unfold notS; rw [h s hs]
theorem notS_inj {n:Nat} {X Y:SetS} (h:eqS n (notS X) (notS Y)) : eqS n X Y:=fun s hs=>by
 have:=h s hs
 unfold notS at this
 cases hx:X s <;> cases hy:Y s <;> simp_all
theorem IsL.cong {n:Nat} {F F' : SetS→SetS} {L L' : SetS} (h:IsL n F L) (hF:∀ X,eqS n (F X) (F' X)) (hF' : ∀ X Y,eqS n X Y→eqS n (F X) (F Y)) (hL:eqS n L L') : IsL n F' L' :=
 ⟨(hF L').symm.trans (((hF' _ _ hL).symm.trans h.fix).trans hL),fun Z hZ s hs hx=>h.least Z (fun t ht hy=>hZ t ht (by rw [← hF Z t ht]; exact hy)) s hs (by rw [hL s hs]; exact hx)⟩
theorem pre_eq {G:GraphM} (hG:G.ok) {X Y:SetS} (h:eqS G.n X Y) : eqS G.n (G.pre X) (G.pre Y):=(G.pre_mono hG h.le).antisymm (G.pre_mono hG h.symm.le)
theorem post_eq {G:GraphM} (hG:G.ok) {X Y:SetS} (h:eqS G.n X Y) : eqS G.n (G.post X) (G.post Y):=(G.post_mono hG h.le).antisymm (G.post_mono hG h.symm.le)
theorem fE_eq {G:GraphM} (hG:G.ok) (a b:SetS) {X Y:SetS} (h:eqS G.n X Y) : eqS G.n (G.fE a b X) (G.fE a b Y):=(G.fE_mono hG a b h.le).antisymm (G.fE_mono hG a b h.symm.le)
theorem fA_eq {G:GraphM} (hG:G.ok) (a b:SetS) {X Y:SetS} (h:eqS G.n X Y) : eqS G.n (G.fA a b X) (G.fA a b Y):=(G.fA_mono hG a b h.le).antisymm (G.fA_mono hG a b h.symm.le)
theorem fE_arg {G:GraphM} {a b a' b' : SetS} (ha:eqS G.n a a') (hb:eqS G.n b b') (X:SetS) : eqS G.n (G.fE a b X) (G.fE a' b' X):=fun s hs=>by unfold GraphM.fE; rw [ha s hs,hb s hs]
theorem fA_arg {G:GraphM} {a b a' b' : SetS} (ha:eqS G.n a a') (hb:eqS G.n b b') (X:SetS) : eqS G.n (G.fA a b X) (G.fA a' b' X):=fun s hs=>by unfold GraphM.fA; rw [ha s hs,hb s hs]
theorem opSem_uniq {M:MachM} (hM:M.ok) {op:Nat} {a b:Int} {A B X A' B' X' : SetS} (h:opSem M op a b A B X) (h' : opSem M op a b A' B' X') (hA:eqS M.gr.n A A') (hB:eqS M.gr.n B B') : eqS M.gr.n X X':=by
 have hG:=M.gr_ok hM
 have hr:=eqS.refl M.gr.n allS
 unfold opSem at h h'
 split at h <;> (try dsimp only at h')
 ·exact h.trans h'.symm
 ·exact h.trans h'.symm
 ·exact h.trans h'.symm
 ·exact h.trans h'.symm
 ·exact (h.trans (notS_eq hA)).trans h'.symm
 ·exact (h.trans (fun s hs=>by rw [hA s hs,hB s hs])).trans h'.symm
 ·exact (h.trans (fun s hs=>by rw [hA s hs,hB s hs])).trans h'.symm
 ·exact (h.trans (pre_eq hG hA)).trans h'.symm
 ·exact (h.cong (fE_arg hr hA) (fun _ _=>fE_eq hG _ _) (eqS.refl _ _)).uniq h'
 ·exact notS_inj ((h.cong (fA_arg hr (notS_eq hA)) (fun _ _=>fA_eq hG _ _) (eqS.refl _ _)).uniq h')
 ·exact (h.cong (fE_arg hA hB) (fun _ _=>fE_eq hG _ _) (eqS.refl _ _)).uniq h'
 ·exact (h.trans (post_eq hG hA)).trans h'.symm
 ·exact (h.cong (fA_arg hr hA) (fun _ _=>fA_eq hG _ _) (eqS.refl _ _)).uniq h'
 ·exact notS_inj ((h.cong (fE_arg hr (notS_eq hA)) (fun _ _=>fE_eq hG _ _) (eqS.refl _ _)).uniq h')
 ·exact (h.cong (fA_arg hA hB) (fun _ _=>fA_eq hG _ _) (eqS.refl _ _)).uniq h'
 ·exact h.elim
end Go.Ai
end
section
namespace Go.Ai
section
variable {P:Program} {W:WF} {Q:Out→Prop} {fr:Fr} {H:Mem} {ev:Ev} {d:Option Tmp} {ty:TypeId} {p:String} {af:Array Edge} {g:Option (Nat×Bool)}
theorem two64:(2:Nat) ^ 64=18446744073709551616:=by decide
theorem wrap_u64n {a:Nat} (h:a < 18446744073709551616) : IntKind.u64.wrap (a:Int)=(a:Int):=wrap_u64 (by omega) (by omega)
theorem bv_u64 {a:Nat} (h:a < 18446744073709551616) : (BitVec.ofInt 64 (a:Int)).toNat=a:=by
 rw [BitVec.ofInt_natCast,BitVec.toNat_ofNat,two64,Nat.mod_eq_of_lt h]
theorem and_lt64 {a b:Nat} (h:a < 18446744073709551616) : a &&& b < 18446744073709551616:=Nat.lt_of_le_of_lt Nat.and_le_left h
theorem or_lt64 {a b:Nat} (h:a < 18446744073709551616) (h' : b < 18446744073709551616) : a ||| b < 18446744073709551616:=by
 rw [← two64] at *
 exact Nat.or_lt_two_pow h h'
def ndN (a b:Nat) : Nat:=a &&& (18446744073709551615 - b)
theorem nd_lt64 {a b:Nat} (h:a < 18446744073709551616) : ndN a b < 18446744073709551616:=and_lt64 h
noncomputable def bitS (P:Program) (H:Mem) (ev:Ev) (o:Oper) (op:BinOp) (t:TypeId) (a b:Nat) : R:=match op with
 | .and=>if a < 18446744073709551616∧b < 18446744073709551616 then .val (.lit (.int .u64 ((a &&& b:Nat) : Int))) H else oBin P H ev o op t (some (.lit (.int .u64 a))) (some (.lit (.int .u64 b)))
 | .or=>if a < 18446744073709551616∧b < 18446744073709551616 then .val (.lit (.int .u64 ((a ||| b:Nat) : Int))) H else oBin P H ev o op t (some (.lit (.int .u64 a))) (some (.lit (.int .u64 b)))
 | .andNot=>if a < 18446744073709551616∧b < 18446744073709551616 then .val (.lit (.int .u64 ((ndN a b:Nat) : Int))) H else oBin P H ev o op t (some (.lit (.int .u64 a))) (some (.lit (.int .u64 b)))
 | op=>oBin P H ev o op t (some (.lit (.int .u64 a))) (some (.lit (.int .u64 b)))
theorem bits_pure {op:BinOp} {a b c:Nat} {r:BitVec 64} (h:Op.intBits op .u64 a b=pure (.int .u64 (IntKind.u64.wrap r.toNat))) (hc:r.toNat=c) (h1:c < 18446744073709551616) : pureV P (Op.intBits op .u64 (a:Int) (b:Int))=some (.int .u64 (c:Int)):=by
 rw [h,hc,wrap_u64n h1]
 rfl
theorem intK2_bit {t rt:TypeId} {x y:Operand} {op:BinOp} {a b:Nat} (hop:op=.and∨op=.or∨op=.andNot) (hx:ev x=some (.lit (.int .u64 a))) (hy:ev y=some (.lit (.int .u64 b))) :
  intK2 P H ev ⟨d,.binOp op t x y rt,ty,p,af,g⟩ op t .u64 a b (intR op .u64 a b)=bitS P H ev ⟨d,.binOp op t x y rt,ty,p,af,g⟩ op t a b:=by
 have key:∀ c:Nat,pureV P (Op.intBits op .u64 (a:Int) (b:Int))=some (.int .u64 (c:Int))→intK2 P H ev ⟨d,.binOp op t x y rt,ty,p,af,g⟩ op t .u64 a b (intR op .u64 a b)=.val (.lit (.int .u64 (c:Int))) H:=by
  intro c hc
  have hi:intR op .u64 a b=none:=by rcases hop with rfl | rfl | rfl <;> rfl
  rw [hi]
  show oBin P H ev ⟨d,.binOp op t x y rt,ty,p,af,g⟩ op t (some (.lit (.int .u64 a))) (some (.lit (.int .u64 b)))=_
  have hf:fastBin op (.lit (.int .u64 a)) (.lit (.int .u64 b))=none:=by rcases hop with rfl | rfl | rfl <;> (unfold fastBin; dsimp only; cases kEq .u64 .u64 <;> rfl)
  refine oBin_generic hf (generic2 rfl hx hy fun ρ e1 e2=>execOp_bin e1 e2 (by rcases hop with rfl | rfl | rfl <;> rfl) ?_)
  rcases hop with rfl | rfl | rfl <;> exact hc
 rcases hop with rfl | rfl | rfl
 ·unfold bitS
  dsimp only
  split
  ·rename_i h
   exact key _ (bits_pure (r:=BitVec.ofInt 64 a &&& BitVec.ofInt 64 b) rfl (by rw [BitVec.toNat_and,bv_u64 h.1,bv_u64 h.2]) (and_lt64 h.1))
  ·rfl
 ·unfold bitS
  dsimp only
  split
  ·rename_i h
   exact key _ (bits_pure (r:=BitVec.ofInt 64 a ||| BitVec.ofInt 64 b) rfl (by rw [BitVec.toNat_or,bv_u64 h.1,bv_u64 h.2]) (or_lt64 h.1 h.2))
  ·rfl
 ·unfold bitS
  dsimp only
  split
  ·rename_i h
   exact key _ (bits_pure (r:=BitVec.ofInt 64 a &&& ~~~BitVec.ofInt 64 b) rfl (by rw [BitVec.toNat_and,BitVec.toNat_not,bv_u64 h.1,bv_u64 h.2,two64]; rfl) (nd_lt64 h.1))
  ·rfl
def andN (a b:Nat) : Nat:=a &&& b
def orN (a b:Nat) : Nat:=a ||| b
def bitN (k:Nat) : Nat:=2 ^ k
def lowN (m k:Nat) : Nat:=m / 2 ^ k % 2
theorem andN_lt {a b:Nat} (h:a < 18446744073709551616) : andN a b < 18446744073709551616:=and_lt64 h
theorem orN_lt {a b:Nat} (h:a < 18446744073709551616) (h' : b < 18446744073709551616) : orN a b < 18446744073709551616:=or_lt64 h h'
theorem ndN_lt {a b:Nat} (h:a < 18446744073709551616) : ndN a b < 18446744073709551616:=and_lt64 h
theorem bitN_lt {k:Nat} (h:k≤63) : bitN k < 18446744073709551616:=by
 rw [← two64]
 exact Nat.pow_lt_pow_right (by omega) (by omega)
theorem andN_bit (a b s:Nat) : (andN a b).testBit s=(a.testBit s && b.testBit s):=Nat.testBit_and ..
theorem orN_bit (a b s:Nat) : (orN a b).testBit s=(a.testBit s || b.testBit s):=Nat.testBit_or ..
theorem ndN_bit (a b s:Nat) (hb:b < 18446744073709551616) : (ndN a b).testBit s=(a.testBit s && (decide (s < 64) && !b.testBit s)):=by
 unfold ndN
 rw [Nat.testBit_and]
 congr 1
 have h:=Nat.testBit_two_pow_sub_succ (x:=b) (n:=64) (by rw [two64]; exact hb) s
 rw [two64] at h
 rw [show 18446744073709551615 - b=18446744073709551616 - (b+1) by omega]
 exact h
theorem bitN_bit (k s:Nat) : (bitN k).testBit s=decide (k=s):=Nat.testBit_two_pow
theorem lowN_bit (m k:Nat) : decide (lowN m k=1)=m.testBit k:=by
 unfold lowN
 rw [Nat.testBit_eq_decide_div_mod_eq]
theorem intK2_and {t rt:TypeId} {x y:Operand} {a b:Nat} (hx:ev x=some (.lit (.int .u64 a))) (hy:ev y=some (.lit (.int .u64 b))) (ha:a < 18446744073709551616) (hb:b < 18446744073709551616) :
  intK2 P H ev ⟨d,.binOp .and t x y rt,ty,p,af,g⟩ .and t .u64 a b (intR .and .u64 a b)=.val (.lit (.int .u64 ((andN a b:Nat) : Int))) H:=by
 rw [intK2_bit (.inl rfl) hx hy]
 exact if_pos ⟨ha,hb⟩
theorem intK2_or {t rt:TypeId} {x y:Operand} {a b:Nat} (hx:ev x=some (.lit (.int .u64 a))) (hy:ev y=some (.lit (.int .u64 b))) (ha:a < 18446744073709551616) (hb:b < 18446744073709551616) :
  intK2 P H ev ⟨d,.binOp .or t x y rt,ty,p,af,g⟩ .or t .u64 a b (intR .or .u64 a b)=.val (.lit (.int .u64 ((orN a b:Nat) : Int))) H:=by
 rw [intK2_bit (.inr (.inl rfl)) hx hy]
 exact if_pos ⟨ha,hb⟩
theorem intK2_nd {t rt:TypeId} {x y:Operand} {a b:Nat} (hx:ev x=some (.lit (.int .u64 a))) (hy:ev y=some (.lit (.int .u64 b))) (ha:a < 18446744073709551616) (hb:b < 18446744073709551616) :
  intK2 P H ev ⟨d,.binOp .andNot t x y rt,ty,p,af,g⟩ .andNot t .u64 a b (intR .andNot .u64 a b)=.val (.lit (.int .u64 ((ndN a b:Nat) : Int))) H:=by
 rw [intK2_bit (.inr (.inr rfl)) hx hy]
 exact if_pos ⟨ha,hb⟩
theorem intK2_low {t rt:TypeId} {x y:Operand} {m k:Nat} (hx:ev x=some (.lit (.int .u64 ((m:Int) / 2 ^ k)))) (hy:ev y=some (.lit (.int .u64 1))) (hm:m < 18446744073709551616) :
  intK2 P H ev ⟨d,.binOp .and t x y rt,ty,p,af,g⟩ .and t .u64 ((m:Int) / 2 ^ k) 1 (intR .and .u64 ((m:Int) / 2 ^ k) 1)=.val (.lit (.int .u64 ((lowN m k:Nat) : Int))) H:=by
 have e:(m:Int) / 2 ^ k=((m / 2 ^ k:Nat) : Int):=by simp
 have hy' : ev y=some (.lit (.int .u64 ((1:Nat) : Int))):=hy
 rw [e] at hx ⊢
 have hl:m / 2 ^ k < 18446744073709551616:=Nat.lt_of_le_of_lt (Nat.div_le_self _ _) hm
 refine (intK2_and (t:=t) (rt:=rt) hx hy' hl (by omega)).trans ?_
 unfold andN lowN
 rw [Nat.and_one_is_mod]
theorem binS_shl1 {t rt:TypeId} {x y:Operand} {s:Int} (hx:ev x=some (.lit (.int .u64 1))) (hy:ev y=some (.lit (.int .i64 s))) (h0:0≤s) (h1:s≤63) :
  binS P H ev ⟨d,.binOp .shl t x y rt,ty,p,af,g⟩ .shl t (some (.lit (.int .u64 1))) (some (.lit (.int .i64 s)))=.val (.lit (.int .u64 ((bitN s.toNat:Nat) : Int))) H:=by
 have e:binS P H ev ⟨d,.binOp .shl t x y rt,ty,p,af,g⟩ .shl t (some (.lit (.int .u64 1))) (some (.lit (.int .i64 s)))=oBin P H ev ⟨d,.binOp .shl t x y rt,ty,p,af,g⟩ .shl t (some (.lit (.int .u64 1))) (some (.lit (.int .i64 s))):=rfl
 rw [e]
 refine oBin_generic rfl (generic2 rfl hx hy fun ρ e1 e2=>execOp_bin e1 e2 rfl ?_)
 show pureV P (Op.shift .shl .u64 1 .i64 s)=_
 unfold Op.shift
 rw [if_neg (by omega)]
 dsimp only
 have h2:min s.toNat IntKind.u64.bits=s.toNat:=by rw [bits_u64]; omega
 have h3:(1:Int) * 2 ^ s.toNat=((bitN s.toNat:Nat) : Int):=by unfold bitN; simp
 rw [h2,h3,wrap_u64n (bitN_lt (by omega))]
 rfl
attribute [simp] andN_lt orN_lt ndN_lt bitN_lt intK2_and intK2_or intK2_nd intK2_low binS_shl1
end
end Go.Ai
end
section
namespace Go.Ai
set_option maxRecDepth 10000
def sOf (m:Nat) : SetS:=fun s=>m.testBit s
def aheadN (nx:List Nat) (t:Nat) : Nat→Nat
 | 0=>0
 | k+1=>if andN (nx.getD k 0) t=0 then aheadN nx t k else orN (aheadN nx t k) (bitN k)
theorem aheadN_lt (nx:List Nat) (t:Nat) : ∀ k,k≤64→aheadN nx t k < 18446744073709551616
 | 0,_=>by unfold aheadN; omega
 | k+1,h=>by
  have:=aheadN_lt nx t k (by omega)
  unfold aheadN
  split
  ·exact this
  ·exact orN_lt this (bitN_lt (by omega))
theorem aheadN_bit (nx:List Nat) (t s:Nat) : ∀ k,(aheadN nx t k).testBit s=(decide (s < k) && !decide (andN (nx.getD s 0) t=0))
 | 0=>by unfold aheadN; simp
 | k+1=>by
  have ih:=aheadN_bit nx t s k
  unfold aheadN
  split
  ·rename_i h
   rw [ih]
   by_cases hs:s=k
   ·subst hs; rw [decide_eq_true h]; simp
   ·rw [show decide (s < k+1)=decide (s < k) by rw [decide_eq_decide]; omega]
  ·rename_i h
   rw [orN_bit,ih,bitN_bit]
   by_cases hs:s=k
   ·subst hs; rw [decide_eq_false h]; simp
   ·rw [decide_eq_false (show ¬k=s by omega),show decide (s < k+1)=decide (s < k) by rw [decide_eq_decide]; omega]; simp
theorem andN_ne {a b:Nat} : ¬andN a b=0↔∃ u,a.testBit u=true∧b.testBit u=true:=by
 constructor
 ·intro h
  obtain ⟨u,hu⟩:=Nat.exists_testBit_of_ne_zero h
  rw [andN_bit,Bool.and_eq_true] at hu
  exact ⟨u,hu⟩
 ·rintro ⟨u,h1,h2⟩ h
  have:(andN a b).testBit u=true:=by rw [andN_bit,h1,h2]; rfl
  rw [h,Nat.zero_testBit] at this
  cases this
structure GrN (G:GraphM) (nx:List Nat) (all:Nat) : Prop where
 ok:G.ok
 len:nx.length=G.n
 n64:G.n≤64
 lt:∀ x∈nx,x < 18446744073709551616
 bit:∀ s,s < G.n→∀ u,(nx.getD s 0).testBit u=true↔u∈G.succ s
 abit:∀ s,all.testBit s=decide (s < G.n)
 alt:all < 18446744073709551616
variable {G:GraphM} {nx:List Nat} {all:Nat}
theorem GrN.ahead (h:GrN G nx all) (t:Nat) : eqS G.n (sOf (aheadN nx t G.n)) (G.pre (sOf t)):=fun s hs=>by
 show (aheadN nx t G.n).testBit s=_
 rw [aheadN_bit,decide_eq_true hs,Bool.true_and]
 unfold GraphM.pre
 rw [Bool.eq_iff_iff,List.any_eq_true]
 simp only [Bool.not_eq_true',decide_eq_false_iff_not]
 rw [andN_ne]
 constructor
 ·rintro ⟨u,h1,h2⟩
  exact ⟨u,(h.bit s hs u).1 h1,h2⟩
 ·rintro ⟨u,h1,h2⟩
  exact ⟨u,(h.bit s hs u).2 h1,h2⟩
theorem GrN.all_eq (h:GrN G nx all) : eqS G.n (sOf all) allS:=fun s hs=>by
 show all.testBit s=true
 rw [h.abit,decide_eq_true hs]
def endsN (nx:List Nat) (all n:Nat) : Nat:=ndN all (aheadN nx all n)
theorem GrN.ends_lt (h:GrN G nx all) : endsN nx all G.n < 18446744073709551616:=ndN_lt h.alt
theorem GrN.nd (h:GrN G nx all) {t:Nat} (ht:t < 18446744073709551616) : eqS G.n (sOf (ndN all t)) (notS (sOf t)):=fun s hs=>by
 show (ndN all t).testBit s=_
 have:=h.n64
 rw [ndN_bit _ _ _ ht,h.abit,decide_eq_true hs,decide_eq_true (show s < 64 by omega)]
 rfl
theorem GrN.ends_eq (h:GrN G nx all) : eqS G.n (sOf (endsN nx all G.n)) G.ends:=fun s hs=>by
 have h1:=h.nd (aheadN_lt nx all G.n h.n64) s hs
 show sOf (ndN all (aheadN nx all G.n)) s=_
 rw [h1]
 unfold notS
 rw [h.ahead all s hs]
 unfold GraphM.ends GraphM.pre
 rw [Bool.eq_iff_iff]
 simp only [Bool.not_eq_true',List.any_eq_false,List.isEmpty_iff]
 constructor
 ·intro h2
  cases hsu:G.succ s with
  | nil=>rfl
  | cons u l =>
   exfalso
   have hu:u∈G.succ s:=by rw [hsu]; exact List.mem_cons_self ..
   refine h2 u hu ?_
   show all.testBit u=true
   rw [h.abit,decide_eq_true (h.ok s hs u hu)]
 ·intro h2 u hu
  rw [h2] at hu; cases hu
structure UInv (G:GraphM) (a b0 b:Nat) : Prop where
 up:leS G.n (sOf b0) (sOf b)
 least:∀ Z,leS G.n (G.fE (sOf a) (sOf b0) Z) Z→leS G.n (sOf b) Z
theorem UInv.start {a b0:Nat} : UInv G a b0 b0:=⟨fun _ _ h=>h,fun Z hZ s hs h=>hZ s hs (by unfold GraphM.fE; rw [h]; rfl)⟩
theorem UInv.step (h:GrN G nx all) {a b0 b:Nat} (hu:UInv G a b0 b) : UInv G a b0 (orN b (andN a (aheadN nx b G.n))):=by
 refine ⟨fun s hs hx=>?_,fun Z hZ s hs hx=>?_⟩
 ·show (orN _ _).testBit s=true
  rw [orN_bit,show b.testBit s=true from hu.up s hs hx]; rfl
 ·have hx' : (orN b (andN a (aheadN nx b G.n))).testBit s=true:=hx
  rw [orN_bit,andN_bit,Bool.or_eq_true,Bool.and_eq_true] at hx'
  rcases hx' with h1 | ⟨h1,h2⟩
  ·exact hu.least Z hZ s hs h1
  ·refine hZ s hs ?_
   unfold GraphM.fE
   have h3:G.pre (sOf b) s=true:=by rw [← h.ahead b s hs]; exact h2
   have h4:=G.pre_mono h.ok (hu.least Z hZ) s hs h3
   rw [h4,show sOf a s=true from h1]
   simp
theorem UInv.fin (h:GrN G nx all) {a b0 b:Nat} (hu:UInv G a b0 b) (he:orN b (andN a (aheadN nx b G.n))=b) : IsL G.n (G.fE (sOf a) (sOf b0)) (sOf b):=by
 refine grow_lfp (b:=sOf b0) (fun s hs hx=>?_) hu.least (fun X Y=>G.fE_mono h.ok _ _)
 unfold GraphM.fE at hx
 rw [Bool.or_eq_true,Bool.and_eq_true] at hx
 rcases hx with h1 | ⟨h1,h2⟩
 ·exact hu.up s hs h1
 ·have h3:(aheadN nx b G.n).testBit s=true:=by
   have:=h.ahead b s hs
   rw [show (aheadN nx b G.n).testBit s=sOf (aheadN nx b G.n) s from rfl,this]; exact h2
  show b.testBit s=true
  rw [← he,orN_bit,andN_bit,show a.testBit s=true from h1,h3]
  simp
theorem or_ge (a b:Nat) : a≤orN a b:=Nat.left_le_or
theorem and_le (a b:Nat) : andN a b≤a:=Nat.and_le_left
structure AInv (G:GraphM) (a0 a:Nat) : Prop where
 down:leS G.n (sOf a) (sOf a0)
 least:∀ Z,leS G.n (G.fA allS (notS (sOf a0)) Z) Z→leS G.n (notS (sOf a)) Z
theorem AInv.start {a0:Nat} : AInv G a0 a0:=⟨fun _ _ h=>h,fun Z hZ s hs h=>hZ s hs (by unfold GraphM.fA; rw [h]; rfl)⟩
theorem AInv.step (h:GrN G nx all) {a0 a:Nat} (ha:AInv G a0 a) : AInv G a0 (andN a (orN (aheadN nx a G.n) (endsN nx all G.n))):=by
 refine ⟨fun s hs hx=>?_,fun Z hZ s hs hx=>?_⟩
 ·have hx' : (andN a _).testBit s=true:=hx
  rw [andN_bit,Bool.and_eq_true] at hx'
  exact ha.down s hs hx'.1
 ·have hx' : (andN a (orN (aheadN nx a G.n) (endsN nx all G.n))).testBit s=false:=by simpa [notS,sOf] using hx
  rw [andN_bit,orN_bit] at hx'
  by_cases h1:a.testBit s=true
  ·rw [h1,Bool.true_and,Bool.or_eq_false_iff] at hx'
   have h2:G.pre (sOf a) s=false:=by rw [← h.ahead a s hs]; exact hx'.1
   have h3:G.ends s=false:=by rw [← h.ends_eq s hs]; exact hx'.2
   refine hZ s hs ?_
   have h4:=not_pre G (notS (sOf a)) s
   have h5:G.pre (notS (notS (sOf a))) s=false:=by
    have:notS (notS (sOf a))=sOf a:=by funext t; unfold notS; simp
    rw [this]; exact h2
   rw [h5] at h4
   have h6:G.post (notS (sOf a)) s=true:=by
    cases hp:G.post (notS (sOf a)) s with
    | true=>rfl
    | false=>rw [hp] at h4; cases h4
   have h7:=G.post_mono h.ok (ha.least Z hZ) s hs h6
   unfold GraphM.fA
   rw [h3,h7]
   simp [allS]
  ·exact ha.least Z hZ s hs (by simp [notS,sOf,h1])
theorem AInv.fin (h:GrN G nx all) {a0 a:Nat} (ha:AInv G a0 a) (he:andN a (orN (aheadN nx a G.n) (endsN nx all G.n))=a) : IsL G.n (G.fA allS (notS (sOf a0))) (notS (sOf a)):=by
 refine grow_lfp (b:=sOf a0) (fun s hs hx=>?_) ha.least (fun X Y=>G.fA_mono h.ok _ _)
 unfold GraphM.fA at hx
 rw [Bool.or_eq_true,Bool.and_eq_true,Bool.and_eq_true] at hx
 cases h1:a.testBit s with
 | false=>simp [notS,sOf,h1]
 | true =>
  exfalso
  have h2:=h1
  rw [← he,andN_bit,orN_bit,h1,Bool.true_and,Bool.or_eq_true] at h2
  rcases hx with h3 | ⟨_,h3,h4⟩
  ·have h5:=ha.down s hs h1
   simp only [notS,h5] at h3
   cases h3
  ·rcases h2 with h2 | h2
   ·have h5:G.pre (sOf a) s=true:=by rw [← h.ahead a s hs]; exact h2
    have h6:=not_pre G (notS (sOf a)) s
    rw [show notS (notS (sOf a))=sOf a by funext t; unfold notS; simp,h5,h4] at h6
    cases h6
   ·have h5:G.ends s=true:=by rw [← h.ends_eq s hs]; exact h2
    rw [h5] at h3
    cases h3
end Go.Ai
end
