/- A small verified interpreter over names, its proofs, and what was proved with it. No condition. -/
import Derived.Test.YtpimmmnkcgnjjaaGreatL03
import Derived.Test.YtpimmmnkcgnjjaaGreatL01
set_option linter.all false
set_option linter.deprecated false
section
namespace Go.Ai
open Go.RowKit (Below)
variable {B G:Nat} {P:Program} {ops:Array Oper} {tab:List Nat} {fr0:Fr}
variable {i:Nat} {o:Oper}
def GrF (r r' : ResF) : Prop:=∀ j v,r j=some v->r' j=some v
theorem GrF.refl (r:ResF) : GrF r r:=fun _ _ h=>h
theorem GrF.trans {a b c:ResF} (h:GrF a b) (k:GrF b c) : GrF a c:=fun j v e=>k j v (h j v e)
theorem a9m {res:ResF} {v:AV} {K:ResF->Prop} (h:a6o res i v K) : ∃ res',K res'/\GrF res res'/\res' i=some v:=by
 refine⟨_,h.2,fun j y hj=>?_,if_pos rfl⟩;unfold Dh;by_cases e:j=i
 ·subst e;rw[h.1] at hj;grind
 grind
def a9n (B:Nat) (P:Program) (ops:Array Oper) (tab:List Nat) (fr0:Fr) (res:ResF) (held:List Nat) (als:Als) (i:Nat) (o:Oper) : Prop :=
  ∃ r0 v,GrF r0 res/\res i=some v /\
    ((b1m tab r0 i o=some false/\v=.lit undef) \/
     (b1m tab r0 i o=some true /\
      ((cls o.op=.free/\∀ H,opV P H (Cf ops tab fr0 r0 i) o=.val v H) \/
       (cls o.op=.gen/\Ba P (Cf ops tab fr0 r0 i) o=some v) \/
       (cls o.op=.read/\i∈held) \/
       (∃ f x nm,(∀ (ρ:Rn) (w:World) (e:Operand->Value),EvR ρ (Cf ops tab fr0 r0 i) e->B<=w.heap.size->ND B P ρ w f x (execOp e o))/\v=f nm/\(i,nm,x)∈als))))
theorem a9n.mono {res res': ResF} {held held': List Nat} {als als': Als} (h:a9n B P ops tab fr0 res held als i o) (hg:GrF res res')
  (hh:i∈held->i∈held') (ha:∀ nm x,(i,nm,x)∈als->(i,nm,x)∈als') : a9n B P ops tab fr0 res' held' als' i o:=by
 obtain⟨r0,v,h1,h2,h3⟩:=h;refine⟨r0,v,h1.trans hg,hg _ _ h2,h3.imp id fun⟨h4,h5⟩=>⟨h4,h5.imp id fun h5=>h5.imp id fun h5=>h5.imp ?_ ?_⟩⟩
 ·grind
 ·exact fun⟨f,x,nm,a,b,c⟩=>⟨f,x,nm,a,b,ha _ _ c⟩
structure c3d (B:Nat) (P:Program) (ops:Array Oper) (tab:List Nat) (fr0:Fr) (L:List Nat) (res:ResF) (H:Mem) (held:List Nat) (als:Als) (res' : ResF) (H' : Mem) (held' : List Nat) (als' : Als) : Prop where
 gr:GrF res res'
 ph:Ph H H'
 keepH:∀ i∈held,i∈held'
 keepA:∀ x∈als,x∈als'
 new:∀ x∈als',x∈als\/H.next<=x.2.1
 ok:∀ n,n<=H.next->a1o n H als->a1o n H' als'
 known:∀ i∈L,∀ o,ops[i]?=some o->a9n B P ops tab fr0 res' held' als' i o
variable {L:List Nat} {res:ResF} {H:Mem} {held:List Nat} {als:Als} {K:StW}
theorem d1j {tab:List Nat} {res:ResF} {yes no:Prop} (h:b1n tab res i o yes no) :
  (b1m tab res i o=some true/\yes)\/(b1m tab res i o=some false/\no):=by
 unfold b1n at h;unfold b1m;split at h
 ·grind
 ·rename_i g hg;obtain⟨ha,h⟩:=h;unfold c3a;rw[ha];unfold a2s at h;split at h
  ·rename_i b hs;rw[hs];obtain⟨j,want⟩:=g;by_cases e:b=want
   ·left;refine⟨?_,h.1 e⟩;subst e;cases b<;>rfl
   ·right;have e2:b = !want:=by cases b<;>cases want<;>simp_all
    grind
  all_goals grind
theorem e3w (ho:ops[i]?=some o) (hk:Cu o.op=false) (hn:cls o.op≠.no) (h:b8n P ops tab fr0 i res H held als K) :
    ∃ res' H' held' als',K res' H' held' als'/\c3d B P ops tab fr0 [i] res H held als res' H' held' als':=by
  have only:∀ {res' : ResF} {held' : List Nat} {als' : Als},a9n B P ops tab fr0 res' held' als' i o->∀ j∈[i],∀ o',ops[j]?=some o'->a9n B P ops tab fr0 res' held' als' j o':=by
    grind
  unfold b8n at h;rw[ho] at h;dsimp only at h;rcases d1j h with⟨hw,h⟩|⟨hw,h⟩
  · have quietCase : ∀ (hc1 : cls o.op ≠ .alloc) (hc2 : cls o.op ≠ .read), a9k P H (Cf ops tab fr0 res i) o (fun v => a6o res i v fun res => K res H held als) ->
        ∃ res' H' held' als',K res' H' held' als'/\c3d B P ops tab fr0 [i] res H held als res' H' held' als':=by
      intro hc1 hc2 h;unfold a9k at h;split at h
      · rename_i v hv;obtain⟨res',h1,h2,h3⟩:=a9m h;refine⟨res',H,held,als,h1,h2,Ph.refl _,fun _ h=>h,fun _ h=>h,fun _ h=>.inl h,fun _ _ h=>h,only ?_⟩;refine⟨res,_,h2,h3,.inr ⟨hw,?_⟩⟩
        cases hc:cls o.op with
        | free =>
          left;refine⟨rfl,?_⟩;unfold quiet at hv;rw[hc] at hv;dsimp only at hv;have hf:freeOp o.op=true:=by
            cases hf:freeOp o.op with
            | true=>rfl
            | false =>
              (simp_all[cls];grind)
          split at hv
          · rename_i v' H' hv';cases hv;intro H2;have hfr:=c2j hf H v H' hv';grind
          grind
        | gen =>
          right;left;refine⟨rfl,?_⟩;grind[quiet]
        | read=>grind
        | alloc=>grind
        | chain=>grind[Cu]
        | no=>grind
      grind
    cases hc:cls o.op with
    | alloc =>
      rw[hc] at h;dsimp only at h
      cases hv:opV P H (Cf ops tab fr0 res i) o with
      | val v H' =>
        rw[hv] at h;dsimp only[c3b] at h;split at h
        · rename_i b hb;obtain⟨f,x,e1,e2,hnd⟩:=c2k (B:=B) hc hv;subst e1;subst e2;have hbx:b=x:=by
            rcases Mem.get_add hb with⟨_,e⟩|⟨e,_⟩
            all_goals grind
          subst hbx;obtain⟨res',h1,h2,h3⟩:=a9m h;refine⟨res',_,held,_,h1,h2,Ph.add _ _,fun _ h=>h,fun _ h=>g2p _ h,?_,fun n hn hk=>hk.cons hn i b b,only ?_⟩
          · grind
          · exact⟨res,_,h2,h3,.inr ⟨hw,.inr (.inr (.inr ⟨f,b,H.next,hnd,rfl,by simp⟩))⟩⟩
        grind
      | _=>rw[hv] at h;exact h.elim
    | read =>
      rw[hc] at h;dsimp only at h;unfold a9k at h;split at h
      · rename_i v hv;obtain⟨res',h1,h2,h3⟩:=a9m h;refine⟨res',H,i :: held,als,h1,h2,Ph.refl _,fun _ h=>g2p _ h,fun _ h=>h,fun _ h=>.inl h,fun _ _ h=>h,only ?_⟩;exact⟨res,_,h2,h3,.inr ⟨hw,.inr (.inr (.inl ⟨hc,by simp⟩))⟩⟩
      grind
    | free=>grind
    | gen=>grind
    | chain=>grind
    | no=>grind
  · obtain⟨res',h1,h2,h3⟩:=a9m h;exact⟨res',H,held,als,h1,h2,Ph.refl _,fun _ h=>h,fun _ h=>h,fun _ h=>.inl h,fun _ _ h=>h,only ⟨res,_,h2,h3,.inl ⟨hw,rfl⟩⟩⟩
theorem stageW_sound:∀ (L:List Nat) (res:ResF) (H:Mem) (held:List Nat) (als:Als),(∀ i∈L,∃ o,ops[i]?=some o/\Cu o.op=false/\cls o.op≠.no) ->
  b1o P ops tab fr0 K L res H held als->∃ res' H' held' als',K res' H' held' als'/\c3d B P ops tab fr0 L res H held als res' H' held' als'
 | [],res,H,held,als,_,h=>⟨res,H,held,als,h,GrF.refl _,Ph.refl _,fun _ h=>h,fun _ h=>h,fun _ h=>.inl h,fun _ _ h=>h,fun _ h=>by cases h⟩
 | i :: L,res,H,held,als,hL,h=>by
  obtain⟨o,ho,hk,hn⟩:=hL i (by simp);obtain⟨r1,H1,hd1,al1,h1,f1⟩:=e3w (B:=B) ho hk hn h;obtain⟨r2,H2,hd2,al2,h2,f2⟩:=stageW_sound L r1 H1 hd1 al1 (fun i hi=>hL i (by grind)) h1;refine⟨r2,H2,hd2,al2,h2,f1.gr.trans f2.gr,f1.ph.trans f2.ph,fun i hi=>f2.keepH i (f1.keepH i hi),fun x hx=>f2.keepA x (f1.keepA x hx),?_,?_,?_⟩
  ·intro x hx;rcases f2.new x hx with h|h
   ·exact f1.new x h
   ·exact .inr (Ec f1.ph.le h)
  ·intro n hn hk;exact f2.ok n (Ec hn f1.ph.le) (f1.ok n hn hk)
  ·intro j hj o' ho';rcases Dz.1 hj with rfl|hj
   ·exact(f1.known j (by simp) o' ho').mono f2.gr (fun h=>f2.keepH _ h) fun nm x h=>f2.keepA _ h
   ·exact f2.known j hj o' ho'
noncomputable def d1k (P:Program) (W:WF) (ops:Array Oper) (tab:List Nat) (fr:Fr) (all:List Nat) (Q:Out->Prop) (k:Nat) (cs:List Nat) (res:ResF) (H:Mem) (held:List Nat) (als:Als) : Prop :=
 match cs with
 | []=>a7u res (fun fr=>Q (.norm fr H)) ops.toList 0 fr
 | c :: cs=>b5k P W ops tab fr c res H (fun res H=>b3g P W ops tab fr all Q (k+1) cs res H (a4j tab c held) (a3i tab c als)) Q
def b8q (P:Program) (W:WF) (ops:Array Oper) (tab:List Nat) (fr:Fr) (all:List Nat) (Q:Out->Prop) (k:Nat) (cs:List Nat) (res:ResF) (H:Mem) (held:List Nat) (als:Als) : Prop :=
 a7s P ops tab fr res H held/\a7t H als/\d1k P W ops tab fr all Q k cs res H held als
theorem b8r {W:WF} {Q:Out->Prop} (all:List Nat) (k:Nat) (cs:List Nat) (res:ResF) (H:Mem) (held:List Nat) (als:Als) :
  b3g P W ops tab fr0 all Q k cs res H held als=b1o P ops tab fr0 (fun res H held als=>b8q P W ops tab fr0 all Q k cs res H held als) (a1x tab all k ops.toList 0) res H held als:=by
 cases cs<;>rfl
theorem d1l {res:ResF} {H:Mem} : ∀ {held:List Nat},a7s P ops tab fr0 res H held->∀ i∈held,∃ o v,ops[i]?=some o/\res i=some v/\quiet P H (Cf ops tab fr0 res i) o=some v
 | [],_,_,h=>by cases h
 | j :: held,h,i,hi=>by
  rcases Dz.1 hi with rfl|hi
  ·have h1:=h.1;split at h1
   ·rename_i o ho;obtain⟨v,hv,hq⟩:=h1;exact⟨o,v,ho,hv,hq⟩
   ·exact h1.elim
  ·exact d1l h.2 i hi
theorem d1m {H:Mem} : ∀ {als:Als},a7t H als->∀ i nm x,(i,nm,x)∈als->H.get nm=some x
 | [],_,_,_,_,h=>by cases h
 | (j,a,b) :: als,h,i,nm,x,hx=>by
  rcases Dz.1 hx with e|hx
  ·cases e;exact h.1
  ·exact d1m h.2 i nm x hx
end Go.Ai
end
section
namespace Go.Ai
open Go.RowKit (Below)
variable {B G n n0:Nat} {P:Program} {ops:Array Oper} {fr0:Fr} {ρ0 ρ:Rn} {w0 w:World} {dn cs:List Nat} {res:ResF} {H:Mem} {held:List Nat} {als:Als} {listed:Array Bool} {a:Act} {Q:Out→Prop} {W:WF}
variable {i:Nat} {o:Oper}
structure a6r (B G n n0:Nat) (P:Program) (ops:Array Oper) (fr0:Fr) (ρ0:Rn) (w0:World) (dn cs:List Nat) (res:ResF) (H:Mem) (held:List Nat) (als:Als) (listed:Array Bool) (ρ:Rn) (a:Act) (w:World) : Prop where
 ext:Ext B n0 ρ0 w0 ρ w
 sim:Sim B G ρ H w
 le:n0<=H.next
 size:listed.size=ops.size
 tsz:n<=a.tmps.size
 dfr:DR ρ fr0.defers a.defers
 only:∀ t v,fr0.get t=some v->t<n
 chain:chainOf ops.toList 0=dn++cs
 csN:∀ c∈cs,¬Dn listed c
 down:∀ i o,Dn listed i->ops[i]?=some o->∀ e∈o.after.toList,Region.binds .any e=true->Dn listed e.on
 old:∀ t,(∀ j,a3w t ops.toList 0=some j->¬Dn listed j)->∀ v,fr0.get t=some v->VR ρ v (a.tmps.getD t undef)
 new:∀ j o,Dn listed j->ops[j]?=some o->∃ v,res j=some v/\∀ d,o.dst=some d->VR ρ v (a.tmps.getD d undef)
 known:∀ i o,¬Dn listed i->ops[i]?=some o->Cu o.op=false->a1n (ancs [] ops.toList) i (dn++cs)<=dn.length->a9n B P ops (ancs [] ops.toList) fr0 res held als i o
 aok:a1o n0 H als
 alsN:∀ x∈als,¬Dn listed x.1->ρ x.2.1=none
theorem Rd.ancW {j:Nat} (r:Rd ops listed i o) (d:a6r B G n n0 P ops fr0 ρ0 w0 dn cs res H held als listed ρ a w) (h:Aw (ancs [] ops.toList) i j=true) : Dn listed j :=
 b8a (listed:=Dn listed) d.down i o j r.at' r.all h
theorem Rd.not_ancW {j:Nat} (r:Rd ops listed i o) (d:a6r B G n n0 P ops fr0 ρ0 w0 dn cs res H held als listed ρ a w) (hj:j<ops.size) (h:Aw (ancs [] ops.toList) j i=true) : ¬Dn listed j:=by
 intro hd;obtain⟨oj,hoj⟩ : ∃ oj,ops[j]?=some oj:=⟨ops[j],by grind⟩;exact r.un (b8a (listed:=Dn listed) d.down j oj i hoj (d.down j oj hd hoj) h)
theorem c3e {r0:ResF} (d:a6r B G n n0 P ops fr0 ρ0 w0 dn cs res H held als listed ρ a w) (r:Rd ops listed i o) (hg:GrF r0 res) :
  EvR ρ (Cf ops (ancs [] ops.toList) fr0 r0 i) a.eval:=by
 intro x v hx
 cases x with
 | tmp t =>
  have hx' : a3z ops (ancs [] ops.toList) fr0 r0 i t=some v:=hx;unfold a3z at hx';split at hx'
  ·rename_i hw;exact d.old t (fun j hj=>by grind) v hx'
  ·rename_i j hw;obtain⟨_,oj,hoj,hdj⟩:=a9f hw;have hoj' : ops[j]?=some oj:=Cm.1 (by grind);split at hx'
   ·rename_i ha;obtain⟨y,hy,hv⟩:=d.new j oj (r.ancW d ha) hoj';have:=hg _ _ hx';rw[this] at hy;cases hy;exact hv t hdj
   ·split at hx'
    ·rename_i ha;refine d.old t (fun j' hj'=>?_) v hx';rw[hw] at hj';cases hj';rcases g3w _ _ ▸ ha with h1|h1
     ·exact r.not_ancW d (a2g hoj') h1
     ·have:=Eh h1;subst this;exact r.un
    grind
 | const c=>cases hx;rfl
 | global g=>cases hx;rfl
 | func f=>cases hx;rfl
theorem d1n {r0:ResF} {b:Bool} (hfit:fit ops.toList ops.toList 0=true) (hdst:∀ (j:Nat) (o:Oper),ops[j]?=some o->Db n o=true)
  (d:a6r B G n n0 P ops fr0 ρ0 w0 dn cs res H held als listed ρ a w) (r:Rd ops listed i o) (hg:GrF r0 res) (h:b1m (ancs [] ops.toList) r0 i o=some b) :
  Region.wanted o (yielded ops a.tmps)=b:=by
 unfold b1m at h;split at h
 ·grind[Region.wanted]
 ·rename_i g hgd;obtain⟨j,want⟩:=g;have hone:=a9g hfit i o (Cm.2 r.at');unfold a7l at hone;simp only[Ds] at hone;have hgo:=hone.2;rw[hgd] at hgo;dsimp only at hgo;split at hgo
  ·rename_i oj hoj;have hoj' : ops[j]?=some oj:=Cm.1 hoj;obtain⟨t,ht⟩:=Option.isSome_iff_exists.1 hgo;have slot:∀ {v:AV},Aw (ancs [] ops.toList) i j=true->r0 j=some v->∃ u,a.tmps[t]?=some u/\VR ρ v u:=by
    intro v ha hv;obtain⟨y,hy,hv'⟩:=d.new j oj (r.ancW d ha) hoj';rw[hg _ _ hv] at hy;cases hy;have hlt:t<n:=a3y (hdst j oj hoj') t ht;have hsz:t<a.tmps.size:=Et hlt d.tsz;simp_all
   unfold c3a at h;split at h
   ·rename_i b' ha hb;obtain⟨u,hu,hv⟩:=slot ha hb;cases hv;have hyl:yielded ops a.tmps j=some b':=by grind[yielded]
    simp only[Region.wanted,hgd,hyl];revert h;cases b'<;>cases want<;>simp<;>exact fun h=>h ▸ rfl
   ·rename_i vs ha hb;obtain⟨u,hu,hv⟩:=slot ha hb;cases hv;grind[yielded,Region.wanted]
   grind
  grind
theorem a6r.go {ρ': Rn} {w': World} {u:Value} {v:AV} {dn' cs': List Nat} {res': ResF} {H': Mem} {held': List Nat} {als': Als}
  (hfit:fit ops.toList ops.toList 0=true) (hdst:∀ (j:Nat) (o:Oper),ops[j]?=some o->Db n o=true)
  (d:a6r B G n n0 P ops fr0 ρ0 w0 dn cs res H held als listed ρ a w) (r:Rd ops listed i o)
  (hext:Ext B n0 ρ w ρ' w') (hsub:Sub ρ ρ') (hs:Sim B G ρ' H' w') (hle:n0<=H'.next) (hgr:GrF res res') (hv:res' i=some v) (hr:VR ρ' v u)
  (hchain:chainOf ops.toList 0=dn'++cs') (hcs:∀ c∈cs',c≠i/\c∈cs)
  (hkn:∀ j oj,j≠i->¬Dn listed j->ops[j]?=some oj->Cu oj.op=false->a1n (ancs [] ops.toList) j (dn'++cs')<=dn'.length->a9n B P ops (ancs [] ops.toList) fr0 res' held' als' j oj)
  (haok:a1o n0 H' als') (haln:∀ x∈als',x.1≠i->¬Dn listed x.1->ρ' x.2.1=none) :
  a6r B G n n0 P ops fr0 ρ0 w0 dn' cs' res' H' held' als' (listed.setIfInBounds i true) ρ' (a.put o.dst u) w':=by
 have hi:i<listed.size:=by rw[d.size];exact a2g r.at'
 have dset:∀ j,Dn (listed.setIfInBounds i true) j↔j=i\/Dn listed j:=fun j=>Dn.set hi;refine⟨d.ext.trans hext (Dp _),hs,hle,by simp[d.size],by rw[d0n];exact d.tsz,by rw[b3e];exact d.dfr.mono hsub,d.only,hchain,?_,?_,?_,?_,?_,haok,?_⟩
 ·intro c hc hd;rcases (dset c).1 hd with e|h
  ·grind
  ·exact d.csN c (hcs c hc).2 h
 ·intro j oj hj hoj e he hb;rcases (dset j).1 hj with e1|h
  ·subst e1;rw[r.at'] at hoj;cases hoj;exact(dset _).2 (.inr (r.all e he hb))
  ·exact(dset _).2 (.inr (d.down j oj h hoj e he hb))
 ·intro t ht y hy;have hne:o.dst≠some t:=fun e=>ht i (b3d hfit r.at' e) ((dset i).2 (.inl rfl));rw[b8g hne];exact(d.old t (fun j hj hd=>ht j hj ((dset j).2 (.inr hd))) y hy).mono hsub
 ·intro j oj hj hoj;by_cases e:j=i
  ·subst e;rw[r.at'] at hoj;cases hoj;refine⟨v,hv,fun t ht=>?_⟩;have hlt:t<a.tmps.size:=Et (a3y (hdst j _ r.at') t ht) d.tsz;grind[d0m]
  ·rcases (dset j).1 hj with e1|h
   ·grind
   ·obtain⟨y,h1,h2⟩:=d.new j oj h hoj;refine⟨y,hgr _ _ h1,fun t ht=>?_⟩;have hne:o.dst≠some t:=by
     intro e1;have h3:=b3d hfit r.at' e1;rw[b3d hfit hoj ht] at h3;grind
    rw[b8g hne];exact(h2 t ht).mono hsub
 all_goals grind
structure b5l (B G n n0:Nat) (P:Program) (W:WF) (ops:Array Oper) (fr0:Fr) (ρ0:Rn) (w0:World) (Q:Out->Prop) (listed:Array Bool) (a:Act) (w:World) : Prop where
 go:∃ dn cs res H held als ρ,a6r B G n n0 P ops fr0 ρ0 w0 dn cs res H held als listed ρ a w/\(∀ c∈dn,Dn listed c)/\(∀ x∈als,G<=x.2.1) /\
  b8q P W ops (ancs [] ops.toList) fr0 (dn++cs) Q dn.length cs res H held als
theorem e3x (hG:G=P.globals.size) (hfit:fit ops.toList ops.toList 0=true) (hdst:∀ (j:Nat) (o:Oper),ops[j]?=some o->Db n o=true)
  (hGn:∀ x∈als,G<=x.2.1) (d:a6r B G n n0 P ops fr0 ρ0 w0 dn cs res H held als listed ρ a w) (hdl:∀ c∈dn,Dn listed c)
  (hg:b8q P W ops (ancs [] ops.toList) fr0 (dn++cs) Q dn.length cs res H held als) (r:Rd ops listed i o) (hc:Cu o.op=false)
  {K:Act->World->Prop} (hK:∀ a' w',b5l B G n n0 P W ops fr0 ρ0 w0 Q (listed.setIfInBounds i true) a' w'->K a' w') :
  wpOp P ops (a2t B G n n0 ρ0 w0 Q) i K a w:=by
 have hg0:=hg;obtain⟨hre,hst,_⟩:=hg;have hcnt:a1n (ancs [] ops.toList) i (dn++cs)<=dn.length:=by
  refine c2l fun c hcm=>?_
  cases hb:Aw (ancs [] ops.toList) i c with
  | false=>rfl
  | true=>exact absurd (r.ancW d hb) (d.csN c hcm)
 obtain⟨r0,v,hgr,hv,hk⟩:=d.known i o r.un r.at' hc hcnt;have hno:=a9j hfit r.at';have hci:∀ c∈cs,c≠i/\c∈cs:=by
  intro c hcm;refine⟨?_,hcm⟩;rintro rfl;have hmem:c∈chainOf ops.toList 0:=by rw[d.chain];grind
  obtain⟨_,o',ho',hch⟩:=mem_chainOf.1 hmem;have h2:ops[c]?=some o':=Cm.1 (by grind);rw[r.at'] at h2;grind
 have fin' : ∀ (ρ' : Rn) (u:Value) (w' : World),Ext B n0 ρ w ρ' w'->Sub ρ ρ'->Sim B G ρ' H w'->VR ρ' v u->(∀ x∈als,x.1≠i->¬Dn listed x.1->ρ' x.2.1=none)->K (a.put o.dst u) w':=by
  intro ρ' u w' he hsub hs hvr haln;refine hK _ _ ⟨dn,cs,res,H,held,als,ρ',?_,fun c hc'=>(Dn.set (by rw[d.size];exact a2g r.at')).2 (.inr (hdl c hc')),hGn,hg0⟩;exact d.go hfit hdst r he hsub hs d.le (GrF.refl _) hv hvr d.chain hci (fun j oj _ hj hoj hcj hn=>d.known j oj hj hoj hcj hn) d.aok haln
 have hev:=c3e d r hgr;have base:=fun b hb=>d1n (b:=b) hfit hdst d r hgr hb;unfold wpOp;rw[r.at'];dsimp only;rcases hk with⟨hw,rfl⟩|⟨hw,hk⟩
 ·rw[if_neg (by grind)];exact fin' ρ undef w (Ext.refl _ _ _ _) (Sub.refl _) d.sim rfl (fun x hx _ hd=>d.alsN x hx hd)
 ·rw[if_pos (base _ hw)];left;have val:RS B G P ρ H w (.val v H) (execOp a.eval o)->o.wp P a w K (a2t B G n n0 ρ0 w0 Q):=by
   rintro⟨ρ',u,w',h1,h2,h3,h4,_⟩;unfold Oper.wp;rw[h1];refine fin' ρ' u w' ⟨fun x hx=>h2.same x (Et hx d.le),h2.keeps,h2.below⟩ (h2.sub d.sim) h3 h4 fun x hx _ hd=>?_;rw[h2.same _ (d.aok.hi x hx)];exact d.alsN x hx hd
  rcases hk with⟨_,hfree⟩|⟨_,hgen⟩|⟨hcl,hh⟩|⟨f,x,nm,hnd,rfl,hmem⟩
  ·have:=a6k (o:=o) d.sim hev hG;grind
  ·have:=b1f (B:=B) (G:=G) (P:=P) (H:=H) d.sim hev (d0o hno);rw[hgen] at this;exact val this
  ·obtain⟨o',v',ho',hv',hq⟩:=d1l hre i hh;rw[r.at'] at ho';cases ho';rw[hv] at hv';cases hv';have hev':=c3e d r (GrF.refl res);have:=a6k (o:=o) d.sim hev' hG;grind[d0p]
  ·have hnm:=d.alsN _ hmem r.un;have hget:=d1m hst i nm x hmem;obtain⟨ob,k,u,w',h1,h2,h3,h4,h5,hdr,h6⟩:=hnd ρ w a.eval hev d.sim.base;obtain⟨hb,hvr⟩:=h6 nm hnm;have hlo:n0<=nm:=d.aok.lo _ hmem;have hhi:nm<H.next:=d.aok.hi _ hmem;unfold Oper.wp;rw[h1];refine fin' _ u w' ?_ (a6j hnm) (d.sim.named hget hnm hhi (hGn _ hmem) h2 hb) hvr fun y hy hyi hyd=>?_
   ·exact⟨fun y hy=>a0g _ _ (Nat.ne_of_lt (Et hy hlo)),KD.push h2,(Ext.alloc ρ n0 (w.heap.size,0,k) w w' ob h2 h3 h4 h5 d.sim.base).below⟩
   ·have:y.2.1≠nm:=by
     intro e;have:=d.aok.own y hy _ hmem e;grind
    rw[a0g _ _ this];exact d.alsN y hy hyd
theorem e3y (hW:WOK G P W) {i:Nat} {o:Oper} (hG:G=P.globals.size) (hord:a5i (ancs [] ops.toList) (chainOf ops.toList 0)=true) (hfit:fit ops.toList ops.toList 0=true)
  (hdst:∀ (j:Nat) (o:Oper),ops[j]?=some o->Db n o=true)
  (hGn:∀ x∈als,G<=x.2.1) (d:a6r B G n n0 P ops fr0 ρ0 w0 dn cs res H held als listed ρ a w) (hdl:∀ c∈dn,Dn listed c)
  (hg:b8q P W ops (ancs [] ops.toList) fr0 (dn++cs) Q dn.length cs res H held als) (r:Rd ops listed i o) (hc:Cu o.op=true)
  {K:Act->World->Prop} (hK:∀ a' w',b5l B G n n0 P W ops fr0 ρ0 w0 Q (listed.setIfInBounds i true) a' w'->K a' w') :
  wpOp P ops (a2t B G n n0 ρ0 w0 Q) i K a w:=by
 obtain⟨hre,hst,hn⟩:=hg;have hmem:i∈dn++cs:=by
  rw[<- d.chain];exact mem_chainOf.2 ⟨Du _,o,by simpa using r.at',hc⟩
 rcases Eg.1 hmem with h|hics
 ·exact absurd (hdl i h) r.un
 cases cs with
 | nil=>grind
 | cons c cs =>
 have hic:i=c:=by
  rcases Dz.1 hics with h|h
  ·exact h
  ·obtain⟨p,hp,ha⟩:=b5h (dn:=dn) (c:=c) (cs:=cs) (by rw[<- d.chain];omega) i h;exact absurd (r.ancW d ha) (d.csN p hp)
 subst hic;have hi:i<listed.size:=by rw[d.size];exact a2g r.at'
 have hnd:(dn++i :: cs)=(dn++[i])++cs:=by simp
 have hcs:∀ c∈cs,c≠i/\c∈i :: cs:=by
  intro c hcm;refine⟨?_,g2p _ hcm⟩;rintro rfl;obtain⟨p,hp,ha⟩:=b5h (dn:=dn) (c:=c) (cs:=cs) (by rw[<- d.chain];omega) c hcm;exact absurd (r.ancW d ha) (d.csN p hp)
 have nxt' : ∀ (v:AV) (H' : Mem) (ρ' : Rn) (u:Value) (w' : World) (res' : ResF),GrF res res'->res' i=some v->Ext B H.next ρ w ρ' w'->Sim B G ρ' H' w'->VR ρ' v u->H.next<=H'.next ->
   b3g P W ops (ancs [] ops.toList) fr0 (dn++i :: cs) Q (dn.length+1) cs res' H' (a4j (ancs [] ops.toList) i held) (a3i (ancs [] ops.toList) i als)->K (a.put o.dst u) w':=by
  intro v H' ρ' u w' res' hgr hv he hs hvr hle hst';rw[b8r] at hst';obtain⟨res2,H2,held2,als2,h1,f⟩:=stageW_sound (B:=B) (a1x (ancs [] ops.toList) (dn++i :: cs) (dn.length+1) ops.toList 0) res' H' _ _ (by
   grind[a5k,a9j]) hst'
  have hlen:(dn++[i]).length=dn.length+1:=by simp
  refine hK _ _ ⟨dn++[i],cs,res2,H2,held2,als2,ρ',?_,?_,?_,?_⟩
  ·refine d.go hfit hdst r ⟨fun x hx=>he.same x (Et hx d.le),he.keeps,he.below⟩ (he.sub d.sim) (f.ph.sim hs) (Ec d.le (Ec hle f.ph.le)) (hgr.trans f.gr) (f.gr _ _ hv) hvr
    (by rw[d.chain,hnd]) hcs ?_ ?_ ?_
   ·intro j oj hji hjn hoj hcj hcnt;rw[hlen,<- hnd] at hcnt;rcases g3a (a1n (ancs [] ops.toList) j (dn++i :: cs)) (dn.length+1) with h|h
    ·have hna:Aw (ancs [] ops.toList) i j=false:=by
      cases hb:Aw (ancs [] ops.toList) i j with
      | false=>rfl
      | true=>exact absurd (r.ancW d hb) hjn
     exact(d.known j oj hjn hoj hcj (by omega)).mono (hgr.trans f.gr) (fun h=>f.keepH _ (b8d hna h)) fun nm x h=>f.keepA _ (b8e hna h)
    ·exact f.known j (a5k.2 ⟨Du _,oj,by grind,hcj,by omega⟩) oj hoj
   ·exact f.ok n0 (Ec d.le hle) (d.aok.sub (fun x hx=>a9i x hx) hle)
   ·intro x hx hxi hxn;rcases f.new x hx with h|h
    ·have hx':=a9i x h;rw[he.same _ (d.aok.hi x hx')];exact d.alsN x hx' hxn
    ·exact hs.fresh _ h
  ·grind[Dn.set]
  ·intro x hx;rcases f.new x hx with h|h
   ·grind[a9i]
   ·exact Ec hs.names h
  grind
 have hev:=c3e d r (GrF.refl res);have base:=fun b hb=>d1n (b:=b) hfit hdst d r (GrF.refl res) hb;unfold wpOp;rw[r.at'];dsimp only;unfold d1k b5k at hn;dsimp only at hn;rw[r.at'] at hn;dsimp only at hn;rcases d1j hn with⟨hw,hm⟩|⟨hw,hm⟩
 ·rw[if_pos (base _ hw)];left;have hrs:=a6k (o:=o) d.sim hev hG;unfold Oper.wp
  cases hr:opV P H (Cf ops (ancs [] ops.toList) fr0 res i) o with
  | val v H' =>
   rw[hr] at hrs hm;obtain⟨ρ',u,w',h1,h2,h3,h4,h5⟩:=hrs;rw[h1];simp only[b8o] at hm;obtain⟨res',g1,g2,g3⟩:=a9m hm;exact nxt' v H' ρ' u w' res' g2 g3 h2 h3 h4 h5 g1
  | skip H' =>
   rw[hr] at hrs hm;obtain⟨ρ',w',h1,h2,h3,h5⟩:=hrs;rw[h1];simp only[b8o] at hm;obtain⟨res',g1,g2,g3⟩:=a9m hm;exact nxt' _ H' ρ' undef w' res' g2 g3 h2 h3 rfl h5 g1
  | enter f args H' =>
   rw[hr] at hrs hm;obtain⟨us,h1,h2,rfl⟩:=hrs;rw[h1];have hm':=hW _ _ _ _ (show W f args H' _ from hm);refine(hm' B ρ us w d.sim h2).mono fun e w' ⟨r',hkr,hc'⟩=>?_
   cases r' with
   | bad=>grind
   | ret v H2 =>
    obtain⟨res',g1,g2,g3⟩:=a9m hkr
    cases e with
    | returned u =>
     obtain⟨ρ',k1,k2,k3,k4⟩:=hc';grind
    | panicked chain=>exact hc'.elim
    | outgrown=>exact hc'.elim
   | panic v H2 =>
    cases e with
    | returned u=>exact hc'.elim
    | panicked chain =>
     obtain⟨ρ',u,g0,g1,g2,g3,g4⟩:=hc';refine⟨_,hkr,ρ',u,g0,g1,?_,g3,?_,Ec d.le g4⟩
     ·exact d.ext.trans ⟨fun x hx=>g2.same x (Et hx d.le),g2.keeps,g2.below⟩ (Dp _)
     ·exact⟨(fun t v hv _=>(by grind[Fr.get_clear])),(by rw[Fr.defers_clear];exact d.dfr.mono (g2.sub d.sim)),d.tsz,(fun t v hv=>(by grind[Fr.get_clear]))⟩
    | outgrown=>exact hc'.elim
  | dfr fn cap args H'=>rw[hr] at hm;exact hm.elim
  | recover=>rw[hr] at hm;exact hm.elim
  | panic v H'=>rw[hr] at hm;exact hm.elim
  | bad=>rw[hr] at hm;exact hm.elim
 ·rw[if_neg (by grind)];obtain⟨res',h1,h2,h3⟩:=a9m hm;exact nxt' _ H ρ undef w res' h2 h3 (Ext.refl _ _ _ _) d.sim rfl (Dp _) h1
theorem d1o {res:ResF} {K:Fr->Prop} : ∀ (l:List Oper) (i:Nat) (fr:Fr),a7u res K l i fr ->
  ∃ fr',K fr'/\fr'.defers=fr.defers/\∀ t v,fr'.get t=some v->(∃ j o,l[j]?=some o/\o.dst=some t/\res (i+j)=some v)\/((∀ o∈l,o.dst≠some t)/\fr.get t=some v)
 | [],i,fr,h=>⟨fr,h,rfl,fun t v hv=>.inr ⟨(fun _ h=>(by cases h)),hv⟩⟩
 | o :: l,i,fr,h=>by
  unfold a7u at h;split at h
  ·rename_i v hv;obtain⟨fr',h1,h2,h3⟩:=d1o l (i+1) _ h;refine⟨fr',h1,?_,?_⟩
   ·rw[h2];unfold Fr.put;grind[Fr.defers_upd]
   ·intro t y hy;rcases h3 t y hy with⟨j,oj,hj,hd,hr⟩|⟨hd,hg⟩
    ·exact .inl ⟨j+1,oj,by grind,hd,by grind⟩
    ·cases hdo:o.dst with
     | none =>
      rw[hdo] at hg;exact .inr ⟨fun o' ho'=>by grind,hg⟩
     | some d =>
      rw[hdo] at hg;have hg' : (fr.upd d v).get t=some y:=hg;rcases Fr.get_upd hg' with⟨rfl,rfl⟩|⟨hne2,hg'⟩
      ·exact .inl ⟨0,o,rfl,hdo,hv⟩
      grind
  grind
theorem d1p (hfit:fit ops.toList ops.toList 0=true) (hr:Region.ready .any ops listed=[]) (g:b5l B G n n0 P W ops fr0 ρ0 w0 Q listed a w)
  (hdst:∀ (j:Nat) (o:Oper),ops[j]?=some o->Db n o=true) : a2t B G n n0 ρ0 w0 Q .normal a w:=by
 obtain⟨dn,cs,res,H,held,als,ρ,d,hdl,hGn,hg⟩:=g.go;have hall:=d0r hfit d.size hr;obtain⟨_,_,hn⟩:=hg
 cases cs with
 | cons c cs =>
  exfalso;refine d.csN c (by simp) (hall c ?_);have hmem:c∈chainOf ops.toList 0:=by rw[d.chain];simp
  grind[mem_chainOf]
 | nil =>
  have hn' : a7u res (fun fr=>Q (.norm fr H)) ops.toList 0 fr0:=hn;obtain⟨fr',h1,h2,h3⟩:=d1o ops.toList 0 fr0 hn';have key:∀ t v,fr'.get t=some v->t<n/\VR ρ v (a.tmps.getD t undef):=by
   intro t v hv;rcases h3 t v hv with⟨j,o,hj,hd,hrs⟩|⟨hd,hg0⟩
   ·have hj' : ops[j]?=some o:=Cm.1 hj;rw[g2n] at hrs;obtain⟨y,hy,hv'⟩:=d.new j o (hall j (a2g hj')) hj';rw[hrs] at hy;cases hy;exact⟨a3y (hdst j o hj') t hd,hv' t hd⟩
   ·refine⟨d.only t v hg0,d.old t (fun j hj=>?_) v hg0⟩;obtain⟨_,o,ho,hdo⟩:=a9f hj;grind
  exact⟨_,h1,ρ,d.ext,d.sim,⟨fun t v hv _=>(key t v hv).2,by rw[h2];exact d.dfr,d.tsz,fun t v hv=>(key t v hv).1⟩,d.le⟩
theorem e3z (hW:WOK G P W) (hG:G=P.globals.size) (hord:a5i (ancs [] ops.toList) (chainOf ops.toList 0)=true) (hfit:fit ops.toList ops.toList 0=true)
  (hdst:∀ (j:Nat) (o:Oper),ops[j]?=some o->Db n o=true) : ∀ (fuel:Nat) (listed:Array Bool) (a:Act) (w:World),
  (∃ l:List Nat,l.Nodup/\l.length=fuel/\∀ i,i<ops.size->Dn listed i\/i∈l)->b5l B G n n0 P W ops fr0 ρ0 w0 Q listed a w ->
  wpAny P .any ops (a2t B G n n0 ρ0 w0 Q) fuel listed a w:=by
 intro fuel
 induction fuel with
 | zero =>
  rintro listed a w ⟨l,_,hl,hc⟩ g;have hnil:l=[]:=g2i.1 hl;subst hnil;have hr:Region.ready .any ops listed=[]:=by
   cases hx:Region.ready .any ops listed with
   | nil=>rfl
   | cons i is =>
    exfalso;obtain⟨o,ro⟩:=b8f (ops:=ops) (listed:=listed) (i:=i) (by grind);rcases hc i (a2g ro.at') with h|h
    ·exact ro.un h
    grind
  exact⟨hr,d1p hfit hr g hdst⟩
 | succ fuel ih =>
  rintro listed a w ⟨l,hnd,hl,hc⟩ g;refine⟨fun hr=>d1p hfit hr g hdst,fun i hi=>?_⟩;obtain⟨o,ro⟩:=b8f hi;obtain⟨dn,cs,res,H,held,als,ρ,d,hdl,hGn,hg⟩:=g.go;have hil:i∈l:=(hc i (a2g ro.at')).resolve_left ro.un;have hsz:i<listed.size:=by rw[d.size];exact a2g ro.at'
  have hK:∀ a' w',b5l B G n n0 P W ops fr0 ρ0 w0 Q (listed.setIfInBounds i true) a' w'->wpAny P .any ops (a2t B G n n0 ρ0 w0 Q) fuel (listed.setIfInBounds i true) a' w':=by
   intro a' w' g';refine ih _ a' w' ⟨l.erase i,hnd.erase i,by grind,fun j hj=>?_⟩ g';grind[Dn.set]
  grind[e3y,e3x,Cu]
theorem d1q (hW:WOK G P W) {id:Nat} (hG:G=P.globals.size) (s:St B G n n0 ρ0 w0 ρ fr0 H a w) (hd:Bg n (.region id ops true)=true)
  (h:b8p P W ops fr0 H Q) (t:Nat) : wpOps P ops (a2t B G n n0 ρ0 w0 Q) (Region.schedule (P.follows .mixedOrders) ops t) a { w with drawn:=w.drawn+1 }:=by
 obtain⟨hplan,hmix,hout⟩:=h;unfold b2w at hplan;simp only[Ds] at hplan;obtain⟨⟨_,hord⟩,hfit⟩:=hplan;have hdst:∀ (j:Nat) (o:Oper),ops[j]?=some o->Db n o=true:=fun j o hj=>Eb.1 hd o (g2l (Cm.2 hj));simp only[Region.schedule,hmix,g4a,if_true];refine wpAny_sound ops.size t _ a _ ?_;have un:∀ i,¬Dn (Array.replicate ops.size false) i:=by
  (simp_all[Dn];grind)
 refine e3z (fr0:=fr0) (ρ0:=ρ0) (w0:=w0) hW hG hord hfit hdst ops.size _ a _ ⟨List.range ops.size,List.nodup_range,by simp,fun i hi=>.inr (by grind)⟩ ?_;rw[b8r] at hout;obtain⟨res2,H2,held2,als2,h1,f⟩:=stageW_sound (B:=B) (a1x (ancs [] ops.toList) (chainOf ops.toList 0) 0 ops.toList 0) (fun _=>none) H [] [] (by
  grind[a5k,a9j]) hout
 have hs:Sim B G ρ H { w with drawn:=w.drawn+1 }:=s.sim.heap rfl;have hb:Below B w { w with drawn:=w.drawn+1 }:=⟨rfl,rfl,rfl,Dp _,fun _ _=>rfl⟩;refine⟨[],chainOf ops.toList 0,res2,H2,held2,als2,ρ,?_,(fun _ h=>(by cases h)),?_,h1⟩
 ·refine⟨s.ext.trans ⟨fun _ _=>rfl,KD.heap rfl,hb⟩ (Dp _),f.ph.sim hs,Ec s.le f.ph.le,by simp,s.frel.size,s.frel.dfr,s.frel.only,rfl,fun c _=>un c,fun i _ h=>absurd h (un i),
   fun t _ v hv=>s.frel.slot t v hv (s.frel.only t v hv),fun j _ h=>absurd h (un j),?_,f.ok n0 s.le (a1o.nil _ _),?_⟩
  ·intro i o _ ho hc hcnt;exact f.known i (a5k.2 ⟨Du _,o,by grind,hc,by grind⟩) o ho
  ·intro x hx _;rcases f.new x hx with h|h
   ·cases h
   ·exact hs.fresh _ h
 ·intro x hx;rcases f.new x hx with h|h
  ·cases h
  ·exact Ec hs.names h
theorem d1r (hW:WOK G P W) {id:Nat} (hG:G=P.globals.size) (s:St B G n n0 ρ0 w0 ρ fr0 H a w) (hd:Bg n (.region id ops true)=true)
  (h:b8p P W ops fr0 H Q) : (Code.region id ops true).wp P (a2t B G n n0 ρ0 w0 Q) a w:=by grind[id,d1q,wp_region_draw]
end Go.Ai
end
section
namespace Go.Ai
open Go.RowKit (Below)
variable {B G:Nat} {P:Program} {n n0:Nat} {ρ0 ρ:Rn} {w0 w:World} {fr:Fr} {H:Mem} {a:Act} {W:WF} {Q:Out→Prop}
theorem e4a (hW:WOK G P W) (hG:G=P.globals.size) : ∀ (c:Code) (fr:Fr) (H:Mem) (Q:Out->Prop),Bg n c=true->a7v P W (LX G P n) c fr H Q->XW G P n c fr H Q:=by
 intro c
 induction c with
 | skip=>intro fr H Q _ h B n0 ρ0 w0 ρ a w s;exact wp_skip ⟨_,h,ρ,s⟩
 | region id ops draw =>
  intro fr H Q hd h B n0 ρ0 w0 ρ a w s
  cases draw with
  | false=>exact wp_region_list (c3c hW hG ops.toList fr H ρ a w (fun o ho=>Eb.1 hd o ho) s h)
  | true=>exact d1r hW hG s hd h
 | seq x y ihx ihy =>
  intro fr H Q hd h B n0 ρ0 w0 ρ a w s;simp only[Bg,Ds] at hd;refine wp_seq (Code.wp_mono ?_ (ihx fr H _ hd.1 h B n0 ρ0 w0 ρ a w s));rintro e a' w' ⟨out,hq,ho⟩
  cases out with
  | norm fr' H' =>
   cases e with
   | normal=>obtain⟨ρ',s'⟩:=ho;exact ihy fr' H' Q hd.2 hq B n0 ρ0 w0 ρ' a' w' s'
   | _=>exact ho.elim
  | exit id fr' H'=>cases e<;>first|exact ho.elim|exact⟨_,hq,ho⟩
  | ret fr' H'=>cases e<;>first|exact ho.elim|exact⟨_,hq,ho⟩
  | panic v fr' H'=>cases e<;>first|exact ho.elim|exact⟨_,hq,ho⟩
  | bad=>exact hq.elim
 | cond cnd x y ihx ihy =>
  intro fr H Q hd h B n0 ρ0 w0 ρ a w s;simp only[Bg,Ds] at hd;have h' : a6q (fr.ev cnd) (a7v P W (LX G P n) x fr H Q) (a7v P W (LX G P n) y fr H Q):=h;unfold a6q at h';split at h'
  ·rename_i b hev;have:=s.ev _ _ hev
   cases b with
   | true=>exact wp_cond_true this (ihx fr H Q hd.1 (h'.1 rfl) B n0 ρ0 w0 ρ a w s)
   | false=>exact wp_cond_false this (ihy fr H Q hd.2 (h'.2 rfl) B n0 ρ0 w0 ρ a w s)
  grind
 | block id b ih =>
  intro fr H Q hd h B n0 ρ0 w0 ρ a w s;refine wp_block (Code.wp_mono ?_ (ih fr H _ hd h B n0 ρ0 w0 ρ a w s));rintro e a' w' ⟨out,hq,ho⟩
  cases out with
  | norm fr' H'=>cases e<;>first|exact ho.elim|exact⟨_,hq,ho⟩
  | exit id' fr' H' =>
   cases e with
   | exit id2 =>
    obtain⟨rfl,ρ',s'⟩:=ho;have hq' : if id2=id then Q (.norm fr' H') else Q (.exit id2 fr' H'):=hq;by_cases e:id2=id
    ·subst e;rw[if_pos rfl] at hq';simp only[Exit.inBlock,if_true];exact⟨_,hq',ρ',s'⟩
    ·rw[if_neg e] at hq';simp only[Exit.inBlock,e,if_false];exact⟨_,hq',rfl,ρ',s'⟩
   | _=>exact ho.elim
  | ret fr' H'=>cases e<;>first|exact ho.elim|exact⟨_,hq,ho⟩
  | panic v fr' H'=>cases e<;>first|exact ho.elim|exact⟨_,hq,ho⟩
  | bad=>exact hq.elim
 | loop b ih =>
  intro fr H Q hd h B n0 ρ0 w0 ρ a w s;exact(h B n0 ρ0 w0 ρ a w s).wp
 | rangeFunc f ps x y ihx ihy=>intro fr H Q hd h;exact h.elim
 | exit id=>intro fr H Q hd h B n0 ρ0 w0 ρ a w s;exact wp_exit ⟨_,h,rfl,ρ,s⟩
 | scope b ih=>intro fr H Q hd h;exact h.elim
 | label l=>intro fr H Q hd h B n0 ρ0 w0 ρ a w s;exact wp_label ⟨_,h,ρ,s⟩
 | goto l=>intro fr H Q hd h;exact h.elim
 | ret=>intro fr H Q hd h B n0 ρ0 w0 ρ a w s;exact wp_ret ⟨_,h,ρ,s⟩
 | refuse why=>intro fr H Q hd h;exact h.elim
theorem LX.round (hW:WOK G P W) (hG:G=P.globals.size) {b:Code} (hd:Bg n b=true) (h:a7v P W (LX G P n) b fr H (a6p (fun fr H=>LX G P n b fr H Q) Q)) : LX G P n b fr H Q:=by
 intro B n0 ρ0 w0 ρ a w s;refine LW.unroll (Code.wp_mono ?_ (e4a hW hG b fr H _ hd h B n0 ρ0 w0 ρ a w s));rintro e a' w' ⟨out,hq,ho⟩
 cases out with
 | norm fr' H' =>
  cases e with
  | normal=>obtain⟨ρ',s'⟩:=ho;exact hq B n0 ρ0 w0 ρ' a' w' s'
  | _=>exact ho.elim
 | exit id fr' H'=>cases e<;>first|exact ho.elim|exact⟨_,hq,ho⟩
 | ret fr' H'=>cases e<;>first|exact ho.elim|exact⟨_,hq,ho⟩
 | panic v fr' H'=>cases e<;>first|exact ho.elim|exact⟨_,hq,ho⟩
 | bad=>exact hq.elim
noncomputable def b5m (P:Program) (O:CallF) (fn:Func) (K:Az->Prop) : Out->Prop
 | .norm fr H=>match a0s P O (fun _ _ _=>.bad) fn fr fr.defers .returning H with|.bad=>False|r=>K r
 | .ret fr H=>match a0s P O (fun _ _ _=>.bad) fn fr fr.defers .returning H with|.bad=>False|r=>K r
 | .panic v fr H=>match a0s P O (fun _ _ _=>.bad) fn fr fr.defers (.panicking v) H with|.bad=>False|r=>K r
 | _=>False
noncomputable def argsF:List AV->Nat->(Nat->Option AV)->Nat->Option AV
 | [],_,g=>g
 | v :: l,i,g=>argsF l (i+1) (a2o g i v)
noncomputable def b5n (args:List AV) : Fr:=.f (argsF args 0 (fun _=>none)) []
theorem argsF_get:∀ (l:List AV) (i:Nat) (g:Nat->Option AV) (t:Nat) (v:AV),argsF l i g t=some v->(i<=t/\l[t-i]?=some v)\/g t=some v
 | [],i,g,t,v,h=>.inr h
 | x :: l,i,g,t,v,h=>by
  rcases argsF_get l (i+1) (a2o g i x) t v h with⟨h1,h2⟩|h1
  ·left;refine⟨by omega,?_⟩;rw[show t-i=(t-(i+1))+1 by omega];simpa using h2
  ·unfold a2o at h1;by_cases e:t=i
   ·rw[if_pos e] at h1;cases h1;left;subst e;simp
   ·rw[if_neg e] at h1;exact .inr h1
theorem e4b {args:List AV} {us:Array Value} (hv:VRs ρ args us.toList) (hle:args.length<=n) :
  a1a n ρ (b5n args) { tmps:=us++Array.replicate (n-us.size) undef,defers:=[] }:=by
 have hsz:us.size=args.length:=by have:=hv.length;grind
 have hget:∀ t v,(b5n args).get t=some v->args[t]?=some v:=by
  intro t v h;rcases argsF_get args 0 _ t v h with⟨_,h1⟩|h1
  all_goals grind
 refine⟨?_,rfl,by grind,?_⟩
 ·intro t v h _;obtain⟨u,hu,hvu⟩:=hv.get t (hget t v h)
  (simp_all;grind)
 grind
theorem e4c (B G:Nat) (P:Program) : a5l B G P (fun _ _ _=>.bad):=fun _ _ _ _ _ _ _ _ _ _ _ _ hne=>absurd rfl hne
theorem c3f {fn:Func} {tmps:Array Value} {R R': Ending->World->Prop} (h:∀ e w,R e w->R' e w) : ∀ {ds:List Deferred} {u:FrameMode} {w:World},Leaves P fn tmps R ds u w->Leaves P fn tmps R' ds u w
 | [],.returning,w,⟨v,h1,h2⟩=>⟨v,h1,h _ _ h2⟩
 | [],.panicking chain,w,h1=>h _ _ h1
 | [],.run,w,h1=>h1.elim
 | d :: ds,u,w,⟨h1,fv,cap,f,args,h2,h3,h4⟩=>⟨h1,fv,cap,f,args,h2,h3,h4.mono fun e u' w' hr=>by
   cases e with
   | returned v=>exact c3f h hr
   | panicked chain=>exact c3f h hr
   | outgrown=>exact h _ _ hr⟩
end Go.Ai
end
section
namespace Go.Ai
open Go.RowKit (Below)
variable {P:Program} {W:WF} {L:LF} {Q:Out→Prop} {fr:Fr} {H:Mem}
/- What simp looks into: the state,not the code. -/
def tick:Nat:=0
def tock:Nat:=0
theorem tick_tock:tick=tock:=by rfl
attribute [simp] tick_tock
theorem e4d {tk:Nat} (_h0:tick=tk) {ops:Array Oper} {l:List Oper} {fr fr' : Fr} {H H' : Mem} (h1:fr=fr') (h2:H=H') : a4k P W ops Q l fr H=a4k P W ops Q l fr' H':=by grind
theorem e4e {tk:Nat} (_h0:tick=tk) {ops:Array Oper} {o:Oper} {k:Fr->Mem->Prop} {fr fr' : Fr} {H H' : Mem} (h1:fr=fr') (h2:H=H') : a0i P W ops o fr H k Q=a0i P W ops o fr' H' k Q:=by grind
theorem e4f {tk:Nat} (_h0:tick=tk) {o:Oper} {k:Fr->Mem->Prop} {fr fr' : Fr} {r r' : R} (h1:fr=fr') (h2:r=r') : a2r W o fr k Q r=a2r W o fr' k Q r':=by grind
theorem e4g {tk:Nat} (_h0:tick=tk) {ev:Ev} {o:Oper} {H H' : Mem} (h2:H=H') : opV P H ev o=opV P H' ev o:=by rw[h2]
theorem e4h {tk:Nat} (_h0:tick=tk) {x x' : Option AV} {a b:Prop} (h:x=x') : a6q x a b=a6q x' a b:=by rw[h]
theorem e4i {tk:Nat} (_h0:tick=tk) {x x' : Option AV} {g:Bool} {a b:Prop} (h:x=x') : a2s x g a b=a2s x' g a b:=by rw[h]
theorem e4j {tk:Nat} (_h0:tick=tk) {k:Fr->Mem->Prop} {o o' : Out} (h:o=o') : a6p k Q o=a6p k Q o':=by rw[h]
theorem e4k {tk:Nat} (_h0:tick=tk) {id:Nat} {o o' : Out} (h:o=o') : a9l id Q o=a9l id Q o':=by rw[h]
theorem e4l {tk:Nat} (_h0:tick=tk) {ops:Array Oper} {j:Nat} {fr fr' : Fr} (h:fr=fr') : a1b ops fr j=a1b ops fr' j:=by rw[h]
theorem e4m {tk:Nat} (_h0:tick=tk) {fr fr' : Fr} {x:Operand} (h:fr=fr') : fr.ev x=fr'.ev x:=by rw[h]
attribute [congr] e4d e4e e4f e4g e4h e4i e4j e4k e4l e4m
theorem e4n {k:Fr->Mem->Prop} : a6p k Q (.norm fr H)=k fr H:=(rfl)
theorem e4o {k:Fr->Mem->Prop} {id:Nat} : a6p k Q (.exit id fr H)=Q (.exit id fr H):=(rfl)
theorem e4p {k:Fr->Mem->Prop} : a6p k Q (.ret fr H)=Q (.ret fr H):=(rfl)
theorem e4q {id:Nat} : a9l id Q (.norm fr H)=Q (.norm fr H):=(rfl)
theorem e4r {id:Nat} : a9l id Q (.ret fr H)=Q (.ret fr H):=(rfl)
theorem e4s {id id': Nat} : a9l id Q (.exit id' fr H)=if id'=id then Q (.norm fr H) else Q (.exit id' fr H):=(rfl)
def b5o (p:Prop) (x y:Prop) : Prop:=(p->x)/\(¬p->y)
theorem e4t {tk:Nat} (_h0:tick=tk) {p p' x y:Prop} (h:p=p') : b5o p x y=b5o p' x y:=by rw[h]
attribute [congr] e4t
theorem Ac {p x y:Prop} (h1:p->x) (h2:¬p->y) : b5o p x y:=⟨h1,h2⟩
def a3l (b:Bool) (x y:Prop) : Prop:=(b=true->x)/\(b=false->y)
theorem e4u {tk:Nat} (_h0:tick=tk) {b b' : Bool} {x y:Prop} (h:b=b') : a3l b x y=a3l b' x y:=by rw[h]
attribute [congr] e4u
theorem e4v {x y:Prop} : a3l true x y=x:=by simp[a3l]
theorem e4w {x y:Prop} : a3l false x y=y:=by simp[a3l]
theorem e4x {p:Prop} [Decidable p] {x y:Prop} : a3l (decide p) x y=b5o p x y:=by grind[b5o,a3l]
theorem Ad {b:Bool} {x y:Prop} (h1:b=true->x) (h2:b=false->y) : a3l b x y:=⟨h1,h2⟩
attribute [simp] e4v e4w e4x
inductive Tg where
 | b
 | o
def b8s (v:AV) : Tg:=match v with|.lit (.bool _)=>.b|_=>.o
theorem e4y {b:Bool} : b8s (.lit (.bool b))=.b:=(rfl)
noncomputable def b1p (d:Option Tmp) (k:Fr->Mem->Prop) (fr:Fr) (v:AV) (_:Tg) (H:Mem) : Prop:=k (fr.put d v) H
theorem e4z {tk:Nat} (_h0:tick=tk) {d:Option Tmp} {k:Fr->Mem->Prop} {fr fr' : Fr} {v v' : AV} {t t' : Tg} {H H' : Mem} (h1:fr=fr') (h2:v=v') (h3:t=t') (h4:H=H') : b1p d k fr v t H=b1p d k fr' v' t' H':=by grind
attribute [congr] e4z
theorem e5a {d:Option Tmp} {k:Fr->Mem->Prop} {b:Bool} : b1p d k fr (.lit (.bool b)) .b H=a3l b (k (fr.put d (.lit (.bool true))) H) (k (fr.put d (.lit (.bool false))) H):=by
 cases b<;>simp[a3l,b1p]
theorem e5b {d:Option Tmp} {k:Fr->Mem->Prop} {v:AV} : b1p d k fr v (b8s v) H=k (fr.put d v) H:=by rfl
attribute [simp] e4y e5a e5b
theorem e5c {b:Bool} {x y:Prop} : a6q (some (.lit (.bool b))) x y=a3l b x y:=by rfl
theorem e5d {b g:Bool} {x y:Prop} : a2s (some (.lit (.bool b))) g x y=a3l b (if g then x else y) (if g then y else x):=by grind[a3l,a2s]
theorem e5e {g:Bool} {x y:Prop} : a2s (some (.lit undef)) g x y=y:=(rfl)
theorem e5f {o:Oper} {k:Fr->Mem->Prop} {v:AV} : a2r W o fr k Q (.val v H)=b1p o.dst k fr v (b8s v) H:=(rfl)
theorem e5g {o:Oper} {k:Fr->Mem->Prop} {f:FuncId} {args:List AV} : a2r W o fr k Q (.enter f args H)=W f args H (fun r=>match r with
  | .ret v H=>b1p o.dst k fr v (b8s v) H
  | .panic v H=>Q (.panic v fr H)
  | .bad=>False):=(rfl)
theorem e5h {o:Oper} {k:Fr->Mem->Prop} : a2r W o fr k Q (.skip H)=k (fr.put o.dst (.lit undef)) H:=(rfl)
attribute [simp] e5f
attribute [simp] e4n e4o e4p e4q e4r e4s e5c e5d e5e e5g e5h
theorem e5i {ops:Array Oper} : a4k P W ops Q [] fr H=Q (.norm fr H):=(rfl)
theorem e5j {ops:Array Oper} {d:Option Tmp} {op:Op} {t:TypeId} {p:String} {af:Array Edge} {g:Option (Nat×Bool)} {l:List Oper} :
  a4k P W ops Q (⟨d,op,t,p,af,g⟩ :: l) fr H=a0i P W ops ⟨d,op,t,p,af,g⟩ fr H (a4k P W ops Q l) Q:=(rfl)
theorem e5k {ops:Array Oper} {d:Option Tmp} {op:Op} {t:TypeId} {p:String} {af:Array Edge} {k:Fr->Mem->Prop} :
  a0i P W ops ⟨d,op,t,p,af,none⟩ fr H k Q=a2r W ⟨d,op,t,p,af,none⟩ fr k Q (opV P H fr.ev ⟨d,op,t,p,af,none⟩):=(rfl)
theorem e5l {ops:Array Oper} {d:Option Tmp} {op:Op} {t:TypeId} {p:String} {af:Array Edge} {g:Nat×Bool} {k:Fr->Mem->Prop} :
  a0i P W ops ⟨d,op,t,p,af,some g⟩ fr H k Q=a2s (a1b ops fr g.1) g.2 (a2r W ⟨d,op,t,p,af,some g⟩ fr k Q (opV P H fr.ev ⟨d,op,t,p,af,some g⟩)) (k (fr.put d (.lit undef)) H):=(rfl)
noncomputable def b5p (fr:Fr) (x:Option Nat) : Option AV:=match x with|some d=>fr.get d|none=>none
theorem e5m {g:Nat->Option AV} {ds:List Dfr} {d:Tmp} {v:AV} : (Fr.f g ds).put (some d) v=.f (a2o g d v) ds:=(rfl)
theorem e5n {v:AV} : fr.put none v=fr:=(rfl)
theorem e5o {g:Nat->Option AV} {ds:List Dfr} {t:Nat} : (Fr.f g ds).get t=g t:=(rfl)
theorem e5p {g:Nat->Option AV} {ds:List Dfr} {t:Nat} : (Fr.f g ds).ev (.tmp t)=g t:=(rfl)
theorem e5q {v:Value} : fr.ev (.const v)=some (.lit v):=by cases fr<;>rfl
theorem e5r {g:Nat} : fr.ev (.global g)=some (.lit (.pointer (some ⟨g,0,none⟩))):=by rfl
theorem e5s {f:Nat} : fr.ev (.func f)=some (.lit (.func (.func f) #[] #[])):=by rfl
theorem e5t {g:Nat->Option AV} {ds:List Dfr} : (Fr.f g ds).defers=ds:=(rfl)
theorem e5u {g:Nat->Option AV} {d t:Nat} {v:AV} : a2o g d v t=if t=d then some v else g t:=(rfl)
section
variable {ev:Ev} {d:Option Tmp} {ty:TypeId} {p:String} {af:Array Edge} {g:Option (Nat×Bool)}
theorem e5v {x:Operand} : opV P H ev ⟨d,.move x,ty,p,af,g⟩=a1m H (ev x):=(rfl)
theorem e5w {x:Operand} : opV P H ev ⟨d,.assign x,ty,p,af,g⟩=a1m H (ev x):=(rfl)
theorem e5x {c a b:Operand} : opV P H ev ⟨d,.pick c a b,ty,p,af,g⟩=a3u H (ev c) (ev a) (ev b):=(rfl)
theorem e5y {o:BinOp} {t rt:TypeId} {x y:Operand} : opV P H ev ⟨d,.binOp o t x y rt,ty,p,af,g⟩=Bq P H ev ⟨d,.binOp o t x y rt,ty,p,af,g⟩ o t (ev x) (ev y):=(rfl)
end
def slotAt:List Oper->Nat->Option Nat
 | [],_=>none
 | o :: _,0=>o.dst
 | _ :: l,j+1=>slotAt l j
theorem e5z {d:Option Tmp} {op:Op} {t:TypeId} {p:String} {af:Array Edge} {g:Option (Nat×Bool)} {l:List Oper} : slotAt (⟨d,op,t,p,af,g⟩ :: l) 0=d:=(rfl)
theorem e6a {o:Oper} {l:List Oper} {j:Nat} : slotAt (o :: l) (j+1)=slotAt l j:=(rfl)
attribute [simp] e5z e6a
theorem slotAt_eq:∀ (l:List Oper) (j:Nat),slotAt l j=(l[j]?).bind (·.dst)
 | [],j=>by rfl
 | o :: _,0=>rfl
 | _ :: l,j+1=>by simpa[slotAt] using slotAt_eq l j
theorem e6b {l:List Oper} {j:Nat} : a1b l.toArray fr j=b5p fr (slotAt l j):=by
 grind[b5p,a1b,slotAt_eq]
theorem e6c {d:Nat} : b5p fr (some d)=fr.get d:=(rfl)
theorem e6d {tk:Nat} (_h0:tick=tk) {fr fr' : Fr} {x x' : Option Nat} (h1:fr=fr') (h2:x=x') : b5p fr x=b5p fr' x':=by grind
attribute [congr] e6d
attribute [simp] e6b e6c
theorem e6e {v:AV} : a1m H (some v)=.val v H:=(rfl)
theorem e6f {a b c:Bool} : a3u H (some (.lit (.bool c))) (some (.lit (.bool a))) (some (.lit (.bool b)))=.val (.lit (.bool (if c then a else b))) H:=by cases c<;>rfl
theorem e6g {a b:Option AV} : a3u H (some (.lit (.bool true))) a b=ofOpt H a:=(rfl)
theorem e6h {a b:Option AV} : a3u H (some (.lit (.bool false))) a b=ofOpt H b:=(rfl)
theorem e6i {v:AV} : ofOpt H (some v)=.val v H:=(rfl)
section
variable {ev:Ev} {o:Oper} {t:TypeId} {a b:Int} {k:IntKind}
theorem a4a {op:BinOp} {x y:AV} {v:AV} (h:Cl op x y=some v) : Bq P H ev o op t (some x) (some y)=.val v H:=by
 grind[b4p,Bq]
theorem d1s (a b:Int) : iEq a b=decide (a=b):=by grind[c2b]
theorem b8t (a b:Int) : iLt a b=decide (a<b):=b5d a b
theorem g2h (a b:Int) : (!decide (b<a))=decide (a<=b):=by grind
theorem c3g (hk:kEq k k=true) : Cl .eql (.lit (.int k a)) (.lit (.int k b))=some (.lit (.bool (decide (a=b)))):=by grind[b1h,d1s,Cl]
theorem c3h (hk:kEq k k=true) : Cl .neq (.lit (.int k a)) (.lit (.int k b))=some (.lit (.bool (!decide (a=b)))):=by grind[b1h,d1s,Cl]
theorem c3i (hk:kEq k k=true) : Cl .lss (.lit (.int k a)) (.lit (.int k b))=some (.lit (.bool (decide (a<b)))):=by grind[b1h,b8t,Cl]
theorem c3j (hk:kEq k k=true) : Cl .leq (.lit (.int k a)) (.lit (.int k b))=some (.lit (.bool (decide (a<=b)))):=by grind[b1h,b8t,Cl]
theorem c3k (hk:kEq k k=true) : Cl .gtr (.lit (.int k a)) (.lit (.int k b))=some (.lit (.bool (decide (b<a)))):=by grind[b1h,b8t,Cl]
theorem c3l (hk:kEq k k=true) : Cl .geq (.lit (.int k a)) (.lit (.int k b))=some (.lit (.bool (decide (b<=a)))):=by grind[b1h,b8t,Cl]
end
section
variable {ev:Ev} {o:Oper} {t:TypeId} {a b:Int}
theorem oBin_eql8:Bq P H ev o .eql t (some (.lit (.int .u8 a))) (some (.lit (.int .u8 b)))=.val (.lit (.bool (decide (a=b)))) H:=a4a (c3g rfl)
theorem oBin_neq8:Bq P H ev o .neq t (some (.lit (.int .u8 a))) (some (.lit (.int .u8 b)))=.val (.lit (.bool (!decide (a=b)))) H:=a4a (c3h rfl)
theorem oBin_lss8:Bq P H ev o .lss t (some (.lit (.int .u8 a))) (some (.lit (.int .u8 b)))=.val (.lit (.bool (decide (a<b)))) H:=a4a (c3i rfl)
theorem oBin_leq8:Bq P H ev o .leq t (some (.lit (.int .u8 a))) (some (.lit (.int .u8 b)))=.val (.lit (.bool (decide (a<=b)))) H:=a4a (c3j rfl)
theorem oBin_gtr8:Bq P H ev o .gtr t (some (.lit (.int .u8 a))) (some (.lit (.int .u8 b)))=.val (.lit (.bool (decide (b<a)))) H:=a4a (c3k rfl)
theorem oBin_geq8:Bq P H ev o .geq t (some (.lit (.int .u8 a))) (some (.lit (.int .u8 b)))=.val (.lit (.bool (decide (b<=a)))) H:=a4a (c3l rfl)
theorem oBin_eql64:Bq P H ev o .eql t (some (.li a)) (some (.li b))=.val (.lit (.bool (decide (a=b)))) H:=a4a (c3g rfl)
theorem oBin_neq64:Bq P H ev o .neq t (some (.li a)) (some (.li b))=.val (.lit (.bool (!decide (a=b)))) H:=a4a (c3h rfl)
theorem oBin_lss64:Bq P H ev o .lss t (some (.li a)) (some (.li b))=.val (.lit (.bool (decide (a<b)))) H:=a4a (c3i rfl)
theorem oBin_leq64:Bq P H ev o .leq t (some (.li a)) (some (.li b))=.val (.lit (.bool (decide (a<=b)))) H:=a4a (c3j rfl)
theorem oBin_gtr64:Bq P H ev o .gtr t (some (.li a)) (some (.li b))=.val (.lit (.bool (decide (b<a)))) H:=a4a (c3k rfl)
theorem oBin_geq64:Bq P H ev o .geq t (some (.li a)) (some (.li b))=.val (.lit (.bool (decide (b<=a)))) H:=a4a (c3l rfl)
end
attribute [simp] e5i e5j e5k e5l
 e5m e5n e5o e5p e5q e5r e5s e5t e5u e5v e5w e5x e6e e6f e6g e6h e6i
 oBin_eql8 oBin_neq8 oBin_lss8 oBin_leq8 oBin_gtr8 oBin_geq8 oBin_eql64 oBin_neq64 oBin_lss64 oBin_leq64 oBin_gtr64 oBin_geq64
def a4l (x:Option AV) (K:AV->Prop) : Prop:=match x with|some v=>K v|none=>False
noncomputable def a4m (P:Program) (rs:List ResultVar) (K:Az->Prop) (fr:Fr) (H:Mem) : Prop:=match a7n P fr H rs with
 | some [v]=>K (.ret v H)
 | some vs=>K (.ret (.tup vs) H)
 | none=>False
theorem e6j {tk:Nat} (_h0:tick=tk) {rs rs' : List ResultVar} {K:Az->Prop} {fr fr' : Fr} {H H' : Mem} (h0:rs=rs') (h1:fr=fr') (h2:H=H') : a4m P rs K fr H=a4m P rs' K fr' H':=by grind
attribute [congr] e6j
theorem e6k {tk:Nat} (_h0:tick=tk) {O:CallF} {fn:Func} {K:Az->Prop} {o o' : Out} (h:o=o') : b5m P O fn K o=b5m P O fn K o':=by rw[h]
attribute [congr] e6k
theorem e6l {O:CallF} {L:LoopF} {fn:Func} : a0s P O L fn fr [] .returning H=(match a2p P fn fr H with|some v=>.ret v H|none=>.bad):=by rfl
theorem d1t {O:CallF} {fn:Func} {K:Az->Prop} {g:Nat->Option AV} : b5m P O fn K (.ret (.f g []) H)=a4m P fn.results.toList K (.f g []) H:=by
 show (match a0s P O (fun _ _ _=>.bad) fn (.f g []) [] .returning H with|.bad=>False|r=>K r)=_;grind[e6l,a4m,a2p]
theorem e6m {O:CallF} {fn:Func} {K:Az->Prop} {g:Nat->Option AV} : b5m P O fn K (.norm (.f g []) H)=a4m P fn.results.toList K (.f g []) H:=d1t
theorem e6n {t:Tmp} : a6h P fr H (.tmp t)=fr.get t:=(rfl)
theorem e6o {r:ResultVar} {K:Az->Prop} : a4m P [r] K fr H=a4l (a6h P fr H r) (fun v=>K (.ret v H)):=by
 grind[a4l,a4m,a7n]
theorem e6p {K:Az->Prop} : a4m P [] K fr H=K (.ret (.tup []) H):=(rfl)
theorem e6q {r1 r2:ResultVar} {K:Az->Prop} : a4m P [r1,r2] K fr H=a4l (a6h P fr H r1) (fun v1=>a4l (a6h P fr H r2) fun v2=>K (.ret (.tup [v1,v2]) H)):=by
 (simp_all[a4l,a4m,a7n];grind)
theorem e6r {r1 r2 r3:ResultVar} {K:Az->Prop} : a4m P [r1,r2,r3] K fr H=a4l (a6h P fr H r1) (fun v1=>a4l (a6h P fr H r2) fun v2=>a4l (a6h P fr H r3) fun v3=>K (.ret (.tup [v1,v2,v3]) H)):=by
 unfold a4m a4l;grind[a7n]
theorem e6s {v:AV} {K:AV->Prop} : a4l (some v) K=K v:=(rfl)
theorem e6t {tk:Nat} (_h0:tick=tk) {x x' : Option AV} {K:AV->Prop} (h:x=x') : a4l x K=a4l x' K:=by rw[h]
attribute [congr] e6t
theorem e6u {args:List AV} : b5n args=.f (argsF args 0 (fun _=>none)) []:=(rfl)
theorem e6v {i:Nat} {g:Nat->Option AV} : argsF [] i g=g:=(rfl)
theorem e6w {i:Nat} {g:Nat->Option AV} {v:AV} {l:List AV} : argsF (v :: l) i g=argsF l (i+1) (a2o g i v):=(rfl)
attribute [simp] d1t e6m e6p e6o e6q e6r e6s e6n e6u e6v e6w
def orK (r:Az) (K:Az->Prop) (x:Prop) : Prop:=match r with|.bad=>x|r=>K r
theorem e6x {O:CallF} {f:FuncId} {args:List AV} {K:Az->Prop} : orW O W f args H K=orK (O f args H) K (W f args H K):=by
 rfl
theorem e6y {tk:Nat} (_h0:tick=tk) {O:CallF} {f:FuncId} {args args' : List AV} {H H' : Mem} {K:Az->Prop} (h1:args=args') (h2:H=H') : orW O W f args H K=orW O W f args' H' K:=by grind
attribute [congr] e6y
theorem e6z {tk:Nat} (_h0:tick=tk) {r r' : Az} {K:Az->Prop} {x:Prop} (h:r=r') : orK r K x=orK r' K x:=by rw[h]
theorem e7a {K:Az->Prop} {x:Prop} : orK .bad K x=x:=(rfl)
attribute [congr] e6z
attribute [simp] e6x e7a
section
variable {ev:Ev} {d:Option Tmp} {ty:TypeId} {p:String} {af:Array Edge} {g:Option (Nat×Bool)}
variable {x:Operand} {args:List AV} {f:FuncId} {o:Oper}
noncomputable def c3m (P:Program) (H:Mem) (ev:Ev) (args:Option (List AV)) (f:Operand) : R:=match args with
 | some args=>a8y P H args (ev f)
 | none=>.bad
theorem e7b {f:Operand} {args:Array Operand} {at_:Array TypeId} : opV P H ev ⟨d,.call ⟨.value f,args,at_⟩,ty,p,af,g⟩=c3m P H ev (Bw ev args.toList) f:=by
 show Cd P H ev ⟨d,.call ⟨.value f,args,at_⟩,ty,p,af,g⟩ ⟨.value f,args,at_⟩=_;grind[c3m,Cd]
theorem evals_nil:Bw ev []=some []:=(rfl)
noncomputable def c3n (a:Option AV) (l:Option (List AV)) : Option (List AV):=match a,l with|some v,some vs=>some (v :: vs)|_,_=>none
theorem e7c {l:List Operand} : Bw ev (x :: l)=c3n (ev x) (Bw ev l):=by
 grind[Bw,c3n]
theorem e7d {v:AV} {vs:List AV} : c3n (some v) (some vs)=some (v :: vs):=(rfl)
theorem e7e {f:Operand} : c3m P H ev (some args) f=a8y P H args (ev f):=(rfl)
theorem e7f : a8y P H args (some (.lit (.func (.func f) #[] #[])))=a6b P H f args:=by simp[a8y]
theorem e7g {a c:List AV} : a8y P H args (some (.func (.func f) a c))=a6b P H f (a++args++c):=(rfl)
theorem e7h : a6b P H f args=if Ap P f=true then .enter f args H else .bad:=(rfl)
attribute [simp] e7b evals_nil e7c e7d e7e e7f e7g e7h
noncomputable def unS (P:Program) (H:Mem) (ev:Ev) (o:Oper) (op:UnOp) (x:Option AV) : R:=match op,x with
 | .not,some (.lit (.bool b))=>.val (.lit (.bool (!b))) H
 | _,_=>ofOpt H (Ba P ev o)
theorem b8u {u r:Value} (ho:o.op.operands=#[x]) (hx:ev x=some (.lit u))
  (hr:∀ ρ:Operand->Value,ρ x=u->Ao P (execOp ρ o)=some (.value r)) : Ba P ev o=some (.lit r):=by
 simp_all[Ba,toLit]
theorem a9o {y:Operand} {u u' r:Value} (ho:o.op.operands=#[x,y]) (hx:ev x=some (.lit u)) (hy:ev y=some (.lit u'))
  (hr:∀ ρ:Operand->Value,ρ x=u->ρ y=u'->Ao P (execOp ρ o)=some (.value r)) : Ba P ev o=some (.lit r):=by
 simp_all[Ba,toLit]
theorem e7i {op:UnOp} {t:TypeId} : opV P H ev ⟨d,.unOp op t x,ty,p,af,g⟩=unS P H ev ⟨d,.unOp op t x,ty,p,af,g⟩ op (ev x):=by
 show ofOpt H (Ba P ev _)=_;unfold unS;split
 ·rename_i b hx;rw[b8u (r:=.bool (!b)) rfl (by omega) fun ρ h=>by simp[execOp,h,Op.unary];rfl];rfl
 ·rfl
theorem e7j {b:Bool} : unS P H ev o .not (some (.lit (.bool b)))=.val (.lit (.bool (!b))) H:=(rfl)
attribute [simp] e7i e7j
end
theorem e7k {tk:Nat} (_h0:tick=tk) {G n:Nat} {b:Code} {fr fr' : Fr} {H H' : Mem} (h1:fr=fr') (h2:H=H') : LX G P n b fr H Q=LX G P n b fr' H' Q:=by grind
theorem e7l {tk:Nat} (_h0:tick=tk) {G:Nat} {f:FuncId} {args args' : List AV} {H H' : Mem} {K:Az->Prop} (h1:args=args') (h2:H=H') : WC G P f args H K=WC G P f args' H' K:=by grind
attribute [congr] e7k e7l
structure Aa (p:Prop) : Prop where
 out:p
theorem LX.ind {G n:Nat} {b:Code} {ds:List Dfr} (I:Nat->(Nat->Option AV)->Mem->Prop) {m0:Nat} {g0:Nat->Option AV} {H0:Mem} (h0:I m0 g0 H0)
  (hs:∀ m g H,I m g H->Aa (∀ m' g' H',m' < m->I m' g' H'->LX G P n b (.f g' ds) H' Q)->LX G P n b (.f g ds) H Q) : LX G P n b (.f g0 ds) H0 Q:=by
 have:∀ m g H,I m g H->LX G P n b (.f g ds) H Q:=by
  intro m
  induction m using Nat.strongRecOn with
  | _ m ih=>exact fun g H hi=>hs m g H hi ⟨fun m' g' H' hlt hi'=>ih m' hlt g' H' hi'⟩
 grind
/-! ### Oracles -/
def noO:CallF:=fun _ _ _=>.bad
theorem e7m {f:FuncId} {a:List AV} : noO f a H=.bad:=(rfl)
attribute [simp] e7m
theorem Ah (G:Nat) (P:Program) : ∀ B,Be B G P noO:=fun _ _ _ _ h=>absurd rfl h
end Go.Ai
end
section
namespace Go.Ai
open Go.RowKit (Below)
variable {P:Program} {W:WF} {L:LF} {Q:Out→Prop} {fr:Fr} {H:Mem}
/-! ### Memory as a function -/
theorem e7n {g:Gb} {n a:Nat} : (Mem.mk (.fn g) n).get a=g a:=(rfl)
theorem e7o {g:Gb} {n:Nat} {b:Blk} : (Mem.mk (.fn g) n).add b=⟨.fn (Aj g n (some b)),n+1⟩:=(rfl)
theorem e7p {g:Gb} {n a:Nat} {b:Blk} : (Mem.mk (.fn g) n).upd a b=⟨.fn (Aj g a (some b)),n⟩:=(rfl)
theorem e7q {g:Gb} {a:Nat} {x:Option Blk} : Aj g a x a=x:=(if_pos rfl)
theorem Ab {g:Gb} {a j:Nat} {x:Option Blk} (h:j<a) : Aj g a x j=g j:=if_neg (by omega)
theorem e7r {g:Gb} {a j:Nat} {x:Option Blk} (h:a<j) : Aj g a x j=g j:=if_neg (by omega)
theorem e7s {g:Gb} {a:Nat} {x y:Option Blk} : Aj (Aj g a x) a y=Aj g a y:=by
 grind[Aj]
attribute [simp] e7n e7o e7p e7q Ab e7r e7s
section
variable {ev:Ev} {d:Option Tmp} {ty:TypeId} {p:String} {af:Array Edge} {g:Option (Nat×Bool)}
/-! ### Operations on two values -/
theorem d1u (a b:ByteArray) : (a.toList == b.toList)=decide (a=b):=by
 by_cases h:a=b
 ·grind
 ·have:a.toList≠b.toList:=fun e=>h (by
   cases a;simp_all[ByteArray.toList_eq])
  grind
def a2h (op:BinOp) (k:IntKind) (a b:Int) : Option AV:=match op with
 | .add=>some (.lit (.int k (k.wrap (a+b))))
 | .sub=>some (.lit (.int k (k.wrap (a-b))))
 | .mul=>some (.lit (.int k (k.wrap (a*b))))
 | .quo=>if b=0 then none else some (.lit (.int k (k.wrap (a.tdiv b))))
 | .rem=>if b=0 then none else some (.lit (.int k (a.tmod b)))
 | .eql=>some (.lit (.bool (decide (a=b))))
 | .neq=>some (.lit (.bool (!decide (a=b))))
 | .lss=>some (.lit (.bool (decide (a<b))))
 | .leq=>some (.lit (.bool (decide (a<=b))))
 | .gtr=>some (.lit (.bool (decide (b<a))))
 | .geq=>some (.lit (.bool (decide (b<=a))))
 | _=>none
noncomputable def a2u (P:Program) (H:Mem) (ev:Ev) (o:Oper) (op:BinOp) (t:TypeId) (x y:Option AV) : R:=match op,x,y with
 | .eql,some (.lit (.string a)),some (.lit (.string b))=>.val (.lit (.bool (decide (a=b)))) H
 | .neq,some (.lit (.string a)),some (.lit (.string b))=>.val (.lit (.bool (!decide (a=b)))) H
 | .add,some (.lit (.string a)),some (.lit (.string b))=>if a.size+b.size<=9223372036854775807 then .val (.lit (.string (a++b))) H else Bq P H ev o op t x y
 | op,some (.lit (.int k a)),some (.lit (.int k' b))=>if k=k' then (match a2h op k a b with|some v=>.val v H|none=>Bq P H ev o op t (some (.lit (.int k a))) (some (.lit (.int k' b)))) else Bq P H ev o op t (some (.lit (.int k a))) (some (.lit (.int k' b)))
 | op,x,y=>Bq P H ev o op t x y
theorem b1q {o:Oper} {op:BinOp} {t:TypeId} {x y:AV} {v:AV} (hf:Cl op x y=none) (hg:Ba P ev o=some v) : Bq P H ev o op t (some x) (some y)=.val v H:=by
 grind[b4p,Bq]
theorem Bs {α β:Type} {m:Sem α} {k:α->Sem β} {a:α} : Ao P m=some a->Ao P (m >>= k)=Ao P (k a):=by
 induction m with
 | pure b=>intro h;cases h;rfl
 | program k' ih=>intro h;exact ih _ h
 | mark m k' ih=>assumption
 | choose q k' ih =>
  intro h;simp only[Ao] at h;split at h
  ·rename_i hq;show Ao P (Sem.choose q fun n=>k' n >>= k)=_;simp_all[Ao]
  grind
 | _=>intro h;grind[Ao]
theorem b1r {ρ:Operand->Value} {op:BinOp} {t rt:TypeId} {x y:Operand} {u u' r:Value} (hx:ρ x=u) (hy:ρ y=u') (hg:Ao P (eqGuard op t x y u u')=some ()) (hr:Ao P (binOp op t u u')=some r) :
  Ao P (execOp ρ ⟨d,.binOp op t x y rt,ty,p,af,g⟩)=some (.value r):=by
 simp only[execOp,hx,hy];rw[Bs (a:=r)]
 ·rfl
 grind[Bs]
theorem b3h {o:Oper} {op:BinOp} {t:TypeId} {x y:AV} {v:AV} (hf:∀ u,Cl op x y=some u->u=v) (hg:Cl op x y=none->Ba P ev o=some v) : Bq P H ev o op t (some x) (some y)=.val v H:=by
 cases hfb:Cl op x y with
 | none=>grind[b1q]
 | some u=>grind[a4a]
theorem e7t {op:BinOp} {t rt:TypeId} {x y:Operand} {k:IntKind} {a b:Int} {v:AV} (hx:ev x=some (.lit (.int k a))) (hy:ev y=some (.lit (.int k b))) (h:a2h op k a b=some v) :
  Bq P H ev ⟨d,.binOp op t x y rt,ty,p,af,g⟩ op t (some (.lit (.int k a))) (some (.lit (.int k b)))=.val v H:=by
 have gen:∀ u:Value,Ao P (binOp op t (.int k a) (.int k b))=some u->Ba P ev ⟨d,.binOp op t x y rt,ty,p,af,g⟩=some (.lit u):=fun u hu =>
  a9o rfl hx hy fun ρ h1 h2=>b1r h1 h2 (by unfold eqGuard;cases op<;>rfl) hu
 have fast:∀ n:Int,∀ u,(match kEq k k with|true=>b0w n (b0z k)|false=>none)=some u->u=.lit (.int k (k.wrap n)):=by
  grind[c9l,c8v]
 have bo:∀ (why:String) (f:Sem Value),(binOp op t (.int k a) (.int k b)=if k≠k then stuck why else f)->binOp op t (.int k a) (.int k b)=f:=fun why f hf=>by grind
 have cmp:∀ (c:Bool),(∀ u,Cl op (.lit (.int k a)) (.lit (.int k b))=some u->u=.lit (.bool c))->Ao P (binOp op t (.int k a) (.int k b))=some (.bool c)->some (AV.lit (.bool c))=some v ->
   Bq P H ev ⟨d,.binOp op t x y rt,ty,p,af,g⟩ op t (some (.lit (.int k a))) (some (.lit (.int k b)))=.val v H:=by
  grind[b3h]
 have kd:kEq k k=true\/kEq k k=false:=by grind
 cases op<;>first|(cases h;done)|skip
 case add=>cases h;exact b3h (fast _) fun _=>gen _ (by rw[bo _ _ rfl];rfl)
 case sub=>cases h;exact b3h (fast _) fun _=>gen _ (by rw[bo _ _ rfl];rfl)
 case mul=>cases h;exact b3h (fast _) fun _=>gen _ (by rw[bo _ _ rfl];rfl)
 case quo =>
  simp only[a2h] at h;split at h
  ·cases h
  ·rename_i hb;cases h;exact b3h (fun u hu=>by grind[Cl]) fun _=>gen _ (by rw[bo _ _ rfl];show Ao P (Op.intDiv .quo k a b)=_;unfold Op.intDiv;rw[if_neg hb];rfl)
 case rem =>
  simp only[a2h] at h;split at h
  ·cases h
  ·rename_i hb;cases h;exact b3h (fun u hu=>by grind[Cl]) fun _=>gen _ (by rw[bo _ _ rfl];show Ao P (Op.intDiv .rem k a b)=_;unfold Op.intDiv;rw[if_neg hb];rfl)
 case eql=>exact cmp _ (fun u hu=>by grind[c3g,Cl]) (by rw[bo _ _ rfl];rfl) h
 case neq=>exact cmp _ (fun u hu=>by grind[c3h,Cl]) (by rw[bo _ _ rfl];rfl) h
 case lss=>exact cmp _ (fun u hu=>by grind[c3i,Cl]) (by rw[bo _ _ rfl];rfl) h
 case leq=>exact cmp _ (fun u hu=>by grind[c3j,Cl]) (by rw[bo _ _ rfl];rfl) h
 case gtr=>exact cmp _ (fun u hu=>by grind[c3k,Cl]) (by rw[bo _ _ rfl];rfl) h
 case geq=>exact cmp _ (fun u hu=>by grind[c3l,Cl]) (by rw[bo _ _ rfl];rfl) h
theorem e7u {op:BinOp} {t rt:TypeId} {x y:Operand} : opV P H ev ⟨d,.binOp op t x y rt,ty,p,af,g⟩=a2u P H ev ⟨d,.binOp op t x y rt,ty,p,af,g⟩ op t (ev x) (ev y):=by
 rw[e5y];unfold a2u;split
 ·rename_i a b hx hy;rw[hx,hy,b1q rfl];refine a9o (r:=.bool (decide (a=b))) rfl hx hy fun ρ h1 h2=>b1r h1 h2 rfl ?_;show some (Value.bool (a.toList == b.toList))=_;rw[d1u]
 ·rename_i a b hx hy;rw[hx,hy,b1q rfl];refine a9o (r:=.bool (!decide (a=b))) rfl hx hy fun ρ h1 h2=>b1r h1 h2 rfl ?_;show some (Value.bool (!(a.toList == b.toList)))=_;rw[d1u]
 ·rename_i a b hx hy;split
  ·rename_i hsz;rw[hx,hy,b1q rfl];refine a9o (r:=.string (a++b)) rfl hx hy fun ρ h1 h2=>b1r h1 h2 rfl ?_;have:¬ (((a.size+b.size:Nat) : Int) > IntKind.i64.max):=by
    have:IntKind.i64.max=9223372036854775807:=by decide
    omega
   show Ao P (if ((a.size+b.size:Nat) : Int) > IntKind.i64.max then _ else _)=_;rw[if_neg this];rfl
  rfl
 all_goals grind[e7t]
noncomputable def c3o (P:Program) (H:Mem) (ev:Ev) (o:Oper) (op:BinOp) (t:TypeId) (k:IntKind) (a b:Int) (r:Option AV) : R:=match r with|some v=>.val v H|none=>Bq P H ev o op t (some (.lit (.int k a))) (some (.lit (.int k b)))
theorem e7v {tk:Nat} (_h0:tick=tk) {o:Oper} {op:BinOp} {t:TypeId} {x x' y y' : Option AV} {H H' : Mem} (h1:H=H') (h2:x=x') (h3:y=y') : a2u P H ev o op t x y=a2u P H' ev o op t x' y':=by grind
attribute [congr] e7v
section
variable {o:Oper} {t:TypeId} {a b:Int} {k k' : IntKind} {s s' : ByteArray} {op:BinOp}
variable {c:Call} {e:TypeId} {n:Nat}
theorem binS_intR:a2u P H ev o op t (some (.lit (.int k a))) (some (.lit (.int k b)))=c3o P H ev o op t k a b (a2h op k a b):=by
 simp[c3o,a2u]
theorem e7w {v:AV} : c3o P H ev o op t k a b (some v)=.val v H:=(rfl)
theorem intR_add:a2h .add k a b=some (.lit (.int k (k.wrap (a+b)))):=(rfl)
theorem intR_sub:a2h .sub k a b=some (.lit (.int k (k.wrap (a-b)))):=(rfl)
theorem intR_mul:a2h .mul k a b=some (.lit (.int k (k.wrap (a*b)))):=(rfl)
theorem e7x (h:¬b=0) : a2h .quo k a b=some (.lit (.int k (k.wrap (a.tdiv b)))):=if_neg h
theorem e7y (h:¬b=0) : a2h .rem k a b=some (.lit (.int k (a.tmod b))):=if_neg h
theorem intR_eql:a2h .eql k a b=some (.lit (.bool (decide (a=b)))):=(rfl)
theorem intR_neq:a2h .neq k a b=some (.lit (.bool (!decide (a=b)))):=(rfl)
theorem intR_lss:a2h .lss k a b=some (.lit (.bool (decide (a<b)))):=(rfl)
theorem intR_leq:a2h .leq k a b=some (.lit (.bool (decide (a<=b)))):=(rfl)
theorem intR_gtr:a2h .gtr k a b=some (.lit (.bool (decide (b<a)))):=(rfl)
theorem intR_geq:a2h .geq k a b=some (.lit (.bool (decide (b<=a)))):=(rfl)
theorem e7z (h1 : -9223372036854775808<=a) (h2:a<=9223372036854775807) : IntKind.i64.wrap a=a:=b1g ⟨h1,h2⟩
theorem e8a (h1:0<=a) (h2:a<=255) : IntKind.u8.wrap a=a:=by
 grind[IntKind.signed,IntKind.bits,IntKind.wrap]
end
attribute [simp] e7u binS_intR e7w intR_add intR_sub intR_mul e7x e7y intR_eql intR_neq intR_lss intR_leq intR_gtr intR_geq e7z e8a
/-! ### Calls of len; an element of a string -/
noncomputable def a5m (P:Program) (H:Mem) (ev:Ev) (o:Oper) (c:Call) (d:Option TypeDesc) (args:Option (List AV)) : R:=match args,d with
 | some [.sl _ _ n _],some (.slice _)=>.val (.li n) H
 | some [.slq _ _ n _],some (.slice _)=>.val (.li n) H
 | some [.es],some (.slice _)=>.val (.li 0) H
 | some [.lit (.string s)],some .string=>.val (.li s.size) H
 | some [.lit (.slice none n _)],some (.slice _)=>.val (.li n) H
 | some args,_=>a7i P H ev o c args
 | none,_=>.bad
theorem e8b {x:Operand} {t:TypeId} : opV P H ev ⟨d,.call ⟨.builtin .len,#[x],#[t]⟩,ty,p,af,g⟩=a5m P H ev ⟨d,.call ⟨.builtin .len,#[x],#[t]⟩,ty,p,af,g⟩ ⟨.builtin .len,#[x],#[t]⟩ (P.underlying t) (Bw ev [x]):=by
 show Cd P H ev ⟨d,.call ⟨.builtin .len,#[x],#[t]⟩,ty,p,af,g⟩ ⟨.builtin .len,#[x],#[t]⟩=_;have e:((⟨.builtin .len,#[x],#[t]⟩ : Call).argTypes[0]?).bind P.underlying=P.underlying t:=(rfl);have key:∀ args r,Bw ev [x]=some args->r≠.bad->a5d P H ⟨.builtin .len,#[x],#[t]⟩ args=r->Cd P H ev ⟨d,.call ⟨.builtin .len,#[x],#[t]⟩,ty,p,af,g⟩ ⟨.builtin .len,#[x],#[t]⟩=r:=by
  intro args r h1 hne h2;unfold Cd;rw[show (#[x] : Array Operand).toList=[x] from rfl,h1];dsimp only;unfold a3f a7i;grind
 unfold a5m;split
 ·rename_i h1 h2;exact key _ _ h1 (by simp) (by unfold a5d;rw[e,h2];rfl)
 ·rename_i h1 h2;exact key _ _ h1 (by simp) (by unfold a5d;rw[e,h2];rfl)
 ·rename_i h1 h2;exact key _ _ h1 (by simp) (by unfold a5d;rw[e,h2];rfl)
 ·rename_i h1 h2;exact key _ _ h1 (by simp) (by unfold a5d;rw[e,h2];rfl)
 ·rename_i n c e' h1 h2;have hx:ev x=some (.lit (.slice none n c)):=by
   grind[Bw]
  have hg:Ba P ev ⟨d,.call ⟨.builtin .len,#[x],#[t]⟩,ty,p,af,g⟩=some (.li n):=by
   refine b8u (u:=.slice none n c) (r:=.int .i64 n) (by rfl) hx fun ρ hρ=>?_;rw[a7q (b:=.len) (c:=⟨.builtin .len,#[x],#[t]⟩) rfl rfl];have ea:(#[x] : Array Operand).map ρ=#[ρ x]:=by simp
   have hlen:Ao P (Builtin.len_ #[t] ty #[ρ x])=some (goInt n):=by
    rw[hρ];refine(Bs (m:=underlying t) (a:=TypeDesc.slice e') (by unfold underlying;show Ao P (match P.underlying t with|some d=>pure d|none=>stuck "no such type")=_;rw[h2];rfl)).trans ?_;rfl
   show Ao P (builtin .len #[t] ty _ ((#[x] : Array Operand).map ρ))=_;rw[ea];show Ao P (do pure (Next.value (<- Builtin.len_ #[t] ty #[ρ x])))=_;exact(Bs hlen).trans rfl
  unfold Cd;rw[show (#[x] : Array Operand).toList=[x] from rfl,h1];simp_all[a7i,a3f,a5d]
 ·rename_i h1 _ _ _ _ _;unfold Cd;rw[show (#[x] : Array Operand).toList=[x] from rfl];simp only[*];rfl
 ·rename_i h1;unfold Cd;grind
theorem e8c {tk:Nat} (_h0:tick=tk) {o:Oper} {c:Call} {d d' : Option TypeDesc} {a a' : Option (List AV)} {H H' : Mem} (h1:H=H') (h2:d=d') (h3:a=a') : a5m P H ev o c d a=a5m P H' ev o c d' a':=by grind
attribute [congr] e8c
theorem d1v {o:Oper} {c:Call} {e:TypeId} {a off n k:Nat} : a5m P H ev o c (some (.slice e)) (some [.sl a off n k])=.val (.li n) H:=(rfl)
theorem e8d {o:Oper} {c:Call} {e:TypeId} {a off n k:Nat} : a5m P H ev o c (some (.slice e)) (some [.slq a off n k])=.val (.li n) H:=(rfl)
theorem d1w {o:Oper} {c:Call} {e:TypeId} {n k:Nat} : a5m P H ev o c (some (.slice e)) (some [.lit (.slice none n k)])=.val (.li n) H:=(rfl)
attribute [simp] d1w e8b d1v e8d
theorem a4n {t:TypeId} {td:TypeDesc} (h:P.underlying t=some td) : Ao P (underlying t)=some td:=by
 unfold underlying;show Ao P (match P.underlying t with|some d=>pure d|none=>stuck "no such type")=_;rw[h];rfl
end
end Go.Ai
end
section
namespace Go.Ai
open Go.RowKit (Below)
variable {P:Program} {W:WF} {L:LF} {Q:Out→Prop} {fr:Fr} {H:Mem}
section
variable {ev:Ev} {d:Option Tmp} {ty:TypeId} {p:String} {af:Array Edge} {g:Option (Nat×Bool)}
variable {a off n c tk sz z:Nat} {t:TypeId} {l:List AV} {k:IntKind} {o:Oper} {i:Int} {x:Operand}
theorem e8e (_h0:tick=tk) {x x' : Option AV} {H H' : Mem} (h1:H=H') (h2:x=x') : ofOpt H x=ofOpt H' x':=by grind
attribute [congr] e8e
/-! ### load -/
theorem e8f {a:Operand} : opV P H ev ⟨d,.load t a,ty,p,af,g⟩=a2n P H t (ev a):=(rfl)
theorem e8g (_h0:tick=tk) {t:TypeId} {x x' : Option AV} {H H' : Mem} (h1:H=H') (h2:x=x') : a2n P H t x=a2n P H' t x':=by grind
theorem e8h : a2n P H t (some (.ptr a off))=ofOpt H (Bd (Cc P t) (H.get a) off):=(rfl)
theorem d1x {own:Bool} {s:Nat} : Bd (some (false,s)) (some (.cells l own z)) off=l[off]?:=b1e l off
theorem d1y {own:Bool} {s:Nat} (h:off+s<=l.length) : Bd (some (true,s)) (some (.cells l own z)) off=some (.agg ((l.drop off).take s)):=by
 show a8v l s off none (fun l=>some (AV.agg l))=_;rw[a6i,if_pos h]
attribute [congr] e8g
attribute [simp] e8f e8h d1x d1y
/-! ### store -/
def a9p (l:List AV) (off:Nat) (new:List AV) : List AV:=l.take off++new++l.drop (off+new.length)
theorem e8i {a:Operand} : opV P H ev ⟨d,.store t a x,ty,p,af,g⟩=a5e P H t (ev a) (ev x):=(rfl)
theorem e8j (_h0:tick=tk) {t:TypeId} {x x' y y' : Option AV} {H H' : Mem} (h1:H=H') (h2:x=x') (h3:y=y') : a5e P H t x y=a5e P H' t x' y':=by grind
noncomputable def stS (k:Option (Bool×Nat)) (b:Option Blk) (H:Mem) (a off:Nat) (new:List AV) : R:=match b,k with
 | some (.cells l true z),some (_,size)=>if new.length=size/\allOne new=true/\off+new.length<=l.length then .skip (H.upd a (.cells (a9p l off new) true z)) else .bad
 | _,_=>.bad
theorem e8k {v:AV} : a5e P H t (some (.ptr a off)) (some v)=stS (Cc P t) (H.get a) H a off (cellsOf v):=by
 show (match store P H t (.ptr a off) v with|some H=>R.skip H|none=>.bad)=_
 have key:store P H t (.ptr a off) v=(match H.get a,Cc P t with
  | some (.cells l true z),some (_,size)=>match Nat.beq (len (cellsOf v)) size && allOne (cellsOf v) with
   | true=>a8w none l off (cellsOf v) fun l=>H.setK a (.cells l true z) some
   | false=>none
  | _,_=>none):=rfl
 rw[key];unfold stS;rcases H.get a with _|b
 ·rfl
 ·cases b with
  | map es c=>rfl
  | siter s' p'=>rfl
  | typ _ _ _=>rfl
  | cells l own z =>
   cases own with
   | false=>rfl
   | true =>
    rcases Cc P t with _|⟨ag,size⟩
    ·rfl
    ·dsimp only
     cases hb:Nat.beq (len (cellsOf v)) size && allOne (cellsOf v) with
     | false =>
      simp_all[a0t]
     | true =>
      dsimp only;rw[Ds] at hb;have h3:=Eh hb.1;rw[a0t] at h3;rw[b3b];by_cases h5:off+(cellsOf v).length<=l.length
      ·rw[if_pos h5,if_pos ⟨h3,hb.2,h5⟩,Mem.setK_eq];rfl
      grind
theorem e8l (_h0:tick=tk) {k k' : Option (Bool×Nat)} {b b' : Option Blk} {a off off' : Nat} {n n' : List AV} {H H' : Mem} (h1:k=k') (h2:b=b') (h3:H=H') (h4:off=off') (h5:n=n') : stS k b H a off n=stS k' b' H' a off' n':=by grind
theorem c3p {ag:Bool} {size:Nat} {new:List AV} (h1:new.length=size) (h2:allOne new=true) (h3:off+new.length<=l.length) :
  stS (some (ag,size)) (some (.cells l true z)) H a off new=.skip (H.upd a (.cells (a9p l off new) true z)):=if_pos ⟨h1,h2,h3⟩
theorem e8m {new:List AV} : a9p l off new=l.take off++new++l.drop (off+new.length):=(rfl)
theorem e8n {n:Int} : cellsOf (.lit (.int k n))=[.lit (.int k n)]:=(rfl)
theorem e8o {n:Bool} : cellsOf (.lit (.bool n))=[.lit (.bool n)]:=(rfl)
theorem e8p {a:Option Addr} : cellsOf (.lit (.slice a n c))=[.lit (.slice a n c)]:=(rfl)
theorem e8q {o:Nat} : cellsOf (.sl a o n c)=[.sl a o n c]:=(rfl)
theorem e8r {o:Nat} : cellsOf (.slq a o n c)=[.slq a o n c]:=(rfl)
theorem e8s : cellsOf (.agg l)=l:=(rfl)
theorem allOne_nil:allOne []=true:=(rfl)
theorem c3q {v:AV} : allOne (v :: l)=(oneC v && allOne l):=by grind[allOne]
theorem e8t {n:Int} : oneC (.lit (.int k n))=true:=(rfl)
theorem e8u {n:Bool} : oneC (.lit (.bool n))=true:=(rfl)
theorem e8v {n:ByteArray} : oneC (.lit (.string n))=true:=(rfl)
theorem e8w {n:Option Addr} : oneC (.lit (.pointer n))=true:=(rfl)
theorem e8x {a:Option Addr} : oneC (.lit (.slice a n c))=true:=(rfl)
theorem oneC_nilFunc:oneC (.lit .nilFunc)=true:=(rfl)
theorem e8y {f:Fn} {a b:Array Value} : oneC (.lit (.func f a b))=true:=(rfl)
theorem e8z {f:Fn} {a b:List AV} : oneC (.func f a b)=true:=(rfl)
theorem e9a {o:Nat} : oneC (.ptr a o)=true:=(rfl)
theorem e9b {o:Nat} : oneC (.sl a o n c)=true:=(rfl)
theorem e9c {o:Nat} : oneC (.slq a o n c)=true:=(rfl)
theorem oneC_es:oneC .es=true:=(rfl)
theorem e9d : oneC (.map a)=true:=(rfl)
theorem e9e {v:AV} : oneC (.iface t v)=true:=(rfl)
attribute [congr] e8j e8l
attribute [simp] e8i e8k c3p e8m e8n e8o e8p e8q e8r e8s allOne_nil c3q
 e8t e8u e8v e8w e8x oneC_nilFunc e8y e8z e9a e9b e9c oneC_es e9d e9e
/-! ### new blocks -/
theorem e9f : opV P H ev ⟨d,.alloc t,ty,p,af,g⟩=a6c P H t:=(rfl)
noncomputable def c3r (z:Option (List AV)) (H:Mem) : R:=match z with|some l=>.val (.ptr H.next 0) (H.add (.cells l true 0))|none=>.bad
theorem e9g : a6c P H t=c3r (a0a P t) H:=by
 grind[c3r,a6c,Mem.newK_eq,a0k]
theorem e9h : c3r (some l) H=.val (.ptr H.next 0) (H.add (.cells l true 0)):=(rfl)
theorem e9i : opV P H ev ⟨d,.box t x,ty,p,af,g⟩=a4f H (ev x):=(rfl)
theorem e9j {v:AV} : a4f H (some v)=.val (.ptr H.next 0) (H.add (.cells (cellsOf v) true 0)):=by
 simp[a4f,a0k,Mem.newK_eq]
attribute [simp] e9f e9g e9h e9i e9j
/-! ### addresses -/
def Bx (P:Program) (s:TypeId) (f:Nat) : Option Nat:=match P.underlying s with
 | some (.struct fields)=>match fields[f]? with
  | some fd=>match P.info? fd.type with
   | some i=>match Nat.beq i.size 0 with|true=>none|false=>some fd.offset
   | none=>none
  | none=>none
 | _=>none
noncomputable def faS (P:Program) (H:Mem) (ev:Ev) (o:Oper) (s:TypeId) (q:Option Nat) (x:Option AV) (f:Nat) : R:=match x,q with
 | some (.ptr a off),some q=>.val (.ptr a (off+q)) H
 | x,_=>a3v P H ev o s x f
theorem e9k {s:TypeId} {f:Nat} : opV P H ev ⟨d,.fieldAddr s x f,ty,p,af,g⟩=faS P H ev ⟨d,.fieldAddr s x f,ty,p,af,g⟩ s (Bx P s f) (ev x) f:=by
 show a3v P H ev _ s (ev x) f=_;unfold faS;split
 ·rename_i a off q h1 h2;rw[h1];have:fieldAddr P s (.ptr a off) f=some (.ptr a (off+q)):=by
   (simp_all[Bx,fieldAddr,a0y];grind)
  grind[a3h,a3v]
 ·rfl
theorem e9l (_h0:tick=tk) {o:Oper} {s:TypeId} {q q' : Option Nat} {x x' : Option AV} {f:Nat} {H H' : Mem} (h1:H=H') (h2:q=q') (h3:x=x') : faS P H ev o s q x f=faS P H' ev o s q' x' f:=by grind
theorem e9m {s:TypeId} {q f:Nat} : faS P H ev o s (some q) (some (.ptr a off)) f=.val (.ptr a (off+q)) H:=(rfl)
attribute [congr] e9l
attribute [simp] e9k e9m
def Ca (P:Program) (t:TypeId) : Option (Option Nat×Nat):=match P.underlying t with
 | some (.slice e)=>match P.info? e with|some j=>some (none,j.size)|none=>none
 | some (.array n e)=>match P.info? e with|some j=>some (some n,j.size)|none=>none
 | _=>none
noncomputable def iaS (P:Program) (H:Mem) (ev:Ev) (o:Oper) (t:TypeId) (q:Option (Option Nat×Nat)) (x i:Option AV) : R:=match q,x,i with
 | some (none,sz),some (.sl a off n c),some (.lit (.int k i))=>if 0<=i/\i.toNat<n then .val (.ptr a (off+i.toNat*sz)) H else a0q P H ev o t (some (.sl a off n c)) (some (.lit (.int k i)))
 | some (none,sz),some (.slq a off n c),some (.lit (.int k i))=>if 0<=i/\i.toNat<n then .val (.ptr a (off+i.toNat*sz)) H else a0q P H ev o t (some (.slq a off n c)) (some (.lit (.int k i)))
 | some (some n,sz),some (.ptr a off),some (.lit (.int k i))=>if 0<=i/\i.toNat<n then .val (.ptr a (off+i.toNat*sz)) H else a0q P H ev o t (some (.ptr a off)) (some (.lit (.int k i)))
 | _,x,i=>a0q P H ev o t x i
theorem a6s (h:0<=i) : natOf (.lit (.int k i))=some i.toNat:=by
 cases i with
 | ofNat n=>rfl
 | negSucc n=>grind
theorem e9n {o:Oper} {t:TypeId} {sz a off n c:Nat} {k:IntKind} {i:Int} (hq:Ca P t=some (none,sz)) (h0:0<=i) (h:i.toNat<n) :
  a0q P H ev o t (some (.sl a off n c)) (some (.lit (.int k i)))=.val (.ptr a (off+i.toNat*sz)) H:=by
 have:indexAddr P t (.sl a off n c) (.lit (.int k i))=some (.ptr a (off+i.toNat*sz)):=by
  unfold Ca at hq;unfold indexAddr;grind[a6s,a0y,Nat.ble_eq_true_of_le,Nat.blt]
 grind[a3h,a0q]
theorem e9o {o:Oper} {t:TypeId} {sz a off n c:Nat} {k:IntKind} {i:Int} (hq:Ca P t=some (none,sz)) (h0:0<=i) (h:i.toNat<n) :
  a0q P H ev o t (some (.slq a off n c)) (some (.lit (.int k i)))=.val (.ptr a (off+i.toNat*sz)) H:=by
 have:indexAddr P t (.slq a off n c) (.lit (.int k i))=some (.ptr a (off+i.toNat*sz)):=by
  unfold Ca at hq;unfold indexAddr;grind[a6s,a0y,Nat.ble_eq_true_of_le,Nat.blt]
 grind[a3h,a0q]
theorem e9p {o:Oper} {t:TypeId} {sz a off n:Nat} {k:IntKind} {i:Int} (hq:Ca P t=some (some n,sz)) (h0:0<=i) (h:i.toNat<n) :
  a0q P H ev o t (some (.ptr a off)) (some (.lit (.int k i)))=.val (.ptr a (off+i.toNat*sz)) H:=by
 have:indexAddr P t (.ptr a off) (.lit (.int k i))=some (.ptr a (off+i.toNat*sz)):=by
  unfold Ca at hq;unfold indexAddr;grind[a6s,a0y,Nat.ble_eq_true_of_le,Nat.blt]
 grind[a3h,a0q]
theorem e9q {i:Operand} : opV P H ev ⟨d,.indexAddr t x i,ty,p,af,g⟩=iaS P H ev ⟨d,.indexAddr t x i,ty,p,af,g⟩ t (Ca P t) (ev x) (ev i):=by
 show a0q P H ev _ t (ev x) (ev i)=_;unfold iaS;grind[e9n,e9o,e9p]
theorem e9r (_h0:tick=tk) {o:Oper} {t:TypeId} {q q' : Option (Option Nat×Nat)} {x x' i i' : Option AV} {H H' : Mem} (h1:H=H') (h0:q=q') (h2:x=x') (h3:i=i') : iaS P H ev o t q x i=iaS P H' ev o t q' x' i':=by grind
theorem d1z (h0:0<=i) (h:i.toNat<n) : iaS P H ev o t (some (none,sz)) (some (.sl a off n c)) (some (.lit (.int k i)))=.val (.ptr a (off+i.toNat*sz)) H:=if_pos ⟨h0,h⟩
theorem d2a (h0:0<=i) (h:i.toNat<n) : iaS P H ev o t (some (none,sz)) (some (.slq a off n c)) (some (.lit (.int k i)))=.val (.ptr a (off+i.toNat*sz)) H:=if_pos ⟨h0,h⟩
attribute [congr] e9r
attribute [simp] e9q d1z d2a
/-! ### nilCheck,extract -/
theorem e9s {i:Nat} : opV P H ev ⟨d,.extract x i,ty,p,af,g⟩=a5h H (ev x) i:=(rfl)
theorem e9t {i:Nat} : a5h H (some (.tup l)) i=ofOpt H l[i]?:=(rfl)
attribute [simp] e9s e9t
end
end Go.Ai
end
section
namespace Go.Ai
open Go.RowKit (Below)
variable {P:Program} {W:WF} {L:LF} {Q:Out→Prop} {fr:Fr} {H:Mem}
section
variable {ev:Ev} {d:Option Tmp} {ty:TypeId} {p:String} {af:Array Edge} {g:Option (Nat×Bool)}
/-! ### parts of a struct or of a slice -/
variable {t s:TypeId} {n size a off c tk i bytes:Nat} {x hi:Operand} {l z:List AV} {place:Nat→Option (Nat×Nat)} {k:IntKind} {own:Bool}
theorem evalParts_nil:Cy ev []=some []:=(rfl)
noncomputable def c3s (i:Nat) (a:Option AV) (l:Option (List (Nat×AV))) : Option (List (Nat×AV)):=match a,l with|some v,some vs=>some ((i,v) :: vs)|_,_=>none
theorem e9u {l:List (Nat×Operand)} : Cy ev ((i,x) :: l)=c3s i (ev x) (Cy ev l):=by
 grind[Cy,c3s]
theorem e9v {v:AV} {vs:List (Nat×AV)} : c3s i (some v) (some vs)=some ((i,v) :: vs):=(rfl)
noncomputable def a5n (place:Nat->Option (Nat×Nat)) (cells:List AV) : List (Nat×AV)->Option (List AV)
 | []=>some cells
 | (i,v) :: rest=>match place i with
  | some (off,size)=>if (cellsOf v).length=size/\off+(cellsOf v).length<=cells.length then a5n place (a9p cells off (cellsOf v)) rest else none
  | none=>none
theorem c3t : ∀ (ps:List (Nat×AV)) (cells:List AV),a7h place cells ps=a5n place cells ps
 | [],_=>rfl
 | (i,v) :: rest,cells=>by
  unfold a7h a5n
  cases hp:place i with
  | none=>rfl
  | some r =>
   obtain⟨off,size⟩:=r;dsimp only
   cases hb:Nat.beq (len (cellsOf v)) size with
   | false =>
    dsimp only
    (split<;>simp_all[a0t])
   | true =>
    simp_all[a0t,b3b,c3t]
noncomputable def d2b (q:Option (Nat×Nat)) (place:Nat->Option (Nat×Nat)) (cells new:List AV) (rest:List (Nat×AV)) : Option (List AV):=match q with
 | some (off,size)=>if new.length=size/\off+new.length<=cells.length then a5n place (a9p cells off new) rest else none
 | none=>none
theorem e9w {cells:List AV} : a5n place cells []=some cells:=(rfl)
theorem e9x {cells:List AV} {v:AV} {rest:List (Nat×AV)} : a5n place cells ((i,v) :: rest)=d2b (place i) place cells (cellsOf v) rest:=by
 rfl
theorem e9y {cells new:List AV} {rest:List (Nat×AV)} (h1:new.length=size) (h2:off+new.length<=cells.length) :
  d2b (some (off,size)) place cells new rest=a5n place (a9p cells off new) rest:=if_pos ⟨h1,h2⟩
attribute [simp] evalParts_nil e9u e9v e9w e9x e9y
noncomputable def a6t (P:Program) (t:TypeId) : Option (List AV×List (Nat×Nat)):=match a0a P t,P.underlying t with
 | some zero,some (.struct fields)=>match c7v P fields.toList with
  | some pl=>some (zero,pl)
  | none=>none
 | _,_=>none
noncomputable def b5q (P:Program) (H:Mem) (t:TypeId) (q:Option (List AV×List (Nat×Nat))) (ps:Option (List (Nat×AV))) : R:=match q,ps with
 | some (z,pl),some ps=>ofOpt H (b0x (a5n (nth pl) z ps))
 | _,ps=>a4g P H t ps
theorem e9z {ps:Array (Nat×Operand)} : opV P H ev ⟨d,.build t ps,ty,p,af,g⟩=b5q P H t (a6t P t) (Cy ev ps.toList):=by
 show a4g P H t (Cy ev ps.toList)=_;unfold b5q;grind[c3t,build,a6t,a4g]
theorem f0a (_h0:tick=tk) {t:TypeId} {q q' : Option (List AV×List (Nat×Nat))} {x x' : Option (List (Nat×AV))} {H H' : Mem} (h1:H=H') (h2:q=q') (h3:x=x') : b5q P H t q x=b5q P H' t q' x':=by grind
theorem f0b {pl:List (Nat×Nat)} {ps:List (Nat×AV)} : b5q P H t (some (z,pl)) (some ps)=ofOpt H (b0x (a5n (nth pl) z ps)):=(rfl)
theorem f0c : b0x (some l)=some (.agg l):=(rfl)
theorem f0d {α:Type} {l:List α} : nth l i=l[i]?:=b1e l i
attribute [congr] f0a
attribute [simp] e9z f0b f0c f0d
noncomputable def bsI (P:Program) (t:TypeId) : Option (List AV×Nat):=match a5b P t with
 | some (e,size,_)=>match a0a P e with
  | some z=>some (z,size)
  | none=>none
 | none=>none
noncomputable def bsS (P:Program) (H:Mem) (t:TypeId) (n:Nat) (q:Option (List AV×Nat)) (ps:Option (List (Nat×AV))) : R:=match q,ps with
 | some (z,size),some ps=>if n*size<=1048576/\0<n*size then (match a5n (fun i=>some (i*size,size)) (rep z n) ps with
   | some l=>.val (.sl H.next 0 n n) (H.add (.cells l true 0))
   | none=>.bad) else a2m P H t n (some ps)
 | _,ps=>a2m P H t n ps
theorem f0e {t:TypeId} {n:Nat} {ps:Array (Nat×Operand)} : opV P H ev ⟨d,.buildSlice t n ps,ty,p,af,g⟩=bsS P H t n (bsI P t) (Cy ev ps.toList):=by
 show a2m P H t n (Cy ev ps.toList)=_;unfold bsS;split
 ·rename_i z size l h1 h2;rw[h2];split
  ·rename_i h;unfold a2m;unfold bsI at h1;split at h1
   ·rename_i e sz by_ he;split at h1
    ·rename_i z' hz;cases h1;rw[he];dsimp only;have hle:Nat.ble (n*size) 1048576=true:=Nat.ble_eq_true_of_le h.1;grind[Nat.eq_of_beq_eq_true,a1k,c3t,Mem.newK_eq,a0k]
    grind
   grind
  ·rfl
 ·rfl
theorem f0f (_h0:tick=tk) {t:TypeId} {n:Nat} {q q' : Option (List AV×Nat)} {x x' : Option (List (Nat×AV))} {H H' : Mem} (h1:H=H') (h2:q=q') (h3:x=x') : bsS P H t n q x=bsS P H' t n q' x':=by grind
noncomputable def bsK (H:Mem) (n:Nat) (l:Option (List AV)) : R:=match l with|some l=>.val (.sl H.next 0 n n) (H.add (.cells l true 0))|none=>.bad
theorem f0g : bsK H n (some l)=.val (.sl H.next 0 n n) (H.add (.cells l true 0)):=(rfl)
theorem f0h {ps:List (Nat×AV)} (h1:n*size<=1048576) (h2:0<n*size) : bsS P H t n (some (z,size)) (some ps)=bsK H n (a5n (fun i=>some (i*size,size)) (rep z n) ps):=by
 unfold bsS;dsimp only;rw[if_pos ⟨h1,h2⟩];rfl
theorem f0i (h:bsI P t=some (z,size)) : a2m P H t 0 (some [])=.val (.sl H.next 0 0 0) (H.add (.cells [] true 0)):=by
 unfold bsI at h;split at h
 all_goals simp_all[Mem.newK_eq,a0k,a7h,rep,a1k,a2m]
theorem f0j : rep l 0=[]:=(rfl)
theorem b8v : rep l (n+1)=l++rep l n:=(rfl)
attribute [congr] f0f
attribute [simp] f0e f0g f0h f0j b8v
/-! ### makeInterface,makeFunc -/
theorem f0k {fn:Fn} {a b:Array Operand} : opV P H ev ⟨d,.makeFunc fn a b,ty,p,af,g⟩=a5f H fn (Bw ev a.toList) (Bw ev b.toList):=(rfl)
theorem f0l {fn:Fn} {a b:List AV} : a5f H fn (some a) (some b)=.val (.func fn a b) H:=(rfl)
attribute [simp] f0k f0l
/-! ### integers to integers -/
noncomputable def cvS (P:Program) (H:Mem) (ev:Ev) (o:Oper) (s t:TypeId) (sd td:Option TypeDesc) (x:Option AV) : R:=match sd,td,x with
 | some (.int _),some (.int k),some (.lit (.int _ n))=>.val (.lit (.int k (k.wrap n))) H
 | _,_,x=>a1l P H ev o s t x
theorem f0m : opV P H ev ⟨d,.convert s t x,ty,p,af,g⟩=cvS P H ev ⟨d,.convert s t x,ty,p,af,g⟩ s t (P.underlying s) (P.underlying t) (ev x):=by
 show a1l P H ev _ s t (ev x)=_;unfold cvS;split
 ·rename_i k' k j n h1 h2 h3;have hg:Ba P ev ⟨d,.convert s t x,ty,p,af,g⟩=some (.lit (.int k (k.wrap n))):=by
   refine b8u rfl h3 fun ρ h=>?_;show Ao P (do pure (Next.value (<- Go.convert s t (ρ x))))=_;rw[Bs (a:=.int k (k.wrap n))]
   ·rfl
   ·rw[h];refine(Bs (m:=underlying s) (a4n h1)).trans ?_;refine(Bs (m:=underlying t) (a4n h2)).trans ?_;rfl
  grind[a1l]
 ·rfl
theorem f0n (_h0:tick=tk) {o:Oper} {s t:TypeId} {sd sd' td td' : Option TypeDesc} {x x' : Option AV} {H H' : Mem} (h1:H=H') (h2:sd=sd') (h3:td=td') (h4:x=x') : cvS P H ev o s t sd td x=cvS P H' ev o s t sd' td' x':=by grind
theorem f0o {o:Oper} {k' j:IntKind} {n:Int} : cvS P H ev o s t (some (.int k')) (some (.int k)) (some (.lit (.int j n)))=.val (.lit (.int k (k.wrap n))) H:=(rfl)
attribute [congr] f0n
attribute [simp] f0m f0o
/-! ### An operation whose operands are seen -/
noncomputable def ex2 (P:Program) (H:Mem) (ev:Ev) (o:Oper) (x y:Operand) (v u:Option AV) (_:ev x=v) (_:ev y=u) : R:=opV P H ev o
noncomputable def ex3 (P:Program) (H:Mem) (ev:Ev) (o:Oper) (x y z:Operand) (v u q:Option AV) (_:ev x=v) (_:ev y=u) (_:ev z=q) : R:=opV P H ev o
theorem f0p (_h0:tick=tk) {o:Oper} {x y:Operand} {v v' u u' : Option AV} {hv:ev x=v} {hu:ev y=u} {H H' : Mem} (h1:H=H') (h2:v=v') (h3:u=u') : ex2 P H ev o x y v u hv hu=ex2 P H' ev o x y v' u' (hv.trans h2) (hu.trans h3):=by grind
theorem f0q (_h0:tick=tk) {o:Oper} {x y z:Operand} {v v' u u' q q' : Option AV} {hv:ev x=v} {hu:ev y=u} {hq:ev z=q} {H H' : Mem} (h1:H=H') (h2:v=v') (h3:u=u') (h4:q=q') :
  ex3 P H ev o x y z v u q hv hu hq=ex3 P H' ev o x y z v' u' q' (hv.trans h2) (hu.trans h3) (hq.trans h4):=by grind
attribute [congr] f0p f0q
/-! ### slices of slices and of strings -/
theorem f0r : opV P H ev ⟨d,.slice t x none (some hi) none,ty,p,af,g⟩=ex2 P H ev ⟨d,.slice t x none (some hi) none,ty,p,af,g⟩ x hi (ev x) (ev hi) rfl rfl:=(rfl)
theorem a9q {o:Oper} (hm:x∈o.op.operands.toList) (hx:∀ v,ev x=some v->toLit v=none) : Ba P ev o=none:=by
 unfold Ba;grind
theorem d2c {i:Int} (h0:0<=i) (h1:i.toNat<=c) : a0f none (some (.lit (.int k i))) none n c=some (0,i.toNat,c):=by
 simp_all[a5y,a0f,a6s,g2x,b2t]
theorem b8w {lo hi:Option Operand} {v:AV} (hx:ev x=some v) (hv:toLit v=none) :
  opV P H ev ⟨d,.slice t x lo hi none,ty,p,af,g⟩=a3g P H ev t (some v) lo hi none:=by
 show a0b P H ev _ t (ev x) lo hi none=_;unfold a0b;rw[a9q (x:=x) (by simp[Op.operands]) (fun v' h=>by grind),hx]
theorem a9r {e:TypeId} {i:TypeInfo} {x:AV} {lo hi mx:Option AV} (h1:P.underlying t=some (.slice e)) (h2:P.info? e=some i) : b7j P t x lo hi mx=a6a i.size lo hi mx x:=by
 grind[b7j]
theorem a6u {sz:Nat} (h:Ca P t=some (none,sz)) : ∃ e i,P.underlying t=some (.slice e)/\P.info? e=some i/\i.size=sz:=by
 unfold Ca at h;grind
theorem c3u {t:TypeId} {x hi:Operand} {a off n c:Nat} {k:IntKind} {i:Int} {hx:ev x=some (.sl a off n c)} {hh:ev hi=some (.lit (.int k i))} (he:(Ca P t).map (·.1)=some none) (h0:0<=i) (h1:i.toNat<=c) (h2:0<c) :
  ex2 P H ev ⟨d,.slice t x none (some hi) none,ty,p,af,g⟩ x hi (some (.sl a off n c)) (some (.lit (.int k i))) hx hh=.val (.sl a off i.toNat c) H:=by
 show opV P H ev _=_;rw[b8w hx rfl];obtain⟨q,hq,hq2⟩:=Option.map_eq_some_iff.1 he;obtain⟨q1,q2⟩:=q;dsimp only at hq2;subst hq2;obtain⟨e,i',h3,h4,h5⟩:=a6u hq;unfold a3g a1w;dsimp only;rw[hh];dsimp only;rw[a9r h3 h4];grind[a6a,d2c,a5z,Nat.eq_of_beq_eq_true,ofOpt,a0y]
theorem c3v {t:TypeId} {x hi:Operand} {a off n c:Nat} {k:IntKind} {i:Int} {hx:ev x=some (.slq a off n c)} {hh:ev hi=some (.lit (.int k i))} (he:(Ca P t).map (·.1)=some none) (h0:0<=i) (h1:i.toNat<=n) (h2:0<n) :
  ex2 P H ev ⟨d,.slice t x none (some hi) none,ty,p,af,g⟩ x hi (some (.slq a off n c)) (some (.lit (.int k i))) hx hh=.val (.slq a off i.toNat c) H:=by
 show opV P H ev _=_;rw[b8w hx rfl];obtain⟨q,hq,hq2⟩:=Option.map_eq_some_iff.1 he;obtain⟨q1,q2⟩:=q;dsimp only at hq2;subst hq2;obtain⟨e,i',h3,h4,h5⟩:=a6u hq;unfold a3g a1w;dsimp only;rw[hh];dsimp only;rw[a9r h3 h4];grind[a6a,d2c,b7i,Nat.ble_eq_true_of_le,Nat.blt,ofOpt,a0y]
attribute [simp] f0r c3u c3v
/-! ### append -/
theorem f0s {y:Operand} : opV P H ev ⟨d,.call ⟨.builtin .append,#[x,y],#[s,t]⟩,ty,p,af,g⟩=ex2 P H ev ⟨d,.call ⟨.builtin .append,#[x,y],#[s,t]⟩,ty,p,af,g⟩ x y (ev x) (ev y) rfl rfl:=(rfl)
noncomputable def apI (P:Program) (s t:TypeId) : Option (Nat×Nat):=match a5b P s,P.underlying t with
 | some (_,size,bytes),some (.slice _)=>some (size,bytes)
 | _,_=>none
theorem a3m {y:Operand} {v u:AV} (hx:ev x=some v) (hy:ev y=some u) (h:apI P s t=some (size,bytes)) :
  opV P H ev ⟨d,.call ⟨.builtin .append,#[x,y],#[s,t]⟩,ty,p,af,g⟩=(match a2c H size bytes v u with|some (v,H)=>.val v H|none=>.bad):=by
 show Cd P H ev _ ⟨.builtin .append,#[x,y],#[s,t]⟩=_;unfold Cd;have e1:Bw ev (#[x,y] : Array Operand).toList=some [v,u]:=by
  simp_all
 rw[e1];dsimp only;unfold a3f;dsimp only;unfold b7n;dsimp only;have e2:(#[s,t] : Array TypeId)[0]?=some s:=rfl;have e3:(#[s,t] : Array TypeId)[1]?=some t:=rfl;grind[append,apI,c1k]
theorem c3w {z:Nat} (h:H.get a=some (.cells l own z)) (hl:off+n*size<=l.length) : Cz H size n (.sl a off n c)=some ((l.drop off).take (n*size)):=by
 simp_all[Cz,a6i]
theorem d2d {z:Nat} (h:H.get a=some (.cells l own z)) (hl:off+n*size<=l.length) : Cz H size n (.slq a off n c)=some ((l.drop off).take (n*size)):=by
 simp_all[Cz,a6i]
theorem b8x {b:Nat} (h1:a<=1048576) (h2:b<=1048576) (h3:c<=1048576) : small a b c=true:=by
 grind[small]
theorem b8y : a5c H l n size=some (.slq H.next 0 n 0,H.add (.cells l true size)):=by
 grind[a5c,Mem.newK_eq]
theorem d2e {size bytes n:Nat} {x:AV} {new:List AV} (hn:lenOf x=some (n+1)) (hs:0<size) (hf:Cz H size (n+1) x=some new) (hl:new.length=(n+1)*size) (h1:n+1<=1048576) (h2:bytes<=1048576) :
  a2c H size bytes (.nl) x=some (.slq H.next 0 (n+1) 0,H.add (.cells new true size)):=by
 unfold a2c
 rw[hn]
 show (match Nat.beq size 0,Cz H size (n+1) x with|false,some new=>a2l H size bytes (n+1) (.nl) new|_,_=>none)=_
 have hb:Nat.beq size 0=false:=by
  grind[Nat.eq_of_beq_eq_true]
 simp_all[a2l,a0t,c1i,b8x,b8y]
theorem b8z {size bytes n k off a:Nat} {x:AV} {new l:List AV} {own:Bool} {z:Nat} (hn:lenOf x=some (n+1)) (hs:0<size) (hf:Cz H size (n+1) x=some new) (hl:new.length=(n+1)*size)
  (hg:H.get a=some (.cells l own z)) (hle:off+k*size<=l.length) (h1:k+(n+1)<=1048576) (h3:k<=1048576) (h2:bytes<=1048576) :
  a2c H size bytes (.sl a off k k) x=some (.slq H.next 0 (k+(n+1)) 0,H.add (.cells ((l.drop off).take (k*size)++new) true size)):=by
 unfold a2c;rw[hn];show (match Nat.beq size 0,Cz H size (n+1) x with|false,some new=>a2l H size bytes (n+1) (.sl a off k k) new|_,_=>none)=_;have hb:Nat.beq size 0=false:=by
  grind[Nat.eq_of_beq_eq_true]
 rw[hb,hf];dsimp only;unfold a2l;rw[a0t,hl,Nat.beq_refl];dsimp only;unfold b4m;have hb2:Nat.ble (k+(n+1)) k=false:=by
  cases hb2:Nat.ble (k+(n+1)) k with
  | false=>rfl
  | true=>have:=Nat.le_of_ble_eq_true hb2;omega
 simp_all[b8x,b4z,a6i,b8y]
theorem d2f {size bytes n k a:Nat} {x:AV} {new l:List AV} (hn:lenOf x=some (n+1)) (hs:0<size) (hf:Cz H size (n+1) x=some new) (hl:new.length=(n+1)*size)
  (hg:H.get a=some (.cells l true size)) (hle:l.length=k*size) (h1:k+(n+1)<=1048576) (h2:bytes<=1048576) (h4:allOne new=true) :
  a2c H size bytes (.slq a 0 k 0) x=some (.slq (H.rm a).next 0 (k+(n+1)) 0,(H.rm a).add (.cells (l++new) true size)):=by
 unfold a2c;rw[hn];show (match Nat.beq size 0,Cz H size (n+1) x with|false,some new=>a2l H size bytes (n+1) (.slq a 0 k 0) new|_,_=>none)=_;have hb:Nat.beq size 0=false:=by
  grind[Nat.eq_of_beq_eq_true]
 rw[hb,hf];dsimp only;unfold a2l;rw[a0t,hl,Nat.beq_refl];dsimp only;unfold c1j;rw[hg];dsimp only;have e1:(Nat.beq size size && Nat.beq 0 (0*size))=true:=by simp
 have e2:Nat.ble (0+(k+(n+1))*size) (len l)=false:=by
  rw[a0t,hle]
  cases hb2:Nat.ble (0+(k+(n+1))*size) (k*size) with
  | false=>rfl
  | true =>
   (simp_all;grind)
 have e3:(Nat.beq (0+k*size) (len l) && small (k+(n+1)) 0 bytes && allOne new)=true:=by
  simp_all[b8x,a0t]
 (simp_all[b8y,Mem.delK_eq,b4z,a6i];grind)
attribute [simp] f0s
end
end Go.Ai
end
section
namespace Go.Ai
open Go.RowKit (Below)
variable {P:Program} {W:WF} {L:LF} {Q:Out→Prop} {fr:Fr} {H:Mem}
section
variable {ev:Ev} {d:Option Tmp} {ty:TypeId} {p:String} {af:Array Edge} {g:Option (Nat×Bool)}
variable {t kt:TypeId} {a c:Nat} {s:ByteArray} {l:List (ByteArray×Nat)} {k x:Operand}
def b1s (l:List (ByteArray×AV×Nat)) : List (AV×AV×Nat):=l.map fun x=>(.lit (.string x.1),x.2.1,x.2.2)
theorem litAll_keys:∀ l:List (ByteArray×AV×Nat),litAll ((b1s l).map (·.1))=some (l.map fun x=>Value.string x.1)
 | []=>rfl
 | x :: l=>by
  have:=litAll_keys l;simp only[b1s,g2v] at this |-;simp only[litAll];rw[this]
def a4o (s:ByteArray) : List (ByteArray×AV×Nat)->Nat->Option Nat
 | [],_=>none
 | x :: l,i=>if s=x.1 then some i else a4o s l (i+1)
theorem c3x (a b:ByteArray) : (a == b)=decide (a=b):=by
 by_cases h:a=b
 ·subst h
  cases a with
  | mk d=>show (d == d)=_;simp
 ·rw[decide_eq_false h]
  cases a with
  | mk d=>cases b with
   | mk e =>
    show (d == e)=false;grind
theorem d2g (s:ByteArray) : ∀ (l:List (ByteArray×AV×Nat)) (i:Nat),Instr.findNow .string (.string s) ((l.map fun x=>Value.string x.1).map fun q=>(⟨q,undef,0⟩ : MapEntry)) i=some ((a4o s l i).map fun j=>(j,undef))
 | [],i=>rfl
 | x :: l,i=>by
  have ih:=d2g s l (i+1);simp only[g2v] at ih |-;unfold Instr.findNow a4o;show (match (some (s == x.1) : Option Bool) with|some true=>_|some false=>_|none=>none)=_
  (simp_all[c3x];grind)
theorem d2h (hk:P.underlying kt=some .string) (s:ByteArray) (l:List (ByteArray×AV×Nat)) : b0y P kt (.string s) (b1s l)=some (a4o s l 0):=by
 unfold b0y;rw[litAll_keys];dsimp only;have:Ao P (Instr.findKey kt (.string s) ((l.map fun x=>Value.string x.1).map fun q=>(⟨q,undef,0⟩ : MapEntry)))=some ((a4o s l 0).map fun j=>(j,undef)):=by
  unfold Instr.findKey;rw[Bs (a4n hk),d2g];rfl
 rw[this];cases a4o s l 0<;>rfl
theorem d2i {b:Bool} {n:Nat} (hk:P.underlying kt=some .string) : Ao P (Instr.checkKey b (n+1) kt (.string s))=some ():=by
 unfold Instr.checkKey;rw[Bs (a4n hk)];rfl
theorem c3y (s:ByteArray) : ∀ (l:List (ByteArray×AV×Nat)) (i:Nat),match a4o s l i with|some j=>i<=j/\∃ x,l[j-i]?=some x/\x.1=s|none=>∀ x∈l,x.1≠s
 | [],i=>by simp[a4o]
 | x :: l,i=>by
  unfold a4o;by_cases h:s=x.1
  ·grind
  ·rw[if_neg h];have ih:=c3y s l (i+1);grind
def a1y (l:List (ByteArray×Nat)) : List (AV×AV×Nat):=b1s (l.map fun x=>(x.1,.lit (.bool true),x.2))
def a4p (s:ByteArray) (l:List (ByteArray×Nat)) : Bool:=l.any fun x=>decide (x.1=s)
theorem f0t {et:TypeId} (ht:P.underlying t=some (.map kt et)) (hk:P.underlying kt=some .string) (hz:b4n P et=some (.bool false)) (hg:H.get a=some (.map (a1y l) c)) :
  lookup P H t (.map a) (.lit (.string s)) false=some (.lit (.bool (a4p s l))):=by
 unfold lookup;rw[ht];dsimp only[toLit];rw[hg];dsimp only;rw[d2i (n:=9999) hk];unfold a1y;rw[d2h hk];dsimp only;have hs:=c3y s (l.map fun x=>(x.1,AV.lit (.bool true),x.2)) 0
 cases hka:a4o s (l.map fun x=>(x.1,AV.lit (.bool true),x.2)) 0 with
 | none =>
  rw[hka] at hs;unfold b7l;dsimp only;rw[hz];have:a4p s l=false:=by
   unfold a4p;rw[List.any_eq_false];intro x hx;have:=hs (x.1,.lit (.bool true),x.2) (Ei.2 ⟨x,hx,rfl⟩);grind
  rw[this];rfl
 | some j =>
  rw[hka] at hs;obtain⟨_,x,hx,hxs⟩:=hs;rw[Nat.sub_zero,g2s] at hx;obtain⟨y,hy,rfl⟩:=g2q.1 hx;unfold b7l;dsimp only;rw[b1e];have:(b1s (l.map fun x=>(x.1,AV.lit (.bool true),x.2)))[j]?=some (.lit (.string y.1),.lit (.bool true),y.2):=by
   grind[b1s]
  rw[this];have:a4p s l=true:=by
   grind[a4p]
  rw[this];rfl
theorem f0u {et:TypeId} (ht:P.underlying t=some (.map kt et)) (hk:P.underlying kt=some .string) (hg:H.get a=some (.map (a1y l) c)) (hn:a4p s l=false) :
  mapUpdate P H t (.map a) (.lit (.string s)) (.lit (.bool true))=some (H.upd a (.map (a1y (l++[(s,c)])) (c+1))):=by
 unfold mapUpdate;rw[ht];dsimp only[toLit];rw[hg];dsimp only;rw[d2i (n:=9999) hk];have e:b0y P kt (.string s) (a1y l)=some (a4o s (l.map fun x=>(x.1,AV.lit (.bool true),x.2)) 0):=d2h hk s _;rw[e];have hs:=c3y s (l.map fun x=>(x.1,AV.lit (.bool true),x.2)) 0
 cases hka:a4o s (l.map fun x=>(x.1,AV.lit (.bool true),x.2)) 0 with
 | none =>
  grind[c1l,Mem.setK_eq,b1s,a1y]
 | some j =>
  exfalso;rw[hka] at hs;obtain⟨_,x,hx,hxs⟩:=hs;rw[Nat.sub_zero,g2s] at hx;obtain⟨y,hy,rfl⟩:=g2q.1 hx;grind[a4p]
def b5r (P:Program) (t:TypeId) : Bool:=match P.underlying t with
 | some (.map kt et)=>(match P.underlying kt with|some .string=>true|_=>false) && (match P.info? et with|some i=>(match i.zero with|some (.bool false)=>true|_=>false)|none=>false)
 | _=>false
theorem d2j (h:b5r P t=true) : ∃ kt et,P.underlying t=some (.map kt et)/\P.underlying kt=some .string/\b4n P et=some (.bool false):=by
 (simp_all[b5r,b4n];grind)
noncomputable def b9a (P:Program) (H:Mem) (ev:Ev) (o:Oper) (x y:Operand) (a:Nat) (u:AV) (b:Option Blk) (_:ev x=some (.map a)) (_:ev y=some u) (_:H.get a=b) : R:=opV P H ev o
noncomputable def b9b (P:Program) (H:Mem) (ev:Ev) (o:Oper) (x y z:Operand) (a:Nat) (u v:AV) (b:Option Blk) (_:ev x=some (.map a)) (_:ev y=some u) (_:ev z=some v) (_:H.get a=b) : R:=opV P H ev o
theorem f0v {tk:Nat} (_h0:tick=tk) {o:Oper} {x y:Operand} {a:Nat} {u:AV} {b b' : Option Blk} {hx:ev x=some (.map a)} {hy:ev y=some u} {hb:H.get a=b} (h1:b=b') : b9a P H ev o x y a u b hx hy hb=b9a P H ev o x y a u b' hx hy (hb.trans h1):=rfl
theorem f0w {tk:Nat} (_h0:tick=tk) {o:Oper} {x y z:Operand} {a:Nat} {u v:AV} {b b' : Option Blk} {hx:ev x=some (.map a)} {hy:ev y=some u} {hz:ev z=some v} {hb:H.get a=b} (h1:b=b') : b9b P H ev o x y z a u v b hx hy hz hb=b9b P H ev o x y z a u v b' hx hy hz (hb.trans h1):=rfl
attribute [congr] f0v f0w
theorem f0x {m:Operand} {b:Bool} : opV P H ev ⟨d,.lookup t m k b,ty,p,af,g⟩=ex2 P H ev ⟨d,.lookup t m k b,ty,p,af,g⟩ m k (ev m) (ev k) rfl rfl:=(rfl)
theorem f0y {o:Oper} {y:Operand} {u:AV} {hx:ev x=some (.map a)} {hy:ev y=some u} : ex2 P H ev o x y (some (.map a)) (some u) hx hy=b9a P H ev o x y a u (H.get a) hx hy rfl:=(rfl)
theorem f0z {o:Oper} {y z:Operand} {u v:AV} {hx:ev x=some (.map a)} {hy:ev y=some u} {hz:ev z=some v} : ex3 P H ev o x y z (some (.map a)) (some u) (some v) hx hy hz=b9b P H ev o x y z a u v (H.get a) hx hy hz rfl:=(rfl)
theorem f1a {m:Operand} {hm:ev m=some (.map a)} {hk:ev k=some (.lit (.string s))} {hg:H.get a=some (.map (a1y l) c)} (h:b5r P t=true) :
  b9a P H ev ⟨d,.lookup t m k false,ty,p,af,g⟩ m k a (.lit (.string s)) (some (.map (a1y l) c)) hm hk hg=.val (.lit (.bool (a4p s l))) H:=by
 show a4i P H ev _ t (ev m) (ev k) false=_;obtain⟨kt,et,h1,h2,h3⟩:=d2j h;unfold a4i c1o;rw[a9q (x:=m) (by simp[Op.operands]) (fun v' h=>by rw[hm] at h;cases h;rfl),hm,hk];dsimp only;rw[f0t h1 h2 h3 hg];rfl
theorem f1b {m:Operand} : opV P H ev ⟨d,.mapUpdate t m k x,ty,p,af,g⟩=ex3 P H ev ⟨d,.mapUpdate t m k x,ty,p,af,g⟩ m k x (ev m) (ev k) (ev x) rfl rfl rfl:=(rfl)
theorem f1c {m:Operand} {hm:ev m=some (.map a)} {hk:ev k=some (.lit (.string s))} {hx:ev x=some (.lit (.bool true))}
  {hg:H.get a=some (.map (a1y l) c)} (h:b5r P t=true) (hn:a4p s l=false) :
  b9b P H ev ⟨d,.mapUpdate t m k x,ty,p,af,g⟩ m k x a (.lit (.string s)) (.lit (.bool true)) (some (.map (a1y l) c)) hm hk hx hg=.skip (H.upd a (.map (a1y (l++[(s,c)])) (c+1))):=by
 show a5g P H t (ev m) (ev k) (ev x)=_;grind[d2j,a5g,f0u]
theorem f1d : opV P H ev ⟨d,.makeMap t none,ty,p,af,g⟩=.val (.map H.next) (H.add (.map (a1y []) 0)):=by
 show a4h P H ev t none=_;unfold a4h;dsimp only;rw[Mem.newK_eq];rfl
attribute [simp] f0y f0z f1a f1c f0x f1b f1d
end
end Go.Ai
end
section
namespace Go.Ai
open Go.RowKit (Below)
variable {P:Program} {B G:Nat} {ρ ρ' : Rn} {H H' : Mem} {w w' : World}
mutual
theorem VR.back (hs:Sub ρ ρ') : ∀ {v:AV} {u0 u:Value},VR ρ v u0->VR ρ' v u->VR ρ v u
 | .lit _,_,_,_,r=>r
 | .ptr _ _,_,_,⟨b,o,k,e,_⟩,⟨b',o',k',e',r'⟩=>by
  have:=hs _ _ e;rw[this] at e';cases e';exact⟨b,o,k,e,r'⟩
 | .sl _ _ _ _,_,_,⟨b,o,k,e,_⟩,⟨b',o',k',e',r'⟩=>by
  have:=hs _ _ e;rw[this] at e';cases e';exact⟨b,o,k,e,r'⟩
 | .slq _ _ _ _,_,_,⟨b,o,k,e,_⟩,⟨b',o',k',e',r'⟩=>by
  have:=hs _ _ e;rw[this] at e';cases e';exact⟨b,o,k,e,r'⟩
 | .es,_,_,_,r=>r
 | .map _,_,_,⟨b,o,k,e,_⟩,⟨b',o',k',e',r'⟩=>by
  have:=hs _ _ e;rw[this] at e';cases e';exact⟨b,o,k,e,r'⟩
 | .func _ _ _,_,_,⟨_,_,_,r,q⟩,⟨f',c',e',r',q'⟩=>⟨f',c',e',VRs.back hs r r',VRs.back hs q q'⟩
 | .iface _ _,_,_,⟨_,_,r⟩,⟨u',e',r'⟩=>⟨u',e',VR.back hs r r'⟩
 | .agg _,_,_,⟨_,_,r⟩,⟨cs,e',r'⟩=>⟨cs,e',VRs.back hs r r'⟩
 | .tup _,_,_,⟨_,_,r⟩,⟨cs,e',r'⟩=>⟨cs,e',VRs.back hs r r'⟩
theorem VRs.back (hs:Sub ρ ρ') : ∀ {l:List AV} {us0 us:List Value},VRs ρ l us0->VRs ρ' l us->VRs ρ l us
 | [],_,_,_,r=>r
 | _ :: _,_,_,⟨_,_,_,r,q⟩,⟨u,us',e,r',q'⟩=>⟨u,us',e,VR.back hs r r',VRs.back hs q q'⟩
end
variable {g:Gb} {a off:Nat} {cs:List AV}
theorem ER.back (hs:Sub ρ ρ') : ∀ {l:List (AV×AV×Nat)} {es0 es:List MapEntry},ER ρ l es0->ER ρ' l es->ER ρ l es
 | [],_,_,_,r=>r
 | _ :: _,_,_,⟨_,_,_,r,s,_,z⟩,⟨e,es',q,r',s',t',z'⟩=>⟨e,es',q,r.back hs r',s.back hs s',t',ER.back hs z z'⟩
theorem BR.back (hs:Sub ρ ρ') {x:Blk} {b o k:Nat} (h0:BR B ρ x b o k w) (h:BR B ρ' x b o k w') : BR B ρ x b o k w':=by
 cases x with
 | cells l own z =>
  obtain⟨c0,e0,fz0,hb0,hc0,ho0⟩:=h0;obtain⟨c,e,fz,hb,hc,ho⟩:=h;refine⟨c,e,fz,hb,fun i v hi=>?_,ho⟩;obtain⟨u0,_,hv0⟩:=hc0 i v hi;obtain⟨u,hu,hv⟩:=hc i v hi;exact⟨u,hu,hv0.back hs hv⟩
 | map es clock =>
  obtain⟨es0,_,he0,_⟩:=h0;obtain⟨es',hb,he,hB⟩:=h;exact⟨es',hb,ER.back hs he0 he,hB⟩
 | siter s pos=>exact h
 | typ T l ex =>
  obtain⟨_,_,c0,hb0,hc0,_⟩:=h0;obtain⟨h1,h2,c,hb,hc,h3⟩:=h;refine⟨h1,h2,c,hb,fun i v hi=>?_,h3⟩;obtain⟨u0,_,hv0⟩:=hc0 i v hi;obtain⟨u,hu,hv⟩:=hc i v hi;exact⟨u,hu,hv0.back hs hv⟩
structure Ge (H H' : Mem) : Prop where
 le:H.next<=H'.next
 same:∀ a,a<H.next->H'.get a=H.get a
theorem Sim.back (s:Sim B G ρ H w) (hx:Ext B H.next ρ w ρ' w') (s' : Sim B G ρ' H' w') (hg:Ge H H') : Sim B G ρ H w':=by
 have hsub:=hx.sub s;refine⟨fun a x ha=>?_,s.inj,s.fresh,s.glob,s.names,s'.base⟩;rcases s.blk a x ha with hn|⟨b,o,k,hr,hb⟩
 ·grind
 ·have hlt:=s.lt_next hr;refine .inr ⟨b,o,k,hr,?_⟩;have hb':=s'.at (by rw[hg.same a hlt];omega) (hsub _ _ hr);exact hb.back hsub hb'
def plainV:AV->Bool
 | .lit _=>true
 | .es=>true
 | .iface _ v=>plainV v
 | .tup []=>true
 | .tup [a]=>plainV a
 | .tup [a,b]=>plainV a && plainV b
 | .tup [a,b,c]=>plainV a && plainV b && plainV c
 | _=>false
theorem a6v {ρ'': Rn} : ∀ {v:AV} {u:Value},plainV v=true->VR ρ' v u->VR ρ'' v u
 | .lit _,_,_,r=>r
 | .es,_,_,r=>r
 | .iface t v,_,h,⟨u',e,r⟩=>⟨u',e,a6v (v:=v) (by assumption) r⟩
 | .tup [],_,_,⟨cs,e,r⟩=>⟨cs,e,r⟩
 | .tup [a],_,h,⟨cs,e,u,us,e1,r,q⟩=>⟨cs,e,u,us,e1,a6v (v:=a) (by assumption) r,q⟩
 | .tup [a,b],_,h,⟨cs,e,u,us,e1,r,u2,us2,e2,r2,q⟩=>by
  simp only[plainV,Ds] at h;exact⟨cs,e,u,us,e1,a6v (v:=a) h.1 r,u2,us2,e2,a6v (v:=b) h.2 r2,q⟩
 | .tup [a,b,c],_,h,⟨cs,e,u,us,e1,r,u2,us2,e2,r2,u3,us3,e3,r3,q⟩=>by
  simp only[plainV,Ds] at h;exact⟨cs,e,u,us,e1,a6v (v:=a) h.1.1 r,u2,us2,e2,a6v (v:=b) h.1.2 r2,u3,us3,e3,a6v (v:=c) h.2 r3,q⟩
 | .ptr _ _,_,h,_=>by grind[plainV]
 | .sl _ _ _ _,_,h,_=>by grind[plainV]
 | .slq _ _ _ _,_,h,_=>by grind[plainV]
 | .map _,_,h,_=>by grind[plainV]
 | .func _ _ _,_,h,_=>by grind[plainV]
 | .agg _,_,h,_=>by grind[plainV]
 | .tup (_ :: _ :: _ :: _ :: _),_,h,_=>by grind[plainV]
theorem WC.drop {f:FuncId} {args:List AV} {K:AV->Prop} (h:WC G P f args H fun r=>∃ v H',r=.ret v H'/\plainV v=true/\Ge H H'/\K v) : WC G P f args H fun r=>∃ v,r=.ret v H/\K v:=by
 intro B ρ us w s hv;refine(h B ρ us w s hv).mono ?_;rintro e w' ⟨r,⟨v,H',rfl,hp,hg,hk⟩,hc⟩;refine⟨_,⟨v,rfl,hk⟩,?_⟩
 cases e with
 | returned u =>
  obtain⟨ρ',h1,h2,h3,h4⟩:=hc;exact⟨ρ,⟨fun _ _=>rfl,h1.keeps,h1.below⟩,s.back h1 h2 hg,a6v hp h3,Dp _⟩
 | panicked chain=>assumption
 | outgrown=>assumption
theorem WC.drop1 {f:FuncId} {args:List AV} {v:AV} (hp:plainV v=true) (h:WC G P f args H fun r=>∃ H',r=.ret v H'/\Ge H H') : WC G P f args H fun r=>r=.ret v H:=by
 refine(WC.drop (K:=fun u=>u=v) (h.mono ?_)).mono ?_
 all_goals grind
/-! ### rows of cells -/
def Row (g:Gb) (a off:Nat) (cs:List AV) : Prop:=∃ l own z,g a=some (.cells l own z)/\off+cs.length<=l.length/\(l.drop off).take cs.length=cs
theorem Row.agg {g:Gb} {a off:Nat} {cs:List AV} (h:Row g a off cs) {k s:Nat} (hk:k+s<=cs.length) : Bd (some (true,s)) (g a) (off+k)=some (.agg ((cs.drop k).take s)):=by
 obtain⟨l,own,z,h1,h2,h3⟩:=h
 grind[d1y,List.drop_take,List.drop_drop]
theorem Row.one (h:Row g a off cs) {k s:Nat} (hk:k<cs.length) : Bd (some (false,s)) (g a) (off+k)=some cs[k]:=by
 obtain⟨l,own,z,h1,h2,h3⟩:=h;grind[d1x]
theorem Row.mono {g': Gb} (h:Row g a off cs) (hg:g' a=g a) : Row g' a off cs:=by
 obtain⟨l,own,z,h1,h2⟩:=h;exact⟨l,own,z,hg.trans h1,h2⟩
theorem c3z {α:Type} {f:α->List AV} {sz:Nat} : ∀ (xs:List α) (i:Nat) (h:i<xs.length),(∀ x∈xs,(f x).length=sz)->((xs.flatMap f).drop (i*sz)).take sz=f xs[i]
 | x :: xs,0,_,hf=>by
  grind
 | x :: xs,i+1,h,hf=>by
  have h1:=hf x (by simp);rw[g4m,g4j,g4i,<- g3z,<- h1,List.drop_left,h1];have:=c3z xs i (by simpa using h) (fun y hy=>hf y (by simp[hy]));simpa using this
 | [],i,h,_=>by grind
theorem c4a {α:Type} {f:α->List AV} {sz:Nat} : ∀ (xs:List α),(∀ x∈xs,(f x).length=sz)->(xs.flatMap f).length=xs.length*sz
 | [],_=>by simp
 | x :: xs,hf=>by
  rw[g4m,Dr,hf x (by simp),c4a xs (fun y hy=>hf y (by simp[hy])),Ek,g4j,g4i]
end Go.Ai
end
section
namespace Go.Ai
inductive It where
 | run (i:Nat)
 | mk (i:Nat)
 | gate (hs as:List Nat)
 deriving DecidableEq,Repr
structure Hs where
 cl:List Nat
 di:List Nat
 acl:List Nat
 adi:List Nat
def a7w (ops:List Oper) : List Nat->Hs->(Hs->List It)->List It
 | [],s,K=>K s
 | i :: l,s,K=>match ops[i]? with
  | some o=>match cls o.op with
   | .alloc=>.mk i :: a7w ops l ⟨[],s.cl++s.di,[i],s.acl++s.adi⟩ K
   | .read=>.run i :: a7w ops l ⟨i :: s.cl,s.di,s.acl,s.adi⟩ K
   | _=>.run i :: a7w ops l s K
  | none=>[]
def b5s (s:Hs) (K:Hs->List It) : List It:=match s.di,s.adi with
 | [],[]=>K s
 | _,_=>.gate s.di s.adi :: K ⟨s.di++s.cl,[],s.adi++s.acl,[]⟩
def b3i (tab all:List Nat) (ops:List Oper) : Nat->List Nat->Hs->List It
 | k,[],s=>a7w ops (a1x tab all k ops 0) s fun s=>b5s s fun _=>[]
 | k,c :: cs,s=>a7w ops (a1x tab all k ops 0) s fun s=>b5s s fun s =>
   .run c :: b3i tab all ops (k+1) cs ⟨[],s.cl.filter fun i=>!Aw tab c i,[],s.acl.filter fun i=>!Aw tab c i⟩
def b3j (ops:List Oper) : List It:=b3i (ancs [] ops) (chainOf ops 0) ops 0 (chainOf ops 0) ⟨[],[],[],[]⟩
def b3k (o:Oper) : List Tmp:=o.op.operands.toList.filterMap fun x=>match x with|.tmp t=>some t|_=>none
def c4b (tab:List Nat) (ops:List Oper) (i:Nat) (t:Tmp) : Bool:=match a3w t ops 0 with
 | none=>true
 | some j=>Aw tab i j || (Aw tab j i || Nat.beq i j)
def ahead (tab:List Nat) (ops:List Oper) (i:Nat) (t:Tmp) : Bool:=match a3w t ops 0 with
 | none=>true
 | some j=>Aw tab i j
def b5t (P:Program) (t:TypeId) : Bool:=match P.underlying t with|some (.slice _)=>false|some _=>true|none=>false
def b9c (P:Program) (o:Oper) : Bool:=match o.op with
 | .convert s d _=>b5t P s && b5t P d
 | _=>true
def b5u (P:Program) (tab:List Nat) (ops:List Oper) (o:Oper) (i:Nat) : Bool :=
 (b3k o).all (c4b tab ops i) && (match o.guard with|none=>true|some g=>Aw tab i g.1) && b9c P o
def a7x (P:Program) (tab:List Nat) (ops:List Oper) : List Oper->Nat->Bool
 | [],_=>true
 | o :: l,i=>b5u P tab ops o i && a7x P tab ops l (i+1)
def c4c (tab:List Nat) (ops:List Oper) (i:Nat) : Bool:=match ops[i]? with
 | some o=>o.dst.isSome && (b3k o).all (ahead tab ops i)
 | none=>false
def a1c (tab:List Nat) (ops:List Oper) : Nat->List It->Bool
 | s,[]=>Nat.beq (s+1) (2 ^ ops.length)
 | s,.run i :: l=>!s.testBit i && Nat.beq ((tab.getD i 0) &&& s) (tab.getD i 0) && a1c tab ops (s ||| 2 ^ i) l
 | s,.mk i :: l=>!s.testBit i && Nat.beq ((tab.getD i 0) &&& s) (tab.getD i 0) && a1c tab ops (s ||| 2 ^ i) l
 | s,.gate hs _ :: l=>hs.all (c4c tab ops) && a1c tab ops s l
def b9d (P:Program) (ops:List Oper) : Bool :=
 b2w ops && Tables.follows P.toTables .mixedOrders && a7x P (ancs [] ops) ops ops 0 && a1c (ancs [] ops) ops 0 (b3j ops)
end Go.Ai
end

