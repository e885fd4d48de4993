/- A small verified interpreter over names, its proofs, and what was proved with it. No condition. -/
import Derived.Recover
import Derived.OpenShut
import Derived.ChangeArms
import Derived.DataReads
import Derived.LaidMore
import Derived.LaidLaws
import Derived.Test.YtpimmmnkcgnjjaaGreatO02
set_option linter.all false
set_option linter.deprecated false
section
namespace Go.Ai
open Go.RowKit (Below)
variable {B G n n0:Nat} {P:Program} {ops:Array Oper} {fr0:Fr} {ρ0 ρ:Rn} {w0 w:World} {dn cs:List Nat} {res:T2 AV} {H:Mem} {held:List Nat} {als:Als} {listed:Array Bool} {a:Act} {callf:CallF}
variable {o:Oper} {out:Out}
theorem Sim.named (s:Sim B G ρ H w) {nm:Nat} {x:Blk} {ob:Obj} {k:Nat} {w' : World} (hx:H.get nm=some x) (hn:ρ nm=Option.none) (hlt:nm<H.next) (hG:G<=nm) (hw:w'.heap=w.heap.push ob)
  (hb:BR B (upd ρ nm (w.heap.size,0,k)) x w.heap.size 0 k w') : Sim B G (upd ρ nm (w.heap.size,0,k)) H w':=by
 have hsub:=a6q (x:=(w.heap.size,0,k)) hn;have old:∀ j y b o k',H.get j=some y->ρ j=some (b,o,k')->b≠w.heap.size/\w'.heap[b]?=w.heap[b]?:=by
  intro j y b o k' hj hr;have hlt:=(s.at hj hr).lt;grind
 refine⟨?_,?_,?_,?_,s.names,by rw[hw];simp;exact g5d s.base⟩
 ·intro j y hy;by_cases e:j=nm
  ·grind[a0l]
  ·rw[a0c _ _ e];rcases s.blk j y hy with h|⟨b',o',k',hr,hb'⟩
   ·grind
   ·exact .inr ⟨b',o',k',hr,hb'.mono hsub (old j y b' o' k' hy hr).2⟩
 ·intro j j' y y' b1 o1 k1 o2 k2 h h' hne ho hr hr';by_cases e:j=nm
  ·subst e;rw[a0l] at hr;cases hr;rw[a0c _ _ (Ne.symm hne)] at hr';grind
  ·rw[a0c _ _ e] at hr;by_cases e' : j'=nm
   ·subst e';rw[a0l] at hr';grind
   ·rw[a0c _ _ e'] at hr';exact s.inj j j' y y' b1 o1 k1 o2 k2 h h' hne ho hr hr'
 ·intro j hj;rw[a0c _ _ (by omega)];exact s.fresh j hj
 ·intro j y hj hy;rw[a0c _ _ (by omega)];exact s.glob j y hj hy
theorem d0t {op:Op} (h:cls op≠.no) : ∀ cs b,op≠.select cs b:=by
 rintro c b rfl;exact h rfl
theorem d0u {ev:Ev} {v:AV} (h:cls o.op=.read) (hq:quiet P H ev o=some v) : opV P H ev o=.val v H:=by
 grind[quiet,d0m]
structure b6a (B G n n0:Nat) (P:Program) (callf:CallF) (ops:Array Oper) (fr0:Fr) (ρ0:Rn) (w0:World) (out:Out) (listed:Array Bool) (a:Act) (w:World) : Prop where
 go:∃ dn cs res H held als ρ,a6s B G n n0 P ops fr0 ρ0 w0 dn cs res H held als listed ρ a w/\(∀ c∈dn,Dn listed c)/\(∀ x∈als,G<=x.2.1) /\
  gate P callf ops (ancs [] ops.toList) fr0 (dn++cs) dn.length cs res H held als=out
theorem c3m {tab:List Nat} {all:List Nat} {k:Nat} (h:gate P callf ops tab fr0 all k cs res H held als=out) (hne:out≠.bad) :
  b1m P ops tab fr0 res H held=true/\b1n H als=true/\nxt P callf ops tab fr0 all k cs res H held als=out:=by
 (simp_all[gate];grind)
theorem a9w (hfit:fit ops.toList ops.toList 0=true) {i:Nat} {o:Oper} (ho:ops[i]?=some o) : cls o.op≠.no:=by
 have hone:=a9t hfit i o (Cs.2 ho)
 (simp_all[a7p];grind)
theorem e3b (hfit:fit ops.toList ops.toList 0=true) {i:Nat} {o:Oper} (ho:ops[i]?=some o) : ∀ e∈o.after.toList,Region.binds .any e=true->e.on<i:=by
 have hone:=a9t hfit i o (Cs.2 ho);unfold a7p at hone;simp only[Dq] at hone;have h:=hone.1.2;intro e he hb;have:=Ec.1 h e he;simp_all
theorem e3c {i:Nat} (hG:G=P.globals.size) (hfit:fit ops.toList ops.toList 0=true) (hdst:∀ (j:Nat) (o:Oper),ops[j]?=some o->Cr n o=true)
  (hne:out≠.bad) (hGn:∀ x∈als,G<=x.2.1) (d:a6s B G n n0 P ops fr0 ρ0 w0 dn cs res H held als listed ρ a w) (hdl:∀ c∈dn,Dn listed c)
  (hg:gate P callf ops (ancs [] ops.toList) fr0 (dn++cs) dn.length cs res H held als=out) (r:Rd ops listed i o) (hc:Cy o.op=false)
  {K:Act->World->Prop} (hK:∀ a' w',b6a B G n n0 P callf ops fr0 ρ0 w0 out (listed.setIfInBounds i true) a' w'->K a' w') :
  wpOp P ops (a0d B G n n0 ρ0 w0 out) i K a w:=by
 obtain⟨hre,hst,_⟩:=c3m hg hne;have hcnt:a1r (ancs [] ops.toList) i (dn++cs)<=dn.length:=by
  refine c3i fun c hcm=>?_
  cases hb:Aw (ancs [] ops.toList) i c with
  | false=>rfl
  | true=>exact absurd (r.anc d hb) (d.csN c hcm)
 obtain⟨r0,v,hgr,hv,hk⟩:=d.known i o r.un r.at' hc hcnt;have hno:=a9w hfit r.at';have hci:∀ c∈cs,c≠i/\c∈cs:=by
  intro c hcm;refine⟨?_,hcm⟩;rintro rfl;have hmem:c∈chainOf ops.toList 0:=by rw[d.chain];grind
  obtain⟨_,o',ho',hch⟩:=mem_chainOf.1 hmem;have h2:ops[c]?=some o':=Cs.1 (by grind);rw[r.at'] at h2;grind
 have fin' : ∀ (ρ' : Rn) (u:Value) (w' : World),Ext B n0 ρ w ρ' w'->Sub ρ ρ'->Sim B G ρ' H w'->VR ρ' v u->(∀ x∈als,x.1≠i->¬Dn listed x.1->ρ' x.2.1=none)->K (a.put o.dst u) w':=by
  intro ρ' u w' he hsub hs hvr haln;refine hK _ _ ⟨dn,cs,res,H,held,als,ρ',?_,fun c hc'=>(Dn.set (by rw[d.size];exact a2y r.at')).2 (.inr (hdl c hc')),hGn,hg⟩;exact d.go hfit hdst r he hsub hs d.le (Gr.refl _) hv hvr d.chain hci (fun j oj _ hj hoj hcj hn=>d.known j oj hj hoj hcj hn) d.aok haln
 have hev:=c3l d r hgr;have base:=fun b hb=>d0q (b:=b) hfit hdst d r hgr hb;unfold wpOp;rw[r.at'];dsimp only;rcases hk with⟨hw,rfl⟩|⟨hw,hk⟩
 ·rw[if_neg (by grind)];exact fin' ρ undef w (Ext.refl _ _ _ _) (Sub.refl _) d.sim rfl (fun x hx _ hd=>d.alsN x hx hd)
 ·rw[if_pos (base _ hw)];left;have val:RS B G P ρ H w (.val v H) (execOp a.eval o)->o.wp P a w K (a0d B G n n0 ρ0 w0 out):=by
   rintro⟨ρ',u,w',h1,h2,h3,h4,_⟩;unfold Oper.wp;rw[h1];refine fin' ρ' u w' ⟨fun x hx=>h2.same x (Eh hx d.le),h2.keeps,h2.below⟩ (h2.sub d.sim) h3 h4 fun x hx _ hd=>?_;rw[h2.same _ (d.aok.hi x hx)];exact d.alsN x hx hd
  rcases hk with⟨_,hfree⟩|⟨_,hgen⟩|⟨hcl,hh⟩|⟨f,x,nm,hnd,rfl,hmem⟩
  ·have:=a5v (o:=o) d.sim hev hG;grind
  ·have:=b1q (B:=B) (G:=G) (P:=P) (H:=H) d.sim hev (d0t hno);rw[hgen] at this;exact val this
  ·obtain⟨o',v',ho',hv',hq⟩:=d0o hre i hh;rw[r.at'] at ho';cases ho';rw[hv] at hv';cases hv';have hev':=c3l d r (Gr.refl res);have:=a5v (o:=o) d.sim hev' hG;grind[d0u]
  ·have hnm:=d.alsN _ hmem r.un;have hget:=d0p hst i nm x hmem;obtain⟨ob,k,u,w',h1,h2,h3,h4,h5,hdr,h6⟩:=hnd ρ w a.eval hev d.sim.base;obtain⟨hb,hvr⟩:=h6 nm hnm;have hlo:n0<=nm:=d.aok.lo _ hmem;have hhi:nm<H.next:=d.aok.hi _ hmem;unfold Oper.wp;rw[h1];refine fin' _ u w' ?_ (a6q hnm) (d.sim.named hget hnm hhi (hGn _ hmem) h2 hb) hvr fun y hy hyi hyd=>?_
   ·exact⟨fun y hy=>a0c _ _ (Nat.ne_of_lt (Eh hy hlo)),KD.push h2,(Ext.alloc ρ n0 (w.heap.size,0,k) w w' ob h2 h3 h4 h5 d.sim.base).below⟩
   ·have:y.2.1≠nm:=by
     intro e;have:=d.aok.own y hy _ hmem e;grind
    rw[a0c _ _ this];exact d.alsN y hy hyd
theorem Fr.get_clear (fr:Fr) (t:Nat) : fr.clear.get t=none:=by
 have key:Ct (e2:T2 AV) t=none:=c8z t;cases fr<;>exact key
theorem Fr.defers_clear (fr:Fr) : fr.clear.defers=fr.defers:=by cases fr<;>rfl
theorem e3d {i:Nat} (hok:Az B G P callf) (hG:G=P.globals.size) (hord:a5u (ancs [] ops.toList) (chainOf ops.toList 0)=true) (hfit:fit ops.toList ops.toList 0=true)
  (hdst:∀ (j:Nat) (o:Oper),ops[j]?=some o->Cr n o=true)
  (hne:out≠.bad) (hGn:∀ x∈als,G<=x.2.1) (d:a6s B G n n0 P ops fr0 ρ0 w0 dn cs res H held als listed ρ a w) (hdl:∀ c∈dn,Dn listed c)
  (hg:gate P callf ops (ancs [] ops.toList) fr0 (dn++cs) dn.length cs res H held als=out) (r:Rd ops listed i o) (hc:Cy o.op=true)
  {K:Act->World->Prop} (hK:∀ a' w',b6a B G n n0 P callf ops fr0 ρ0 w0 out (listed.setIfInBounds i true) a' w'->K a' w') :
  wpOp P ops (a0d B G n n0 ρ0 w0 out) i K a w:=by
 obtain⟨hre,hst,hn⟩:=c3m hg hne;have hmem:i∈dn++cs:=by
  rw[<- d.chain];exact mem_chainOf.2 ⟨Dt _,o,by simpa using r.at',hc⟩
 rcases Ed.1 hmem with h|hics
 ·exact absurd (hdl i h) r.un
 cases cs with
 | nil=>grind
 | cons c cs =>
 have hic:i=c:=by
  rcases Dv.1 hics with h|h
  ·exact h
  ·obtain⟨p,hp,ha⟩:=b5z (dn:=dn) (c:=c) (cs:=cs) (by rw[<- d.chain];omega) i h;exact absurd (r.anc d ha) (d.csN p hp)
 subst hic;have hi:i<listed.size:=by rw[d.size];exact a2y r.at'
 have hnd:(dn++i :: cs)=(dn++[i])++cs:=by simp
 have hcs:∀ c∈cs,c≠i/\c∈i :: cs:=by
  intro c hcm;refine⟨?_,g4b _ hcm⟩;rintro rfl;obtain⟨p,hp,ha⟩:=b5z (dn:=dn) (c:=c) (cs:=cs) (by rw[<- d.chain];omega) c hcm;exact absurd (r.anc d ha) (d.csN p hp)
 have nxt' : ∀ (v:AV) (H' : Mem) (ρ' : Rn) (u:Value) (w' : World) (res' : T2 AV),Gr res res'->Ct res' i=some v->Ext B H.next ρ w ρ' w'->Sim B G ρ' H' w'->VR ρ' v u->H.next<=H'.next ->
   b5p P callf ops (ancs [] ops.toList) fr0 (dn++i :: cs) (dn.length+1) cs res' H' (a4u (ancs [] ops.toList) i held) (a3q (ancs [] ops.toList) i als)=out->K (a.put o.dst u) w':=by
  intro v H' ρ' u w' res' hgr hv he hs hvr hle hst';rw[d0n] at hst';obtain⟨res2,H2,held2,als2,h1,f⟩:=stage_sound (B:=B) (a2e (ancs [] ops.toList) (dn++i :: cs) (dn.length+1) ops.toList 0) res' H' _ _ (by
   grind[a5x,a9w]) hst' hne
  have hlen:(dn++[i]).length=dn.length+1:=by simp
  refine hK _ _ ⟨dn++[i],cs,res2,H2,held2,als2,ρ',?_,?_,?_,?_⟩
  ·refine d.go hfit hdst r ⟨fun x hx=>he.same x (Eh hx d.le),he.keeps,he.below⟩ (he.sub d.sim) (f.ph.sim hs) (Dw d.le (Dw hle f.ph.le)) (hgr.trans f.gr) (f.gr _ _ hv) hvr
    (by rw[d.chain,hnd]) hcs ?_ ?_ ?_
   ·intro j oj hji hjn hoj hcj hcnt;rw[hlen,<- hnd] at hcnt;rcases g4k (a1r (ancs [] ops.toList) j (dn++i :: cs)) (dn.length+1) with h|h
    ·have hna:Aw (ancs [] ops.toList) i j=false:=by
      cases hb:Aw (ancs [] ops.toList) i j with
      | false=>rfl
      | true=>exact absurd (r.anc d hb) hjn
     exact(d.known j oj hjn hoj hcj (by omega)).mono (hgr.trans f.gr) (fun h=>f.keepH _ (b9h hna h)) fun nm x h=>f.keepA _ (b9i hna h)
    ·exact f.known j (a5x.2 ⟨Dt _,oj,by grind,hcj,by omega⟩) oj hoj
   ·exact f.ok n0 (Dw d.le hle) (d.aok.sub (fun x hx=>a9v x hx) hle)
   ·intro x hx hxi hxn;rcases f.new x hx with h|h
    ·have hx':=a9v x h;rw[he.same _ (d.aok.hi x hx')];exact d.alsN x hx' hxn
    ·exact hs.fresh _ h
  ·grind[Dn.set]
  ·intro x hx;rcases f.new x hx with h|h
   ·grind[a9v]
   ·exact Dw hs.names h
  grind
 have hev:=c3l d r (Gr.refl res);have base:=fun b hb=>d0q (b:=b) hfit hdst d r (Gr.refl res) hb;unfold wpOp;rw[r.at'];dsimp only;unfold nxt act at hn;dsimp only at hn;rw[r.at'] at hn;dsimp only at hn;split at hn
 ·rename_i hw;rw[if_neg (by grind)];obtain⟨res',h1,h2,h3⟩:=a9r hn hne;exact nxt' _ H ρ undef w res' h2 h3 (Ext.refl _ _ _ _) d.sim rfl (Dm _) h1
 ·rename_i hw;rw[if_pos (base _ hw)];left;have hrs:=a5v (o:=o) d.sim hev hG;unfold Oper.wp;split at hn
  ·rename_i v H' hr;rw[hr] at hrs;obtain⟨ρ',u,w',h1,h2,h3,h4,h5⟩:=hrs;rw[h1];obtain⟨res',g1,g2,g3⟩:=a9r hn hne;exact nxt' v H' ρ' u w' res' g2 g3 h2 h3 h4 h5 g1
  ·rename_i H' hr;rw[hr] at hrs;obtain⟨ρ',w',h1,h2,h3,h5⟩:=hrs;rw[h1];obtain⟨res',g1,g2,g3⟩:=a9r hn hne;exact nxt' _ H' ρ' undef w' res' g2 g3 h2 h3 rfl h5 g1
  ·rename_i f args H' hr;rw[hr] at hrs;obtain⟨us,h1,h2,rfl⟩:=hrs;rw[h1];have hcall:=hok f args H';split at hn
   ·rename_i v H2 hcr;have:=hcall (by grind) ρ us w d.sim h2;rw[hcr] at this;refine this.mono fun e w' he=>?_;obtain⟨res',g1,g2,g3⟩:=a9r hn hne
    cases e with
    | returned u =>
     obtain⟨ρ',k1,k2,k3,k4⟩:=he;grind
    | panicked chain=>exact he.elim
    | outgrown=>exact he.elim
   ·rename_i v H2 hcr;have:=hcall (by grind) ρ us w d.sim h2;rw[hcr] at this;refine this.mono fun e w' he=>?_
    cases e with
    | returned u=>exact he.elim
    | panicked chain =>
     obtain⟨ρ',u,g0,g1,g2,g3,g4⟩:=he;subst hn;refine⟨ρ',u,g0,g1,?_,g3,?_,Dw d.le g4⟩
     ·exact d.ext.trans ⟨fun x hx=>g2.same x (Eh hx d.le),g2.keeps,g2.below⟩ (Dm _)
     ·exact⟨(fun t v hv _=>(by grind[Fr.get_clear])),(by rw[Fr.defers_clear];exact d.dfr.mono (g2.sub d.sim)),d.tsz,(fun t v hv=>(by grind[Fr.get_clear]))⟩
    | outgrown=>exact he.elim
   grind
  grind
 grind
end Go.Ai
end
section
namespace Go.Ai
open Go.RowKit (Below)
variable {B G n n0:Nat} {P:Program} {ops:Array Oper} {fr0:Fr} {ρ0 ρ:Rn} {w0 w:World} {dn cs:List Nat} {res:T2 AV} {H:Mem} {held:List Nat} {als:Als} {listed:Array Bool} {a:Act} {callf:CallF}
theorem d0v {H:Mem} {res:T2 AV} {out:Out} (hne:out≠.bad) : ∀ (l:List Oper) (i:Nat) (fr:Fr),fin res H l i fr=out ->
  ∃ fr',out=.norm fr' H/\fr'.defers=fr.defers/\∀ t v,fr'.get t=some v->(∃ j o,l[j]?=some o/\o.dst=some t/\Ct res (i+j)=some v)\/((∀ o∈l,o.dst≠some t)/\fr.get t=some v)
 | [],i,fr,h=>⟨fr,h.symm,rfl,fun t v hv=>.inr ⟨(fun _ h=>(by cases h)),hv⟩⟩
 | o :: l,i,fr,h=>by
  unfold fin at h;split at h
  ·rename_i v hv;rw[Fr.putK_eq] at h;obtain⟨fr',h1,h2,h3⟩:=d0v hne l (i+1) _ h;refine⟨fr',h1,?_,?_⟩
   ·rw[h2];unfold Fr.put;grind[Fr.defers_upd]
   ·intro t y hy;rcases h3 t y hy with⟨j,oj,hj,hd,hr⟩|⟨hd,hg⟩
    ·exact .inl ⟨j+1,oj,by grind,hd,by grind⟩
    ·cases hdo:o.dst with
     | none =>
      rw[hdo] at hg;exact .inr ⟨fun o' ho'=>by grind,hg⟩
     | some d =>
      rw[hdo] at hg;have hg' : (fr.upd d v).get t=some y:=hg;rcases Fr.get_upd hg' with⟨rfl,rfl⟩|⟨hne2,hg'⟩
      ·exact .inl ⟨0,o,rfl,hdo,hv⟩
      grind
  grind
theorem d0w (hfit:fit ops.toList ops.toList 0=true) (hsz:listed.size=ops.size) (hr:Region.ready .any ops listed=[]) : ∀ i,i<ops.size->Dn listed i:=by
 intro i
 induction i using Nat.strongRecOn with
 | _ i ih =>
  intro hi;rcases Classical.em (Dn listed i) with h|h
  ·exact h
  ·exfalso;have hmem:i∈Region.ready .any ops listed:=by
    refine mem_ready.2 ⟨?_,ops[i],by grind,fun e he hb=>?_⟩
    ·grind[Dn]
    ·have hlt:=e3b hfit (i:=i) (o:=ops[i]) (by grind) e (Array.mem_toList_iff.2 he) hb;exact ih e.on hlt (by omega)
   grind
theorem d0x {out:Out} (hfit:fit ops.toList ops.toList 0=true) (hne:out≠.bad) (hr:Region.ready .any ops listed=[]) (g:b6a B G n n0 P callf ops fr0 ρ0 w0 out listed a w)
  (hdst:∀ (j:Nat) (o:Oper),ops[j]?=some o->Cr n o=true) : a0d B G n n0 ρ0 w0 out .normal a w:=by
 obtain⟨dn,cs,res,H,held,als,ρ,d,hdl,hGn,hg⟩:=g.go;have hall:=d0w hfit d.size hr;obtain⟨_,_,hn⟩:=c3m hg hne
 cases cs with
 | cons c cs =>
  exfalso;refine d.csN c (by simp) (hall c ?_);have hmem:c∈chainOf ops.toList 0:=by rw[d.chain];simp
  grind[mem_chainOf]
 | nil =>
  have hn' : fin res H ops.toList 0 fr0=out:=hn;obtain⟨fr',h1,h2,h3⟩:=d0v hne ops.toList 0 fr0 hn';subst h1;have key:∀ t v,fr'.get t=some v->t<n/\VR ρ v (a.tmps.getD t undef):=by
   intro t v hv;rcases h3 t v hv with⟨j,o,hj,hd,hrs⟩|⟨hd,hg0⟩
   ·have hj' : ops[j]?=some o:=Cs.1 hj;rw[g4w] at hrs;obtain⟨y,hy,hv'⟩:=d.new j o (hall j (a2y hj')) hj';rw[hrs] at hy;cases hy;exact⟨a2x (hdst j o hj') t hd,hv' t hd⟩
   ·refine⟨d.only t v hg0,d.old t (fun j hj=>?_) v hg0⟩;obtain⟨_,o,ho,hdo⟩:=a9s hj;grind
  exact⟨ρ,d.ext,d.sim,⟨fun t v hv _=>(key t v hv).2,by rw[h2];exact d.dfr,d.tsz,fun t v hv=>(key t v hv).1⟩,d.le⟩
theorem e3e {out:Out} (hok:Az B G P callf) (hG:G=P.globals.size) (hord:a5u (ancs [] ops.toList) (chainOf ops.toList 0)=true) (hfit:fit ops.toList ops.toList 0=true)
  (hdst:∀ (j:Nat) (o:Oper),ops[j]?=some o->Cr n o=true) (hne:out≠.bad) : ∀ (fuel:Nat) (listed:Array Bool) (a:Act) (w:World),
  (∃ l:List Nat,l.Nodup/\l.length=fuel/\∀ i,i<ops.size->Dn listed i\/i∈l)->b6a B G n n0 P callf ops fr0 ρ0 w0 out listed a w ->
  wpAny P .any ops (a0d B G n n0 ρ0 w0 out) fuel listed a w:=by
 intro fuel
 induction fuel with
 | zero =>
  rintro listed a w ⟨l,_,hl,hc⟩ g;have hnil:l=[]:=g3r.1 hl;subst hnil;have hr:Region.ready .any ops listed=[]:=by
   cases hx:Region.ready .any ops listed with
   | nil=>rfl
   | cons i is =>
    exfalso;obtain⟨o,ro⟩:=b9j (ops:=ops) (listed:=listed) (i:=i) (by grind);rcases hc i (a2y ro.at') with h|h
    ·exact ro.un h
    grind
  exact⟨hr,d0x hfit hne hr g hdst⟩
 | succ fuel ih =>
  rintro listed a w ⟨l,hnd,hl,hc⟩ g;refine⟨fun hr=>d0x hfit hne hr g hdst,fun i hi=>?_⟩;obtain⟨o,ro⟩:=b9j hi;obtain⟨dn,cs,res,H,held,als,ρ,d,hdl,hGn,hg⟩:=g.go;have hil:i∈l:=(hc i (a2y ro.at')).resolve_left ro.un;have hsz:i<listed.size:=by rw[d.size];exact a2y ro.at'
  have hK:∀ a' w',b6a B G n n0 P callf ops fr0 ρ0 w0 out (listed.setIfInBounds i true) a' w'->wpAny P .any ops (a0d B G n n0 ρ0 w0 out) fuel (listed.setIfInBounds i true) a' w':=by
   intro a' w' g';refine ih _ a' w' ⟨l.erase i,hnd.erase i,by grind,fun j hj=>?_⟩ g';grind[Dn.set]
  grind[e3d,e3c,Cy]
theorem e3f {id:Nat} (hok:Az B G P callf) (hG:G=P.globals.size) (s:St B G n n0 ρ0 w0 ρ fr0 H a w) (hd:Au n (.region id ops true)=true)
  (hne:drawn P callf ops fr0 H≠.bad) : (Code.region id ops true).wp P (a0d B G n n0 ρ0 w0 (drawn P callf ops fr0 H)) a w:=by
 have hout:∃ out,drawn P callf ops fr0 H=out:=⟨_,rfl⟩;obtain⟨out,hout⟩:=hout;rw[hout] at hne |-;unfold drawn at hout;split at hout
 ·rename_i hp;rw[Dq] at hp;obtain⟨hplan,hmix⟩:=hp;unfold b3g at hplan;simp only[Dq] at hplan;obtain⟨⟨_,hord⟩,hfit⟩:=hplan;have hdst:∀ (j:Nat) (o:Oper),ops[j]?=some o->Cr n o=true:=fun j o hj=>Ec.1 hd o (En (Cs.2 hj));refine wp_region_any hmix ?_;have un:∀ i,¬Dn (Array.replicate ops.size false) i:=by
   (simp_all[Dn];grind)
  refine e3e (fr0:=fr0) (ρ0:=ρ0) (w0:=w0) hok hG hord hfit hdst hne ops.size _ a _ ⟨List.range ops.size,List.nodup_range,by simp,fun i hi=>.inr (by grind)⟩ ?_;rw[d0n] at hout;obtain⟨res2,H2,held2,als2,h1,f⟩:=stage_sound (B:=B) (a2e (ancs [] ops.toList) (chainOf ops.toList 0) 0 ops.toList 0) e2 H [] [] (by
   grind[a5x,a9w]) hout hne
  have hs:Sim B G ρ H { w with drawn:=w.drawn+1 }:=s.sim.heap rfl;have hb:Below B w { w with drawn:=w.drawn+1 }:=⟨rfl,rfl,rfl,Dm _,fun _ _=>rfl⟩;refine⟨[],chainOf ops.toList 0,res2,H2,held2,als2,ρ,?_,(fun _ h=>(by cases h)),?_,h1⟩;refine⟨s.ext.trans ⟨fun _ _=>rfl,KD.heap rfl,hb⟩ (Dm _),f.ph.sim hs,Dw s.le f.ph.le,by simp,s.frel.size,s.frel.dfr,s.frel.only,rfl,fun c _=>un c,fun i _ h=>absurd h (un i),
   fun t _ v hv=>s.frel.slot t v hv (s.frel.only t v hv),fun j _ h=>absurd h (un j),?_,f.ok n0 s.le (a1t.nil _ _),?_⟩
  ·intro i o _ ho hc hcnt;exact f.known i (a5x.2 ⟨Dt _,o,by grind,hc,by grind⟩) o ho
  ·intro x hx _;rcases f.new x hx with h|h
   ·cases h
   ·exact hs.fresh _ h
  ·intro x hx;rcases f.new x hx with h|h
   ·cases h
   ·exact Dw hs.names h
 grind
end Go.Ai
end
section
namespace Go.Ai
open Go.RowKit (Below)
variable {B G:Nat} {P:Program} {n n0:Nat} {ρ0 ρ:Rn} {w0 w:World} {fr:Fr} {H:Mem} {a:Act}
def LW (P:Program) (c:Code) (Q:Exit->Act->World->Prop) (a:Act) (w:World) : Prop :=
 ∀ (b:Frame) (k:List Item) (cs:List Frame),∃ e a' w',Q e a' w'/\Arrives P (lone (b.at a (.code c :: .inLoop c :: k)) cs w) b k cs e a' w'
theorem LW.wp {c:Code} {Q:Exit->Act->World->Prop} (h:LW P c Q a w) : (Code.loop c).wp P Q a w :=
 fun b k cs=>let ⟨e,a',w',q,r⟩:=h b k cs;⟨e,a',w',q,.of_steps (.one step_loop) r⟩
theorem LW.unroll {c:Code} {Q:Exit->Act->World->Prop} (h:c.wp P (Exit.then (LW P c Q) Q) a w) : LW P c Q a w:=by
 intro b k cs;obtain⟨e,a₁,w₁,hq,harr⟩:=h b (.inLoop c :: k) cs
 cases e with
 | normal =>
  obtain⟨e₂,a₂,w₂,hq₂,harr₂⟩:=hq b k cs;exact⟨e₂,a₂,w₂,hq₂,.of_steps (Steps.trans harr (.one step_inLoop)) harr₂⟩
 | exit id=>exact⟨_,a₁,w₁,hq,.pass (x:=.inLoop c) rfl (fun _ _=>.inl (by simp)) harr⟩
 | goto l=>exact⟨_,a₁,w₁,hq,.pass (x:=.inLoop c) rfl (fun _ _=>.inl (by simp)) harr⟩
 | ret=>exact⟨_,a₁,w₁,hq,.pass (x:=.inLoop c) rfl (fun _ _=>.inl (by simp)) harr⟩
 | panic ch=>exact⟨_,a₁,w₁,hq,.pass (x:=.inLoop c) rfl (fun _ _=>.inl (by simp)) harr⟩
 | outgrown=>exact⟨_,a₁,w₁,hq,.pass (x:=.inLoop c) rfl (fun _ _=>.inl (by simp)) harr⟩
def Good (B G:Nat) (P:Program) (callf:CallF) (loopf:LoopF) (c:Code) : Prop :=
 ∀ (n n0:Nat) (ρ0:Rn) (w0:World) (ρ:Rn) (fr:Fr) (H:Mem) (a:Act) (w:World),Au n c=true->St B G n n0 ρ0 w0 ρ fr H a w->Dd P callf loopf c fr H≠.bad ->
  c.wp P (a0d B G n n0 ρ0 w0 (Dd P callf loopf c fr H)) a w
def a5y (B G:Nat) (P:Program) (loopf:LoopF) : Prop :=
 ∀ (b:Code) (n n0:Nat) (ρ0:Rn) (w0:World) (ρ:Rn) (fr:Fr) (H:Mem) (a:Act) (w:World),Au n b=true->St B G n n0 ρ0 w0 ρ fr H a w->loopf (.loop b) fr H≠.bad ->
  LW P b (a0d B G n n0 ρ0 w0 (loopf (.loop b) fr H)) a w
theorem b9l {r:Out} {k:Fr->Mem->Out} {K:Act->World->Prop} (hne:a9l r k≠.bad)
  (hk:∀ (fr' : Fr) (H' : Mem) (ρ' : Rn) (a' : Act) (w' : World),r=.norm fr' H'->St B G n n0 ρ0 w0 ρ' fr' H' a' w'->k fr' H'≠.bad->K a' w') :
  ∀ e a' w',a0d B G n n0 ρ0 w0 r e a' w'->Exit.then K (a0d B G n n0 ρ0 w0 (a9l r k)) e a' w':=by
 intro e a' w' h
 cases r with
 | norm fr' H' =>
  cases e with
  | normal=>obtain⟨ρ',s'⟩:=h;exact hk fr' H' ρ' a' w' rfl s' hne
  | _=>exact h.elim
 | exit id fr' H'=>cases e<;>first|exact h.elim|exact h
 | ret fr' H'=>cases e<;>first|exact h.elim|exact h
 | panic v fr' H'=>cases e<;>first|exact h.elim|exact h
 | bad=>exact absurd rfl hne
theorem e3g {callf:CallF} {loopf:LoopF} {b:Code} (hl:a5y B G P loopf) (hb:Good B G P callf loopf b) (n n0:Nat) (ρ0:Rn) (w0:World) (ρ:Rn) (fr:Fr) (H:Mem) (a:Act) (w:World)
  (hd:Au n b=true) (s:St B G n n0 ρ0 w0 ρ fr H a w) (hne:Dd P callf loopf (.loop b) fr H≠.bad) : LW P b (a0d B G n n0 ρ0 w0 (Dd P callf loopf (.loop b) fr H)) a w:=by
 have he:Dd P callf loopf (.loop b) fr H=a9l (Dd P callf loopf b fr H) (loopf (.loop b)):=rfl;rw[he] at hne |-;have hr:Dd P callf loopf b fr H≠.bad:=fun h=>hne (by rw[h];rfl);refine LW.unroll (Code.wp_mono (b9l hne fun fr' H' ρ' a' w' hr' s' hk=>?_) (hb n n0 ρ0 w0 ρ fr H a w hd s hr));rw[hr'];exact hl b n n0 ρ0 w0 ρ' fr' H' a' w' hd s' hk
theorem e3h {callf:CallF} {loopf:LoopF} (hc:Az B G P callf) (hl:a5y B G P loopf) (hG:G=P.globals.size) : ∀ c:Code,Good B G P callf loopf c:=by
 intro c
 induction c with
 | skip=>intro n n0 ρ0 w0 ρ fr H a w hd s hne;exact wp_skip ⟨ρ,s⟩
 | region id ops draw =>
  intro n n0 ρ0 w0 ρ fr H a w hd s hne
  cases draw with
  | false =>
   refine wp_region_list (c3j hc hG hne ops.toList fr H ρ a w ?_ s rfl);exact fun o ho=>Ec.1 hd o ho
  | true=>exact e3f hc hG s hd hne
 | seq x y ihx ihy =>
  intro n n0 ρ0 w0 ρ fr H a w hd s hne;have he:Dd P callf loopf (.seq x y) fr H=a9l (Dd P callf loopf x fr H) (Dd P callf loopf y):=rfl;rw[he] at hne |-;simp only[Au,Dq] at hd;have hr:Dd P callf loopf x fr H≠.bad:=fun h=>hne (by rw[h];rfl);refine wp_seq (Code.wp_mono (b9l hne fun fr' H' ρ' a' w' hr' s' hk=>?_) (ihx n n0 ρ0 w0 ρ fr H a w hd.1 s hr));rw[hr'];exact ihy n n0 ρ0 w0 ρ' fr' H' a' w' hd.2 s' hk
 | cond cnd x y ihx ihy =>
  intro n n0 ρ0 w0 ρ fr H a w hd s hne;have he:Dd P callf loopf (.cond cnd x y) fr H=b5m (fr.ev cnd) (Dd P callf loopf x) (Dd P callf loopf y) fr H:=rfl;rw[he] at hne |-;simp only[Au,Dq] at hd;unfold b5m at hne |-;split at hne
  ·rename_i hev;have:=s.ev _ _ hev;exact wp_cond_true this (ihx n n0 ρ0 w0 ρ fr H a w hd.1 s hne)
  ·rename_i hev;have:=s.ev _ _ hev;exact wp_cond_false this (ihy n n0 ρ0 w0 ρ fr H a w hd.2 s hne)
  grind
 | block id b ih =>
  intro n n0 ρ0 w0 ρ fr H a w hd s hne;have he:Dd P callf loopf (.block id b) fr H=b5n id (Dd P callf loopf b fr H):=rfl;rw[he] at hne |-;have hr:Dd P callf loopf b fr H≠.bad:=fun h=>hne (by rw[h];rfl);refine wp_block (Code.wp_mono ?_ (ih n n0 ρ0 w0 ρ fr H a w hd s hr));intro e a' w' h;generalize Dd P callf loopf b fr H=r at h hne |-
  cases r with
  | norm fr' H'=>cases e<;>first|exact h.elim|exact h
  | exit id' fr' H' =>
   cases e with
   | exit id2 =>
    obtain⟨rfl,ρ',s'⟩:=h;unfold b5n;dsimp only;split
    ·rename_i hb;have:=Dz hb;subst this;simp only[Exit.inBlock,if_true];exact⟨ρ',s'⟩
    ·rename_i hb;have hne2:id2≠id:=by intro h0;simp_all
     simp only[Exit.inBlock,hne2,if_false];exact⟨rfl,ρ',s'⟩
   | _=>exact h.elim
  | ret fr' H'=>cases e<;>first|exact h.elim|exact h
  | panic v fr' H'=>cases e<;>first|exact h.elim|exact h
  | bad=>exact absurd rfl hne
 | loop b ih =>
  intro n n0 ρ0 w0 ρ fr H a w hd s hne;exact(e3g hl ih n n0 ρ0 w0 ρ fr H a w hd s hne).wp
 | rangeFunc f ps x y ihx ihy=>intro n n0 ρ0 w0 ρ fr H a w hd s hne;exact absurd rfl hne
 | exit id=>intro n n0 ρ0 w0 ρ fr H a w hd s hne;exact wp_exit ⟨rfl,ρ,s⟩
 | scope b ih=>intro n n0 ρ0 w0 ρ fr H a w hd s hne;exact absurd rfl hne
 | label l=>intro n n0 ρ0 w0 ρ fr H a w hd s hne;exact wp_label ⟨ρ,s⟩
 | goto l=>intro n n0 ρ0 w0 ρ fr H a w hd s hne;exact absurd rfl hne
 | ret=>intro n n0 ρ0 w0 ρ fr H a w hd s hne;exact wp_ret ⟨ρ,s⟩
 | refuse why=>intro n n0 ρ0 w0 ρ fr H a w hd s hne;exact absurd rfl hne
end Go.Ai
end
section
namespace Go.Ai
open Go.RowKit (Below)
variable {B G:Nat} {P:Program} {n n0:Nat} {ρ0 ρ:Rn} {w0 w:World} {fr:Fr} {H:Mem} {a:Act}
noncomputable def putArgs:List AV->Fr->Nat->Fr
 | [],fr,_=>fr
 | v :: l,fr,i=>putArgs l (fr.upd i v) (i+1)
theorem c3n {β:Type} (l:List AV) (fr:Fr) (K:Fr->β) : b5q l fr K=K (putArgs l fr 0):=by
 have:∀ (fr:Fr) (i:Nat),List.rec (motive:=fun _=>Fr->Nat->β) (fun fr _=>K fr) (fun v _ ih fr i=>fr.set i v fun fr=>ih fr (Nat.succ i)) l fr i=K (putArgs l fr i):=by
  induction l with
  | nil=>intro fr i;rfl
  | cons v l ih=>intro fr i;show fr.set i v _=_;rw[Fr.set_eq,ih];rfl
 exact this fr 0
theorem putArgs_get:∀ (l:List AV) (fr:Fr) (i t:Nat) (v:AV),(putArgs l fr i).get t=some v->(i<=t/\l[t-i]?=some v)\/fr.get t=some v
 | [],fr,i,t,v,h=>.inr h
 | x :: l,fr,i,t,v,h=>by
  rcases putArgs_get l (fr.upd i x) (i+1) t v h with⟨h1,h2⟩|h1
  ·grind
  ·rcases Fr.get_upd h1 with⟨rfl,rfl⟩|⟨_,h2⟩
   all_goals grind
theorem putArgs_defers:∀ (l:List AV) (fr:Fr) (i:Nat),(putArgs l fr i).defers=fr.defers
 | [],fr,i=>rfl
 | x :: l,fr,i=>by rw[putArgs,putArgs_defers l,Fr.defers_upd]
theorem c3o {args:List AV} {us:Array Value} (hv:VRs ρ args us.toList) (hle:args.length<=n) :
  a0v n ρ (putArgs args (Cz n) 0) { tmps:=us++Array.replicate (n-us.size) undef,defers:=[] }:=by
 have hsz:us.size=args.length:=by have:=hv.length;grind
 have hget:∀ t v,(putArgs args (Cz n) 0).get t=some v->args[t]?=some v:=by
  intro t v h;rcases putArgs_get _ _ _ _ _ h with⟨_,h1⟩|h1
  all_goals grind[c9b]
 refine⟨?_,?_,by grind,?_⟩
 ·intro t v h _;obtain⟨u,hu,hvu⟩:=hv.get t (hget t v h)
  (simp_all;grind)
 ·rw[putArgs_defers,c9c];rfl
 grind
def c3p (tmps:Array Value) (r:ResultVar) : Sem Value:=match r with
 | .tmp t=>pure (tmps.getD t undef)
 | .cell x t=>do loadVar t (<- asAddr (tmps.getD x undef))
theorem e3i (fn:Func) (tmps:Array Value) : results fn tmps=(do
  let vs <- fn.results.mapM (c3p tmps)
  pure (if h:vs.size=1 then vs[0] else .tuple vs)):=rfl
theorem e3j {r:ResultVar} {v:AV} (s:St B G n n0 ρ0 w0 ρ fr H a w) (hG:G=P.globals.size) (h:a6o P fr H r=some v) :
  ∃ u,(c3p a.tmps r).run P w=.ok u w/\VR ρ v u:=by
 cases r with
 | tmp t =>
  have h' : fr.get t=some v:=h;exact⟨_,rfl,s.frel.slot t v h' (s.frel.only t v h')⟩
 | cell x t =>
  have h' : (match fr.get x with|some p=>load P H t p|none=>none)=some v:=h;split at h'
  ·rename_i p hp;have hv:=s.frel.slot x p hp (s.frel.only x p hp);obtain⟨r,hr,hvr⟩:=c9i s.sim hG h' hv;refine⟨r,?_,hvr⟩;have hptr:∃ ad,a.tmps.getD x undef=.pointer (some ad):=by
    unfold load at h';split at h'
    ·obtain⟨b,o,k,_,hu⟩:=hv;grind
    ·exact⟨_,hv⟩
    grind
   obtain⟨ad,had⟩:=hptr;show (do loadVar t (<- asAddr (a.tmps.getD x undef)) : Sem Value).run P w=_;grind[asAddr,Instr.sureAddr,Instr.loadAt]
  grind
theorem d0y (s:St B G n n0 ρ0 w0 ρ fr H a w) (hG:G=P.globals.size) : ∀ {l:List ResultVar} {vs:List AV},a7r P fr H l=some vs ->
  ∃ us:List Value,(l.mapM (c3p a.tmps)).run P w=.ok us w/\VRs ρ vs us
 | [],vs,h=>by cases h;exact⟨[],rfl,rfl⟩
 | r :: l,vs,h=>by
  simp only[a7r] at h;split at h
  ·rename_i v hv;split at h
   ·rename_i ws hw;cases h;obtain⟨u,hu,hvu⟩:=e3j s hG hv;obtain⟨us,hus,hvs⟩:=d0y s hG hw;refine⟨u :: us,?_,_,_,rfl,hvu,hvs⟩;simp_all
   grind
  grind
theorem a9x {fn:Func} {v:AV} (s:St B G n n0 ρ0 w0 ρ fr H a w) (hG:G=P.globals.size) (h:a2f P fn fr H=some v) : ∃ u,(results fn a.tmps).run P w=.ok u w/\VR ρ v u:=by
 unfold a2f at h;have base:∀ {vs:List AV},a7r P fr H fn.results.toList=some vs->∃ us:List Value,VRs ρ vs us/\(results fn a.tmps).run P w=.ok (if h:us.toArray.size=1 then us.toArray[0] else .tuple us.toArray) w:=by
  intro vs hvs;obtain⟨us,hus,hv⟩:=d0y s hG hvs
  (simp_all[Array.mapM_eq_mapM_toList,e3i];grind)
 split at h
 ·rename_i v' hvs;cases h;obtain⟨us,hv,hr⟩:=base hvs;obtain⟨u,hu,hvu⟩:=hv.one;grind
 ·rename_i vs hne hvs;cases h;obtain⟨us,hv,hr⟩:=base hvs;have hlen:=hv.length;have h1:¬(us.toArray.size=1):=by
   intro h1
   cases vs with
   | nil=>grind
   | cons x l=>simp_all
  rw[dif_neg h1] at hr;exact⟨_,hr,_,rfl,by grind⟩
 grind
end Go.Ai
end
section
namespace Go.Ai
open Go.RowKit (Below)
variable {B G:Nat} {P:Program} {n n0:Nat} {ρ0 ρ:Rn} {w0 w:World} {fr:Fr} {H:Mem} {a:Act}
def MR (ρ:Rn) : Mode->FrameMode->Prop
 | .returning,m=>m=.returning
 | .panicking v,m=>∃ u,m=.panicking [{ v:=u,recovered:=false }]/\VR ρ v u
 | .recovered v,m=>∃ u,m=.panicking [{ v:=u,recovered:=true }]/\VR ρ v u
theorem MR.mono {ρ ρ': Rn} (h:Sub ρ ρ') {u:Mode} {m:FrameMode} (k:MR ρ u m) : MR ρ' u m:=by
 cases u with
 | returning=>exact k
 | panicking v=>obtain⟨x,e,r⟩:=k;exact⟨x,e,r.mono h⟩
 | recovered v=>obtain⟨x,e,r⟩:=k;exact⟨x,e,r.mono h⟩
def a7v (B G n n0:Nat) (ρ0:Rn) (w0:World) (c₀:Frame) (cs:List Frame) (out:a7q) : Exit->Act->List Frame->World->Prop:=fun e a' cs' w' =>
 match out,e with
 | .norm fr u H,.normal=>∃ ρ' m,cs' = { c₀ with mode:=m } :: cs/\MR ρ' u m/\St B G n n0 ρ0 w0 ρ' fr H a' w'
 | .ret fr u H,.ret=>∃ ρ' m,cs' = { c₀ with mode:=m } :: cs/\MR ρ' u m/\St B G n n0 ρ0 w0 ρ' fr H a' w'
 | _,_=>False
theorem d0z {callf:CallF} {loopf:LoopF} (hc:Az B G P callf) (hl:a5y B G P loopf) (hG:G=P.globals.size) (c:Code) {c₀:Frame} {cs:List Frame} {u:Mode} {m:FrameMode}
  (hd:Au n c=true) (s:St B G n n0 ρ0 w0 ρ fr H a w) (hm:MR ρ u m) (hne:b8t u (Dd P callf loopf c fr H)≠.bad) :
  c.wpS P (a7v B G n n0 ρ0 w0 c₀ cs (b8t u (Dd P callf loopf c fr H))) a ({ c₀ with mode:=m } :: cs) w:=by
 have hr:Dd P callf loopf c fr H≠.bad:=fun h=>hne (by rw[h];rfl);have s1:St B G n H.next ρ w ρ fr H a w:=⟨Ext.refl _ _ _ _,s.sim,s.frel,Dm _⟩;have key:=e3h hc hl hG c n H.next ρ w ρ fr H a w hd s1 hr;refine wpS_of_wp (Code.wp_mono ?_ key);intro e a' w' h;have up:∀ {ρ' : Rn} {fr' : Fr} {H' : Mem},St B G n H.next ρ w ρ' fr' H' a' w'->MR ρ' u m/\St B G n n0 ρ0 w0 ρ' fr' H' a' w':=fun {ρ' fr' H'} s' =>
  ⟨hm.mono (s'.ext.sub s.sim),s.ext.trans s'.ext s.le,s'.sim,s'.frel,Dw s.le s'.le⟩
 generalize Dd P callf loopf c fr H=r at h hne |-
 cases r with
 | norm fr' H'=>cases e<;>first|exact h.elim|(obtain⟨ρ',s'⟩:=h;exact⟨ρ',m,rfl,(up s').1,(up s').2⟩)
 | ret fr' H'=>cases e<;>first|exact h.elim|(obtain⟨ρ',s'⟩:=h;exact⟨ρ',m,rfl,(up s').1,(up s').2⟩)
 | exit id fr' H'=>exact absurd rfl hne
 | panic v fr' H'=>exact absurd rfl hne
 | bad=>assumption
theorem d1a {callf:CallF} {ops:Array Oper} (hc:Az B G P callf) (hG:G=P.globals.size) {c₀:Frame} {cs:List Frame} {out:a7q} (hne:out≠.bad) : ∀ (l:List Oper) (k:Nat) (fr:Fr) (u:Mode) (H:Mem) (ρ:Rn) (m:FrameMode) (a:Act) (w:World),
  (∀ j,l[j]?=ops[k+j]?)->(∀ o∈l,Cr n o=true)->St B G n n0 ρ0 w0 ρ fr H a w->MR ρ u m->b1o P callf ops l fr u H=out ->
  wpOpsS P ops (a7v B G n n0 ρ0 w0 c₀ cs out) (List.range' k l.length) a ({ c₀ with mode:=m } :: cs) w
 | [],k,fr,u,H,ρ,m,a,w,_,_,s,hm,h=>by
  have:a7q.norm fr u H=out:=h;subst this;exact⟨ρ,m,rfl,hm,s⟩
 | o :: l,k,fr,u,H,ρ,m,a,w,hi,hd,s,hm,h=>by
  have h0:ops[k]?=some o:=by simpa using (hi 0).symm
  have hdo:=hd o (by simp);have hdl:=a2x hdo;have hk:∀ (fr' : Fr) (u' : Mode) (H' : Mem) (ρ' : Rn) (m' : FrameMode) (a' : Act) (w' : World),St B G n n0 ρ0 w0 ρ' fr' H' a' w'->MR ρ' u' m'->b1o P callf ops l fr' u' H'=out ->
    wpOpsS P ops (a7v B G n n0 ρ0 w0 c₀ cs out) (List.range' (k+1) l.length) a' ({ c₀ with mode:=m' } :: cs) w' :=
   fun fr' u' H' ρ' m' a' w' s' hm' hk=>d1a hc hG hne l (k+1) fr' u' H' ρ' m' a' w' (fun j=>by have:=hi (j+1);grind) (fun o ho=>hd o (by grind)) s' hm' hk
  simp only[Ej,List.range'_succ,wpOpsS,h0];simp only[b1o] at h;have run:Region.wanted o (yielded ops a.tmps)=true->c2r callf o fr u (b1o P callf ops l) H (opV P H fr.ev o)=out ->
    (if Region.wanted o (yielded ops a.tmps) then
     match (execOp a.eval o).run P w with
     | .ok .recover w' =>
      match recoverD ({ c₀ with mode:=m } :: cs) with
      | some (v,cs')=>wpOpsS P ops (a7v B G n n0 ρ0 w0 c₀ cs out) (List.range' (k+1) l.length) (a.put o.dst v) cs' w'
      | none=>wpOpsS P ops (a7v B G n n0 ρ0 w0 c₀ cs out) (List.range' (k+1) l.length) (a.put o.dst .nilIface) ({ c₀ with mode:=m } :: cs) w'
     | r=>o.upon P a (fun a' w'=>wpOpsS P ops (a7v B G n n0 ρ0 w0 c₀ cs out) (List.range' (k+1) l.length) a' ({ c₀ with mode:=m } :: cs) w') (fun e a' w'=>a7v B G n n0 ρ0 w0 c₀ cs out e a' ({ c₀ with mode:=m } :: cs) w') r
    else wpOpsS P ops (a7v B G n n0 ρ0 w0 c₀ cs out) (List.range' (k+1) l.length) (a.put o.dst undef) ({ c₀ with mode:=m } :: cs) w):=by
   intro hw hout;rw[if_pos hw];have hrs:=a5v (o:=o) s.sim s.ev hG;unfold c2r at hout
   cases hr:opV P H fr.ev o with
   | val v H' =>
    rw[hr] at hrs hout;obtain⟨ρ',x,w',h1,h2,h3,h4,h5⟩:=hrs;rw[h1];dsimp only at hout;rw[Fr.putK_eq] at hout;exact hk _ _ _ _ _ _ _ (s.step h2 h3 h4 h5 hdl) (hm.mono (h2.sub s.sim)) hout
   | skip H' =>
    rw[hr] at hrs hout;obtain⟨ρ',w',h1,h2,h3,h5⟩:=hrs;rw[h1];dsimp only at hout;rw[Fr.putK_eq] at hout;exact hk _ _ _ _ _ _ _ (s.step h2 h3 (a4v _) h5 hdl) (hm.mono (h2.sub s.sim)) hout
   | enter f args H' =>
    rw[hr] at hrs hout;obtain⟨us,h1,h2,rfl⟩:=hrs;rw[h1];dsimp only at hout
    cases hcall:callf f args H' with
    | bad=>grind
    | panic v H2=>grind
    | ret v H2 =>
     rw[hcall] at hout;dsimp only at hout;rw[Fr.putK_eq] at hout;have:=hc f args H' (by grind) ρ us w s.sim h2;rw[hcall] at this;refine this.mono fun e w' he=>?_
     cases e with
     | returned x =>
      obtain⟨ρ',g1,g2,g3,g4⟩:=he;exact hk _ _ _ _ _ _ _ (s.step g1 g2 g3 g4 hdl) (hm.mono (g1.sub s.sim)) hout
     | panicked chain=>exact he.elim
     | outgrown=>exact he.elim
   | recover =>
    rw[hr] at hrs hout;have h1:(execOp a.eval o).run P w=.ok .recover w:=hrs;rw[h1];dsimp only at hout |-
    cases u with
    | returning =>
     cases hm;dsimp only[recoverD];dsimp only at hout;rw[Fr.putK_eq] at hout;exact hk _ .returning H ρ .returning _ _ ⟨s.ext,s.sim,s.frel.put hdl (show VR ρ (.lit .nilIface) .nilIface from rfl),s.le⟩ rfl hout
    | panicking v =>
     obtain⟨x,rfl,hx⟩:=hm;dsimp only[recoverD];dsimp only at hout;rw[Fr.putK_eq] at hout;exact hk _ (.recovered v) H ρ (.panicking [{ v:=x,recovered:=true }]) _ _ ⟨s.ext,s.sim,s.frel.put hdl hx,s.le⟩ (show MR ρ (.recovered v) _ from ⟨x,rfl,hx⟩) hout
    | recovered v =>
     obtain⟨x,rfl,hx⟩:=hm;dsimp only[recoverD];dsimp only at hout;rw[Fr.putK_eq] at hout;exact hk _ (.recovered v) H ρ (.panicking [{ v:=x,recovered:=true }]) _ _ ⟨s.ext,s.sim,s.frel.put hdl (show VR ρ (.lit .nilIface) .nilIface from rfl),s.le⟩ (show MR ρ (.recovered v) _ from ⟨x,rfl,hx⟩) hout
   | dfr fn cap args H'=>grind
   | panic v H'=>grind
   | bad=>grind
  cases hg:o.guard with
  | none =>
   grind[Region.wanted]
  | some g =>
   rw[hg] at h;dsimp only at h
   cases hw:a9j ops fr g with
   | none=>grind
   | some b =>
    rw[hw] at h;have hwb:=b9g s hg hw
    cases b with
    | true=>grind
    | false =>
     rw[if_neg (by grind)];dsimp only at h;rw[Fr.putK_eq] at h;exact hk _ _ _ _ _ _ _ ⟨s.ext,s.sim,s.frel.put hdl (a4v _),s.le⟩ hm h
theorem e3k {callf:CallF} {loopf:LoopF} (hc:Az B G P callf) (hl:a5y B G P loopf) (hG:G=P.globals.size) {c₀:Frame} {cs:List Frame} : ∀ (c:Code) (ρ:Rn) (fr:Fr) (u:Mode) (H:Mem) (m:FrameMode) (a:Act) (w:World),
  Au n c=true->St B G n n0 ρ0 w0 ρ fr H a w->MR ρ u m->a4j P callf loopf c fr u H≠.bad ->
  c.wpS P (a7v B G n n0 ρ0 w0 c₀ cs (a4j P callf loopf c fr u H)) a ({ c₀ with mode:=m } :: cs) w:=by
 intro c
 induction c with
 | seq x y ihx ihy =>
  intro ρ fr u H m a w hd s hm hne;simp only[Au,Dq] at hd;simp only[a4j] at hne |-;have hr:a4j P callf loopf x fr u H≠.bad:=fun h=>hne (by rw[h]);refine wpS_seq ?_;have key:=ihx ρ fr u H m a w hd.1 s hm hr;intro b k hb hro;obtain⟨e,a',cs',w',hq,harr⟩:=key b k hb hro;refine⟨e,a',cs',w',?_,harr⟩;generalize hgen:a4j P callf loopf x fr u H=r at hq hne |-
  cases r with
  | norm fr' u' H' =>
   cases e with
   | normal =>
    obtain⟨ρ',m',rfl,hm',s'⟩:=hq;exact ihy ρ' fr' u' H' m' a' w' hd.2 s' hm' hne
   | _=>exact hq.elim
  | ret fr' u' H'=>cases e<;>first|exact hq.elim|exact hq
  | bad=>grind
 | cond cnd x y ihx ihy =>
  intro ρ fr u H m a w hd s hm hne;simp only[Au,Dq] at hd;simp only[a4j] at hne |-;split at hne
  ·rename_i hev;have:=s.ev _ _ hev;exact wpS_cond (t:=true) this (ihx ρ fr u H m a w hd.1 s hm hne)
  ·rename_i hev;have:=s.ev _ _ hev;exact wpS_cond (t:=false) this (ihy ρ fr u H m a w hd.2 s hm hne)
  grind
 | region id ops draw =>
  intro ρ fr u H m a w hd s hm hne
  cases draw with
  | true=>exact d0z hc hl hG (.region id ops true) hd s hm hne
  | false =>
   refine wpS_region ?_;have:=d1a (c₀:=c₀) (cs:=cs) hc hG hne ops.toList 0 fr u H ρ m a w (fun j=>by simp) (fun o ho=>Ec.1 hd o ho) s hm rfl;grind[List.range_eq_range']
 | _=>intro ρ fr u H m a w hd s hm hne;exact d0z hc hl hG _ hd s hm hne
end Go.Ai
end
section
namespace Go.Ai
open Go.RowKit (Below)
variable {B G:Nat} {P:Program} {n n0:Nat} {ρ0 ρ:Rn} {w0 w:World} {fr:Fr} {H:Mem} {a:Act}
theorem a9y {callf:CallF} {loopf:LoopF} {fn:Func} (hc:Az B G P callf) (hl:a5y B G P loopf) (hG:G=P.globals.size) {out:Ar} (hne:out≠.bad) : ∀ (l:List Dfr) (ds:List Deferred) (u:Mode) (H:Mem) (ρ:Rn) (m:FrameMode) (w:World),
  DR ρ l ds->St B G n n0 ρ0 w0 ρ fr H a w->MR ρ u m->De P callf loopf fn fr l u H=out->Leaves P fn a.tmps (a6r B G n0 ρ0 w0 out) ds m w
 | [],ds,u,H,ρ,m,w,hd,s,hm,h=>by
  cases hd
  cases u with
  | returning =>
   cases hm;simp only[De] at h;split at h
   ·rename_i v hv;subst h;obtain⟨x,hx,hvx⟩:=a9x s hG hv;exact⟨x,hx,ρ,s.ext,s.sim,hvx,s.le⟩
   grind
  | panicking v =>
   obtain⟨x,rfl,hx⟩:=hm;simp only[De] at h;subst h;exact⟨ρ,x,rfl,hx,s.ext,s.sim,s.le⟩
  | recovered v=>grind[De]
 | (fx,cap,args) :: l,ds,u,H,ρ,m,w,hd,s,hm,h=>by
  obtain⟨cs,as,ds',rfl,hcap,hargs,hd'⟩:=hd
  cases fx with
  | func f =>
   simp only[De] at h;unfold c8w at h;split at h
   ·rename_i g hg;split at h
    ·rename_i c hbody hhas;split at h
     ·rename_i hdst hlen;rw[c3n] at h;have hrun:m≠.run:=by
       cases u with
       | returning=>cases hm;simp
       | panicking v=>obtain⟨x,rfl,_⟩:=hm;simp
       | recovered v=>obtain⟨x,rfl,_⟩:=hm;simp
      have hva:VRs ρ (args++cap) (as++cs).toList:=by simpa using hargs.append hcap
      refine⟨hrun,.func f,cs,f,as++cs,rfl,?_,?_⟩
      ·show (callFunc f (as++cs)).run P w=_;grind[b9d]
      ·refine callsD_of_wpS hg hbody fun c₀ cs0 hmode=>?_;have hfe:=c3o (n:=g.ntmps) hva (by simp_all[a0b]);have s1:St B G g.ntmps H.next ρ w ρ (putArgs (args++cap) (Cz g.ntmps) 0) H { tmps:=(as++cs)++Array.replicate (g.ntmps-(as++cs).size) undef,defers:=[] } w:=⟨Ext.refl _ _ _ _,s.sim,hfe,Dm _⟩;have hr:a4j P callf loopf c (putArgs (args++cap) (Cz g.ntmps) 0) u H≠.bad:=fun h0=>by
        rw[h0] at h;exact hne h.symm
       have hc0:({ c₀ with mode:=m } : Frame)=c₀:=by subst hmode;rfl
       have key:=e3k (c₀:=c₀) (cs:=cs0) hc hl hG c ρ _ u H m _ w hdst s1 hm hr;rw[hc0] at key;intro b k hb hro;obtain⟨e,a',cs',w',hq,harr⟩:=key b k hb hro;refine⟨e,a',cs',w',?_,harr⟩;have fin:∀ {fr' : Fr} {u' : Mode} {H' : Mem} {ρ' : Rn} {m' : FrameMode},cs' = { c₀ with mode:=m' } :: cs0->MR ρ' u' m'->St B G g.ntmps H.next ρ w ρ' fr' H' a' w' ->
         (match fr'.defers,a2f P g fr' H',u' with
          | [],some _,.recovered _=>De P callf loopf fn fr l .returning H'
          | [],some _,.returning=>De P callf loopf fn fr l .returning H'
          | [],some _,.panicking v=>De P callf loopf fn fr l (.panicking v) H'
          | _,_,_=>Ar.bad)=out ->
         a'.defers=[]/\∃ u2,cs' = { c₀ with mode:=u2 } :: cs0/\∃ v,(results g a'.tmps).run P w'=.ok v w'/\Leaves P fn a.tmps (a6r B G n0 ρ0 w0 out) ds' (settle u2) w':=by
        intro fr' u' H' ρ' m' hcs hm' s' hmatch;have sub:=s'.ext.sub s.sim;have hs2:St B G n n0 ρ0 w0 ρ' fr H' a w':=⟨s.ext.trans s'.ext s.le,s'.sim,s.frel.mono sub,Dw s.le s'.le⟩;have hdr:=hd'.mono sub;have hdf:fr'.defers=[]->a'.defers=[]:=fun h0=>by have:=s'.frel.dfr;rw[h0] at this;exact this
        split at hmatch
        ·rename_i v x h1 h2;obtain⟨y,hy,_⟩:=a9x s' hG h2;obtain⟨z,rfl,hz⟩:=hm';exact⟨hdf h1,_,hcs,y,hy,a9y hc hl hG hne l ds' .returning H' ρ' .returning w' hdr hs2 rfl hmatch⟩
        ·rename_i v h1 h2;obtain⟨y,hy,_⟩:=a9x s' hG h2;cases hm';exact⟨hdf h1,_,hcs,y,hy,a9y hc hl hG hne l ds' .returning H' ρ' .returning w' hdr hs2 rfl hmatch⟩
        ·rename_i v x h1 h2;obtain⟨y,hy,_⟩:=a9x s' hG h2;obtain⟨z,rfl,hz⟩:=hm';exact⟨hdf h1,_,hcs,y,hy,a9y hc hl hG hne l ds' (.panicking _) H' ρ' (.panicking [{ v:=z,recovered:=false }]) w' hdr hs2 ⟨z,rfl,hz⟩ hmatch⟩
        grind
       generalize a4j P callf loopf c (putArgs (args++cap) (Cz g.ntmps) 0) u H=r at hq h
       cases r with
       | norm fr' u' H' =>
        cases e with
        | normal=>obtain⟨ρ',m',hcs,hm',s'⟩:=hq;exact fin hcs hm' s' h
        | _=>exact hq.elim
       | ret fr' u' H' =>
        cases e with
        | ret=>obtain⟨ρ',m',hcs,hm',s'⟩:=hq;exact fin hcs hm' s' h
        | _=>exact hq.elim
       | bad=>exact hq.elim
     grind
    grind
   grind
  | _=>grind[De]
end Go.Ai
end
section
namespace Go.Ai
open Go.RowKit (Below)
@[reducible] def star:String:=String.ofList [Char.ofNat 42]
def c3q (P:Program) (name:String) : Option TypeId :=
 match (List.range P.types.size).find? fun u=>decide (P.typeName? 3 u=some name) with
 | some tp=>match decide (name=star++String.ofList name.toList.tail) &&
   ((List.range P.types.size).all fun u=>P.typeName? 3 u != some (star++String.ofList name.toList.tail) || u == tp) &&
   ((List.range P.types.size).all fun e=>P.typeName? 2 e != some (String.ofList name.toList.tail) || (match (P.info? e).map (·.desc) with|some (TypeDesc.named _ _)=>true|_=>false)) &&
   decide ((String.ofList name.toList.tail).toList.head?≠some (Char.ofNat 42)) with
  | true=>some tp
  | false=>none
 | none=>none
noncomputable def b9m (a:List AV) (m:Mem) (v:Nat->AV) : Option (List AV×Mem) :=
 match a with
 | []=>none
 | _=>some ([v m.next],m.add (.cells a false 0))
noncomputable def mkL {α:Type} (f:α->Mem->Option (List AV×Mem)) (sz:Nat) : List α->Mem->Option (List AV×Mem)
 | [],m=>some ([],m)
 | d :: ds,m=>match f d m with
  | some (a,m)=>match mkL f sz ds m with
   | some (b,m)=>match Nat.beq a.length sz with|true=>some (a++b,m)|false=>none
   | none=>none
  | none=>none
noncomputable def mkF {α:Type} (f:TypeId->α->Mem->Option (List AV×Mem)) (sz:TypeId->Nat) (tot:Nat) : Nat->List Field->List α->Mem->Option (List AV×Mem)
 | k,[],[],m=>match Nat.beq k tot with|true=>some ([],m)|false=>none
 | k,fd :: fs,d :: ds,m=>match f fd.type d m with
  | some (a,m)=>match mkF f sz tot (k+sz fd.type) fs ds m with
   | some (b,m)=>match Nat.beq a.length (sz fd.type) && Nat.beq fd.offset k with|true=>some (a++b,m)|false=>none
   | none=>none
  | none=>none
 | _,_,_,_=>none
noncomputable def mkD {Hh:Type} (P:Program) (tok:Hh->Option FuncId) : Nat->TypeId->DataW Hh->Mem->Option (List AV×Mem)
 | 0,_,_,_=>none
 | n+1,t,d,m=>match P.underlying t,d with
  | some .bool,.lit (.bool b)=>some ([.lit (.bool b)],m)
  | some (.int _),.lit (.int k x)=>some ([.lit (.int k x)],m)
  | some .string,.lit (.string bs)=>some ([.lit (.string ⟨bs.toArray⟩)],m)
  | some (.pointer _),.nil=>some ([.lit (.pointer none)],m)
  | some (.pointer e),.ptr d=>match mkD P tok n e d m with
   | some (a,m)=>b9m a m (fun x=>.ptr x 0)
   | none=>none
  | some (.slice _),.nil=>some ([.nl],m)
  | some (.slice e),.slice es sp=>match es++sp with
   | []=>some ([.es],m)
   | _=>match mkL (mkD P tok n e) (P.cellsOf e) (es++sp) m with
    | some (a,m)=>b9m a m (fun x=>.sl x 0 es.length (es.length+sp.length))
    | none=>none
  | some (.struct fs),.agg ds=>mkF (fun t d m=>mkD P tok n t d m) P.cellsOf (P.cellsOf t) 0 fs.toList ds m
  | some (.array k e),.agg ds=>match Nat.beq ds.length k && Nat.beq (k*P.cellsOf e) (P.cellsOf t) with
   | true=>mkL (mkD P tok n e) (P.cellsOf e) ds m
   | false=>none
  | some (.interface _),.nil=>some ([.lit .nilIface],m)
  | some (.interface _),.iface name d=>match c3q P name with
   | some u=>match P.underlying u with
    | some (.pointer _)=>match mkD P tok n u d m with
     | some ([a],m)=>some ([.iface u a],m)
     | _=>none
    | _=>none
   | none=>none
  | some (.func _ _ _),.nil=>some ([.lit .nilFunc],m)
  | some (.func _ _ _),.held h=>match tok h with
   | some f=>some ([.lit (.func (.func f) #[] #[])],m)
   | none=>none
  | some (.map _ _),.nil=>some ([.lit (.map none)],m)
  | _,_=>none
def a0m (H:Mem) : Prop:=∀ a x,H.get a=some x->x.own=false
variable {B G:Nat} {P:Program} {ρ ρ' : Rn} {H H' : Mem} {w:World} {Hh:Type}
theorem Sim.see (s:Sim B G ρ H w) (hno:a0m H) {x:Blk} {b o k:Nat} (hown:x.own=false) (hx:BR B (upd ρ H.next (b,o,k)) x b o k w) : Sim B G (upd ρ H.next (b,o,k)) (H.add x) w:=by
 have hsub:=a6q (x:=(b,o,k)) s.none;refine⟨?_,?_,?_,?_,g5d s.names,s.base⟩
 ·intro a y hy;rcases Mem.get_add hy with⟨rfl,rfl⟩|⟨hne,hy⟩
  ·grind[a0l]
  ·rw[a0c _ _ hne];rcases s.blk a y hy with hn|⟨b',o',k',hr,hb⟩
   ·grind
   ·exact .inr ⟨b',o',k',hr,hb.mono hsub rfl⟩
 ·intro a a' y y' b1 o1 k1 o2 k2 h h' hne ho hr hr';rcases Mem.get_add h with⟨e1,e2⟩|⟨hn1,g⟩
  ·grind
  ·rw[hno a y g] at ho;grind
 ·intro a ha;have h1:H.next+1<=a:=ha;rw[a0c _ _ (by omega)];exact s.fresh a (by omega)
 ·intro a y ha hy;have hlt:=s.names;rcases Mem.get_add hy with⟨rfl,rfl⟩|⟨hne,hy⟩
  ·omega
  ·rw[a0c _ _ hne];exact s.glob a y ha hy
theorem a0m.add (h:a0m H) {x:Blk} (hx:x.own=false) : a0m (H.add x):=by
 intro a y hy;rcases Mem.get_add hy with⟨_,rfl⟩|⟨_,hy⟩
 ·grind
 ·exact h a y hy
structure Made (B G:Nat) (ρ:Rn) (H:Mem) (w:World) (avs:List AV) (H' : Mem) (cs:List Value) (ρ' : Rn) : Prop where
 same:∀ a,a<H.next->ρ' a=ρ a
 sim:Sim B G ρ' H' w
 no:a0m H'
 vals:VRs ρ' avs cs
 le:H.next<=H'.next
theorem Made.sub {avs:List AV} {cs:List Value} (h:Made B G ρ H w avs H' cs ρ') (s:Sim B G ρ H w) : Sub ρ ρ':=by
 intro a x hx;rw[h.same a (s.lt_next hx)];grind
theorem Made.pure (s:Sim B G ρ H w) (hno:a0m H) {avs:List AV} {cs:List Value} (h:VRs ρ avs cs) : Made B G ρ H w avs H cs ρ:=⟨fun _ _=>rfl,s,hno,h,Dm _⟩
theorem b9n {base:Nat} {a:Addr} {n:Nat} {cs:List Value} (h:w.cells? base a n=some cs) : cs.length=n/\∀ i,i<n->w.cell? (a.add i)=cs[i]?:=by
 exact(World.cells?_some h).2
theorem c3r {a:Addr} {v:Value} (h:w.cell? a=some v) : a.spot=none:=by
 unfold World.cell? at h;split at h
 all_goals simp_all
theorem e3l {l:List AV} {cs:List Value} {b o k:Nat} (hl:VRs ρ l cs) (hne:cs≠[]) (hc:∀ i,i<cs.length->w.cell? ⟨b,o+i,none⟩=cs[i]?) : BR B ρ (.cells l false 0) b o k w:=by
 have h0:0<cs.length:=List.length_pos_iff.2 hne;have hb:∃ c e fz,w.heap[b]?=some (.cells c e fz):=by
  grind[World.cell?]
 obtain⟨c,e,fz,hh⟩:=hb;refine⟨c,e,fz,hh,fun i v hi=>?_,fun h=>by cases h⟩;obtain⟨u,hu,hv⟩:=hl.get i hi;grind[World.cell?]
theorem Addr.add_eq {b o i:Nat} : (Addr.mk b o none).add i=⟨b,o+i,none⟩:=by
 grind[Addr.add]
theorem c3s {α:Type} {f:α→Mem→Option (List AV×Mem)} {sz:Nat} : ∀ (ds:List α) (css:List (List Value)) (H:Mem) (avs:List AV) (H' : Mem) (ρ:Rn),
  css.length=ds.length→(∀ (i:Nat) d ci,ds[i]?=some d→css[i]?=some ci→∀ H avs H' ρ,Sim B G ρ H w→a0m H→f d H=some (avs,H')→∃ ρ',Made B G ρ H w avs H' ci ρ') →
  Sim B G ρ H w→a0m H→mkL f sz ds H=some (avs,H')→(∃ ρ',Made B G ρ H w avs H' css.flatten ρ')∧∀ c∈css,c.length=sz
 | [],css,H,avs,H',ρ,hl,_,s,hno,h=>by
  simp [mkL] at h;obtain ⟨rfl,rfl⟩:=h;have:css=[]:=g3r.1 (by grind);subst this;exact ⟨⟨ρ,.pure s hno rfl⟩,fun c hc=>by grind⟩
 | d :: ds,css,H,avs,H',ρ,hl,hf,s,hno,h=>by
  cases css with
  | nil=>grind
  | cons c css =>
  unfold mkL at h;split at h
  ·rename_i a m1 h1;split at h
   ·rename_i b m2 h2;split at h
    ·rename_i hb;simp only [Option.some.injEq,Prod.mk.injEq] at h;obtain ⟨rfl,rfl⟩:=h;obtain ⟨ρ1,M1⟩:=hf 0 d c rfl rfl H a m1 ρ s hno h1;obtain ⟨⟨ρ2,M2⟩,hlen⟩:=c3s ds css m1 b m2 ρ1 (by grind) (fun i d' ci hd hc=>hf (i+1) d' ci (by grind) (by grind)) M1.sim M1.no h2;refine ⟨⟨ρ2,fun x hx=>(M2.same x (Eh hx M1.le)).trans (M1.same x hx),M2.sim,M2.no,?_,Dw M1.le M2.le⟩,?_⟩
     ·rw [List.flatten_cons];exact (M1.vals.mono (M2.sub M1.sim)).append M2.vals
     ·intro c' hc';rcases Dv.1 hc' with rfl | hc'
      ·rw [M1.vals.length,Dz hb]
      grind
    grind
   grind
  grind
theorem d1b {α:Type} {f:TypeId->α->Mem->Option (List AV×Mem)} {sz:TypeId->Nat} {cs:List Value} : ∀ (fs:List Field) (ds:List α) (k:Nat) (H:Mem) (avs:List AV) (H' : Mem) (ρ:Rn),
  (∀ (i:Nat) fd d,fs[i]?=some fd->ds[i]?=some d->∀ H avs H' ρ,Sim B G ρ H w->a0m H->f fd.type d H=some (avs,H')->∃ ρ',Made B G ρ H w avs H' ((cs.drop fd.offset).take (sz fd.type)) ρ') ->
  Sim B G ρ H w->a0m H->mkF f sz cs.length k fs ds H=some (avs,H')->∃ ρ',Made B G ρ H w avs H' (cs.drop k) ρ'
 | [],[],k,H,avs,H',ρ,_,s,hno,h=>by
  unfold mkF at h;split at h
  ·rename_i hk;simp only[Option.some.injEq,Prod.mk.injEq] at h;obtain⟨rfl,rfl⟩:=h;rw[Nat.eq_of_beq_eq_true hk,List.drop_length];exact⟨ρ,.pure s hno rfl⟩
  grind
 | fd :: fs,d :: ds,k,H,avs,H',ρ,hf,s,hno,h=>by
  unfold mkF at h;split at h
  ·rename_i a m1 h1;split at h
   ·rename_i b m2 h2;split at h
    ·rename_i hb;simp only[Bool.and_eq_true] at hb;simp only[Option.some.injEq,Prod.mk.injEq] at h;obtain⟨rfl,rfl⟩:=h;have hoff:=Nat.eq_of_beq_eq_true hb.2;have hal:=Nat.eq_of_beq_eq_true hb.1;obtain⟨ρ1,M1⟩:=hf 0 fd d rfl rfl H a m1 ρ s hno h1;obtain⟨ρ2,M2⟩:=d1b fs ds (k+sz fd.type) m1 b m2 ρ1 (fun i fd' d' hfd hd=>hf (i+1) fd' d' (by grind) (by grind)) M1.sim M1.no h2;refine⟨ρ2,fun x hx=>(M2.same x (Nat.lt_of_lt_of_le hx M1.le)).trans (M1.same x hx),M2.sim,M2.no,?_,Nat.le_trans M1.le M2.le⟩;have h3:=(M1.vals.mono (M2.sub M1.sim)).append M2.vals;have h4:=M1.vals.length;grind[List.drop_drop,List.take_append_drop]
    grind
   grind
  grind
 | [],_ :: _,_,_,_,_,_,_,_,_,h=>by grind[mkF]
 | _ :: _,[],_,_,_,_,_,_,_,_,h=>by grind[mkF]
theorem d1c {sz:Nat} : ∀ (n:Nat) (cs:List Value),cs.length=n * sz→((List.range n).map fun i=>(cs.drop (i * sz)).take sz).flatten=cs
 | 0,cs,h=>by grind
 | n+1,cs,h=>by
  rw [List.range_succ_eq_map,g4j,List.flatten_cons,List.map_map];have hr:=d1c (sz:=sz) n (cs.drop sz) (by grind);have:((List.range n).map ((fun i=>(cs.drop (i * sz)).take sz) ∘ Nat.succ))=(List.range n).map fun i=>((cs.drop sz).drop (i * sz)).take sz:=by
   simp [g5o,g5m]
  rw [this,hr];simp
theorem d1d {sz b:Nat} : ∀ (css:List (List Value)) (o:Nat),(∀ c∈css,c.length=sz)→(∀ i c,css[i]?=some c→∀ r,r < sz→w.cell? ⟨b,o+i * sz+r,none⟩=c[r]?) →
  ∀ j,j < css.flatten.length→w.cell? ⟨b,o+j,none⟩=css.flatten[j]?
 | [],_,_,_,j,hj=>by grind
 | c :: css,o,hl,h,j,hj=>by
  rw [List.flatten_cons] at hj ⊢;have hc:=hl c (by simp);rcases g4k j sz with h1 | h1
  ·have:=h 0 c rfl j h1;grind
  ·rw [Em (by omega)];have:=d1d css (o+sz) (fun c' hc'=>hl c' (by grind)) (fun i c' hi r hr=>by
    have:=h (i+1) c' (by grind) r hr;rw [← this]; congr 2; grind) (j - c.length) (by grind)
   grind
def c3t {Hh:Type} (enc:TypeId×Value->Hh) (tok:Hh->Option FuncId) : Prop:=∀ t v f,tok (enc (t,v))=some f->v=.func (.func f) #[] #[]
def b9o (P:Program) (w:World) (cs:List Value) (ps:List MemPlace) : Prop :=
 (∀ u v,Value.iface u v∈cs->Value.okWide P w .any 0 u v)/\∀ b off,MemPlace.cell b off∈ps->∀ u v,w.cell? ⟨b,off,none⟩=some (.iface u v)->Value.okWide P w .any 0 u v
theorem d1e {H2:Mem} {l:List AV} {cs:List Value} {avs:List AV} {g:Nat→AV} {b o:Nat} {us:List Value} (s:Sim B G ρ H w) (M:Made B G ρ H w l H' cs ρ') (h:b9m l H' g=some (avs,H2))
  (hc:∀ i,i < cs.length→w.cell? ⟨b,o+i,none⟩=cs[i]?) (hg:∀ ρ2,ρ2 H'.next=some (b,o,0)→VRs ρ2 [g H'.next] us) : ∃ ρ2,Made B G ρ H w avs H2 us ρ2:=by
 cases l with
 | nil=>cases h
 | cons x l =>
  simp only [b9m,Option.some.injEq,Prod.mk.injEq] at h;obtain ⟨rfl,rfl⟩:=h;have hne:cs≠[]:=by rintro rfl; have:=M.vals.length; grind
  refine ⟨upd ρ' H'.next (b,o,0),fun a ha=>?_,M.sim.see M.no rfl ?_,M.no.add rfl,hg _ (a0l _ _ _),g5d M.le⟩
  ·rw [a0c _ _ (by have:=M.le; omega)]; exact M.same a ha
  ·exact e3l (M.vals.mono (a6q M.sim.none)) hne hc
theorem d1f {a:Addr} {k:Nat} {cs' : List Value} (hcl:w.cells? 0 a k=some cs') (h:∀ b off,MemPlace.cell b off∈MemPlace.row a k→∀ u v,w.cell? ⟨b,off,none⟩=some (.iface u v)→Value.okWide P w .any 0 u v) :
  ∀ u v,Value.iface u v∈cs'→Value.okWide P w .any 0 u v:=by
 intro u v hm;obtain ⟨hlen,hcell⟩:=b9n hcl;obtain ⟨i,hi,e⟩:=g3y.1 hm;have hci:=hcell i (by omega);rw [Dy hi,e] at hci;obtain ⟨b,o,spt⟩:=a;have hspot:spt=none:=by
  have h0:=hcell 0 (by omega);rw [Dy (by omega)] at h0;exact c3r h0
 subst hspot;rw [Addr.add_eq] at hci;refine h b (o+i) ?_ u v hci;unfold MemPlace.row;exact Eg.2 ⟨i,by grind,rfl⟩
theorem e3m {a:Addr} {i k sz n:Nat} {b off:Nat} (hi:i < n) (h:MemPlace.cell b off∈MemPlace.row (a.add (i * sz)) sz) : MemPlace.cell b off∈MemPlace.row a (n * sz):=by
 unfold MemPlace.row at h ⊢;obtain ⟨j,hj,e⟩:=Eg.1 h;have hj' : j < sz:=by grind
 have hb:(a.add (i * sz)).block=a.block:=by grind [Addr.add]
 have ho:(a.add (i * sz)).off=a.off+i * sz:=by
  grind [Addr.add]
 rw [hb,ho] at e;refine Eg.2 ⟨i * sz+j,?_,by grind⟩;have:(i+1) * sz≤n * sz:=g6u _ hi;grind
theorem VRs.singleton {x:AV} {v:Value} (h:VR ρ x v) : VRs ρ [x] [v]:=⟨v,[],rfl,h,rfl⟩
theorem e3n {name:String} {u v:TypeId} (h:c3q P name=some u) (hv:P.typeName? 3 v=some name) : v=u:=by
 unfold c3q at h;split at h
 ·rename_i x hx;split at h
  ·rename_i hb;cases h;simp only[Dq,decide_eq_true_eq] at hb;obtain⟨⟨⟨h1,h2⟩,h3⟩,h4⟩:=hb;rw[h1] at hv;exact typeName_ptr_named h2 h3 h4 v hv
  grind
 grind
theorem e3o {u e:TypeId} {v:Value} (hu:P.underlying u=some (.pointer e)) (h:Value.okWide P w .any 0 u v) : v.cells.toList=[v]:=by
 cases v<;>first|rfl|skip;simp_all[Cell.ok,Cell.okWide,Value.okWide]
theorem e3p {enc:TypeId×Value→Hh} {sp:Nat→Bool} {held:Bool} {m:Nat} {t:TypeId} {cs:List Value} {name:String} {d:DataW Hh} {ps:List MemPlace} {ms:Array (String×TypeId)} (ht:P.underlying t=some (.interface ms))
  (h:DataW.trod enc P w 0 sp held m t cs=some (.iface name d,ps)) : ∃ u v k,cs=[.iface u v]∧held=false∧P.typeName? 3 u=some name∧DataW.trod enc P w 0 sp held k u v.cells.toList=some (d,ps):=by
 cases m with
 | zero=>simp [DataW.trod] at h
 | succ k =>
  unfold DataW.trod at h;rw [ht] at h;split at h <;> simp_all;rename_i u v _
  cases held with
  | true=>grind
  | false =>
   cases hn:P.typeName? 3 u with
   | none=>grind
   | some nm =>
    rw [hn] at h;simp only [g3v] at h;grind
theorem e3q {enc:TypeId×Value->Hh} {sp:Nat->Bool} {held:Bool} {m:Nat} {t:TypeId} {cs:List Value} {ps:List MemPlace} {ms:Array (String×TypeId)} (ht:P.underlying t=some (.interface ms))
  (h:DataW.trod enc P w 0 sp held m t cs=some (.nil,ps)) : cs=[.nilIface]:=by
 cases m with
 | zero=>simp[DataW.trod] at h
 | succ k =>
  unfold DataW.trod at h;rw[ht] at h;split at h<;>simp_all;rename_i u v _;exfalso
  cases held with
  | true=>grind
  | false =>
   cases hn:P.typeName? 3 u with
   | none=>grind
   | some nm=>simp_all
theorem e3r {enc:TypeId×Value->Hh} {sp:Nat->Bool} {held:Bool} {m:Nat} {t:TypeId} {cs:List Value} {ps:List MemPlace} {a b:Array TypeId} {c:Bool} (ht:P.underlying t=some (.func a b c))
  (h:DataW.trod enc P w 0 sp held m t cs=some (.nil,ps)) : cs=[.nilFunc]:=by
 cases m with
 | zero=>simp[DataW.trod] at h
 | succ k =>
  unfold DataW.trod at h;grind
theorem e3s {enc:TypeId×Value->Hh} {sp:Nat->Bool} {held:Bool} {m:Nat} {t:TypeId} {cs:List Value} {ps:List MemPlace} {a b:Array TypeId} {c:Bool} {x:Hh} (ht:P.underlying t=some (.func a b c))
  (h:DataW.trod enc P w 0 sp held m t cs=some (.held x,ps)) : ∃ v,cs=[v]/\enc (t,v)=x:=by
 cases m with
 | zero=>simp[DataW.trod] at h
 | succ k =>
  unfold DataW.trod at h;grind
theorem e3t {enc:TypeId×Value->Hh} {sp:Nat->Bool} {held:Bool} {m:Nat} {t:TypeId} {cs:List Value} {ps:List MemPlace} {a b:TypeId} (ht:P.underlying t=some (.map a b))
  (h:DataW.trod enc P w 0 sp held m t cs=some (.nil,ps)) : cs=[.map none]:=by
 cases m with
 | zero=>simp[DataW.trod] at h
 | succ k =>
  unfold DataW.trod at h;grind[Option.bind_eq_some_iff]
theorem a9z {enc:TypeId×Value->Hh} {tok:Hh->Option FuncId} {sp:Nat->Bool} (hsp:∀ b,sp b=true) {held:Bool} (htok:c3t enc tok) : ∀ (n m:Nat) (t:TypeId) (cs:List Value) (d:DataW Hh) (ps:List MemPlace) (H:Mem) (avs:List AV) (H' : Mem) (ρ:Rn),
  DataW.trod enc P w 0 sp held m t cs=some (d,ps)->(held=false->b9o P w cs ps)->Sim B G ρ H w->a0m H->mkD P tok n t d H=some (avs,H')->∃ ρ',Made B G ρ H w avs H' cs ρ'
 | 0,m,t,cs,d,ps,H,avs,H',ρ,_,_,_,_,h=>by simp[mkD] at h
 | n+1,m,t,cs,d,ps,H,avs,H',ρ,hr,hif,s,hno,h=>by
  have one:∀ {x:Value},cs=[x]->some ([AV.lit x],H)=some (avs,H')->∃ ρ',Made B G ρ H w avs H' cs ρ':=by
   intro x hcs h;simp only[Option.some.injEq,Prod.mk.injEq] at h;obtain⟨rfl,rfl⟩:=h;subst hcs;exact⟨ρ,.pure s hno ⟨x,[],rfl,rfl,rfl⟩⟩
  unfold mkD at h;split at h
  ·grind[DataW.trod_bool]
  ·grind[DataW.trod_int]
  ·rename_i ht;obtain⟨x',hcs,hx,_⟩:=DataW.trod_string ht hr;simp_all
  ·grind[DataW.trod_pointer]
  ·rename_i ht;rcases DataW.trod_pointer ht hr with⟨hcs,hx⟩|⟨a,cs',y,k,_,hcs,hx,hcl,hy⟩
   ·grind
   ·split at h
    ·rename_i l m1 hl;cases hx;obtain⟨hlen,hcell⟩:=b9n hcl;obtain⟨ρ1,M⟩:=a9z hsp htok n k _ cs' _ _ H l m1 ρ hy (fun hh=>⟨d1f hcl fun b off hp=>(hif hh).2 b off (by grind),fun b off hp=>(hif hh).2 b off (by grind)⟩) s hno hl;have hne:0<cs'.length:=by
      cases l with
      | nil=>cases h
      | cons x l=>have:=M.vals.length;grind
     obtain⟨b,o,spt⟩:=a;have hs:=hcell 0 (by omega);rw[List.getElem?_eq_getElem hne] at hs;have hspot:spt=none:=c3r hs;subst hspot;refine d1e (b:=b) (o:=o) s M h (fun i hi=>?_) fun ρ2 h2=>?_
     ·grind[Addr.add_eq]
     ·rw[hcs];exact VRs.singleton ⟨b,o,0,h2,rfl⟩
    grind
  ·grind[DataW.trod_slice]
  ·rename_i e _ _ ht;rcases DataW.trod_slice ht hr with⟨hcs,hx⟩|⟨a,len,cap,elems,rest,k,_,hcs,hx,hb0,hlc,hcm,hlen,hel,hrs,_⟩
   ·grind
   ·obtain⟨hrl,hre⟩:=hrs (hsp _);simp only[Prod.mk.injEq,DataW.slice.injEq] at hx;obtain⟨⟨rfl,rfl⟩,rfl⟩:=hx;split at h
    ·rename_i hnil;simp only[Option.some.injEq,Prod.mk.injEq] at h;obtain⟨rfl,rfl⟩:=h;have h0:elems.length=0:=by
      simp_all
     rw[hcs];refine⟨ρ,.pure s hno (VRs.singleton ⟨a,cap,?_⟩)⟩;grind
    ·split at h
     ·rename_i l m1 hl;have all:∀ i x,(elems++rest)[i]?=some x->∃ ci,w.cells? 0 (a.add (i*P.cellsOf e)) (P.cellsOf e)=some ci/\DataW.trod enc P w 0 sp held k e ci=some x:=by
       intro i x hi;rcases Nat.lt_or_ge i elems.length with h1|h1
       all_goals grind[Option.bind_eq_some_iff]
      have hds:List.map (·.1) elems++List.map (·.1) rest=(elems++rest).map (·.1):=by simp
      rw[hds] at hl;obtain⟨⟨ρ1,M⟩,hsz⟩:=c3s (B:=B) (G:=G) (w:=w) ((elems++rest).map (·.1)) ((List.range (elems++rest).length).map fun i=>(w.cells? 0 (a.add (i*P.cellsOf e)) (P.cellsOf e)).getD []) H l m1 ρ (by simp) (by
       intro i d ci hd hc H avs H' ρ s hno hmk;rw[List.getElem?_map] at hd hc;obtain⟨x,hx,rfl⟩:=Option.map_eq_some_iff.1 hd;obtain⟨ci',h2,h3⟩:=all i x hx;have hlt:i<(elems++rest).length:=(List.getElem?_eq_some_iff.1 hx).1;rw[List.getElem?_range hlt] at hc;simp only[Option.map_some,Option.some.injEq] at hc;subst hc;rw[h2,Option.getD_some];refine a9z hsp htok n k e ci' x.1 x.2 H avs H' ρ h3 (fun hh=>⟨d1f h2 fun b off hp=>(hif hh).2 b off ?_,fun b off hp=>(hif hh).2 b off ?_⟩) s hno hmk
       ·rw[List.mem_append];left;have:=e3m (n:=(elems++rest).length) (k:=0) hlt hp;grind
       grind) s hno hl
      have hpos:0<(elems++rest).length:=by
       grind
      have hsz0:0<P.cellsOf e:=by
       rcases Nat.eq_zero_or_pos (P.cellsOf e) with h0|h0
       ·exfalso;have:((List.range (elems++rest).length).map fun i=>(w.cells? 0 (a.add (i*P.cellsOf e)) (P.cellsOf e)).getD []).flatten=[]:=by
         grind[List.flatten_eq_nil_iff]
        have h2:=M.vals.length;rw[this] at h2
        cases l with
        | nil=>cases h
        | cons x l=>grind
       grind
      have cellAt:∀ i,i<(elems++rest).length->∃ ci,w.cells? 0 (a.add (i*P.cellsOf e)) (P.cellsOf e)=some ci:=by
       intro i hi;obtain⟨ci,h2,_⟩:=all i _ (List.getElem?_eq_getElem hi);grind
      obtain⟨b,o,spt⟩:=a;have hspot:spt=none:=by
       obtain⟨c0,h0⟩:=cellAt 0 hpos;obtain⟨hl0,hc0⟩:=b9n h0;have:=hc0 0 hsz0;rw[List.getElem?_eq_getElem (by omega)] at this;have:=c3r this;grind[Addr.add]
      subst hspot;refine d1e (b:=b) (o:=o) s M h (fun j hj=>?_) fun ρ2 h2=>?_
      ·refine d1d (sz:=P.cellsOf e) _ o hsz (fun i c hi r hr=>?_) j hj;rw[List.getElem?_map] at hi;obtain⟨i',hi',rfl⟩:=Option.map_eq_some_iff.1 hi;grind[b9n,Addr.add_eq]
      ·rw[hcs];refine VRs.singleton ⟨b,o,0,h2,by simp,?_⟩;grind
     grind
  ·rename_i ht;obtain⟨xs,k,_,hx,hlen,hxl,hel⟩:=DataW.trod_struct ht hr;simp only[Prod.mk.injEq,DataW.agg.injEq] at hx;obtain⟨rfl,rfl⟩:=hx;rw[<- hlen] at h;have:=d1b (B:=B) (G:=G) (w:=w) (cs:=cs) _ _ 0 H avs H' ρ (fun i fd d hfd hd H avs H' ρ s hno hmk=>?_) s hno h
   ·grind
   ·rw[List.getElem?_map] at hd;obtain⟨x,hx,rfl⟩:=Option.map_eq_some_iff.1 hd;have h1:=hel i fd (by grind);rw[hx] at h1;exact a9z hsp htok n k fd.type _ x.1 x.2 H avs H' ρ h1 (fun hh=>⟨fun u v hm=>(hif hh).1 u v (List.mem_of_mem_drop (List.mem_of_mem_take hm)),fun b off hp=>(hif hh).2 b off (List.mem_flatMap.2 ⟨x,List.mem_of_getElem? hx,hp⟩)⟩) s hno hmk
  ·rename_i ht;obtain⟨xs,k,_,hx,hlen,hxl,hel⟩:=DataW.trod_array ht hr;simp only[Prod.mk.injEq,DataW.agg.injEq] at hx;obtain⟨rfl,rfl⟩:=hx;split at h
   ·rename_i hb;rename_i nn e _ _;simp only[Bool.and_eq_true] at hb;have htot:=Nat.eq_of_beq_eq_true hb.2;obtain⟨⟨ρ1,M⟩,hsz⟩:=c3s (B:=B) (G:=G) (w:=w) (xs.map (·.1)) ((List.range nn).map fun i=>(cs.drop (i*P.cellsOf e)).take (P.cellsOf e)) H avs H' ρ (by grind) (by
     intro i d ci hd hc H avs H' ρ s hno hmk;rw[List.getElem?_map] at hd hc;obtain⟨x,hx,rfl⟩:=Option.map_eq_some_iff.1 hd;have hlt:i<nn:=by grind
     rw[List.getElem?_range hlt] at hc;simp only[Option.map_some,Option.some.injEq] at hc;subst hc;have h1:=hel i hlt;rw[hx] at h1;exact a9z hsp htok n k e _ x.1 x.2 H avs H' ρ h1 (fun hh=>⟨fun u v hm=>(hif hh).1 u v (List.mem_of_mem_drop (List.mem_of_mem_take hm)),fun b off hp=>(hif hh).2 b off (List.mem_flatMap.2 ⟨x,List.mem_of_getElem? hx,hp⟩)⟩) s hno hmk) s hno h
    grind[d1c]
   grind
  ·grind[e3q]
  ·rename_i ht;obtain⟨u,v,k,hcs,hh,hn,hy⟩:=e3p ht hr;split at h
   ·rename_i u' hu';have:=e3n hu' hn;subst this;split at h
    ·rename_i e he;split at h
     ·rename_i a m1 hmk;simp only[Option.some.injEq,Prod.mk.injEq] at h;obtain⟨rfl,rfl⟩:=h;have hok:=(hif hh).1 u v (by grind);have hv:=e3o he hok;rw[hv] at hy;have hio:b9o P w [v] ps:=by
       refine⟨fun u2 v2 hm=>?_,(hif hh).2⟩;exfalso;have hm' : Value.iface u2 v2=v:=by grind
       (simp_all[Cell.ok,Cell.okWide,Value.okWide];grind)
      obtain⟨ρ1,M⟩:=a9z hsp htok n k u [v] _ ps H [a] m1 ρ hy (fun _=>hio) s hno hmk;obtain⟨x,xs,e1,hv1,e2⟩:=M.vals;simp only[List.cons.injEq] at e1;obtain⟨rfl,rfl⟩:=e1;rw[hcs];exact⟨ρ1,M.same,M.sim,M.no,VRs.singleton ⟨_,rfl,hv1⟩,M.le⟩
     grind
    grind
   grind
  ·grind[e3r]
  ·rename_i ht;obtain⟨v,hcs,he⟩:=e3s ht hr;split at h
   ·rename_i f hf;have:=htok t v f (by grind);grind
   grind
  all_goals grind[e3t]
end Go.Ai
end
section
namespace Go.Ai
open Go.RowKit (Below)
variable {B G:Nat} {P:Program} {ρ ρ' : Rn} {H H' : Mem} {w:World} {Hh:Type}
variable {W:World} {l:List (String×DataW Unit)}
theorem Sim.glo (s:Sim B G ρ H w) (hno:a0m H) {g:Nat} {x:Blk} (hg:g<G) (hr:ρ g=some (g,0,0)) (hown:x.own=false) (hx:BR B ρ x g 0 0 w) : Sim B G ρ (H.upd g x) w:=by
 refine⟨?_,?_,fun j hj=>s.fresh j hj,?_,s.names,s.base⟩
 ·intro j z hz;rcases Mem.get_upd hz with⟨rfl,rfl⟩|⟨hne,hz⟩
  ·grind
  ·exact s.blk j z hz
 ·intro j j' z z' b1 o1 k1 o2 k2 h h' hne ho hr1 hr2;rcases Mem.get_upd h with⟨e1,e2⟩|⟨hn1,g1⟩
  ·grind
  ·rw[hno j z g1] at ho;grind
 ·intro j z hj hz;rcases Mem.get_upd hz with⟨rfl,rfl⟩|⟨hne,hz⟩
  ·grind
  ·exact s.glob j z hj hz
theorem a0m.upd (h:a0m H) {x:Blk} {g:Nat} (hx:x.own=false) : a0m (H.upd g x):=by
 intro a y hy;rcases Mem.get_upd hy with⟨_,rfl⟩|⟨_,hy⟩
 ·grind
 ·exact h a y hy
def c3u (P:Program) : List UInt8->Option FuncId
 | []=>none
 | b :: r=>match (List.range P.funcs.size).filter fun f=>(P.funcs[f]?).any (·.name.toUTF8.data.toList == b :: r) with
  | [f]=>some f
  | _=>none
theorem e3u (P:Program) : c3t (funcToken P) (c3u P):=by
 intro t v f h
 cases hk:funcToken P (t,v) with
 | nil=>rw[hk] at h;cases h
 | cons b r =>
  rw[hk] at h;unfold c3u at h;split at h
  ·cases h
  ·rename_i b' r' e;cases e;split at h
   ·rename_i f' hone;cases h;obtain⟨f0,fn,rfl,hf,_,hb⟩:=funcToken_tells hk;have hm:f0∈(List.range P.funcs.size).filter fun f=>(P.funcs[f]?).any (·.name.toUTF8.data.toList == b :: r) :=
     g5t.2 ⟨g6r.2 (g3x.1 hf).1,by grind⟩
    grind
   grind
def a0e {Hh:Type} : Hh->Option FuncId:=fun _=>none
theorem d1g (enc:TypeId×Value->Hh) : c3t enc a0e:=fun _ _ _ h=>by cases h
noncomputable def b9p (g:Nat) (r:Option (List AV×Mem)) : Option Mem:=match r with
 | some (a,m)=>some (m.upd g (.cells a false 0))
 | none=>none
noncomputable def c3v (P:Program) (x:String×DataW Unit) (H:Mem) : Option Mem :=
 match P.globalNamed x.1 with
 | some g=>match (P.globals[g]?).map (·.type) with
  | some t=>match x.2 with
   | .iface "func table" d=>b9p g (mkD P (c3u P) 64 t d.funcsOut H)
   | d=>b9p g (mkD P a0e 64 t d H)
  | none=>none
 | none=>none
noncomputable def b6b (P:Program) : List (String×DataW Unit)->Mem->Option Mem
 | [],H=>some H
 | x :: l,H=>match c3v P x H with
  | some H=>b6b P l H
  | none=>none
def GOk (G:Nat) (ρ:Rn) : Prop:=∀ g,g<G->ρ g=some (g,0,0)
def c3w (P:Program) (W:World) (x:String×DataW Unit) : Prop :=
 (∀ d,x.2=.iface "func table" d->funcsAt P W x.1 d) /\
 ((∀ d,x.2≠.iface "func table" d)->∃ g t cs fuel p,P.globalNamed x.1=some g/\(P.globals[g]?).map (·.type)=some t/\W.var? P x.1=some cs /\
  DataW.trod (fun _=>()) P W 0 (fun _=>true) false fuel t cs.toList=some (x.2,p)/\b9o P W cs.toList p)
theorem d1h : ∀ {l:List (String×DataW Unit)} {ps:List MemPlace},DataW.LaidVars P W l ps->∀ x∈l,∃ g t cs fuel p,P.globalNamed x.1=some g/\(P.globals[g]?).map (·.type)=some t/\W.var? P x.1=some cs /\
  DataW.trod (fun _=>()) P W 0 (fun _=>true) false fuel t cs.toList=some (x.2,p)/\(∀ q∈MemPlace.row ⟨g,0,none⟩ cs.size,q∈ps)/\∀ q∈p,q∈ps
 | [],_,_,x,hx=>by grind
 | (n,d) :: r,ps,⟨g,t,cs,fuel,p,q,h1,h2,h3,h4,h5,h6⟩,x,hx=>by
  rcases Dv.1 hx with rfl|hx
  ·exact⟨g,t,cs,fuel,p,h1,h2,h3,h4,fun y hy=>by rw[h6];simp[hy],fun y hy=>by rw[h6];simp[hy]⟩
  ·obtain⟨g',t',cs',f',p',k1,k2,k3,k4,k5,k6⟩:=d1h h5 x hx;exact⟨g',t',cs',f',p',k1,k2,k3,k4,fun y hy=>by rw[h6];simp[k5 y hy],fun y hy=>by rw[h6];simp[k6 y hy]⟩
theorem d1i (h:laidMet P l W) {x:String×DataW Unit} (hx:x∈l) : ∃ g t cs fuel p,P.globalNamed x.1=some g/\(P.globals[g]?).map (·.type)=some t/\W.var? P x.1=some cs /\
  DataW.trod (fun _=>()) P W 0 (fun _=>true) false fuel t cs.toList=some (x.2,p)/\b9o P W cs.toList p:=by
 obtain⟨ps,h1,_,h3⟩:=h;obtain⟨g,t,cs,f,p,k1,k2,k3,k4,k5,k6⟩:=d1h h1 x hx;refine⟨g,t,cs,f,p,k1,k2,k3,k4,fun u v hm=>?_,fun b off hp=>(h3 b off (k6 _ hp)).2⟩;obtain⟨i,hi,e⟩:=g3y.1 hm;have hi' : i<cs.size:=by grind
 have hrow:MemPlace.cell g i∈MemPlace.row ⟨g,0,none⟩ cs.size:=by
  grind[MemPlace.row]
 refine(h3 g i (k5 _ hrow)).2 u v ?_;rw[World.var?_cell k1 k3 i];grind
theorem e3v (h:laidMetH P l W) (hk:(l.all fun x=>x.2.handleName?.isNone || x.2.funcsIn?.isSome)=true) : ∀ x∈l,c3w P W x:=by
 intro x hx;refine⟨fun d hd=>?_,fun hd=>?_⟩
 ·obtain⟨n,e⟩:=x;dsimp only at hd;subst hd;exact h.funcs hx
 ·have hnone:x.2.handleName?.isNone=true:=by
   have:=Ec.1 hk x hx;rcases g5r _ _ ▸ this with h1|h1
   ·grind
   ·exfalso;obtain⟨n,e⟩:=x;cases e<;>first|(cases h1;done)|skip;rename_i t e;simp only[DataW.funcsIn?] at h1;grind
  unfold laidMetH at h;split at h
  ·grind[d1i]
  ·exact d1i h.1 (g5t.2 ⟨hx,hnone⟩)
theorem d1j {g:Nat} {avs:List AV} {cs:Array Value} {H1:Mem} {n:String} (s:Sim B G ρ H w) (hg:GOk G ρ) (hgn:P.globalNamed n=some g) (hlt:g<G) (hv:w.var? P n=some cs) (M:Made B G ρ H w avs H1 cs.toList ρ') :
  GOk G ρ'/\Sim B G ρ' (H1.upd g (.cells avs false 0)) w/\a0m (H1.upd g (.cells avs false 0)):=by
 have hg' : GOk G ρ':=fun a ha=>by
  have:a<H.next:=Eh ha s.names;rw[M.same a this];exact hg a ha
 refine⟨hg',M.sim.glo M.no hlt (hg' g hlt) rfl ?_,M.no.upd rfl⟩;simp only[World.var?,hgn,Option.bind_some] at hv;split at hv
 ·rename_i c e fz hh;cases hv;refine⟨cs,e,fz,hh,fun i v hi=>?_,fun h=>by cases h⟩;obtain⟨u,hu,hvr⟩:=M.vals.get i hi;grind
 grind
theorem e3w {x:String×DataW Unit} (hG:G=P.globals.size) (hl:c3w P w x) (s:Sim B G ρ H w) (hno:a0m H) (hg:GOk G ρ) (h:c3v P x H=some H') : ∃ ρ',GOk G ρ'/\Sim B G ρ' H' w/\a0m H':=by
 unfold c3v at h;split at h
 ·rename_i g hgn;split at h
  ·rename_i t ht;have hlt:g<G:=by
    grind
   split at h
   ·rename_i d hd;obtain⟨g',t',cs,fuel,p,k1,k2,k3,k4⟩:=hl.1 d hd;rw[hgn] at k1;cases k1;rw[ht] at k2;cases k2;unfold b9p at h;split at h
    ·rename_i a m hmk;cases h;obtain⟨ρ1,M⟩:=a9z (fun _=>rfl) (e3u P) 64 fuel t cs.toList _ p H a m ρ k4 (fun h=>by cases h) s hno hmk;exact⟨ρ1,d1j s hg hgn hlt k3 M⟩
    grind
   ·rename_i d hd;obtain⟨g',t',cs,fuel,p,k1,k2,k3,k4,k5⟩:=hl.2 hd;rw[hgn] at k1;cases k1;rw[ht] at k2;cases k2;unfold b9p at h;split at h
    ·rename_i a m hmk;cases h;obtain⟨ρ1,M⟩:=a9z (fun _=>rfl) (d1g _) 64 fuel t cs.toList _ p H a m ρ k4 (fun _=>k5) s hno hmk;exact⟨ρ1,d1j s hg hgn hlt k3 M⟩
    grind
  grind
 grind
theorem d1k (hG:G=P.globals.size) : ∀ (l:List (String×DataW Unit)) (H H' : Mem) (ρ:Rn),(∀ x∈l,c3w P w x)->Sim B G ρ H w->a0m H->GOk G ρ->b6b P l H=some H' ->
  ∃ ρ',GOk G ρ'/\Sim B G ρ' H' w/\a0m H'
 | [],H,H',ρ,_,s,hno,hg,h=>by cases h;grind
 | x :: l,H,H',ρ,hl,s,hno,hg,h=>by
  unfold b6b at h;split at h
  ·rename_i H1 h1;obtain⟨ρ1,g1,s1,n1⟩:=e3w hG (hl x (by simp)) s hno hg h1;exact d1k hG l H1 H' ρ1 (fun y hy=>hl y (by simp[hy])) s1 n1 g1 h
  ·cases h
noncomputable def b1t (P:Program) : Mem:=⟨.tr e4,P.globals.size⟩
theorem d1l (a:Nat) : (b1t P).get a=none:=b8v a
theorem e3x {H:Mem} (h:laidMetH P l w) (hk:(l.all fun x=>x.2.handleName?.isNone || x.2.funcsIn?.isSome)=true) (hlay:b6b P l (b1t P)=some H) :
  ∃ ρ,Sim w.heap.size P.globals.size ρ H w/\a0m H:=by
 have s0:Sim w.heap.size P.globals.size (fun a=>if a<P.globals.size then some (a,0,0) else none) (b1t P) w:=by
  refine⟨fun a x hx=>?_,fun a a' x x' b o k o' k' hx=>?_,fun a ha=>?_,fun a x _ hx=>?_,Dm _,Dm _⟩
  ·grind[d1l]
  ·grind
  ·exact if_neg (Nat.not_lt.2 ha)
  grind
 obtain⟨ρ,_,h1,h2⟩:=d1k rfl l _ H _ (e3v h hk) s0 (fun a x hx=>by grind[d1l]) (fun g hg=>if_pos hg) hlay;grind
end Go.Ai
end
section
namespace Go.Ai
open Go.RowKit (Below)
abbrev WF:=FuncId->List AV->Mem->(Ar->Prop)->Prop
def WC (G:Nat) (P:Program) : WF:=fun f args H K=>∀ (B:Nat) (ρ:Rn) (us:Array Value) (w:World),Sim B G ρ H w->VRs ρ args us.toList ->
 Calls P f us w fun e w'=>∃ r,K r/\a6r B G H.next ρ w r e w'
def orW (O:CallF) (W:WF) : WF:=fun f args H K=>match O f args H with
 | .bad=>W f args H K
 | r=>K r
theorem WC.mono {G:Nat} {P:Program} {f:FuncId} {args:List AV} {H:Mem} {K K': Ar->Prop} (h:WC G P f args H K) (hk:∀ r,K r->K' r) : WC G P f args H K' :=
 fun B ρ us w s v=>(h B ρ us w s v).mono fun _ _ ⟨r,k,c⟩=>⟨r,hk r k,c⟩
def WOK (G:Nat) (P:Program) (W:WF) : Prop:=∀ (f:FuncId) (args:List AV) (H:Mem) (K:Ar->Prop),W f args H K->WC G P f args H K
theorem d1m {G:Nat} {P:Program} {O:CallF} (hO:∀ B,Az B G P O) {f:FuncId} {args:List AV} {H:Mem} {K:Ar->Prop} (h:orW O (WC G P) f args H K) : WC G P f args H K:=by
 unfold orW at h
 cases hr:O f args H with
 | bad=>grind
 | ret v H' =>
  rw[hr] at h;intro B ρ us w s hv;have:=hO B f args H (by grind) ρ us w s hv;rw[hr] at this;exact this.mono fun e w' c=>⟨_,h,c⟩
 | panic v H' =>
  rw[hr] at h;intro B ρ us w s hv;have:=hO B f args H (by grind) ρ us w s hv;rw[hr] at this;exact this.mono fun e w' c=>⟨_,h,c⟩
noncomputable def a3h (W:WF) (o:Oper) (fr:Fr) (k:Fr->Mem->Prop) (Q:Out->Prop) : R->Prop
 | .val v H=>k (fr.put o.dst v) H
 | .skip H=>k (fr.put o.dst (.lit undef)) H
 | .enter f args H=>W f args H fun r=>match r with
  | .ret v H=>k (fr.put o.dst v) H
  | .panic v H=>Q (.panic v fr H)
  | .bad=>False
 | .dfr fn cap args H=>k ((fr.defer (fn,cap,args)).put o.dst (.lit undef)) H
 | .panic v H=>Q (.panic v fr H)
 | _=>False
def a2z (x:Option AV) (want:Bool) (yes no:Prop) : Prop:=match x with
 | some (.lit (.bool b))=>(b=want->yes)/\(b = !want->no)
 | some (.lit (.tuple _))=>no
 | _=>False
noncomputable def a0w (ops:Array Oper) (fr:Fr) (j:Nat) : Option AV:=match ops[j]? with
 | some o=>match o.dst with
  | some d=>fr.get d
  | none=>none
 | none=>none
noncomputable def a0f (P:Program) (W:WF) (ops:Array Oper) (o:Oper) (fr:Fr) (H:Mem) (k:Fr->Mem->Prop) (Q:Out->Prop) : Prop :=
 match o.guard with
 | none=>a3h W o fr k Q (opV P H fr.ev o)
 | some g=>a2z (a0w ops fr g.1) g.2 (a3h W o fr k Q (opV P H fr.ev o)) (k (fr.put o.dst (.lit undef)) H)
noncomputable def a3i (P:Program) (W:WF) (ops:Array Oper) (Q:Out->Prop) : List Oper->Fr->Mem->Prop
 | [],fr,H=>Q (.norm fr H)
 | o :: l,fr,H=>a0f P W ops o fr H (a3i P W ops Q l) Q
abbrev ResF:=Nat->Option AV
def Dj (res:ResF) (i:Nat) (v:AV) : ResF:=fun j=>if j=i then some v else res j
noncomputable def a4k (ops:Array Oper) (tab:List Nat) (fr:Fr) (res:ResF) (i t:Nat) : Option AV :=
 match a4i t ops.toList 0 with
 | none=>fr.get t
 | some j=>match Aw tab i j with
  | true=>res j
  | false=>match Aw tab j i || Nat.beq i j with
   | true=>fr.get t
   | false=>none
noncomputable def Ci (ops:Array Oper) (tab:List Nat) (fr:Fr) (res:ResF) (i:Nat) : Ev:=fun x=>match x with
 | .tmp t=>a4k ops tab fr res i t
 | .const v=>some (.lit v)
 | .global g=>some (.lit (.pointer (some ⟨g,0,none⟩)))
 | .func f=>some (.lit (.func (.func f) #[] #[]))
noncomputable def c3x (tab:List Nat) (res:ResF) (i:Nat) (g:Nat×Bool) : Option Bool :=
 match Aw tab i g.1,res g.1 with
 | true,some (.lit (.bool b))=>(match b,g.2 with|true,true=>some true|false,false=>some true|_,_=>some false)
 | true,some (.lit (.tuple _))=>some false
 | _,_=>none
noncomputable def b1u (tab:List Nat) (res:ResF) (i:Nat) (o:Oper) : Option Bool:=match o.guard with|none=>some true|some g=>c3x tab res i g
noncomputable def b1v (tab:List Nat) (res:ResF) (i:Nat) (o:Oper) (yes no:Prop) : Prop:=match o.guard with
 | none=>yes
 | some g=>Aw tab i g.1=true/\a2z (res g.1) g.2 yes no
def a6t (res:ResF) (i:Nat) (v:AV) (K:ResF->Prop) : Prop:=res i=none/\K (Dj res i v)
abbrev StW:=ResF->Mem->List Nat->Als->Prop
noncomputable def b0a (P:Program) (H:Mem) (ev:Ev) (o:Oper) (K:AV->Prop) : Prop:=match quiet P H ev o with
 | some v=>K v
 | none=>False
noncomputable def c3y (H:Mem) (i:Nat) (res:ResF) (held:List Nat) (als:Als) (K:StW) : R->Prop
 | .val v H'=>match H'.get H.next with
  | some b=>a6t res i v fun res=>K res H' held ((i,H.next,b) :: als)
  | none=>False
 | _=>False
noncomputable def b9q (P:Program) (ops:Array Oper) (tab:List Nat) (fr:Fr) (i:Nat) (res:ResF) (H:Mem) (held:List Nat) (als:Als) (K:StW) : Prop :=
 match ops[i]? with
 | none=>False
 | some o=>b1v tab res i o
  (match cls o.op with
   | .alloc=>c3y H i res held als K (opV P H (Ci ops tab fr res i) o)
   | .read=>b0a P H (Ci ops tab fr res i) o fun v=>a6t res i v fun res=>K res H (i :: held) als
   | _=>b0a P H (Ci ops tab fr res i) o fun v=>a6t res i v fun res=>K res H held als)
  (a6t res i (.lit undef) fun res=>K res H held als)
noncomputable def b1w (P:Program) (ops:Array Oper) (tab:List Nat) (fr:Fr) (K:StW) : List Nat->ResF->Mem->List Nat->Als->Prop
 | [],res,H,held,als=>K res H held als
 | i :: l,res,H,held,als=>b9q P ops tab fr i res H held als (b1w P ops tab fr K l)
noncomputable def a7w (P:Program) (ops:Array Oper) (tab:List Nat) (fr:Fr) (res:ResF) (H:Mem) : List Nat->Prop
 | []=>True
 | i :: l=>(match ops[i]? with
  | some o=>∃ v,res i=some v/\quiet P H (Ci ops tab fr res i) o=some v
  | none=>False)/\a7w P ops tab fr res H l
noncomputable def a7x (H:Mem) : Als->Prop
 | []=>True
 | (_,a,b) :: l=>H.get a=some b/\a7x H l
noncomputable def a7y (res:ResF) (K:Fr->Prop) : List Oper->Nat->Fr->Prop
 | [],_,fr=>K fr
 | o :: l,i,fr=>match res i with
  | some v=>a7y res K l (i+1) (fr.put o.dst v)
  | none=>False
noncomputable def b9r (W:WF) (fr:Fr) (c:Nat) (res:ResF) (K:ResF->Mem->Prop) (Q:Out->Prop) : R->Prop
 | .val v H=>a6t res c v fun res=>K res H
 | .skip H=>a6t res c (.lit undef) fun res=>K res H
 | .enter f args H=>W f args H fun r=>match r with
  | .ret v H=>a6t res c v fun res=>K res H
  | .panic v H=>Q (.panic v fr.clear H)
  | .bad=>False
 | _=>False
noncomputable def b6c (P:Program) (W:WF) (ops:Array Oper) (tab:List Nat) (fr:Fr) (c:Nat) (res:ResF) (H:Mem) (K:ResF->Mem->Prop) (Q:Out->Prop) : Prop :=
 match ops[c]? with
 | none=>False
 | some o=>b1v tab res c o (b9r W fr c res K Q (opV P H (Ci ops tab fr res c) o)) (a6t res c (.lit undef) fun res=>K res H)
noncomputable def b3p (P:Program) (W:WF) (ops:Array Oper) (tab:List Nat) (fr:Fr) (all:List Nat) (Q:Out->Prop) : Nat->List Nat->ResF->Mem->List Nat->Als->Prop
 | k,[],res,H,held,als=>b1w P ops tab fr (fun res H held als=>a7w P ops tab fr res H held/\a7x H als/\a7y res (fun fr=>Q (.norm fr H)) ops.toList 0 fr) (a2e tab all k ops.toList 0) res H held als
 | k,c :: cs,res,H,held,als=>b1w P ops tab fr (fun res H held als=>a7w P ops tab fr res H held/\a7x H als /\
   b6c P W ops tab fr c res H (fun res H=>b3p P W ops tab fr all Q (k+1) cs res H (a4u tab c held) (a3q tab c als)) Q) (a2e tab all k ops.toList 0) res H held als
noncomputable def b9s (P:Program) (W:WF) (ops:Array Oper) (fr:Fr) (H:Mem) (Q:Out->Prop) : Prop :=
 b3g ops.toList=true/\Tables.follows P.toTables .mixedOrders=true /\
 b3p P W ops (ancs [] ops.toList) fr (chainOf ops.toList 0) Q 0 (chainOf ops.toList 0) (fun _=>none) H [] []
abbrev LF:=Code->Fr->Mem->(Out->Prop)->Prop
noncomputable def a3t (k:Fr->Mem->Prop) (Q:Out->Prop) : Out->Prop
 | .norm fr H=>k fr H
 | .exit id fr H=>Q (.exit id fr H)
 | .ret fr H=>Q (.ret fr H)
 | .panic v fr H=>Q (.panic v fr H)
 | .bad=>False
noncomputable def a6u (id:Nat) (Q:Out->Prop) : Out->Prop
 | .exit id' fr H=>if id'=id then Q (.norm fr H) else Q (.exit id' fr H)
 | .norm fr H=>Q (.norm fr H)
 | .ret fr H=>Q (.ret fr H)
 | .panic v fr H=>Q (.panic v fr H)
 | .bad=>False
noncomputable def a3u (x:Option AV) (yes no:Prop) : Prop:=match x with
 | some (.lit (.bool b))=>(b=true->yes)/\(b=false->no)
 | _=>False
noncomputable def a6v (P:Program) (W:WF) (L:LF) : Code->Fr->Mem->(Out->Prop)->Prop
 | .skip,fr,H,Q=>Q (.norm fr H)
 | .region _ ops false,fr,H,Q=>a3i P W ops Q ops.toList fr H
 | .region _ ops true,fr,H,Q=>b9s P W ops fr H Q
 | .seq a b,fr,H,Q=>a6v P W L a fr H (a3t (fun fr H=>a6v P W L b fr H Q) Q)
 | .cond c a b,fr,H,Q=>a3u (fr.ev c) (a6v P W L a fr H Q) (a6v P W L b fr H Q)
 | .block id b,fr,H,Q=>a6v P W L b fr H (a6u id Q)
 | .loop b,fr,H,Q=>L b fr H Q
 | .exit id,fr,H,Q=>Q (.exit id fr H)
 | .label _,fr,H,Q=>Q (.norm fr H)
 | .ret,fr,H,Q=>Q (.ret fr H)
 | _,_,_,_=>False
variable {B G:Nat} {P:Program} {n n0:Nat} {ρ0 ρ:Rn} {w0 w:World} {fr:Fr} {H:Mem} {a:Act}
def a2h (B G n n0:Nat) (ρ0:Rn) (w0:World) (Q:Out->Prop) : Exit->Act->World->Prop:=fun e a' w'=>∃ out,Q out/\a0d B G n n0 ρ0 w0 out e a' w'
def XW (G:Nat) (P:Program) (n:Nat) (c:Code) (fr:Fr) (H:Mem) (Q:Out->Prop) : Prop :=
 ∀ (B n0:Nat) (ρ0:Rn) (w0:World) (ρ:Rn) (a:Act) (w:World),St B G n n0 ρ0 w0 ρ fr H a w->c.wp P (a2h B G n n0 ρ0 w0 Q) a w
def LX (G:Nat) (P:Program) (n:Nat) : LF:=fun b fr H Q =>
 ∀ (B n0:Nat) (ρ0:Rn) (w0:World) (ρ:Rn) (a:Act) (w:World),St B G n n0 ρ0 w0 ρ fr H a w->LW P b (a2h B G n n0 ρ0 w0 Q) a w
theorem d1n {ops:Array Oper} {g:Nat×Bool} {o:Oper} {yes no:Prop} (s:St B G n n0 ρ0 w0 ρ fr H a w) (ho:o.guard=some g) (h:a2z (a0w ops fr g.1) g.2 yes no) :
  (Region.wanted o (yielded ops a.tmps)=true/\yes)\/(Region.wanted o (yielded ops a.tmps)=false/\no):=by
 obtain⟨j,want⟩:=g;have slot:∀ {d:Tmp} {v:AV},fr.get d=some v->∃ u,a.tmps[d]?=some u/\VR ρ v u:=by
  intro d v hv;have hlt:=s.frel.only d v hv;have:=s.frel.slot d v hv hlt;have hsz:d<a.tmps.size:=Eh hlt s.frel.size;simp_all
 have atSlot:∀ {v:AV},a0w ops fr j=some v->∃ oj d u,ops[j]?=some oj/\oj.dst=some d/\a.tmps[d]?=some u/\VR ρ v u:=by
  grind[a0w]
 unfold a2z at h;split at h
 ·rename_i b hs;obtain⟨oj,d,u,h1,h2,h3,h4⟩:=atSlot hs;cases h4;have hyl:yielded ops a.tmps j=some b:=by grind[yielded]
  by_cases e:b=want
  ·grind[Region.wanted]
  ·have e2:b = !want:=by cases b<;>cases want<;>simp_all
   grind[Region.wanted]
 ·rename_i vs hs;obtain⟨oj,d,u,h1,h2,h3,h4⟩:=atSlot hs;cases h4;grind[yielded,Region.wanted]
 grind
theorem d1o {W:WF} (hW:WOK G P W) {ops:Array Oper} {o:Oper} {rest:List Oper} {k:Fr->Mem->Prop} {Q:Out->Prop} (hG:G=P.globals.size) (hdst:Cr n o=true)
  (s:St B G n n0 ρ0 w0 ρ fr H a w)
  (hk:∀ (fr' : Fr) (H' : Mem) (ρ' : Rn) (a' : Act) (w' : World),St B G n n0 ρ0 w0 ρ' fr' H' a' w'->k fr' H'->wpList P ops (a2h B G n n0 ρ0 w0 Q) rest a' w')
  (h:a3h W o fr k Q (opV P H fr.ev o)) :
  o.wp P a w (wpList P ops (a2h B G n n0 ρ0 w0 Q) rest) (a2h B G n n0 ρ0 w0 Q):=by
 have hrs:=a5v (o:=o) s.sim s.ev hG;have hd:=a2x hdst;unfold Oper.wp
 cases hr:opV P H fr.ev o with
 | val v H' =>
  rw[hr] at hrs h;obtain⟨ρ',u,w',h1,h2,h3,h4,h5⟩:=hrs;rw[h1];exact hk _ _ _ _ _ (s.step h2 h3 h4 h5 hd) h
 | skip H' =>
  rw[hr] at hrs h;obtain⟨ρ',w',h1,h2,h3,h5⟩:=hrs;rw[h1];exact hk _ _ _ _ _ (s.step h2 h3 (a4v _) h5 hd) h
 | enter f args H' =>
  rw[hr] at hrs h;obtain⟨us,h1,h2,rfl⟩:=hrs;rw[h1];refine(hW _ _ _ _ h B ρ us w s.sim h2).mono fun e w' ⟨r,hkr,hc⟩=>?_
  cases r with
  | bad=>grind
  | ret v H2 =>
   cases e with
   | returned u =>
    obtain⟨ρ',g1,g2,g3,g4⟩:=hc;exact hk _ _ _ _ _ (s.step g1 g2 g3 g4 hd) hkr
   | panicked chain=>exact hc.elim
   | outgrown=>exact hc.elim
  | panic v H2 =>
   cases e with
   | returned u=>exact hc.elim
   | panicked chain =>
    obtain⟨ρ',u,g0,g1,g2,g3,g4⟩:=hc;exact⟨_,hkr,ρ',u,g0,g1,s.ext.trans g2 s.le,g3,s.frel.mono (g2.sub s.sim),Dw s.le g4⟩
   | outgrown=>exact hc.elim
 | dfr fn cap args H' =>
  rw[hr] at hrs h;obtain⟨cs,as,h1,h2,h3,rfl⟩:=hrs;rw[h1];have hf:a0v n ρ (fr.defer (fn,cap,args)) { a with defers:={ target:=.fn fn cs,args:=as } :: a.defers } :=
   ⟨fun t v hv ht=>s.frel.slot t v (by grind[Fr.get_defer]) ht,by rw[Fr.defers_defer];exact⟨cs,as,_,rfl,h2,h3,s.frel.dfr⟩,s.frel.size,
    fun t v hv=>s.frel.only t v (by grind[Fr.get_defer])⟩
  exact hk _ _ _ _ _ ⟨s.ext,s.sim,hf.put hd (a4v _),s.le⟩ h
 | recover=>rw[hr] at h;exact h.elim
 | panic v H' =>
  rw[hr] at hrs h;obtain⟨u,h1,h2,rfl⟩:=hrs;rw[h1];exact⟨_,h,ρ,u,rfl,h2,s⟩
 | bad=>rw[hr] at h;exact h.elim
theorem b9t {W:WF} (hW:WOK G P W) {ops:Array Oper} {Q:Out->Prop} (hG:G=P.globals.size) : ∀ (l:List Oper) (fr:Fr) (H:Mem) (ρ:Rn) (a:Act) (w:World),
  (∀ o∈l,Cr n o=true)->St B G n n0 ρ0 w0 ρ fr H a w->a3i P W ops Q l fr H->wpList P ops (a2h B G n n0 ρ0 w0 Q) l a w
 | [],fr,H,ρ,a,w,_,s,h=>wpList_nil ⟨_,h,ρ,s⟩
 | o :: l,fr,H,ρ,a,w,hd,s,h=>by
  have hdo:=hd o (by simp);have hk:∀ (fr' : Fr) (H' : Mem) (ρ' : Rn) (a' : Act) (w' : World),St B G n n0 ρ0 w0 ρ' fr' H' a' w'->a3i P W ops Q l fr' H'->wpList P ops (a2h B G n n0 ρ0 w0 Q) l a' w' :=
   fun fr' H' ρ' a' w' s' hk=>b9t hW hG l fr' H' ρ' a' w' (fun o ho=>hd o (by grind)) s' hk
  have h' : a0f P W ops o fr H (a3i P W ops Q l) Q:=h;unfold a0f at h';unfold wpList
  cases hg:o.guard with
  | none =>
   rw[hg] at h';rw[if_pos (by grind[Region.wanted])];grind[d1o]
  | some g =>
   rw[hg] at h';rcases d1n s hg h' with⟨hw,hy⟩|⟨hw,hn⟩
   ·rw[if_pos hw];grind[d1o]
   ·rw[if_neg (by grind)];exact hk _ _ _ _ _ ⟨s.ext,s.sim,s.frel.put (a2x hdo) (a4v _),s.le⟩ hn
theorem b9u {G:Nat} {P:Program} {O:CallF} (hO:∀ B,Az B G P O) : WOK G P (orW O (WC G P)):=fun _ _ _ _ h=>d1m hO h
end Go.Ai
end
section
namespace Go.Ai
open Go.RowKit (Below)
variable {B G:Nat} {P:Program} {ops:Array Oper} {tab:List Nat} {fr0:Fr}
variable {i:Nat} {o:Oper}
def GrF (r r' : ResF) : Prop:=∀ j v,r j=some v->r' j=some v
theorem GrF.refl (r:ResF) : GrF r r:=fun _ _ h=>h
theorem GrF.trans {a b c:ResF} (h:GrF a b) (k:GrF b c) : GrF a c:=fun j v e=>k j v (h j v e)
theorem b0b {res:ResF} {v:AV} {K:ResF->Prop} (h:a6t res i v K) : ∃ res',K res'/\GrF res res'/\res' i=some v:=by
 refine⟨_,h.2,fun j y hj=>?_,if_pos rfl⟩;unfold Dj;by_cases e:j=i
 ·subst e;rw[h.1] at hj;grind
 grind
def b0c (B:Nat) (P:Program) (ops:Array Oper) (tab:List Nat) (fr0:Fr) (res:ResF) (held:List Nat) (als:Als) (i:Nat) (o:Oper) : Prop :=
  ∃ r0 v,GrF r0 res/\res i=some v /\
    ((b1u tab r0 i o=some false/\v=.lit undef) \/
     (b1u tab r0 i o=some true /\
      ((cls o.op=.free/\∀ H,opV P H (Ci ops tab fr0 r0 i) o=.val v H) \/
       (cls o.op=.gen/\Ba P (Ci ops tab fr0 r0 i) o=some v) \/
       (cls o.op=.read/\i∈held) \/
       (∃ f x nm,(∀ (ρ:Rn) (w:World) (e:Operand->Value),EvR ρ (Ci ops tab fr0 r0 i) e->B<=w.heap.size->ND B P ρ w f x (execOp e o))/\v=f nm/\(i,nm,x)∈als))))
theorem b0c.mono {res res': ResF} {held held': List Nat} {als als': Als} (h:b0c B P ops tab fr0 res held als i o) (hg:GrF res res')
  (hh:i∈held->i∈held') (ha:∀ nm x,(i,nm,x)∈als->(i,nm,x)∈als') : b0c B P ops tab fr0 res' held' als' i o:=by
 obtain⟨r0,v,h1,h2,h3⟩:=h;refine⟨r0,v,h1.trans hg,hg _ _ h2,h3.imp id fun⟨h4,h5⟩=>⟨h4,h5.imp id fun h5=>h5.imp id fun h5=>h5.imp ?_ ?_⟩⟩
 ·grind
 ·exact fun⟨f,x,nm,a,b,c⟩=>⟨f,x,nm,a,b,ha _ _ c⟩
structure c3z (B:Nat) (P:Program) (ops:Array Oper) (tab:List Nat) (fr0:Fr) (L:List Nat) (res:ResF) (H:Mem) (held:List Nat) (als:Als) (res' : ResF) (H' : Mem) (held' : List Nat) (als' : Als) : Prop where
 gr:GrF res res'
 ph:Ph H H'
 keepH:∀ i∈held,i∈held'
 keepA:∀ x∈als,x∈als'
 new:∀ x∈als',x∈als\/H.next<=x.2.1
 ok:∀ n,n<=H.next->a1t n H als->a1t n H' als'
 known:∀ i∈L,∀ o,ops[i]?=some o->b0c B P ops tab fr0 res' held' als' i o
variable {L:List Nat} {res:ResF} {H:Mem} {held:List Nat} {als:Als} {K:StW}
theorem d1p {tab:List Nat} {res:ResF} {yes no:Prop} (h:b1v tab res i o yes no) :
  (b1u tab res i o=some true/\yes)\/(b1u tab res i o=some false/\no):=by
 unfold b1v at h;unfold b1u;split at h
 ·grind
 ·rename_i g hg;obtain⟨ha,h⟩:=h;unfold c3x;rw[ha];unfold a2z at h;split at h
  ·rename_i b hs;rw[hs];obtain⟨j,want⟩:=g;by_cases e:b=want
   ·left;refine⟨?_,h.1 e⟩;subst e;cases b<;>rfl
   ·right;have e2:b = !want:=by cases b<;>cases want<;>simp_all
    grind
  all_goals grind
theorem e3y (ho:ops[i]?=some o) (hk:Cy o.op=false) (hn:cls o.op≠.no) (h:b9q P ops tab fr0 i res H held als K) :
    ∃ res' H' held' als',K res' H' held' als'/\c3z B P ops tab fr0 [i] res H held als res' H' held' als':=by
  have only:∀ {res' : ResF} {held' : List Nat} {als' : Als},b0c B P ops tab fr0 res' held' als' i o->∀ j∈[i],∀ o',ops[j]?=some o'->b0c B P ops tab fr0 res' held' als' j o':=by
    grind
  unfold b9q at h;rw[ho] at h;dsimp only at h;rcases d1p h with⟨hw,h⟩|⟨hw,h⟩
  · have quietCase : ∀ (hc1 : cls o.op ≠ .alloc) (hc2 : cls o.op ≠ .read), b0a P H (Ci ops tab fr0 res i) o (fun v => a6t res i v fun res => K res H held als) ->
        ∃ res' H' held' als',K res' H' held' als'/\c3z B P ops tab fr0 [i] res H held als res' H' held' als':=by
      intro hc1 hc2 h;unfold b0a at h;split at h
      · rename_i v hv;obtain⟨res',h1,h2,h3⟩:=b0b h;refine⟨res',H,held,als,h1,h2,Ph.refl _,fun _ h=>h,fun _ h=>h,fun _ h=>.inl h,fun _ _ h=>h,only ?_⟩;refine⟨res,_,h2,h3,.inr ⟨hw,?_⟩⟩
        cases hc:cls o.op with
        | free =>
          left;refine⟨rfl,?_⟩;unfold quiet at hv;rw[hc] at hv;dsimp only at hv;have hf:freeOp o.op=true:=by
            cases hf:freeOp o.op with
            | true=>rfl
            | false =>
              (simp_all[cls];grind)
          split at hv
          · rename_i v' H' hv';cases hv;intro H2;have hfr:=c3g hf H v H' hv';grind
          grind
        | gen =>
          right;left;refine⟨rfl,?_⟩;grind[quiet]
        | read=>grind
        | alloc=>grind
        | chain=>grind[Cy]
        | no=>grind
      grind
    cases hc:cls o.op with
    | alloc =>
      rw[hc] at h;dsimp only at h
      cases hv:opV P H (Ci ops tab fr0 res i) o with
      | val v H' =>
        rw[hv] at h;dsimp only[c3y] at h;split at h
        · rename_i b hb;obtain⟨f,x,e1,e2,hnd⟩:=c3h (B:=B) hc hv;subst e1;subst e2;have hbx:b=x:=by
            rcases Mem.get_add hb with⟨_,e⟩|⟨e,_⟩
            all_goals grind
          subst hbx;obtain⟨res',h1,h2,h3⟩:=b0b h;refine⟨res',_,held,_,h1,h2,Ph.add _ _,fun _ h=>h,fun _ h=>g4b _ h,?_,fun n hn hk=>hk.cons hn i b b,only ?_⟩
          · grind
          · exact⟨res,_,h2,h3,.inr ⟨hw,.inr (.inr (.inr ⟨f,b,H.next,hnd,rfl,by simp⟩))⟩⟩
        grind
      | _=>rw[hv] at h;exact h.elim
    | read =>
      rw[hc] at h;dsimp only at h;unfold b0a at h;split at h
      · rename_i v hv;obtain⟨res',h1,h2,h3⟩:=b0b h;refine⟨res',H,i :: held,als,h1,h2,Ph.refl _,fun _ h=>g4b _ h,fun _ h=>h,fun _ h=>.inl h,fun _ _ h=>h,only ?_⟩;exact⟨res,_,h2,h3,.inr ⟨hw,.inr (.inr (.inl ⟨hc,by simp⟩))⟩⟩
      grind
    | free=>grind
    | gen=>grind
    | chain=>grind
    | no=>grind
  · obtain⟨res',h1,h2,h3⟩:=b0b h;exact⟨res',H,held,als,h1,h2,Ph.refl _,fun _ h=>h,fun _ h=>h,fun _ h=>.inl h,fun _ _ h=>h,only ⟨res,_,h2,h3,.inl ⟨hw,rfl⟩⟩⟩
theorem stageW_sound:∀ (L:List Nat) (res:ResF) (H:Mem) (held:List Nat) (als:Als),(∀ i∈L,∃ o,ops[i]?=some o/\Cy o.op=false/\cls o.op≠.no) ->
  b1w P ops tab fr0 K L res H held als->∃ res' H' held' als',K res' H' held' als'/\c3z B P ops tab fr0 L res H held als res' H' held' als'
 | [],res,H,held,als,_,h=>⟨res,H,held,als,h,GrF.refl _,Ph.refl _,fun _ h=>h,fun _ h=>h,fun _ h=>.inl h,fun _ _ h=>h,fun _ h=>by cases h⟩
 | i :: L,res,H,held,als,hL,h=>by
  obtain⟨o,ho,hk,hn⟩:=hL i (by simp);obtain⟨r1,H1,hd1,al1,h1,f1⟩:=e3y (B:=B) ho hk hn h;obtain⟨r2,H2,hd2,al2,h2,f2⟩:=stageW_sound L r1 H1 hd1 al1 (fun i hi=>hL i (by grind)) h1;refine⟨r2,H2,hd2,al2,h2,f1.gr.trans f2.gr,f1.ph.trans f2.ph,fun i hi=>f2.keepH i (f1.keepH i hi),fun x hx=>f2.keepA x (f1.keepA x hx),?_,?_,?_⟩
  ·intro x hx;rcases f2.new x hx with h|h
   ·exact f1.new x h
   ·exact .inr (Dw f1.ph.le h)
  ·intro n hn hk;exact f2.ok n (Dw hn f1.ph.le) (f1.ok n hn hk)
  ·intro j hj o' ho';rcases Dv.1 hj with rfl|hj
   ·exact(f1.known j (by simp) o' ho').mono f2.gr (fun h=>f2.keepH _ h) fun nm x h=>f2.keepA _ h
   ·exact f2.known j hj o' ho'
noncomputable def d1q (P:Program) (W:WF) (ops:Array Oper) (tab:List Nat) (fr:Fr) (all:List Nat) (Q:Out->Prop) (k:Nat) (cs:List Nat) (res:ResF) (H:Mem) (held:List Nat) (als:Als) : Prop :=
 match cs with
 | []=>a7y res (fun fr=>Q (.norm fr H)) ops.toList 0 fr
 | c :: cs=>b6c P W ops tab fr c res H (fun res H=>b3p P W ops tab fr all Q (k+1) cs res H (a4u tab c held) (a3q tab c als)) Q
def b9v (P:Program) (W:WF) (ops:Array Oper) (tab:List Nat) (fr:Fr) (all:List Nat) (Q:Out->Prop) (k:Nat) (cs:List Nat) (res:ResF) (H:Mem) (held:List Nat) (als:Als) : Prop :=
 a7w P ops tab fr res H held/\a7x H als/\d1q P W ops tab fr all Q k cs res H held als
theorem b9w {W:WF} {Q:Out->Prop} (all:List Nat) (k:Nat) (cs:List Nat) (res:ResF) (H:Mem) (held:List Nat) (als:Als) :
  b3p P W ops tab fr0 all Q k cs res H held als=b1w P ops tab fr0 (fun res H held als=>b9v P W ops tab fr0 all Q k cs res H held als) (a2e tab all k ops.toList 0) res H held als:=by
 cases cs<;>rfl
theorem d1r {res:ResF} {H:Mem} : ∀ {held:List Nat},a7w P ops tab fr0 res H held->∀ i∈held,∃ o v,ops[i]?=some o/\res i=some v/\quiet P H (Ci ops tab fr0 res i) o=some v
 | [],_,_,h=>by cases h
 | j :: held,h,i,hi=>by
  rcases Dv.1 hi with rfl|hi
  ·have h1:=h.1;split at h1
   ·rename_i o ho;obtain⟨v,hv,hq⟩:=h1;exact⟨o,v,ho,hv,hq⟩
   ·exact h1.elim
  ·exact d1r h.2 i hi
theorem d1s {H:Mem} : ∀ {als:Als},a7x H als->∀ i nm x,(i,nm,x)∈als->H.get nm=some x
 | [],_,_,_,_,h=>by cases h
 | (j,a,b) :: als,h,i,nm,x,hx=>by
  rcases Dv.1 hx with e|hx
  ·cases e;exact h.1
  ·exact d1s h.2 i nm x hx
end Go.Ai
end
section
namespace Go.Ai
open Go.RowKit (Below)
variable {B G n n0:Nat} {P:Program} {ops:Array Oper} {fr0:Fr} {ρ0 ρ:Rn} {w0 w:World} {dn cs:List Nat} {res:ResF} {H:Mem} {held:List Nat} {als:Als} {listed:Array Bool} {a:Act} {Q:Out→Prop} {W:WF}
variable {i:Nat} {o:Oper}
structure a6w (B G n n0:Nat) (P:Program) (ops:Array Oper) (fr0:Fr) (ρ0:Rn) (w0:World) (dn cs:List Nat) (res:ResF) (H:Mem) (held:List Nat) (als:Als) (listed:Array Bool) (ρ:Rn) (a:Act) (w:World) : Prop where
 ext:Ext B n0 ρ0 w0 ρ w
 sim:Sim B G ρ H w
 le:n0<=H.next
 size:listed.size=ops.size
 tsz:n<=a.tmps.size
 dfr:DR ρ fr0.defers a.defers
 only:∀ t v,fr0.get t=some v->t<n
 chain:chainOf ops.toList 0=dn++cs
 csN:∀ c∈cs,¬Dn listed c
 down:∀ i o,Dn listed i->ops[i]?=some o->∀ e∈o.after.toList,Region.binds .any e=true->Dn listed e.on
 old:∀ t,(∀ j,a4i t ops.toList 0=some j->¬Dn listed j)->∀ v,fr0.get t=some v->VR ρ v (a.tmps.getD t undef)
 new:∀ j o,Dn listed j->ops[j]?=some o->∃ v,res j=some v/\∀ d,o.dst=some d->VR ρ v (a.tmps.getD d undef)
 known:∀ i o,¬Dn listed i->ops[i]?=some o->Cy o.op=false->a1r (ancs [] ops.toList) i (dn++cs)<=dn.length->b0c B P ops (ancs [] ops.toList) fr0 res held als i o
 aok:a1t n0 H als
 alsN:∀ x∈als,¬Dn listed x.1->ρ x.2.1=none
theorem Rd.ancW {j:Nat} (r:Rd ops listed i o) (d:a6w B G n n0 P ops fr0 ρ0 w0 dn cs res H held als listed ρ a w) (h:Aw (ancs [] ops.toList) i j=true) : Dn listed j :=
 b9e (listed:=Dn listed) d.down i o j r.at' r.all h
theorem Rd.not_ancW {j:Nat} (r:Rd ops listed i o) (d:a6w B G n n0 P ops fr0 ρ0 w0 dn cs res H held als listed ρ a w) (hj:j<ops.size) (h:Aw (ancs [] ops.toList) j i=true) : ¬Dn listed j:=by
 intro hd;obtain⟨oj,hoj⟩ : ∃ oj,ops[j]?=some oj:=⟨ops[j],by grind⟩;exact r.un (b9e (listed:=Dn listed) d.down j oj i hoj (d.down j oj hd hoj) h)
theorem c4a {r0:ResF} (d:a6w B G n n0 P ops fr0 ρ0 w0 dn cs res H held als listed ρ a w) (r:Rd ops listed i o) (hg:GrF r0 res) :
  EvR ρ (Ci ops (ancs [] ops.toList) fr0 r0 i) a.eval:=by
 intro x v hx
 cases x with
 | tmp t =>
  have hx' : a4k ops (ancs [] ops.toList) fr0 r0 i t=some v:=hx;unfold a4k at hx';split at hx'
  ·rename_i hw;exact d.old t (fun j hj=>by grind) v hx'
  ·rename_i j hw;obtain⟨_,oj,hoj,hdj⟩:=a9s hw;have hoj' : ops[j]?=some oj:=Cs.1 (by grind);split at hx'
   ·rename_i ha;obtain⟨y,hy,hv⟩:=d.new j oj (r.ancW d ha) hoj';have:=hg _ _ hx';rw[this] at hy;cases hy;exact hv t hdj
   ·split at hx'
    ·rename_i ha;refine d.old t (fun j' hj'=>?_) v hx';rw[hw] at hj';cases hj';rcases g5r _ _ ▸ ha with h1|h1
     ·exact r.not_ancW d (a2y hoj') h1
     ·have:=Dz h1;subst this;exact r.un
    grind
 | const c=>cases hx;rfl
 | global g=>cases hx;rfl
 | func f=>cases hx;rfl
theorem d1t {r0:ResF} {b:Bool} (hfit:fit ops.toList ops.toList 0=true) (hdst:∀ (j:Nat) (o:Oper),ops[j]?=some o->Cr n o=true)
  (d:a6w B G n n0 P ops fr0 ρ0 w0 dn cs res H held als listed ρ a w) (r:Rd ops listed i o) (hg:GrF r0 res) (h:b1u (ancs [] ops.toList) r0 i o=some b) :
  Region.wanted o (yielded ops a.tmps)=b:=by
 unfold b1u at h;split at h
 ·grind[Region.wanted]
 ·rename_i g hgd;obtain⟨j,want⟩:=g;have hone:=a9t hfit i o (Cs.2 r.at');unfold a7p at hone;simp only[Dq] at hone;have hgo:=hone.2;rw[hgd] at hgo;dsimp only at hgo;split at hgo
  ·rename_i oj hoj;have hoj' : ops[j]?=some oj:=Cs.1 hoj;obtain⟨t,ht⟩:=Option.isSome_iff_exists.1 hgo;have slot:∀ {v:AV},Aw (ancs [] ops.toList) i j=true->r0 j=some v->∃ u,a.tmps[t]?=some u/\VR ρ v u:=by
    intro v ha hv;obtain⟨y,hy,hv'⟩:=d.new j oj (r.ancW d ha) hoj';rw[hg _ _ hv] at hy;cases hy;have hlt:t<n:=a2x (hdst j oj hoj') t ht;have hsz:t<a.tmps.size:=Eh hlt d.tsz;simp_all
   unfold c3x at h;split at h
   ·rename_i b' ha hb;obtain⟨u,hu,hv⟩:=slot ha hb;cases hv;have hyl:yielded ops a.tmps j=some b':=by grind[yielded]
    simp only[Region.wanted,hgd,hyl];revert h;cases b'<;>cases want<;>simp<;>exact fun h=>h ▸ rfl
   ·rename_i vs ha hb;obtain⟨u,hu,hv⟩:=slot ha hb;cases hv;grind[yielded,Region.wanted]
   grind
  grind
theorem a6w.go {ρ': Rn} {w': World} {u:Value} {v:AV} {dn' cs': List Nat} {res': ResF} {H': Mem} {held': List Nat} {als': Als}
  (hfit:fit ops.toList ops.toList 0=true) (hdst:∀ (j:Nat) (o:Oper),ops[j]?=some o->Cr n o=true)
  (d:a6w B G n n0 P ops fr0 ρ0 w0 dn cs res H held als listed ρ a w) (r:Rd ops listed i o)
  (hext:Ext B n0 ρ w ρ' w') (hsub:Sub ρ ρ') (hs:Sim B G ρ' H' w') (hle:n0<=H'.next) (hgr:GrF res res') (hv:res' i=some v) (hr:VR ρ' v u)
  (hchain:chainOf ops.toList 0=dn'++cs') (hcs:∀ c∈cs',c≠i/\c∈cs)
  (hkn:∀ j oj,j≠i->¬Dn listed j->ops[j]?=some oj->Cy oj.op=false->a1r (ancs [] ops.toList) j (dn'++cs')<=dn'.length->b0c B P ops (ancs [] ops.toList) fr0 res' held' als' j oj)
  (haok:a1t n0 H' als') (haln:∀ x∈als',x.1≠i->¬Dn listed x.1->ρ' x.2.1=none) :
  a6w B G n n0 P ops fr0 ρ0 w0 dn' cs' res' H' held' als' (listed.setIfInBounds i true) ρ' (a.put o.dst u) w':=by
 have hi:i<listed.size:=by rw[d.size];exact a2y r.at'
 have dset:∀ j,Dn (listed.setIfInBounds i true) j↔j=i\/Dn listed j:=fun j=>Dn.set hi;refine⟨d.ext.trans hext (Dm _),hs,hle,by simp[d.size],by rw[d0s];exact d.tsz,by rw[b3o];exact d.dfr.mono hsub,d.only,hchain,?_,?_,?_,?_,?_,haok,?_⟩
 ·intro c hc hd;rcases (dset c).1 hd with e|h
  ·grind
  ·exact d.csN c (hcs c hc).2 h
 ·intro j oj hj hoj e he hb;rcases (dset j).1 hj with e1|h
  ·subst e1;rw[r.at'] at hoj;cases hoj;exact(dset _).2 (.inr (r.all e he hb))
  ·exact(dset _).2 (.inr (d.down j oj h hoj e he hb))
 ·intro t ht y hy;have hne:o.dst≠some t:=fun e=>ht i (b3n hfit r.at' e) ((dset i).2 (.inl rfl));rw[b9k hne];exact(d.old t (fun j hj hd=>ht j hj ((dset j).2 (.inr hd))) y hy).mono hsub
 ·intro j oj hj hoj;by_cases e:j=i
  ·subst e;rw[r.at'] at hoj;cases hoj;refine⟨v,hv,fun t ht=>?_⟩;have hlt:t<a.tmps.size:=Eh (a2x (hdst j _ r.at') t ht) d.tsz;grind[d0r]
  ·rcases (dset j).1 hj with e1|h
   ·grind
   ·obtain⟨y,h1,h2⟩:=d.new j oj h hoj;refine⟨y,hgr _ _ h1,fun t ht=>?_⟩;have hne:o.dst≠some t:=by
     intro e1;have h3:=b3n hfit r.at' e1;rw[b3n hfit hoj ht] at h3;grind
    rw[b9k hne];exact(h2 t ht).mono hsub
 all_goals grind
structure b6d (B G n n0:Nat) (P:Program) (W:WF) (ops:Array Oper) (fr0:Fr) (ρ0:Rn) (w0:World) (Q:Out->Prop) (listed:Array Bool) (a:Act) (w:World) : Prop where
 go:∃ dn cs res H held als ρ,a6w B G n n0 P ops fr0 ρ0 w0 dn cs res H held als listed ρ a w/\(∀ c∈dn,Dn listed c)/\(∀ x∈als,G<=x.2.1) /\
  b9v P W ops (ancs [] ops.toList) fr0 (dn++cs) Q dn.length cs res H held als
theorem e3z (hG:G=P.globals.size) (hfit:fit ops.toList ops.toList 0=true) (hdst:∀ (j:Nat) (o:Oper),ops[j]?=some o->Cr n o=true)
  (hGn:∀ x∈als,G<=x.2.1) (d:a6w B G n n0 P ops fr0 ρ0 w0 dn cs res H held als listed ρ a w) (hdl:∀ c∈dn,Dn listed c)
  (hg:b9v P W ops (ancs [] ops.toList) fr0 (dn++cs) Q dn.length cs res H held als) (r:Rd ops listed i o) (hc:Cy o.op=false)
  {K:Act->World->Prop} (hK:∀ a' w',b6d B G n n0 P W ops fr0 ρ0 w0 Q (listed.setIfInBounds i true) a' w'->K a' w') :
  wpOp P ops (a2h B G n n0 ρ0 w0 Q) i K a w:=by
 have hg0:=hg;obtain⟨hre,hst,_⟩:=hg;have hcnt:a1r (ancs [] ops.toList) i (dn++cs)<=dn.length:=by
  refine c3i fun c hcm=>?_
  cases hb:Aw (ancs [] ops.toList) i c with
  | false=>rfl
  | true=>exact absurd (r.ancW d hb) (d.csN c hcm)
 obtain⟨r0,v,hgr,hv,hk⟩:=d.known i o r.un r.at' hc hcnt;have hno:=a9w hfit r.at';have hci:∀ c∈cs,c≠i/\c∈cs:=by
  intro c hcm;refine⟨?_,hcm⟩;rintro rfl;have hmem:c∈chainOf ops.toList 0:=by rw[d.chain];grind
  obtain⟨_,o',ho',hch⟩:=mem_chainOf.1 hmem;have h2:ops[c]?=some o':=Cs.1 (by grind);rw[r.at'] at h2;grind
 have fin' : ∀ (ρ' : Rn) (u:Value) (w' : World),Ext B n0 ρ w ρ' w'->Sub ρ ρ'->Sim B G ρ' H w'->VR ρ' v u->(∀ x∈als,x.1≠i->¬Dn listed x.1->ρ' x.2.1=none)->K (a.put o.dst u) w':=by
  intro ρ' u w' he hsub hs hvr haln;refine hK _ _ ⟨dn,cs,res,H,held,als,ρ',?_,fun c hc'=>(Dn.set (by rw[d.size];exact a2y r.at')).2 (.inr (hdl c hc')),hGn,hg0⟩;exact d.go hfit hdst r he hsub hs d.le (GrF.refl _) hv hvr d.chain hci (fun j oj _ hj hoj hcj hn=>d.known j oj hj hoj hcj hn) d.aok haln
 have hev:=c4a d r hgr;have base:=fun b hb=>d1t (b:=b) hfit hdst d r hgr hb;unfold wpOp;rw[r.at'];dsimp only;rcases hk with⟨hw,rfl⟩|⟨hw,hk⟩
 ·rw[if_neg (by grind)];exact fin' ρ undef w (Ext.refl _ _ _ _) (Sub.refl _) d.sim rfl (fun x hx _ hd=>d.alsN x hx hd)
 ·rw[if_pos (base _ hw)];left;have val:RS B G P ρ H w (.val v H) (execOp a.eval o)->o.wp P a w K (a2h B G n n0 ρ0 w0 Q):=by
   rintro⟨ρ',u,w',h1,h2,h3,h4,_⟩;unfold Oper.wp;rw[h1];refine fin' ρ' u w' ⟨fun x hx=>h2.same x (Eh hx d.le),h2.keeps,h2.below⟩ (h2.sub d.sim) h3 h4 fun x hx _ hd=>?_;rw[h2.same _ (d.aok.hi x hx)];exact d.alsN x hx hd
  rcases hk with⟨_,hfree⟩|⟨_,hgen⟩|⟨hcl,hh⟩|⟨f,x,nm,hnd,rfl,hmem⟩
  ·have:=a5v (o:=o) d.sim hev hG;grind
  ·have:=b1q (B:=B) (G:=G) (P:=P) (H:=H) d.sim hev (d0t hno);rw[hgen] at this;exact val this
  ·obtain⟨o',v',ho',hv',hq⟩:=d1r hre i hh;rw[r.at'] at ho';cases ho';rw[hv] at hv';cases hv';have hev':=c4a d r (GrF.refl res);have:=a5v (o:=o) d.sim hev' hG;grind[d0u]
  ·have hnm:=d.alsN _ hmem r.un;have hget:=d1s hst i nm x hmem;obtain⟨ob,k,u,w',h1,h2,h3,h4,h5,hdr,h6⟩:=hnd ρ w a.eval hev d.sim.base;obtain⟨hb,hvr⟩:=h6 nm hnm;have hlo:n0<=nm:=d.aok.lo _ hmem;have hhi:nm<H.next:=d.aok.hi _ hmem;unfold Oper.wp;rw[h1];refine fin' _ u w' ?_ (a6q hnm) (d.sim.named hget hnm hhi (hGn _ hmem) h2 hb) hvr fun y hy hyi hyd=>?_
   ·exact⟨fun y hy=>a0c _ _ (Nat.ne_of_lt (Eh hy hlo)),KD.push h2,(Ext.alloc ρ n0 (w.heap.size,0,k) w w' ob h2 h3 h4 h5 d.sim.base).below⟩
   ·have:y.2.1≠nm:=by
     intro e;have:=d.aok.own y hy _ hmem e;grind
    rw[a0c _ _ this];exact d.alsN y hy hyd
theorem e4a (hW:WOK G P W) {i:Nat} {o:Oper} (hG:G=P.globals.size) (hord:a5u (ancs [] ops.toList) (chainOf ops.toList 0)=true) (hfit:fit ops.toList ops.toList 0=true)
  (hdst:∀ (j:Nat) (o:Oper),ops[j]?=some o->Cr n o=true)
  (hGn:∀ x∈als,G<=x.2.1) (d:a6w B G n n0 P ops fr0 ρ0 w0 dn cs res H held als listed ρ a w) (hdl:∀ c∈dn,Dn listed c)
  (hg:b9v P W ops (ancs [] ops.toList) fr0 (dn++cs) Q dn.length cs res H held als) (r:Rd ops listed i o) (hc:Cy o.op=true)
  {K:Act->World->Prop} (hK:∀ a' w',b6d B G n n0 P W ops fr0 ρ0 w0 Q (listed.setIfInBounds i true) a' w'->K a' w') :
  wpOp P ops (a2h B G n n0 ρ0 w0 Q) i K a w:=by
 obtain⟨hre,hst,hn⟩:=hg;have hmem:i∈dn++cs:=by
  rw[<- d.chain];exact mem_chainOf.2 ⟨Dt _,o,by simpa using r.at',hc⟩
 rcases Ed.1 hmem with h|hics
 ·exact absurd (hdl i h) r.un
 cases cs with
 | nil=>grind
 | cons c cs =>
 have hic:i=c:=by
  rcases Dv.1 hics with h|h
  ·exact h
  ·obtain⟨p,hp,ha⟩:=b5z (dn:=dn) (c:=c) (cs:=cs) (by rw[<- d.chain];omega) i h;exact absurd (r.ancW d ha) (d.csN p hp)
 subst hic;have hi:i<listed.size:=by rw[d.size];exact a2y r.at'
 have hnd:(dn++i :: cs)=(dn++[i])++cs:=by simp
 have hcs:∀ c∈cs,c≠i/\c∈i :: cs:=by
  intro c hcm;refine⟨?_,g4b _ hcm⟩;rintro rfl;obtain⟨p,hp,ha⟩:=b5z (dn:=dn) (c:=c) (cs:=cs) (by rw[<- d.chain];omega) c hcm;exact absurd (r.ancW d ha) (d.csN p hp)
 have nxt' : ∀ (v:AV) (H' : Mem) (ρ' : Rn) (u:Value) (w' : World) (res' : ResF),GrF res res'->res' i=some v->Ext B H.next ρ w ρ' w'->Sim B G ρ' H' w'->VR ρ' v u->H.next<=H'.next ->
   b3p P W ops (ancs [] ops.toList) fr0 (dn++i :: cs) Q (dn.length+1) cs res' H' (a4u (ancs [] ops.toList) i held) (a3q (ancs [] ops.toList) i als)->K (a.put o.dst u) w':=by
  intro v H' ρ' u w' res' hgr hv he hs hvr hle hst';rw[b9w] at hst';obtain⟨res2,H2,held2,als2,h1,f⟩:=stageW_sound (B:=B) (a2e (ancs [] ops.toList) (dn++i :: cs) (dn.length+1) ops.toList 0) res' H' _ _ (by
   grind[a5x,a9w]) hst'
  have hlen:(dn++[i]).length=dn.length+1:=by simp
  refine hK _ _ ⟨dn++[i],cs,res2,H2,held2,als2,ρ',?_,?_,?_,?_⟩
  ·refine d.go hfit hdst r ⟨fun x hx=>he.same x (Eh hx d.le),he.keeps,he.below⟩ (he.sub d.sim) (f.ph.sim hs) (Dw d.le (Dw hle f.ph.le)) (hgr.trans f.gr) (f.gr _ _ hv) hvr
    (by rw[d.chain,hnd]) hcs ?_ ?_ ?_
   ·intro j oj hji hjn hoj hcj hcnt;rw[hlen,<- hnd] at hcnt;rcases g4k (a1r (ancs [] ops.toList) j (dn++i :: cs)) (dn.length+1) with h|h
    ·have hna:Aw (ancs [] ops.toList) i j=false:=by
      cases hb:Aw (ancs [] ops.toList) i j with
      | false=>rfl
      | true=>exact absurd (r.ancW d hb) hjn
     exact(d.known j oj hjn hoj hcj (by omega)).mono (hgr.trans f.gr) (fun h=>f.keepH _ (b9h hna h)) fun nm x h=>f.keepA _ (b9i hna h)
    ·exact f.known j (a5x.2 ⟨Dt _,oj,by grind,hcj,by omega⟩) oj hoj
   ·exact f.ok n0 (Dw d.le hle) (d.aok.sub (fun x hx=>a9v x hx) hle)
   ·intro x hx hxi hxn;rcases f.new x hx with h|h
    ·have hx':=a9v x h;rw[he.same _ (d.aok.hi x hx')];exact d.alsN x hx' hxn
    ·exact hs.fresh _ h
  ·grind[Dn.set]
  ·intro x hx;rcases f.new x hx with h|h
   ·grind[a9v]
   ·exact Dw hs.names h
  grind
 have hev:=c4a d r (GrF.refl res);have base:=fun b hb=>d1t (b:=b) hfit hdst d r (GrF.refl res) hb;unfold wpOp;rw[r.at'];dsimp only;unfold d1q b6c at hn;dsimp only at hn;rw[r.at'] at hn;dsimp only at hn;rcases d1p hn with⟨hw,hm⟩|⟨hw,hm⟩
 ·rw[if_pos (base _ hw)];left;have hrs:=a5v (o:=o) d.sim hev hG;unfold Oper.wp
  cases hr:opV P H (Ci ops (ancs [] ops.toList) fr0 res i) o with
  | val v H' =>
   rw[hr] at hrs hm;obtain⟨ρ',u,w',h1,h2,h3,h4,h5⟩:=hrs;rw[h1];simp only[b9r] at hm;obtain⟨res',g1,g2,g3⟩:=b0b hm;exact nxt' v H' ρ' u w' res' g2 g3 h2 h3 h4 h5 g1
  | skip H' =>
   rw[hr] at hrs hm;obtain⟨ρ',w',h1,h2,h3,h5⟩:=hrs;rw[h1];simp only[b9r] at hm;obtain⟨res',g1,g2,g3⟩:=b0b hm;exact nxt' _ H' ρ' undef w' res' g2 g3 h2 h3 rfl h5 g1
  | enter f args H' =>
   rw[hr] at hrs hm;obtain⟨us,h1,h2,rfl⟩:=hrs;rw[h1];have hm':=hW _ _ _ _ (show W f args H' _ from hm);refine(hm' B ρ us w d.sim h2).mono fun e w' ⟨r',hkr,hc'⟩=>?_
   cases r' with
   | bad=>grind
   | ret v H2 =>
    obtain⟨res',g1,g2,g3⟩:=b0b hkr
    cases e with
    | returned u =>
     obtain⟨ρ',k1,k2,k3,k4⟩:=hc';grind
    | panicked chain=>exact hc'.elim
    | outgrown=>exact hc'.elim
   | panic v H2 =>
    cases e with
    | returned u=>exact hc'.elim
    | panicked chain =>
     obtain⟨ρ',u,g0,g1,g2,g3,g4⟩:=hc';refine⟨_,hkr,ρ',u,g0,g1,?_,g3,?_,Dw d.le g4⟩
     ·exact d.ext.trans ⟨fun x hx=>g2.same x (Eh hx d.le),g2.keeps,g2.below⟩ (Dm _)
     ·exact⟨(fun t v hv _=>(by grind[Fr.get_clear])),(by rw[Fr.defers_clear];exact d.dfr.mono (g2.sub d.sim)),d.tsz,(fun t v hv=>(by grind[Fr.get_clear]))⟩
    | outgrown=>exact hc'.elim
  | dfr fn cap args H'=>rw[hr] at hm;exact hm.elim
  | recover=>rw[hr] at hm;exact hm.elim
  | panic v H'=>rw[hr] at hm;exact hm.elim
  | bad=>rw[hr] at hm;exact hm.elim
 ·rw[if_neg (by grind)];obtain⟨res',h1,h2,h3⟩:=b0b hm;exact nxt' _ H ρ undef w res' h2 h3 (Ext.refl _ _ _ _) d.sim rfl (Dm _) h1
theorem d1u {res:ResF} {K:Fr->Prop} : ∀ (l:List Oper) (i:Nat) (fr:Fr),a7y res K l i fr ->
  ∃ fr',K fr'/\fr'.defers=fr.defers/\∀ t v,fr'.get t=some v->(∃ j o,l[j]?=some o/\o.dst=some t/\res (i+j)=some v)\/((∀ o∈l,o.dst≠some t)/\fr.get t=some v)
 | [],i,fr,h=>⟨fr,h,rfl,fun t v hv=>.inr ⟨(fun _ h=>(by cases h)),hv⟩⟩
 | o :: l,i,fr,h=>by
  unfold a7y at h;split at h
  ·rename_i v hv;obtain⟨fr',h1,h2,h3⟩:=d1u l (i+1) _ h;refine⟨fr',h1,?_,?_⟩
   ·rw[h2];unfold Fr.put;grind[Fr.defers_upd]
   ·intro t y hy;rcases h3 t y hy with⟨j,oj,hj,hd,hr⟩|⟨hd,hg⟩
    ·exact .inl ⟨j+1,oj,by grind,hd,by grind⟩
    ·cases hdo:o.dst with
     | none =>
      rw[hdo] at hg;exact .inr ⟨fun o' ho'=>by grind,hg⟩
     | some d =>
      rw[hdo] at hg;have hg' : (fr.upd d v).get t=some y:=hg;rcases Fr.get_upd hg' with⟨rfl,rfl⟩|⟨hne2,hg'⟩
      ·exact .inl ⟨0,o,rfl,hdo,hv⟩
      grind
  grind
theorem d1v (hfit:fit ops.toList ops.toList 0=true) (hr:Region.ready .any ops listed=[]) (g:b6d B G n n0 P W ops fr0 ρ0 w0 Q listed a w)
  (hdst:∀ (j:Nat) (o:Oper),ops[j]?=some o->Cr n o=true) : a2h B G n n0 ρ0 w0 Q .normal a w:=by
 obtain⟨dn,cs,res,H,held,als,ρ,d,hdl,hGn,hg⟩:=g.go;have hall:=d0w hfit d.size hr;obtain⟨_,_,hn⟩:=hg
 cases cs with
 | cons c cs =>
  exfalso;refine d.csN c (by simp) (hall c ?_);have hmem:c∈chainOf ops.toList 0:=by rw[d.chain];simp
  grind[mem_chainOf]
 | nil =>
  have hn' : a7y res (fun fr=>Q (.norm fr H)) ops.toList 0 fr0:=hn;obtain⟨fr',h1,h2,h3⟩:=d1u ops.toList 0 fr0 hn';have key:∀ t v,fr'.get t=some v->t<n/\VR ρ v (a.tmps.getD t undef):=by
   intro t v hv;rcases h3 t v hv with⟨j,o,hj,hd,hrs⟩|⟨hd,hg0⟩
   ·have hj' : ops[j]?=some o:=Cs.1 hj;rw[g4w] at hrs;obtain⟨y,hy,hv'⟩:=d.new j o (hall j (a2y hj')) hj';rw[hrs] at hy;cases hy;exact⟨a2x (hdst j o hj') t hd,hv' t hd⟩
   ·refine⟨d.only t v hg0,d.old t (fun j hj=>?_) v hg0⟩;obtain⟨_,o,ho,hdo⟩:=a9s hj;grind
  exact⟨_,h1,ρ,d.ext,d.sim,⟨fun t v hv _=>(key t v hv).2,by rw[h2];exact d.dfr,d.tsz,fun t v hv=>(key t v hv).1⟩,d.le⟩
theorem e4b (hW:WOK G P W) (hG:G=P.globals.size) (hord:a5u (ancs [] ops.toList) (chainOf ops.toList 0)=true) (hfit:fit ops.toList ops.toList 0=true)
  (hdst:∀ (j:Nat) (o:Oper),ops[j]?=some o->Cr n o=true) : ∀ (fuel:Nat) (listed:Array Bool) (a:Act) (w:World),
  (∃ l:List Nat,l.Nodup/\l.length=fuel/\∀ i,i<ops.size->Dn listed i\/i∈l)->b6d B G n n0 P W ops fr0 ρ0 w0 Q listed a w ->
  wpAny P .any ops (a2h B G n n0 ρ0 w0 Q) fuel listed a w:=by
 intro fuel
 induction fuel with
 | zero =>
  rintro listed a w ⟨l,_,hl,hc⟩ g;have hnil:l=[]:=g3r.1 hl;subst hnil;have hr:Region.ready .any ops listed=[]:=by
   cases hx:Region.ready .any ops listed with
   | nil=>rfl
   | cons i is =>
    exfalso;obtain⟨o,ro⟩:=b9j (ops:=ops) (listed:=listed) (i:=i) (by grind);rcases hc i (a2y ro.at') with h|h
    ·exact ro.un h
    grind
  exact⟨hr,d1v hfit hr g hdst⟩
 | succ fuel ih =>
  rintro listed a w ⟨l,hnd,hl,hc⟩ g;refine⟨fun hr=>d1v hfit hr g hdst,fun i hi=>?_⟩;obtain⟨o,ro⟩:=b9j hi;obtain⟨dn,cs,res,H,held,als,ρ,d,hdl,hGn,hg⟩:=g.go;have hil:i∈l:=(hc i (a2y ro.at')).resolve_left ro.un;have hsz:i<listed.size:=by rw[d.size];exact a2y ro.at'
  have hK:∀ a' w',b6d B G n n0 P W ops fr0 ρ0 w0 Q (listed.setIfInBounds i true) a' w'->wpAny P .any ops (a2h B G n n0 ρ0 w0 Q) fuel (listed.setIfInBounds i true) a' w':=by
   intro a' w' g';refine ih _ a' w' ⟨l.erase i,hnd.erase i,by grind,fun j hj=>?_⟩ g';grind[Dn.set]
  grind[e4a,e3z,Cy]
theorem c4b (hW:WOK G P W) {id:Nat} (hG:G=P.globals.size) (s:St B G n n0 ρ0 w0 ρ fr0 H a w) (hd:Au n (.region id ops true)=true)
  (h:b9s P W ops fr0 H Q) (t:Nat) : wpOps P ops (a2h B G n n0 ρ0 w0 Q) (Region.schedule (P.follows .mixedOrders) ops t) a { w with drawn:=w.drawn+1 }:=by
 obtain⟨hplan,hmix,hout⟩:=h;unfold b3g at hplan;simp only[Dq] at hplan;obtain⟨⟨_,hord⟩,hfit⟩:=hplan;have hdst:∀ (j:Nat) (o:Oper),ops[j]?=some o->Cr n o=true:=fun j o hj=>Ec.1 hd o (En (Cs.2 hj));simp only[Region.schedule,hmix,g6t,if_true];refine wpAny_sound ops.size t _ a _ ?_;have un:∀ i,¬Dn (Array.replicate ops.size false) i:=by
  (simp_all[Dn];grind)
 refine e4b (fr0:=fr0) (ρ0:=ρ0) (w0:=w0) hW hG hord hfit hdst ops.size _ a _ ⟨List.range ops.size,List.nodup_range,by simp,fun i hi=>.inr (by grind)⟩ ?_;rw[b9w] at hout;obtain⟨res2,H2,held2,als2,h1,f⟩:=stageW_sound (B:=B) (a2e (ancs [] ops.toList) (chainOf ops.toList 0) 0 ops.toList 0) (fun _=>none) H [] [] (by
  grind[a5x,a9w]) hout
 have hs:Sim B G ρ H { w with drawn:=w.drawn+1 }:=s.sim.heap rfl;have hb:Below B w { w with drawn:=w.drawn+1 }:=⟨rfl,rfl,rfl,Dm _,fun _ _=>rfl⟩;refine⟨[],chainOf ops.toList 0,res2,H2,held2,als2,ρ,?_,(fun _ h=>(by cases h)),?_,h1⟩
 ·refine⟨s.ext.trans ⟨fun _ _=>rfl,KD.heap rfl,hb⟩ (Dm _),f.ph.sim hs,Dw s.le f.ph.le,by simp,s.frel.size,s.frel.dfr,s.frel.only,rfl,fun c _=>un c,fun i _ h=>absurd h (un i),
   fun t _ v hv=>s.frel.slot t v hv (s.frel.only t v hv),fun j _ h=>absurd h (un j),?_,f.ok n0 s.le (a1t.nil _ _),?_⟩
  ·intro i o _ ho hc hcnt;exact f.known i (a5x.2 ⟨Dt _,o,by grind,hc,by grind⟩) o ho
  ·intro x hx _;rcases f.new x hx with h|h
   ·cases h
   ·exact hs.fresh _ h
 ·intro x hx;rcases f.new x hx with h|h
  ·cases h
  ·exact Dw hs.names h
theorem d1w (hW:WOK G P W) {id:Nat} (hG:G=P.globals.size) (s:St B G n n0 ρ0 w0 ρ fr0 H a w) (hd:Au n (.region id ops true)=true)
  (h:b9s P W ops fr0 H Q) : (Code.region id ops true).wp P (a2h B G n n0 ρ0 w0 Q) a w:=by grind[id,c4b,wp_region_draw]
end Go.Ai
end

