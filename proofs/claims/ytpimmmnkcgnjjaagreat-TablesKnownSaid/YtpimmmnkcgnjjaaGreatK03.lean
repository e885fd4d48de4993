/- Parts of an interpreter and of a proof. No condition. -/
import Derived.Recover
import Derived.OpenShut
import Derived.ChangeArms
import Derived.DataReads
import Derived.LaidMore
import Derived.LaidLaws
import Derived.Test.YtpimmmnkcgnjjaaGreatK02
set_option linter.all false
open Go.RowKit (Below)
namespace Go.Ai
section
variable {B G n n0:Nat}{P:Program}{ops:Array Oper}{fr0:Fr}{ρ0 ρ:Rn}{w0 w:World}{dn cs:List Nat}{res:T2 AV}{H:Mem}{held:List Nat}{als:Als}{listed:Array Bool}{a:Act}{callf:CallF}
theorem Sim.named(s:Sim B G ρ H w){f:Nat}{x:Blk}{ob:Obj}{k:Nat}{Z:World}(hx:H.get f=some x)(hn:ρ f=Option.none)(a2:f<H.next)(hG:G<=f)(hw:Z.heap=w.heap.push ob)
  (hb:BR B (upd ρ f (w.heap.size,0,k)) x w.heap.size 0 k Z):Sim B G (upd ρ f (w.heap.size,0,k)) H Z:=by
 have a3:=Jb (x:=(w.heap.size,0,k)) hn;have old:∀j y b o D,H.get j=some y->ρ j=some (b,o,D)->b≠w.heap.size/\Z.heap[b]?=w.heap[b]?:=by
  intro j y b o D U A;have a2:=(s.at U A).lt;grind
 refine⟨?_,?_,?_,?_,s.names,by rw[hw];simp;exact e7l s.base⟩
 .intro j y hy;by_cases e:j=f
  .grind[Da]
  .rw[C4 _ _ e];rcases s.blk j y hy with h|⟨b',o',D,A,a4⟩
   .grind
   .exact .inr ⟨b',o',D,A,a4.mono a3 (old j y b' o' D hy A).2⟩
 .intro j j' y y' b1 o1 k1 o2 k2 h h' a1 ho A a0;by_cases e:j=f
  .subst e;rw[Da] at A;cases A;rw[C4 _ _ (Ne.symm a1)] at a0;grind
  .rw[C4 _ _ e] at A;by_cases e' : j'=f
   .subst e';rw[Da] at a0;grind
   .rw[C4 _ _ e'] at a0;exact s.inj j j' y y' b1 o1 k1 o2 k2 h h' a1 ho A a0
 .intro j U;rw[C4 _ _ (by omega)];exact s.fresh j U
 .intro j y U hy;rw[C4 _ _ (by omega)];exact s.glob j y U hy
theorem a9a{f:Op}(h:cls f≠.no):∀cs b,f≠.select cs b:=by
 rintro c b rfl;exact h rfl
theorem a9b{ev:Ev}{o:Oper}{v:AV}(h:cls o.op=.read)(f:quiet P H ev o=some v):opV P H ev o=.val v H:=by
 grind[quiet,a8t]
structure Qv (B G n n0:Nat) (P:Program) (callf:CallF) (ops:Array Oper) (fr0:Fr) (ρ0:Rn) (w0:World) (out:Out) (listed:Array Bool) (a:Act) (w:World):Prop where
 go:∃dn cs res H held als ρ,Je B G n n0 P ops fr0 ρ0 w0 dn cs res H held als listed ρ a w/\(∀c∈dn,Dn listed c)/\(∀x∈als,G<=x.2.1) /\
  gate P callf ops (ancs [] ops.toList) fr0 (dn++cs) dn.length cs res H held als=out
theorem a1c{tab:List Nat}{A:List Nat}{k:Nat}{f:Out}(h:gate P callf ops tab fr0 A k cs res H held als=f)(D:f≠.bad):
  M5 P ops tab fr0 res H held=true/\M6 H als=true/\nxt P callf ops tab fr0 A k cs res H held als=f:=by
 (simp_all[gate];grind)
theorem Lu(f:fit ops.toList ops.toList 0=true){i:Nat}{o:Oper}(h:ops[i]?=some o):cls o.op≠.no:=by
 have A:=Lp f i o (B7.2 h)
 (simp_all[Ka];grind)
theorem c2p(A:fit ops.toList ops.toList 0=true){i:Nat}{o:Oper}(D:ops[i]?=some o):∀e∈o.after.toList,Region.binds .any e=true->e.on<i:=by
 have f:=Lp A i o (B7.2 D);unfold Ka at f;simp only[W0] at f;have h:=f.1.2;intro e U Z;have:=W7.1 h e U;simp_all
theorem c2q{i:Nat}{o:Oper}{U:Out}(hG:G=P.globals.size)(a0:fit ops.toList ops.toList 0=true)(a7:∀(j:Nat)(o:Oper),ops[j]?=some o->B6 n o=true)
  (b1:U≠.bad) (a8:∀x∈als,G<=x.2.1) (d:Je B G n n0 P ops fr0 ρ0 w0 dn cs res H held als listed ρ a w) (b2:∀c∈dn,Dn listed c)
  (hg:gate P callf ops (ancs [] ops.toList) fr0 (dn++cs) dn.length cs res H held als=U) (r:Rd ops listed i o) (hc:Cj o.op=false)
  {K:Act->World->Prop} (hK:∀a' h,Qv B G n n0 P callf ops fr0 ρ0 w0 U (listed.setIfInBounds i true) a' h->K a' h) :
  wpOp P ops (C5 B G n n0 ρ0 w0 U) i K a w:=by
 obtain⟨b3,b4,_⟩:=a1c hg b1;have b5:Ee (ancs [] ops.toList) i (dn++cs)<=dn.length:=by
  refine a0y λc a1=>?_
  cases Z:A1 (ancs [] ops.toList) i c with
  | false=>rfl
  | true=>exact absurd (r.anc d Z) (d.csN c a1)
 obtain⟨r0,v,a9,hv,hk⟩:=d.known i o r.un r.at' hc b5;have b6:=Lu a0 r.at';have b7:∀c∈cs,c≠i/\c∈cs:=by
  intro c a1;refine⟨?_,a1⟩;rintro rfl;have D:c∈chainOf ops.toList 0:=by rw[d.chain];grind
  obtain⟨_,o',a2,e6⟩:=mem_chainOf.1 D;have A:ops[c]?=some o':=B7.1 (by grind);rw[r.at'] at A;grind
 have a3:∀(ρ' : Rn)(u:Value)(h:World),Ext B n0 ρ w ρ' h->Sub ρ ρ'->Sim B G ρ' H h->VR ρ' v u->(∀x∈als,x.1≠i->¬Dn listed x.1->ρ' x.2.1=none)->K (a.put o.dst u) h:=by
  intro ρ' u h he b8 hs a4 b9;refine hK _ _ ⟨dn,cs,res,H,held,als,ρ',?_,λc c0=>(Ye (by rw[d.size];exact Ff r.at')).2 (.inr (b2 c c0)),a8,hg⟩;exact d.go a0 a7 r he b8 hs d.le (Yo _) hv a4 d.chain b7 (λj oj _ hj c1 c2 hn=>d.known j oj hj c1 c2 hn) d.aok b9
 have a5:=a1b d r a9;have base:=λb Z=>a8x (b:=b) a0 a7 d r a9 Z;unfold wpOp;rw[r.at'];dsimp only;rcases hk with⟨hw,rfl⟩|⟨hw,hk⟩
 .rw[if_neg (by grind)];exact a3 ρ undef w (X6 _ _ _ _) (Yl _) d.sim rfl (λx hx _ hd=>d.alsN x hx hd)
 .rw[if_pos (base _ hw)];left;have val:RS B G P ρ H w (.val v H) (execOp a.eval o)->o.wp P a w K (C5 B G n n0 ρ0 w0 U):=by
   rintro⟨ρ',u,h,h1,A,h3,h4,_⟩;unfold Oper.wp;rw[h1];refine a3 ρ' u h ⟨λx hx=>A.same x (Xg hx d.le),A.keeps,A.below⟩ (A.sub d.sim) h3 h4 λx hx _ hd=>?_;rw[A.same _ (d.aok.hi x hx)];exact d.alsN x hx hd
  rcases hk with⟨_,e7⟩|⟨_,c6⟩|⟨e8,hh⟩|⟨f,x,nm,c7,rfl,D⟩
  .have:=Ig (o:=o) d.sim a5 hG;grind
  .have:=M9 (B:=B) (G:=G) (P:=P) (H:=H) d.sim a5 (a9a b6);rw[c6] at this;exact val this
  .obtain⟨o',v',a2,b0,hq⟩:=a8v b3 i hh;rw[r.at'] at a2;cases a2;rw[hv] at b0;cases b0;have c8:=a1b d r (Yo res);have:=Ig (o:=o) d.sim c8 hG;grind[a9b]
  .have a6:=d.alsN _ D r.un;have c9:=a8w b4 i nm x D;obtain⟨ob,k,u,h,h1,A,h3,h4,h5,e9,h6⟩:=c7 ρ w a.eval a5 d.sim.base;obtain⟨Z,a4⟩:=h6 nm a6;have e0:n0<=nm:=d.aok.lo _ D;have e1:nm<H.next:=d.aok.hi _ D;unfold Oper.wp;rw[h1];refine a3 _ u h ?_ (Jb a6) (d.sim.named c9 a6 e1 (a8 _ D) A Z) a4 λy hy g0 e5=>?_
   .exact⟨λy hy=>C4 _ _ (Nat.ne_of_lt (Xg hy e0)),KD.push A,(Yh ρ n0 (w.heap.size,0,k) w h ob A h3 h4 h5 d.sim.base).below⟩
   .have:y.2.1≠nm:=by
     intro e;have:=d.aok.own y hy _ D e;grind
    rw[C4 _ _ this];exact d.alsN y hy e5
theorem Fr.get_clear(fr:Fr)(t:Nat):fr.clear.get t=none:=by
 have key:B9 (e2:T2 AV) t=none:=a7j t;cases fr<;>exact key
abbrev Yw:=@Fr.get_clear
theorem Fr.defers_clear(fr:Fr):fr.clear.defers=fr.defers:=by cases fr<;>rfl
abbrev Y7:=@Fr.defers_clear
theorem c2r{i:Nat}{o:Oper}{a2:Out}(b8:A4 B G P callf)(hG:G=P.globals.size)(e9:Ie (ancs [] ops.toList) (chainOf ops.toList 0)=true)(a6:fit ops.toList ops.toList 0=true)
  (a7:∀(j:Nat)(o:Oper),ops[j]?=some o->B6 n o=true)
  (a0:a2≠.bad) (g5:∀x∈als,G<=x.2.1) (d:Je B G n n0 P ops fr0 ρ0 w0 dn cs res H held als listed ρ a w) (b9:∀c∈dn,Dn listed c)
  (hg:gate P callf ops (ancs [] ops.toList) fr0 (dn++cs) dn.length cs res H held als=a2) (r:Rd ops listed i o) (hc:Cj o.op=true)
  {K:Act->World->Prop} (hK:∀a' A,Qv B G n n0 P callf ops fr0 ρ0 w0 a2 (listed.setIfInBounds i true) a' A->K a' A) :
  wpOp P ops (C5 B G n n0 ρ0 w0 a2) i K a w:=by
 obtain⟨g6,g7,U⟩:=a1c hg a0;have c0:i∈dn++cs:=by
  rw[<- d.chain];exact mem_chainOf.2 ⟨W3 _,o,by simpa using r.at',hc⟩
 rcases W9.1 c0 with h|c1
 .exact absurd (b9 i h) r.un
 cases cs with
 | nil=>grind
 | cons c cs =>
 have c2:i=c:=by
  rcases Xb.1 c1 with h|h
  .exact h
  .obtain⟨p,hp,ha⟩:=Qu (dn:=dn) (c:=c) (cs:=cs) (by rw[<- d.chain];omega) i h;exact absurd (r.anc d ha) (d.csN p hp)
 subst c2;have hi:i<listed.size:=by rw[d.size];exact Ff r.at'
 have a8:(dn++i::cs)=(dn++[i])++cs:=by simp
 have c6:∀c∈cs,c≠i/\c∈i::cs:=by
  intro c a9;refine⟨?_,e6h _ a9⟩;rintro rfl;obtain⟨p,hp,ha⟩:=Qu (dn:=dn) (c:=c) (cs:=cs) (by rw[<- d.chain];omega) c a9;exact absurd (r.anc d ha) (d.csN p hp)
 have a3:∀(v:AV)(H' : Mem)(ρ' : Rn)(u:Value)(A:World) (Z:T2 AV),Gr res Z->B9 Z i=some v->Ext B H.next ρ w ρ' A->Sim B G ρ' H' A->VR ρ' v u->H.next<=H'.next ->
   Qj P callf ops (ancs [] ops.toList) fr0 (dn++i::cs) (dn.length+1) cs Z H' (Hc (ancs [] ops.toList) i held) (Gi (ancs [] ops.toList) i als)=a2->K (a.put o.dst u) A:=by
  intro v H' ρ' u A Z b0 hv D hs c7 a4 b1;rw[a8u] at b1;obtain⟨c8,H2,c9,e0,h1,f⟩:=stage_sound (B:=B) (Es (ancs [] ops.toList) (dn++i::cs) (dn.length+1) ops.toList 0) Z H' _ _ (by
   grind[Ii,Lu]) b1 a0
  have e1:(dn++[i]).length=dn.length+1:=by simp
  refine hK _ _ ⟨dn++[i],cs,c8,H2,c9,e0,ρ',?_,?_,?_,?_⟩
  .refine d.go a6 a7 r ⟨λx hx=>D.same x (Xg hx d.le),D.keeps,D.below⟩ (D.sub d.sim) (f.ph.sim hs) (W6 d.le (W6 a4 f.ph.le)) (b0.trans f.gr) (f.gr _ _ hv) c7
    (by rw[d.chain,a8]) c6 ?_ ?_ ?_
   .intro j oj g8 b2 b3 b4 e5;rw[e1,<- a8] at e5;rcases e6y (Ee (ancs [] ops.toList) j (dn++i::cs)) (dn.length+1) with h|h
    .have b5:A1 (ancs [] ops.toList) i j=false:=by
      cases hb:A1 (ancs [] ops.toList) i j with
      | false=>rfl
      | true=>exact absurd (r.anc d hb) b2
     exact(d.known j oj b2 b3 b4 (by omega)).mono (b0.trans f.gr) (λh=>f.keepH _ (Ts b5 h)) λnm x h=>f.keepA _ (Tt b5 h)
    .exact f.known j (Ii.2 ⟨W3 _,oj,by grind,b4,by omega⟩) oj b3
   .exact f.ok n0 (W6 d.le a4) (d.aok.sub (λx hx=>Lt x hx) a4)
   .intro x hx g9 e6;rcases f.new x hx with h|h
    .have b6:=Lt x h;rw[D.same _ (d.aok.hi x b6)];exact d.alsN x b6 e6
    .exact hs.fresh _ h
  .grind[Dn.set]
  .intro x hx;rcases f.new x hx with h|h
   .grind[Lt]
   .exact W6 hs.names h
  grind
 have e7:=a1b d r (Yo res);have base:=λb hb=>a8x (b:=b) a6 a7 d r (Yo res) hb;unfold wpOp;rw[r.at'];dsimp only;unfold nxt act at U;dsimp only at U;rw[r.at'] at U;dsimp only at U;split at U
 .rename_i hw;rw[if_neg (by grind)];obtain⟨Z,h1,h2,h3⟩:=Ll U a0;exact a3 _ H ρ undef w Z h2 h3 (X6 _ _ _ _) d.sim rfl (Wy _) h1
 .rename_i hw;rw[if_pos (base _ hw)];left;have a1:=Ig (o:=o) d.sim e7 hG;unfold Oper.wp;split at U
  .rename_i v H' hr;rw[hr] at a1;obtain⟨ρ',u,A,h1,h2,h3,h4,h5⟩:=a1;rw[h1];obtain⟨Z,g1,g2,g3⟩:=Ll U a0;exact a3 v H' ρ' u A Z g2 g3 h2 h3 h4 h5 g1
  .rename_i H' hr;rw[hr] at a1;obtain⟨ρ',A,h1,h2,h3,h5⟩:=a1;rw[h1];obtain⟨Z,g1,g2,g3⟩:=Ll U a0;exact a3 _ H' ρ' undef A Z g2 g3 h2 h3 rfl h5 g1
  .rename_i f args H' hr;rw[hr] at a1;obtain⟨us,h1,h2,rfl⟩:=a1;rw[h1];have b7:=b8 f args H';split at U
   .rename_i v H2 a5;have:=b7 (by grind) ρ us w d.sim h2;rw[a5] at this;refine this.mono λe A D=>?_;obtain⟨Z,g1,g2,g3⟩:=Ll U a0
    cases e with
    | returned u =>
     obtain⟨ρ',k1,k2,k3,k4⟩:=D;grind
    | panicked e8=>exact D.elim
    | outgrown=>exact D.elim
   .rename_i v H2 a5;have:=b7 (by grind) ρ us w d.sim h2;rw[a5] at this;refine this.mono λe A D=>?_
    cases e with
    | returned u=>exact D.elim
    | panicked e8 =>
     obtain⟨ρ',u,g0,g1,g2,g3,g4⟩:=D;subst U;refine⟨ρ',u,g0,g1,?_,g3,?_,W6 d.le g4⟩
     .exact d.ext.trans ⟨λx hx=>g2.same x (Xg hx d.le),g2.keeps,g2.below⟩ (Wy _)
     .exact⟨(λt v hv _=>(by grind[Fr.get_clear])),(by rw[Y7];exact d.dfr.mono (g2.sub d.sim)),d.tsz,(λt v hv=>(by grind[Fr.get_clear]))⟩
    | outgrown=>exact D.elim
   grind
  grind
 grind
theorem a9c{H:Mem}{res:T2 AV}{D:Out}(a1:D≠.bad):∀(l:List Oper)(i:Nat)(fr:Fr),fin res H l i fr=D ->
  ∃f,D=.norm f H/\f.defers=fr.defers/\∀t v,f.get t=some v->(∃j o,l[j]?=some o/\o.dst=some t/\B9 res (i+j)=some v)\/((∀o∈l,o.dst≠some t)/\fr.get t=some v)
 | [],i,fr,h=>⟨fr,h.symm,rfl,λt v U=>.inr ⟨(λ_ h=>(by cases h)),U⟩⟩
 | o::l,i,fr,h=>by
  unfold fin at h;split at h
  .rename_i v U;rw[X3] at h;obtain⟨f,h1,h2,h3⟩:=a9c a1 l (i+1) _ h;refine⟨f,h1,?_,?_⟩
   .rw[h2];unfold Fr.put;grind[Fr.defers_upd]
   .intro t y hy;rcases h3 t y hy with⟨j,oj,hj,hd,hr⟩|⟨hd,A⟩
    .exact .inl ⟨j+1,oj,by grind,hd,by grind⟩
    .cases Z:o.dst with
     | none =>
      rw[Z] at A;exact .inr ⟨λo' a2=>by grind,A⟩
     | some d =>
      rw[Z] at A;have a0:(fr.upd d v).get t=some y:=A;rcases Yg a0 with⟨rfl,rfl⟩|⟨a3,a0⟩
      .exact .inl ⟨0,o,rfl,Z,U⟩
      grind
  grind
theorem a9d(f:fit ops.toList ops.toList 0=true)(a0:listed.size=ops.size)(hr:Region.ready .any ops listed=[]):∀i,i<ops.size->Dn listed i:=by
 intro i
 induction i using Nat.strongRecOn with
 | _ i A =>
  intro hi;rcases Classical.em (Dn listed i) with h|h
  .exact h
  .exfalso;have a1:i∈Region.ready .any ops listed:=by
    refine mem_ready.2 ⟨?_,ops[i],by grind,λe D U=>?_⟩
    .grind[Dn]
    .have Z:=c2p f (i:=i) (o:=ops[i]) (by grind) e (Array.mem_toList_iff.2 D) U;exact A e.on Z (by omega)
   grind
theorem a9e{h:Out}(a3:fit ops.toList ops.toList 0=true)(Z:h≠.bad)(hr:Region.ready .any ops listed=[])(g:Qv B G n n0 P callf ops fr0 ρ0 w0 h listed a w)
  (a4:∀(j:Nat)(o:Oper),ops[j]?=some o->B6 n o=true):C5 B G n n0 ρ0 w0 h .normal a w:=by
 obtain⟨dn,cs,res,H,held,als,ρ,d,a8,a9,hg⟩:=g.go;have a0:=a9d a3 d.size hr;obtain⟨_,_,hn⟩:=a1c hg Z
 cases cs with
 | cons c cs =>
  exfalso;refine d.csN c (by simp) (a0 c ?_);have b0:c∈chainOf ops.toList 0:=by rw[d.chain];simp
  grind[mem_chainOf]
 | nil =>
  have a5:fin res H ops.toList 0 fr0=h:=hn;obtain⟨a6,h1,h2,h3⟩:=a9c Z ops.toList 0 fr0 a5;subst h1;have key:∀t v,a6.get t=some v->t<n/\VR ρ v (a.tmps.getD t undef):=by
   intro t v f;rcases h3 t v f with⟨j,o,A,D,a1⟩|⟨D,a2⟩
   .have U:ops[j]?=some o:=B7.1 A;rw[e6s] at a1;obtain⟨y,hy,a7⟩:=d.new j o (a0 j (Ff U)) U;rw[a1] at hy;cases hy;exact⟨Fe (a4 j o U) t D,a7 t D⟩
   .refine⟨d.only t v a2,d.old t (λj A=>?_) v a2⟩;obtain⟨_,o,ho,b1⟩:=Lm A;grind
  exact⟨ρ,d.ext,d.sim,⟨λt v f _=>(key t v f).2,by rw[h2];exact d.dfr,d.tsz,λt v f=>(key t v f).1⟩,d.le⟩
theorem c2s{D:Out}(a5:A4 B G P callf)(hG:G=P.globals.size)(a6:Ie (ancs [] ops.toList) (chainOf ops.toList 0)=true)(a0:fit ops.toList ops.toList 0=true)
  (a1:∀(j:Nat)(o:Oper),ops[j]?=some o->B6 n o=true) (a2:D≠.bad):∀(f:Nat)(listed:Array Bool)(a:Act)(w:World),
  (∃l:List Nat,l.Nodup/\l.length=f/\∀i,i<ops.size->Dn listed i\/i∈l)->Qv B G n n0 P callf ops fr0 ρ0 w0 D listed a w ->
  wpAny P .any ops (C5 B G n n0 ρ0 w0 D) f listed a w:=by
 intro f
 induction f with
 | zero =>
  rintro listed a w ⟨l,_,hl,hc⟩ g;have a3:l=[]:=e6x.1 hl;subst a3;have U:Region.ready .any ops listed=[]:=by
   cases hx:Region.ready .any ops listed with
   | nil=>rfl
   | cons i is =>
    exfalso;obtain⟨o,A⟩:=Tu (ops:=ops) (listed:=listed) (i:=i) (by grind);rcases hc i (Ff A.at') with h|h
    .exact A.un h
    grind
  exact⟨U,a9e a0 a2 U g a1⟩
 | succ f ih =>
  rintro listed a w ⟨l,a4,hl,hc⟩ g;refine⟨λU=>a9e a0 a2 U g a1,λi hi=>?_⟩;obtain⟨o,A⟩:=Tu hi;obtain⟨dn,cs,res,H,held,als,ρ,d,a7,a8,hg⟩:=g.go;have a9:i∈l:=(hc i (Ff A.at')).resolve_left A.un;have b0:i<listed.size:=by rw[d.size];exact Ff A.at'
  have hK:∀Z w',Qv B G n n0 P callf ops fr0 ρ0 w0 D (listed.setIfInBounds i true) Z w'->wpAny P .any ops (C5 B G n n0 ρ0 w0 D) f (listed.setIfInBounds i true) Z w':=by
   intro Z w' g';refine ih _ Z w' ⟨l.erase i,a4.erase i,by grind,λj hj=>?_⟩ g';grind[Dn.set]
  grind[c2r,c2q,Cj]
theorem c2t{id:Nat}(a1:A4 B G P callf)(hG:G=P.globals.size)(s:St B G n n0 ρ0 w0 ρ fr0 H a w)(hd:Aw n (.region id ops true)=true)
  (D:drawn P callf ops fr0 H≠.bad):(Code.region id ops true).wp P (C5 B G n n0 ρ0 w0 (drawn P callf ops fr0 H)) a w:=by
 have A:∃a0,drawn P callf ops fr0 H=a0:=⟨_,rfl⟩;obtain⟨a0,A⟩:=A;rw[A] at D |-;unfold drawn at A;split at A
 .rename_i hp;rw[W0] at hp;obtain⟨U,a2⟩:=hp;unfold Oi at U;simp only[W0] at U;obtain⟨⟨_,a3⟩,a4⟩:=U;have a5:∀(j:Nat)(o:Oper),ops[j]?=some o->B6 n o=true:=λj o hj=>W7.1 hd o (e5w (B7.2 hj));refine wp_region_any a2 ?_;have Z:∀i,¬Dn (Array.replicate ops.size false) i:=by
   (simp_all[Dn];grind)
  refine c2s (fr0:=fr0) (ρ0:=ρ0) (w0:=w0) a1 hG a3 a4 a5 D ops.size _ a _ ⟨List.range ops.size,List.nodup_range,by simp,λi hi=>.inr (by grind)⟩ ?_;rw[a8u] at A;obtain⟨a6,H2,a7,a8,h1,f⟩:=stage_sound (B:=B) (Es (ancs [] ops.toList) (chainOf ops.toList 0) 0 ops.toList 0) e2 H [] [] (by
   grind[Ii,Lu]) A D
  have hs:Sim B G ρ H { w with drawn:=w.drawn+1 }:=s.sim.heap rfl;have hb:Below B w { w with drawn:=w.drawn+1 }:=⟨rfl,rfl,rfl,Wy _,λ_ _=>rfl⟩;refine⟨[],chainOf ops.toList 0,a6,H2,a7,a8,ρ,?_,(λ_ h=>(by cases h)),?_,h1⟩;refine⟨s.ext.trans ⟨λ_ _=>rfl,KD.heap rfl,hb⟩ (Wy _),f.ph.sim hs,W6 s.le f.ph.le,by simp,s.frel.size,s.frel.dfr,s.frel.only,rfl,λc _=>Z c,λi _ h=>absurd h (Z i),
   λt _ v hv=>s.frel.slot t v hv (s.frel.only t v hv),λj _ h=>absurd h (Z j),?_,f.ok n0 s.le (Ef.nil _ _),?_⟩
  .intro i o _ ho hc a9;exact f.known i (Ii.2 ⟨W3 _,o,by grind,hc,by grind⟩) o ho
  .intro x hx _;rcases f.new x hx with h|h
   .cases h
   .exact hs.fresh _ h
  .intro x hx;rcases f.new x hx with h|h
   .cases h
   .exact W6 hs.names h
 grind
end
section
variable {B G:Nat}{P:Program}{n n0:Nat}{ρ0 ρ:Rn}{w0 w:World}{fr:Fr}{H:Mem}{a:Act}
variable {callf:CallF}{loopf:LoopF}
def LW(P:Program)(c:Code)(Q:Exit->Act->World->Prop)(a:Act)(w:World):Prop:=
 ∀(b:Frame)(k:List Item)(cs:List Frame),∃e a' w',Q e a' w'/\Arrives P (lone (b.at a (.code c::.inLoop c::k)) cs w) b k cs e a' w'
theorem LW.wp{c:Code}{Q:Exit->Act->World->Prop}(h:LW P c Q a w):(Code.loop c).wp P Q a w:=
 λb k cs=>let ⟨e,f,A,q,r⟩:=h b k cs;⟨e,f,A,q,.of_steps (.one step_loop) r⟩
theorem LW.unroll{c:Code}{Q:Exit->Act->World->Prop}(h:c.wp P (Exit.then (LW P c Q) Q) a w):LW P c Q a w:=by
 intro b k cs;obtain⟨e,D,U,f,A⟩:=h b (.inLoop c::k) cs
 cases e with
 | normal =>
  obtain⟨Z,a0,a1,a2,a3⟩:=f b k cs;exact⟨Z,a0,a1,a2,.of_steps (Steps.trans A (.one step_inLoop)) a3⟩
 | exit id=>exact⟨_,D,U,f,.pass (x:=.inLoop c) rfl (λ_ _=>.inl (by simp)) A⟩
 | goto l=>exact⟨_,D,U,f,.pass (x:=.inLoop c) rfl (λ_ _=>.inl (by simp)) A⟩
 | ret=>exact⟨_,D,U,f,.pass (x:=.inLoop c) rfl (λ_ _=>.inl (by simp)) A⟩
 | panic ch=>exact⟨_,D,U,f,.pass (x:=.inLoop c) rfl (λ_ _=>.inl (by simp)) A⟩
 | outgrown=>exact⟨_,D,U,f,.pass (x:=.inLoop c) rfl (λ_ _=>.inl (by simp)) A⟩
abbrev Yx:=@LW.unroll
def Good(B G:Nat)(P:Program)(callf:CallF)(loopf:LoopF)(c:Code):Prop:=
 ∀(n n0:Nat)(ρ0:Rn)(w0:World)(ρ:Rn)(fr:Fr) (H:Mem) (a:Act) (w:World),Aw n c=true->St B G n n0 ρ0 w0 ρ fr H a w->Cn P callf loopf c fr H≠.bad ->
  c.wp P (C5 B G n n0 ρ0 w0 (Cn P callf loopf c fr H)) a w
def Ij(B G:Nat)(P:Program)(loopf:LoopF):Prop:=
 ∀(b:Code)(n n0:Nat)(ρ0:Rn)(w0:World)(ρ:Rn) (fr:Fr) (H:Mem) (a:Act) (w:World),Aw n b=true->St B G n n0 ρ0 w0 ρ fr H a w->loopf (.loop b) fr H≠.bad ->
  LW P b (C5 B G n n0 ρ0 w0 (loopf (.loop b) fr H)) a w
theorem Tw{r:Out}{k:Fr->Mem->Out}{K:Act->World->Prop}(U:Ld r k≠.bad)
  (Z:∀(f:Fr)(H' : Mem)(ρ' : Rn)(A:Act)(D:World),r=.norm f H'->St B G n n0 ρ0 w0 ρ' f H' A D->k f H'≠.bad->K A D) :
  ∀e A D,C5 B G n n0 ρ0 w0 r e A D->Exit.then K (C5 B G n n0 ρ0 w0 (Ld r k)) e A D:=by
 intro e A D h
 cases r with
 | norm f H' =>
  cases e with
  | normal=>obtain⟨ρ',s'⟩:=h;exact Z f H' ρ' A D rfl s' U
  | _=>exact h.elim
 | exit id f H'=>cases e<;>first|exact h.elim|exact h
 | ret f H'=>cases e<;>first|exact h.elim|exact h
 | panic v f H'=>cases e<;>first|exact h.elim|exact h
 | bad=>exact absurd rfl U
theorem c2u{b:Code}(D:Ij B G P loopf)(U:Good B G P callf loopf b)(n n0:Nat)(ρ0:Rn)(w0:World)(ρ:Rn)(fr:Fr)(H:Mem)(a:Act)(w:World)
  (A:Aw n b=true) (s:St B G n n0 ρ0 w0 ρ fr H a w) (f:Cn P callf loopf (.loop b) fr H≠.bad):LW P b (C5 B G n n0 ρ0 w0 (Cn P callf loopf (.loop b) fr H)) a w:=by
 have Z:Cn P callf loopf (.loop b) fr H=Ld (Cn P callf loopf b fr H) (loopf (.loop b)):=rfl;rw[Z] at f |-;have hr:Cn P callf loopf b fr H≠.bad:=λh=>f (by rw[h];rfl);refine Yx (Code.wp_mono (Tw f λa0 H' ρ' a' w' a1 s' hk=>?_) (U n n0 ρ0 w0 ρ fr H a w A s hr));rw[a1];exact D b n n0 ρ0 w0 ρ' a0 H' a' w' A s' hk
theorem c2v(hc:A4 B G P callf)(hl:Ij B G P loopf)(hG:G=P.globals.size):∀c:Code,Good B G P callf loopf c:=by
 intro c
 induction c with
 | skip=>intro n n0 ρ0 w0 ρ fr H a w D s A;exact wp_skip ⟨ρ,s⟩
 | region id ops a4 =>
  intro n n0 ρ0 w0 ρ fr H a w D s A
  cases a4 with
  | false =>
   refine wp_region_list (a0z hc hG A ops.toList fr H ρ a w ?_ s rfl);exact λo ho=>W7.1 D o ho
  | true=>exact c2t hc hG s D A
 | seq x y a0 a1 =>
  intro n n0 ρ0 w0 ρ fr H a w D s A;have U:Cn P callf loopf (.seq x y) fr H=Ld (Cn P callf loopf x fr H) (Cn P callf loopf y):=rfl;rw[U] at A |-;simp only[Aw,W0] at D;have hr:Cn P callf loopf x fr H≠.bad:=λh=>A (by rw[h];rfl);refine wp_seq (Code.wp_mono (Tw A λZ H' ρ' a' w' a5 s' hk=>?_) (a0 n n0 ρ0 w0 ρ fr H a w D.1 s hr));rw[a5];exact a1 n n0 ρ0 w0 ρ' Z H' a' w' D.2 s' hk
 | cond a3 x y a0 a1 =>
  intro n n0 ρ0 w0 ρ fr H a w D s A;have U:Cn P callf loopf (.cond a3 x y) fr H=Qg (fr.ev a3) (Cn P callf loopf x) (Cn P callf loopf y) fr H:=rfl;rw[U] at A |-;simp only[Aw,W0] at D;unfold Qg at A |-;split at A
  .rename_i a2;have:=s.ev _ _ a2;exact wp_cond_true this (a0 n n0 ρ0 w0 ρ fr H a w D.1 s A)
  .rename_i a2;have:=s.ev _ _ a2;exact wp_cond_false this (a1 n n0 ρ0 w0 ρ fr H a w D.2 s A)
  grind
 | block id b ih =>
  intro n n0 ρ0 w0 ρ fr H a w D s A;have U:Cn P callf loopf (.block id b) fr H=Qh id (Cn P callf loopf b fr H):=rfl;rw[U] at A |-;have hr:Cn P callf loopf b fr H≠.bad:=λh=>A (by rw[h];rfl);refine wp_block (Code.wp_mono ?_ (ih n n0 ρ0 w0 ρ fr H a w D s hr));intro e a' w' h;generalize Cn P callf loopf b fr H=r at h A |-
  cases r with
  | norm Z H'=>cases e<;>first|exact h.elim|exact h
  | exit a8 Z H' =>
   cases e with
   | exit a6 =>
    obtain⟨rfl,ρ',s'⟩:=h;unfold Qh;dsimp only;split
    .rename_i hb;have:=Xd hb;subst this;simp only[Exit.inBlock,if_true];exact⟨ρ',s'⟩
    .rename_i hb;have a7:a6≠id:=by intro h0;simp_all
     simp only[Exit.inBlock,a7,if_false];exact⟨rfl,ρ',s'⟩
   | _=>exact h.elim
  | ret Z H'=>cases e<;>first|exact h.elim|exact h
  | panic v Z H'=>cases e<;>first|exact h.elim|exact h
  | bad=>exact absurd rfl A
 | loop b ih =>
  intro n n0 ρ0 w0 ρ fr H a w D s A;exact(c2u hl ih n n0 ρ0 w0 ρ fr H a w D s A).wp
 | rangeFunc f ps x y a0 a1=>intro n n0 ρ0 w0 ρ fr H a w D s A;exact absurd rfl A
 | exit id=>intro n n0 ρ0 w0 ρ fr H a w D s A;exact wp_exit ⟨rfl,ρ,s⟩
 | scope b ih=>intro n n0 ρ0 w0 ρ fr H a w D s A;exact absurd rfl A
 | label l=>intro n n0 ρ0 w0 ρ fr H a w D s A;exact wp_label ⟨ρ,s⟩
 | goto l=>intro n n0 ρ0 w0 ρ fr H a w D s A;exact absurd rfl A
 | ret=>intro n n0 ρ0 w0 ρ fr H a w D s A;exact wp_ret ⟨ρ,s⟩
 | refuse a9=>intro n n0 ρ0 w0 ρ fr H a w D s A;exact absurd rfl A
noncomputable def putArgs:List AV->Fr->Nat->Fr
 | [],fr,_=>fr
 | v::l,fr,i=>putArgs l (fr.upd i v) (i+1)
theorem a1d{h:Type}(l:List AV)(fr:Fr)(K:Fr->h):Qk l fr K=K (putArgs l fr 0):=by
 have:∀(fr:Fr)(i:Nat),List.rec (motive:=λ_=>Fr->Nat->h) (λfr _=>K fr) (λv _ f fr i=>fr.set i v λfr=>f fr (Nat.succ i)) l fr i=K (putArgs l fr i):=by
  induction l with
  | nil=>intro fr i;rfl
  | cons v l f=>intro fr i;show fr.set i v _=_;rw[Fr.set_eq,f];rfl
 exact this fr 0
theorem putArgs_get:∀(l:List AV)(fr:Fr)(i t:Nat)(v:AV),(putArgs l fr i).get t=some v->(i<=t/\l[t-i]?=some v)\/fr.get t=some v
 | [],fr,i,t,v,h=>.inr h
 | x::l,fr,i,t,v,h=>by
  rcases putArgs_get l (fr.upd i x) (i+1) t v h with⟨f,A⟩|f
  .grind
  .rcases Yg f with⟨rfl,rfl⟩|⟨_,A⟩
   all_goals grind
theorem putArgs_defers:∀(l:List AV)(fr:Fr)(i:Nat),(putArgs l fr i).defers=fr.defers
 | [],fr,i=>rfl
 | x::l,fr,i=>by rw[putArgs,putArgs_defers l,Yk]
theorem a1e{args:List AV}{us:Array Value}(f:VRs ρ args us.toList)(U:args.length<=n):
  Dj n ρ (putArgs args (Ck n) 0) { tmps:=us++Array.replicate (n-us.size) undef,defers:=[] }:=by
 have Z:us.size=args.length:=by have:=f.length;grind
 have A:∀t v,(putArgs args (Ck n) 0).get t=some v->args[t]?=some v:=by
  intro t v h;rcases putArgs_get _ _ _ _ _ h with⟨_,D⟩|D
  all_goals grind[a7m]
 refine⟨?_,?_,by grind,?_⟩
 .intro t v h _;obtain⟨u,hu,a0⟩:=f.get t (A t v h)
  (simp_all;grind)
 .rw[putArgs_defers,a7n];rfl
 grind
def a1f(tmps:Array Value)(r:ResultVar):Sem Value:=match r with
 | .tmp t=>pure (tmps.getD t undef)
 | .cell x t=>do loadVar t (<- asAddr (tmps.getD x undef))
theorem c2w(fn:Func)(tmps:Array Value):results fn tmps=(do
  let vs <- fn.results.mapM (a1f tmps)
  pure (if h:vs.size=1 then vs[0] else .tuple vs)):=rfl
theorem c2x{r:ResultVar}{v:AV}(s:St B G n n0 ρ0 w0 ρ fr H a w)(hG:G=P.globals.size)(h:I9 P fr H r=some v):
  ∃u,(a1f a.tmps r).run P w=.ok u w/\VR ρ v u:=by
 cases r with
 | tmp t =>
  have f:fr.get t=some v:=h;exact⟨_,rfl,s.frel.slot t v f (s.frel.only t v f)⟩
 | cell x t =>
  have f:(match fr.get x with|some p=>load P H t p|none=>none)=some v:=h;split at f
  .rename_i p D;have A:=s.frel.slot x p D (s.frel.only x p D);obtain⟨r,hr,Z⟩:=a7q s.sim hG f A;refine⟨r,?_,Z⟩;have a0:∃U,a.tmps.getD x undef=.pointer (some U):=by
    unfold load at f;split at f
    .obtain⟨b,o,k,_,hu⟩:=A;grind
    .exact⟨_,A⟩
    grind
   obtain⟨U,a1⟩:=a0;show (do loadVar t (<- asAddr (a.tmps.getD x undef)):Sem Value).run P w=_;grind[asAddr,Instr.sureAddr,Instr.loadAt]
  grind
theorem a9f(s:St B G n n0 ρ0 w0 ρ fr H a w)(hG:G=P.globals.size):∀{l:List ResultVar}{vs:List AV},Kc P fr H l=some vs ->
  ∃us:List Value,(l.mapM (a1f a.tmps)).run P w=.ok us w/\VRs ρ vs us
 | [],vs,h=>by cases h;exact⟨[],rfl,rfl⟩
 | r::l,vs,h=>by
  simp only[Kc] at h;split at h
  .rename_i v f;split at h
   .rename_i ws A;cases h;obtain⟨u,Z,D⟩:=c2x s hG f;obtain⟨us,a0,U⟩:=a9f s hG A;refine⟨u::us,?_,_,_,rfl,D,U⟩;simp_all
   grind
  grind
theorem Lw{fn:Func}{v:AV}(s:St B G n n0 ρ0 w0 ρ fr H a w)(hG:G=P.globals.size)(h:Fa P fn fr H=some v):∃u,(results fn a.tmps).run P w=.ok u w/\VR ρ v u:=by
 unfold Fa at h;have base:∀{vs:List AV},Kc P fr H fn.results.toList=some vs->∃us:List Value,VRs ρ vs us/\(results fn a.tmps).run P w=.ok (if h:us.toArray.size=1 then us.toArray[0] else .tuple us.toArray) w:=by
  intro vs f;obtain⟨us,Z,A⟩:=a9f s hG f
  (simp_all[Array.mapM_eq_mapM_toList,c2w];grind)
 split at h
 .rename_i v' f;cases h;obtain⟨us,A,D⟩:=base f;obtain⟨u,hu,a0⟩:=A.one;grind
 .rename_i vs a1 f;cases h;obtain⟨us,A,D⟩:=base f;have a2:=A.length;have U:¬(us.toArray.size=1):=by
   intro U
   cases vs with
   | nil=>grind
   | cons x l=>simp_all
  rw[dif_neg U] at D;exact⟨_,D,_,rfl,by grind⟩
 grind
def MR(ρ:Rn):Mode->FrameMode->Prop
 | .returning,m=>m=.returning
 | .panicking v,m=>∃u,m=.panicking [{ v:=u,recovered:=false }]/\VR ρ v u
 | .recovered v,m=>∃u,m=.panicking [{ v:=u,recovered:=true }]/\VR ρ v u
theorem MR.mono{ρ ρ': Rn}(h:Sub ρ ρ'){u:Mode}{m:FrameMode}(k:MR ρ u m):MR ρ' u m:=by
 cases u with
 | returning=>exact k
 | panicking v=>obtain⟨x,e,r⟩:=k;exact⟨x,e,r.mono h⟩
 | recovered v=>obtain⟨x,e,r⟩:=k;exact⟨x,e,r.mono h⟩
def Kf(B G n n0:Nat)(ρ0:Rn)(w0:World)(c₀:Frame)(cs:List Frame)(out:Kb):Exit->Act->List Frame->World->Prop:=λe a' cs' w' =>
 match out,e with
 | .norm fr u H,.normal=>∃ρ' m,cs' = { c₀ with mode:=m }::cs/\MR ρ' u m/\St B G n n0 ρ0 w0 ρ' fr H a' w'
 | .ret fr u H,.ret=>∃ρ' m,cs' = { c₀ with mode:=m }::cs/\MR ρ' u m/\St B G n n0 ρ0 w0 ρ' fr H a' w'
 | _,_=>False
theorem a9g(hc:A4 B G P callf)(hl:Ij B G P loopf)(hG:G=P.globals.size)(c:Code){c₀:Frame}{cs:List Frame}{u:Mode}{m:FrameMode}
  (hd:Aw n c=true) (s:St B G n n0 ρ0 w0 ρ fr H a w) (hm:MR ρ u m) (hne:Tc u (Cn P callf loopf c fr H)≠.bad) :
  c.wpS P (Kf B G n n0 ρ0 w0 c₀ cs (Tc u (Cn P callf loopf c fr H))) a ({ c₀ with mode:=m }::cs) w:=by
 have hr:Cn P callf loopf c fr H≠.bad:=λh=>hne (by rw[h];rfl);have s1:St B G n H.next ρ w ρ fr H a w:=⟨X6 _ _ _ _,s.sim,s.frel,Wy _⟩;have key:=c2v hc hl hG c n H.next ρ w ρ fr H a w hd s1 hr;refine wpS_of_wp (Code.wp_mono ?_ key);intro e a' w' h;have up:∀{ρ' : Rn}{fr' : Fr}{H' : Mem},St B G n H.next ρ w ρ' fr' H' a' w'->MR ρ' u m/\St B G n n0 ρ0 w0 ρ' fr' H' a' w':=λ{ρ' fr' H'} s' =>
  ⟨hm.mono (s'.ext.sub s.sim),s.ext.trans s'.ext s.le,s'.sim,s'.frel,W6 s.le s'.le⟩
 generalize Cn P callf loopf c fr H=r at h hne |-
 cases r with
 | norm fr' H'=>cases e<;>first|exact h.elim|(obtain⟨ρ',s'⟩:=h;exact⟨ρ',m,rfl,(up s').1,(up s').2⟩)
 | ret fr' H'=>cases e<;>first|exact h.elim|(obtain⟨ρ',s'⟩:=h;exact⟨ρ',m,rfl,(up s').1,(up s').2⟩)
 | exit id fr' H'=>exact absurd rfl hne
 | panic v fr' H'=>exact absurd rfl hne
 | bad=>assumption
theorem a9h{ops:Array Oper}(hc:A4 B G P callf)(hG:G=P.globals.size){c₀:Frame}{cs:List Frame}{out:Kb}(hne:out≠.bad):∀(l:List Oper)(k:Nat)(fr:Fr)(u:Mode)(H:Mem) (ρ:Rn) (m:FrameMode) (a:Act) (w:World),
  (∀j,l[j]?=ops[k+j]?)->(∀o∈l,B6 n o=true)->St B G n n0 ρ0 w0 ρ fr H a w->MR ρ u m->M7 P callf ops l fr u H=out ->
  wpOpsS P ops (Kf B G n n0 ρ0 w0 c₀ cs out) (List.range' k l.length) a ({ c₀ with mode:=m }::cs) w
 | [],k,fr,u,H,ρ,m,a,w,_,_,s,hm,h=>by
  have:Kb.norm fr u H=out:=h;subst this;exact⟨ρ,m,rfl,hm,s⟩
 | o::l,k,fr,u,H,ρ,m,a,w,hi,hd,s,hm,h=>by
  have h0:ops[k]?=some o:=by simpa using (hi 0).symm
  have hdo:=hd o (by simp);have hdl:=Fe hdo;have hk:∀(fr' : Fr)(u' : Mode)(H' : Mem)(ρ' : Rn)(m' : FrameMode) (a' : Act) (w' : World),St B G n n0 ρ0 w0 ρ' fr' H' a' w'->MR ρ' u' m'->M7 P callf ops l fr' u' H'=out ->
    wpOpsS P ops (Kf B G n n0 ρ0 w0 c₀ cs out) (List.range' (k+1) l.length) a' ({ c₀ with mode:=m' }::cs) w' :=
   λfr' u' H' ρ' m' a' w' s' hm' hk=>a9h hc hG hne l (k+1) fr' u' H' ρ' m' a' w' (λj=>by have:=hi (j+1);grind) (λo ho=>hd o (by grind)) s' hm' hk
  simp only[Xi,List.range'_succ,wpOpsS,h0];simp only[M7] at h;have run:Region.wanted o (yielded ops a.tmps)=true->a0f callf o fr u (M7 P callf ops l) H (opV P H fr.ev o)=out ->
    (if Region.wanted o (yielded ops a.tmps) then
     match (execOp a.eval o).run P w with
     | .ok .recover w' =>
      match recoverD ({ c₀ with mode:=m }::cs) with
      | some (v,cs')=>wpOpsS P ops (Kf B G n n0 ρ0 w0 c₀ cs out) (List.range' (k+1) l.length) (a.put o.dst v) cs' w'
      | none=>wpOpsS P ops (Kf B G n n0 ρ0 w0 c₀ cs out) (List.range' (k+1) l.length) (a.put o.dst .nilIface) ({ c₀ with mode:=m }::cs) w'
     | r=>o.upon P a (λa' w'=>wpOpsS P ops (Kf B G n n0 ρ0 w0 c₀ cs out) (List.range' (k+1) l.length) a' ({ c₀ with mode:=m }::cs) w') (λe a' w'=>Kf B G n n0 ρ0 w0 c₀ cs out e a' ({ c₀ with mode:=m }::cs) w') r
    else wpOpsS P ops (Kf B G n n0 ρ0 w0 c₀ cs out) (List.range' (k+1) l.length) (a.put o.dst undef) ({ c₀ with mode:=m }::cs) w):=by
   intro hw hout;rw[if_pos hw];have hrs:=Ig (o:=o) s.sim s.ev hG;unfold a0f at hout
   cases hr:opV P H fr.ev o with
   | val v H' =>
    rw[hr] at hrs hout;obtain⟨ρ',x,w',h1,h2,h3,h4,h5⟩:=hrs;rw[h1];dsimp only at hout;rw[X3] at hout;exact hk _ _ _ _ _ _ _ (s.step h2 h3 h4 h5 hdl) (hm.mono (h2.sub s.sim)) hout
   | skip H' =>
    rw[hr] at hrs hout;obtain⟨ρ',w',h1,h2,h3,h5⟩:=hrs;rw[h1];dsimp only at hout;rw[X3] at hout;exact hk _ _ _ _ _ _ _ (s.step h2 h3 (He _) h5 hdl) (hm.mono (h2.sub s.sim)) hout
   | enter f args H' =>
    rw[hr] at hrs hout;obtain⟨us,h1,h2,rfl⟩:=hrs;rw[h1];dsimp only at hout
    cases hcall:callf f args H' with
    | bad=>grind
    | panic v H2=>grind
    | ret v H2 =>
     rw[hcall] at hout;dsimp only at hout;rw[X3] at hout;have:=hc f args H' (by grind) ρ us w s.sim h2;rw[hcall] at this;refine this.mono λe w' he=>?_
     cases e with
     | returned x =>
      obtain⟨ρ',g1,g2,g3,g4⟩:=he;exact hk _ _ _ _ _ _ _ (s.step g1 g2 g3 g4 hdl) (hm.mono (g1.sub s.sim)) hout
     | panicked chain=>exact he.elim
     | outgrown=>exact he.elim
   | recover =>
    rw[hr] at hrs hout;have h1:(execOp a.eval o).run P w=.ok .recover w:=hrs;rw[h1];dsimp only at hout |-
    cases u with
    | returning =>
     cases hm;dsimp only[recoverD];dsimp only at hout;rw[X3] at hout;exact hk _ .returning H ρ .returning _ _ ⟨s.ext,s.sim,s.frel.put hdl (show VR ρ (.lit .nilIface) .nilIface from rfl),s.le⟩ rfl hout
    | panicking v =>
     obtain⟨x,rfl,hx⟩:=hm;dsimp only[recoverD];dsimp only at hout;rw[X3] at hout;exact hk _ (.recovered v) H ρ (.panicking [{ v:=x,recovered:=true }]) _ _ ⟨s.ext,s.sim,s.frel.put hdl hx,s.le⟩ (show MR ρ (.recovered v) _ from ⟨x,rfl,hx⟩) hout
    | recovered v =>
     obtain⟨x,rfl,hx⟩:=hm;dsimp only[recoverD];dsimp only at hout;rw[X3] at hout;exact hk _ (.recovered v) H ρ (.panicking [{ v:=x,recovered:=true }]) _ _ ⟨s.ext,s.sim,s.frel.put hdl (show VR ρ (.lit .nilIface) .nilIface from rfl),s.le⟩ (show MR ρ (.recovered v) _ from ⟨x,rfl,hx⟩) hout
   | dfr fn cap args H'=>grind
   | panic v H'=>grind
   | bad=>grind
  cases hg:o.guard with
  | none =>
   grind[Region.wanted]
  | some g =>
   rw[hg] at h;dsimp only at h
   cases hw:Lb ops fr g with
   | none=>grind
   | some b =>
    rw[hw] at h;have hwb:=Tr s hg hw
    cases b with
    | true=>grind
    | false =>
     rw[if_neg (by grind)];dsimp only at h;rw[X3] at h;exact hk _ _ _ _ _ _ _ ⟨s.ext,s.sim,s.frel.put hdl (He _),s.le⟩ hm h
theorem c2y(hc:A4 B G P callf)(hl:Ij B G P loopf)(hG:G=P.globals.size){c₀:Frame}{cs:List Frame}:∀(c:Code)(ρ:Rn)(fr:Fr)(u:Mode)(H:Mem) (m:FrameMode) (a:Act) (w:World),
  Aw n c=true->St B G n n0 ρ0 w0 ρ fr H a w->MR ρ u m->G0 P callf loopf c fr u H≠.bad ->
  c.wpS P (Kf B G n n0 ρ0 w0 c₀ cs (G0 P callf loopf c fr u H)) a ({ c₀ with mode:=m }::cs) w:=by
 intro c
 induction c with
 | seq x y ihx ihy =>
  intro ρ fr u H m a w hd s hm hne;simp only[Aw,W0] at hd;simp only[G0] at hne |-;have hr:G0 P callf loopf x fr u H≠.bad:=λh=>hne (by rw[h]);refine wpS_seq ?_;have key:=ihx ρ fr u H m a w hd.1 s hm hr;intro b k hb hro;obtain⟨e,a',cs',w',hq,harr⟩:=key b k hb hro;refine⟨e,a',cs',w',?_,harr⟩;generalize hgen:G0 P callf loopf x fr u H=r at hq hne |-
  cases r with
  | norm fr' u' H' =>
   cases e with
   | normal =>
    obtain⟨ρ',m',rfl,hm',s'⟩:=hq;exact ihy ρ' fr' u' H' m' a' w' hd.2 s' hm' hne
   | _=>exact hq.elim
  | ret fr' u' H'=>cases e<;>first|exact hq.elim|exact hq
  | bad=>grind
 | cond cnd x y ihx ihy =>
  intro ρ fr u H m a w hd s hm hne;simp only[Aw,W0] at hd;simp only[G0] at hne |-;split at hne
  .rename_i hev;have:=s.ev _ _ hev;exact wpS_cond (t:=true) this (ihx ρ fr u H m a w hd.1 s hm hne)
  .rename_i hev;have:=s.ev _ _ hev;exact wpS_cond (t:=false) this (ihy ρ fr u H m a w hd.2 s hm hne)
  grind
 | region id ops draw =>
  intro ρ fr u H m a w hd s hm hne
  cases draw with
  | true=>exact a9g hc hl hG (.region id ops true) hd s hm hne
  | false =>
   refine wpS_region ?_;have:=a9h (c₀:=c₀) (cs:=cs) hc hG hne ops.toList 0 fr u H ρ m a w (λj=>by simp) (λo ho=>W7.1 hd o ho) s hm rfl;grind[List.range_eq_range']
 | _=>intro ρ fr u H m a w hd s hm hne;exact a9g hc hl hG _ hd s hm hne
theorem Lx{fn:Func}(hc:A4 B G P callf)(hl:Ij B G P loopf)(hG:G=P.globals.size){out:Ay}(hne:out≠.bad):∀(l:List Dfr)(ds:List Deferred)(u:Mode)(H:Mem)(ρ:Rn) (m:FrameMode) (w:World),
  DR ρ l ds->St B G n n0 ρ0 w0 ρ fr H a w->MR ρ u m->Co P callf loopf fn fr l u H=out->Leaves P fn a.tmps (Jd B G n0 ρ0 w0 out) ds m w
 | [],ds,u,H,ρ,m,w,hd,s,hm,h=>by
  cases hd
  cases u with
  | returning =>
   cases hm;simp only[Co] at h;split at h
   .rename_i v hv;subst h;obtain⟨x,hx,hvx⟩:=Lw s hG hv;exact⟨x,hx,ρ,s.ext,s.sim,hvx,s.le⟩
   grind
  | panicking v =>
   obtain⟨x,rfl,hx⟩:=hm;simp only[Co] at h;subst h;exact⟨ρ,x,rfl,hx,s.ext,s.sim,s.le⟩
  | recovered v=>grind[Co]
 | (fx,cap,args)::l,ds,u,H,ρ,m,w,hd,s,hm,h=>by
  obtain⟨cs,as,ds',rfl,hcap,hargs,hd'⟩:=hd
  cases fx with
  | func f =>
   simp only[Co] at h;unfold a7g at h;split at h
   .rename_i g hg;split at h
    .rename_i c hbody hhas;split at h
     .rename_i hdst hlen;rw[a1d] at h;have hrun:m≠.run:=by
       cases u with
       | returning=>cases hm;simp
       | panicking v=>obtain⟨x,rfl,_⟩:=hm;simp
       | recovered v=>obtain⟨x,rfl,_⟩:=hm;simp
      have hva:VRs ρ (args++cap) (as++cs).toList:=by simpa using hargs.append hcap
      refine⟨hrun,.func f,cs,f,as++cs,rfl,?_,?_⟩
      .show (callFunc f (as++cs)).run P w=_;grind[Tm]
      .refine callsD_of_wpS hg hbody λc₀ cs0 hmode=>?_;have hfe:=a1e (n:=g.ntmps) hva (by simp_all[C3]);have s1:St B G g.ntmps H.next ρ w ρ (putArgs (args++cap) (Ck g.ntmps) 0) H { tmps:=(as++cs)++Array.replicate (g.ntmps-(as++cs).size) undef,defers:=[] } w:=⟨X6 _ _ _ _,s.sim,hfe,Wy _⟩;have hr:G0 P callf loopf c (putArgs (args++cap) (Ck g.ntmps) 0) u H≠.bad:=λh0=>by
        rw[h0] at h;exact hne h.symm
       have hc0:({ c₀ with mode:=m }:Frame)=c₀:=by subst hmode;rfl
       have key:=c2y (c₀:=c₀) (cs:=cs0) hc hl hG c ρ _ u H m _ w hdst s1 hm hr;rw[hc0] at key;intro b k hb hro;obtain⟨e,a',cs',w',hq,harr⟩:=key b k hb hro;refine⟨e,a',cs',w',?_,harr⟩;have fin:∀{fr' : Fr}{u' : Mode}{H' : Mem}{ρ' : Rn}{m' : FrameMode},cs' = { c₀ with mode:=m' }::cs0->MR ρ' u' m'->St B G g.ntmps H.next ρ w ρ' fr' H' a' w' ->
         (match fr'.defers,Fa P g fr' H',u' with
          | [],some _,.recovered _=>Co P callf loopf fn fr l .returning H'
          | [],some _,.returning=>Co P callf loopf fn fr l .returning H'
          | [],some _,.panicking v=>Co P callf loopf fn fr l (.panicking v) H'
          | _,_,_=>Ay.bad)=out ->
         a'.defers=[]/\∃u2,cs' = { c₀ with mode:=u2 }::cs0/\∃v,(results g a'.tmps).run P w'=.ok v w'/\Leaves P fn a.tmps (Jd B G n0 ρ0 w0 out) ds' (settle u2) w':=by
        intro fr' u' H' ρ' m' hcs hm' s' hmatch;have sub:=s'.ext.sub s.sim;have hs2:St B G n n0 ρ0 w0 ρ' fr H' a w':=⟨s.ext.trans s'.ext s.le,s'.sim,s.frel.mono sub,W6 s.le s'.le⟩;have hdr:=hd'.mono sub;have hdf:fr'.defers=[]->a'.defers=[]:=λh0=>by have:=s'.frel.dfr;rw[h0] at this;exact this
        split at hmatch
        .rename_i v x h1 h2;obtain⟨y,hy,_⟩:=Lw s' hG h2;obtain⟨z,rfl,hz⟩:=hm';exact⟨hdf h1,_,hcs,y,hy,Lx hc hl hG hne l ds' .returning H' ρ' .returning w' hdr hs2 rfl hmatch⟩
        .rename_i v h1 h2;obtain⟨y,hy,_⟩:=Lw s' hG h2;cases hm';exact⟨hdf h1,_,hcs,y,hy,Lx hc hl hG hne l ds' .returning H' ρ' .returning w' hdr hs2 rfl hmatch⟩
        .rename_i v x h1 h2;obtain⟨y,hy,_⟩:=Lw s' hG h2;obtain⟨z,rfl,hz⟩:=hm';exact⟨hdf h1,_,hcs,y,hy,Lx hc hl hG hne l ds' (.panicking _) H' ρ' (.panicking [{ v:=z,recovered:=false }]) w' hdr hs2 ⟨z,rfl,hz⟩ hmatch⟩
        grind
       generalize G0 P callf loopf c (putArgs (args++cap) (Ck g.ntmps) 0) u H=r at hq h
       cases r with
       | norm fr' u' H' =>
        cases e with
        | normal=>obtain⟨ρ',m',hcs,hm',s'⟩:=hq;exact fin hcs hm' s' h
        | _=>exact hq.elim
       | ret fr' u' H' =>
        cases e with
        | ret=>obtain⟨ρ',m',hcs,hm',s'⟩:=hq;exact fin hcs hm' s' h
        | _=>exact hq.elim
       | bad=>exact hq.elim
     grind
    grind
   grind
  | _=>grind[Co]
end
section
@[reducible] def star:String:=String.ofList [Char.ofNat 42]
def a1g(P:Program)(name:String):Option TypeId:=
 match (List.range P.types.size).find? λu=>decide (P.typeName? 3 u=some name) with
 | some tp=>match decide (name=star++String.ofList name.toList.tail) &&
   ((List.range P.types.size).all λu=>P.typeName? 3 u != some (star++String.ofList name.toList.tail)||u==tp) &&
   ((List.range P.types.size).all λe=>P.typeName? 2 e != some (String.ofList name.toList.tail)||(match (P.info? e).map (·.desc) with|some (TypeDesc.named _ _)=>true|_=>false)) &&
   decide ((String.ofList name.toList.tail).toList.head?≠some (Char.ofNat 42)) with
  | true=>some tp
  | false=>none
 | none=>none
noncomputable def Tx(a:List AV)(m:Mem)(v:Nat->AV):Option (List AV×Mem):=
 match a with
 | []=>none
 | _=>some ([v m.next],m.add (.cells a false 0))
noncomputable def mkL{α:Type}(f:α->Mem->Option (List AV×Mem))(sz:Nat):List α->Mem->Option (List AV×Mem)
 | [],m=>some ([],m)
 | d::ds,m=>match f d m with
  | some (a,m)=>match mkL f sz ds m with
   | some (b,m)=>match Nat.beq a.length sz with|true=>some (a++b,m)|false=>none
   | none=>none
  | none=>none
noncomputable def mkF{α:Type}(f:TypeId->α->Mem->Option (List AV×Mem))(sz:TypeId->Nat)(tot:Nat):Nat->List Field->List α->Mem->Option (List AV×Mem)
 | k,[],[],m=>match Nat.beq k tot with|true=>some ([],m)|false=>none
 | k,fd::fs,d::ds,m=>match f fd.type d m with
  | some (a,m)=>match mkF f sz tot (k+sz fd.type) fs ds m with
   | some (b,m)=>match Nat.beq a.length (sz fd.type)&&Nat.beq fd.offset k with|true=>some (a++b,m)|false=>none
   | none=>none
  | none=>none
 | _,_,_,_=>none
noncomputable def mkD{Hh:Type}(P:Program)(tok:Hh->Option FuncId):Nat->TypeId->DataW Hh->Mem->Option (List AV×Mem)
 | 0,_,_,_=>none
 | n+1,t,d,m=>match P.underlying t,d with
  | some .bool,.lit (.bool b)=>some ([.lit (.bool b)],m)
  | some (.int _),.lit (.int k x)=>some ([.lit (.int k x)],m)
  | some .string,.lit (.string bs)=>some ([.lit (.string ⟨bs.toArray⟩)],m)
  | some (.pointer _),.nil=>some ([.lit (.pointer none)],m)
  | some (.pointer e),.ptr d=>match mkD P tok n e d m with
   | some (a,m)=>Tx a m (λx=>.ptr x 0)
   | none=>none
  | some (.slice _),.nil=>some ([.nl],m)
  | some (.slice e),.slice es sp=>match es++sp with
   | []=>some ([.es],m)
   | _=>match mkL (mkD P tok n e) (P.cellsOf e) (es++sp) m with
    | some (a,m)=>Tx a m (λx=>.sl x 0 es.length (es.length+sp.length))
    | none=>none
  | some (.struct fs),.agg ds=>mkF (λt d m=>mkD P tok n t d m) P.cellsOf (P.cellsOf t) 0 fs.toList ds m
  | some (.array k e),.agg ds=>match Nat.beq ds.length k&&Nat.beq (k*P.cellsOf e) (P.cellsOf t) with
   | true=>mkL (mkD P tok n e) (P.cellsOf e) ds m
   | false=>none
  | some (.interface _),.nil=>some ([.lit .nilIface],m)
  | some (.interface _),.iface name d=>match a1g P name with
   | some u=>match P.underlying u with
    | some (.pointer _)=>match mkD P tok n u d m with
     | some ([a],m)=>some ([.iface u a],m)
     | _=>none
    | _=>none
   | none=>none
  | some (.func _ _ _),.nil=>some ([.lit .nilFunc],m)
  | some (.func _ _ _),.held h=>match tok h with
   | some f=>some ([.lit (.func (.func f) #[] #[])],m)
   | none=>none
  | some (.map _ _),.nil=>some ([.lit (.map none)],m)
  | _,_=>none
def Dk(H:Mem):Prop:=∀a x,H.get a=some x->x.own=false
variable {B G:Nat}{P:Program}{ρ ρ' : Rn}{H H' : Mem}{w:World}{Hh:Type}
theorem Sim.see(s:Sim B G ρ H w)(U:Dk H){x:Blk}{b o k:Nat}(a0:x.own=false)(hx:BR B (upd ρ H.next (b,o,k)) x b o k w):Sim B G (upd ρ H.next (b,o,k)) (H.add x) w:=by
 have Z:=Jb (x:=(b,o,k)) s.none;refine⟨?_,?_,?_,?_,e7l s.names,s.base⟩
 .intro a y hy;rcases X2 hy with⟨rfl,rfl⟩|⟨f,hy⟩
  .grind[Da]
  .rw[C4 _ _ f];rcases s.blk a y hy with hn|⟨b',o',k',D,hb⟩
   .grind
   .exact .inr ⟨b',o',k',D,hb.mono Z rfl⟩
 .intro a a' y y' b1 o1 k1 o2 k2 h h' f ho D a1;rcases X2 h with⟨e1,e2⟩|⟨a2,g⟩
  .grind
  .rw[U a y g] at ho;grind
 .intro a A;have h1:H.next+1<=a:=A;rw[C4 _ _ (by omega)];exact s.fresh a (by omega)
 .intro a y A hy;have a3:=s.names;rcases X2 hy with⟨rfl,rfl⟩|⟨f,hy⟩
  .omega
  .rw[C4 _ _ f];exact s.glob a y A hy
theorem Dk.add(h:Dk H){x:Blk}(hx:x.own=false):Dk (H.add x):=by
 intro a y hy;rcases X2 hy with⟨_,rfl⟩|⟨_,hy⟩
 .grind
 .exact h a y hy
structure Made (B G:Nat) (ρ:Rn) (H:Mem) (w:World) (avs:List AV) (H' : Mem) (cs:List Value) (ρ' : Rn):Prop where
 same:∀a,a<H.next->ρ' a=ρ a
 sim:Sim B G ρ' H' w
 no:Dk H'
 vals:VRs ρ' avs cs
 le:H.next<=H'.next
theorem Made.sub{f:List AV}{cs:List Value}(h:Made B G ρ H w f H' cs ρ')(s:Sim B G ρ H w):Sub ρ ρ':=by
 intro a x hx;rw[h.same a (s.lt_next hx)];grind
theorem Made.pure(s:Sim B G ρ H w)(A:Dk H){f:List AV}{cs:List Value}(h:VRs ρ f cs):Made B G ρ H w f H cs ρ:=⟨λ_ _=>rfl,s,A,h,Wy _⟩
theorem Ty{base:Nat}{a:Addr}{n:Nat}{cs:List Value}(h:w.cells? base a n=some cs):cs.length=n/\∀i,i<n->w.cell? (a.add i)=cs[i]?:=by
 exact(World.cells?_some h).2
theorem a1h{a:Addr}{v:Value}(h:w.cell? a=some v):a.spot=none:=by
 unfold World.cell? at h;split at h
 all_goals simp_all
theorem c2z {l:List AV} {cs:List Value} {b o k:Nat} (hl:VRs ρ l cs) (hne:cs≠[]) (hc:∀ i,i < cs.length→w.cell? ⟨b,o+i,none⟩=cs[i]?) : BR B ρ (.cells l false 0) b o k w:=by
 have h0:0 < cs.length:=e7t.2 hne;have hb:∃ c e fz,w.heap[b]?=some (.cells c e fz):=by
  grind [World.cell?]
 obtain ⟨c,e,fz,hh⟩:=hb;refine ⟨c,e,fz,hh,fun i v hi=>?_,fun h=>by cases h⟩;obtain ⟨u,hu,hv⟩:=hl.get i hi;grind [World.cell?]
theorem Addr.add_eq {b o i:Nat} : (Addr.mk b o none).add i=⟨b,o+i,none⟩:=by
 grind [Addr.add]
abbrev Y5:=@Addr.add_eq
theorem a1i {α:Type} {f:α→Mem→Option (List AV×Mem)} {sz:Nat} : ∀ (ds:List α) (css:List (List Value)) (H:Mem) (avs:List AV) (H' : Mem) (ρ:Rn),
  css.length=ds.length→(∀ (i:Nat) d ci,ds[i]?=some d→css[i]?=some ci→∀ H avs H' ρ,Sim B G ρ H w→Dk H→f d H=some (avs,H')→∃ ρ',Made B G ρ H w avs H' ci ρ') →
  Sim B G ρ H w→Dk H→mkL f sz ds H=some (avs,H')→(∃ ρ',Made B G ρ H w avs H' css.flatten ρ')∧∀ c∈css,c.length=sz
 | [],css,H,avs,H',ρ,hl,_,s,hno,h=>by
  simp [mkL] at h;obtain ⟨rfl,rfl⟩:=h;have:css=[]:=e6x.1 (by grind);subst this;exact ⟨⟨ρ,.pure s hno rfl⟩,fun c hc=>by grind⟩
 | d :: ds,css,H,avs,H',ρ,hl,hf,s,hno,h=>by
  cases css with
  | nil=>grind
  | cons c css =>
  unfold mkL at h;split at h
  ·rename_i a m1 h1;split at h
   ·rename_i b m2 h2;split at h
    ·rename_i hb;simp only [Option.some.injEq,Prod.mk.injEq] at h;obtain ⟨rfl,rfl⟩:=h;obtain ⟨ρ1,M1⟩:=hf 0 d c rfl rfl H a m1 ρ s hno h1;obtain ⟨⟨ρ2,M2⟩,hlen⟩:=a1i ds css m1 b m2 ρ1 (by grind) (fun i d' ci hd hc=>hf (i+1) d' ci (by grind) (by grind)) M1.sim M1.no h2;refine ⟨⟨ρ2,fun x hx=>(M2.same x (Xg hx M1.le)).trans (M1.same x hx),M2.sim,M2.no,?_,W6 M1.le M2.le⟩,?_⟩
     ·rw [e8k];exact (M1.vals.mono (M2.sub M1.sim)).append M2.vals
     ·intro c' hc';rcases Xb.1 hc' with rfl | hc'
      ·rw [M1.vals.length,Xd hb]
      grind
    grind
   grind
  grind
theorem a9i{α:Type}{f:TypeId->α->Mem->Option (List AV×Mem)}{sz:TypeId->Nat}{cs:List Value}:∀(fs:List Field)(ds:List α)(k:Nat)(H:Mem)(D:List AV) (H' : Mem) (ρ:Rn),
  (∀(i:Nat) U d,fs[i]?=some U->ds[i]?=some d->∀H D H' ρ,Sim B G ρ H w->Dk H->f U.type d H=some (D,H')->∃ρ',Made B G ρ H w D H' ((cs.drop U.offset).take (sz U.type)) ρ') ->
  Sim B G ρ H w->Dk H->mkF f sz cs.length k fs ds H=some (D,H')->∃ρ',Made B G ρ H w D H' (cs.drop k) ρ'
 | [],[],k,H,D,H',ρ,_,s,a0,h=>by
  unfold mkF at h;split at h
  .rename_i hk;simp only[Option.some.injEq,Prod.mk.injEq] at h;obtain⟨rfl,rfl⟩:=h;rw[Xd hk,e9c];exact⟨ρ,.pure s a0 rfl⟩
  grind
 | U::fs,d::ds,k,H,D,H',ρ,hf,s,a0,h=>by
  unfold mkF at h;split at h
  .rename_i a m1 h1;split at h
   .rename_i b m2 h2;split at h
    .rename_i hb;simp only[W0] at hb;simp only[Option.some.injEq,Prod.mk.injEq] at h;obtain⟨rfl,rfl⟩:=h;have a4:=Xd hb.2;have a5:=Xd hb.1;obtain⟨a1,A⟩:=hf 0 U d rfl rfl H a m1 ρ s a0 h1;obtain⟨a2,Z⟩:=a9i fs ds (k+sz U.type) m1 b m2 a1 (λi a3 d' a6 hd=>hf (i+1) a3 d' (by grind) (by grind)) A.sim A.no h2;refine⟨a2,λx hx=>(Z.same x (Xg hx A.le)).trans (A.same x hx),Z.sim,Z.no,?_,W6 A.le Z.le⟩;have h3:=(A.vals.mono (Z.sub A.sim)).append Z.vals;have h4:=A.vals.length;grind[List.drop_drop,List.take_append_drop]
    grind
   grind
  grind
 | [],_::_,_,_,_,_,_,_,_,_,h=>by grind[mkF]
 | _::_,[],_,_,_,_,_,_,_,_,h=>by grind[mkF]
theorem a9j {sz:Nat} : ∀ (n:Nat) (cs:List Value),cs.length=n * sz→((List.range n).map fun i=>(cs.drop (i * sz)).take sz).flatten=cs
 | 0,cs,h=>by grind
 | n+1,cs,h=>by
  rw [List.range_succ_eq_map,e6o,e8k,e8v];have hr:=a9j (sz:=sz) n (cs.drop sz) (by grind);have:((List.range n).map ((fun i=>(cs.drop (i * sz)).take sz) ∘ Nat.succ))=(List.range n).map fun i=>((cs.drop sz).drop (i * sz)).take sz:=by
   simp [e8o,e9k]
  rw [this,hr];simp
theorem a9k {sz b:Nat} : ∀ (css:List (List Value)) (o:Nat),(∀ c∈css,c.length=sz)→(∀ i c,css[i]?=some c→∀ r,r < sz→w.cell? ⟨b,o+i * sz+r,none⟩=c[r]?) →
  ∀ j,j < css.flatten.length→w.cell? ⟨b,o+j,none⟩=css.flatten[j]?
 | [],_,_,_,j,hj=>by grind
 | c :: css,o,hl,h,j,hj=>by
  rw [e8k] at hj ⊢;have hc:=hl c (by simp);rcases e6y j sz with h1 | h1
  ·have:=h 0 c rfl j h1;grind
  ·rw [Xm (by omega)];have:=a9k css (o+sz) (fun c' hc'=>hl c' (by grind)) (fun i c' hi r hr=>by
    have:=h (i+1) c' (by grind) r hr;rw [← this]; congr 2; grind) (j - c.length) (by grind)
   grind
def a1j{Hh:Type}(enc:TypeId×Value->Hh)(tok:Hh->Option FuncId):Prop:=∀t v f,tok (enc (t,v))=some f->v=.func (.func f) #[] #[]
def Tz(P:Program)(w:World)(cs:List Value)(ps:List MemPlace):Prop:=
 (∀u v,Value.iface u v∈cs->Value.okWide P w .any 0 u v)/\∀b off,MemPlace.cell b off∈ps->∀u v,w.cell? ⟨b,off,none⟩=some (.iface u v)->Value.okWide P w .any 0 u v
theorem a9l {H2:Mem} {l:List AV} {cs:List Value} {avs:List AV} {g:Nat→AV} {b o:Nat} {us:List Value} (s:Sim B G ρ H w) (M:Made B G ρ H w l H' cs ρ') (h:Tx l H' g=some (avs,H2))
  (hc:∀ i,i < cs.length→w.cell? ⟨b,o+i,none⟩=cs[i]?) (hg:∀ ρ2,ρ2 H'.next=some (b,o,0)→VRs ρ2 [g H'.next] us) : ∃ ρ2,Made B G ρ H w avs H2 us ρ2:=by
 cases l with
 | nil=>cases h
 | cons x l =>
  simp only [Tx,Option.some.injEq,Prod.mk.injEq] at h;obtain ⟨rfl,rfl⟩:=h;have hne:cs≠[]:=by rintro rfl; have:=M.vals.length; grind
  refine ⟨upd ρ' H'.next (b,o,0),fun a ha=>?_,M.sim.see M.no rfl ?_,M.no.add rfl,hg _ (Da _ _ _),e7l M.le⟩
  ·rw [C4 _ _ (by have:=M.le; omega)]; exact M.same a ha
  ·exact c2z (M.vals.mono (Jb M.sim.none)) hne hc
theorem a9m {a:Addr} {k:Nat} {cs' : List Value} (hcl:w.cells? 0 a k=some cs') (h:∀ b off,MemPlace.cell b off∈MemPlace.row a k→∀ u v,w.cell? ⟨b,off,none⟩=some (.iface u v)→Value.okWide P w .any 0 u v) :
  ∀ u v,Value.iface u v∈cs'→Value.okWide P w .any 0 u v:=by
 intro u v hm;obtain ⟨hlen,hcell⟩:=Ty hcl;obtain ⟨i,hi,e⟩:=e6a.1 hm;have hci:=hcell i (by omega);rw [W5 hi,e] at hci;obtain ⟨b,o,spt⟩:=a;have hspot:spt=none:=by
  have h0:=hcell 0 (by omega);rw [W5 (by omega)] at h0;exact a1h h0
 subst hspot;rw [Addr.add_eq] at hci;refine h b (o+i) ?_ u v hci;unfold MemPlace.row;exact Xc.2 ⟨i,by grind,rfl⟩
theorem c3a {a:Addr} {i k sz n:Nat} {b off:Nat} (hi:i < n) (h:MemPlace.cell b off∈MemPlace.row (a.add (i * sz)) sz) : MemPlace.cell b off∈MemPlace.row a (n * sz):=by
 unfold MemPlace.row at h ⊢;obtain ⟨j,hj,e⟩:=Xc.1 h;have hj' : j < sz:=by grind
 have hb:(a.add (i * sz)).block=a.block:=by grind [Addr.add]
 have ho:(a.add (i * sz)).off=a.off+i * sz:=by
  grind [Addr.add]
 rw [hb,ho] at e;refine Xc.2 ⟨i * sz+j,?_,by grind⟩;have:(i+1) * sz≤n * sz:=e7v _ hi;grind
theorem VRs.singleton{x:AV}{v:Value}(h:VR ρ x v):VRs ρ [x] [v]:=⟨v,[],rfl,h,rfl⟩
abbrev Yy:=@VRs.singleton
theorem c3b{f:String}{u v:TypeId}(h:a1g P f=some u)(A:P.typeName? 3 v=some f):v=u:=by
 unfold a1g at h;split at h
 .rename_i x hx;split at h
  .rename_i D;cases h;simp only[W0,decide_eq_true_eq] at D;obtain⟨⟨⟨U,Z⟩,h3⟩,h4⟩:=D;rw[U] at A;exact typeName_ptr_named Z h3 h4 v A
  grind
 grind
theorem c3c{u e:TypeId}{v:Value}(f:P.underlying u=some (.pointer e))(h:Value.okWide P w .any 0 u v):v.cells.toList=[v]:=by
 cases v<;>first|rfl|skip;simp_all[Cell.ok,Cell.okWide,Value.okWide]
theorem c3d {enc:TypeId×Value→Hh} {sp:Nat→Bool} {held:Bool} {m:Nat} {t:TypeId} {cs:List Value} {name:String} {d:DataW Hh} {ps:List MemPlace} {ms:Array (String×TypeId)} (ht:P.underlying t=some (.interface ms))
  (h:DataW.trod enc P w 0 sp held m t cs=some (.iface name d,ps)) : ∃ u v k,cs=[.iface u v]∧held=false∧P.typeName? 3 u=some name∧DataW.trod enc P w 0 sp held k u v.cells.toList=some (d,ps):=by
 cases m with
 | zero=>simp [DataW.trod] at h
 | succ k =>
  unfold DataW.trod at h;rw [ht] at h;split at h <;> simp_all;rename_i u v _
  cases held with
  | true=>grind
  | false =>
   cases hn:P.typeName? 3 u with
   | none=>grind
   | some nm =>
    rw [hn] at h;simp only [Xq] at h;grind
theorem c3e {enc:TypeId×Value→Hh} {sp:Nat→Bool} {held:Bool} {m:Nat} {t:TypeId} {cs:List Value} {ps:List MemPlace} {ms:Array (String×TypeId)} (ht:P.underlying t=some (.interface ms))
  (h:DataW.trod enc P w 0 sp held m t cs=some (.nil,ps)) : cs=[.nilIface]:=by
 cases m with
 | zero=>simp [DataW.trod] at h
 | succ k =>
  unfold DataW.trod at h;rw [ht] at h;split at h <;> simp_all;rename_i u v _;exfalso
  cases held with
  | true=>grind
  | false =>
   cases hn:P.typeName? 3 u with
   | none=>grind
   | some nm=>simp_all
theorem c3f {enc:TypeId×Value→Hh} {sp:Nat→Bool} {held:Bool} {m:Nat} {t:TypeId} {cs:List Value} {ps:List MemPlace} {a b:Array TypeId} {c:Bool} (ht:P.underlying t=some (.func a b c))
  (h:DataW.trod enc P w 0 sp held m t cs=some (.nil,ps)) : cs=[.nilFunc]:=by
 cases m with
 | zero=>simp [DataW.trod] at h
 | succ k =>
  unfold DataW.trod at h;grind
theorem c3g {enc:TypeId×Value→Hh} {sp:Nat→Bool} {held:Bool} {m:Nat} {t:TypeId} {cs:List Value} {ps:List MemPlace} {a b:Array TypeId} {c:Bool} {x:Hh} (ht:P.underlying t=some (.func a b c))
  (h:DataW.trod enc P w 0 sp held m t cs=some (.held x,ps)) : ∃ v,cs=[v]∧enc (t,v)=x:=by
 cases m with
 | zero=>simp [DataW.trod] at h
 | succ k =>
  unfold DataW.trod at h;grind
theorem c3h {enc:TypeId×Value→Hh} {sp:Nat→Bool} {held:Bool} {m:Nat} {t:TypeId} {cs:List Value} {ps:List MemPlace} {a b:TypeId} (ht:P.underlying t=some (.map a b))
  (h:DataW.trod enc P w 0 sp held m t cs=some (.nil,ps)) : cs=[.map none]:=by
 cases m with
 | zero=>simp [DataW.trod] at h
 | succ k =>
  unfold DataW.trod at h;grind [Option.bind_eq_some_iff]
theorem Nc {enc:TypeId×Value→Hh} {tok:Hh→Option FuncId} {sp:Nat→Bool} (hsp:∀ b,sp b=true) {held:Bool} (htok:a1j enc tok) : ∀ (n m:Nat) (t:TypeId) (cs:List Value) (d:DataW Hh) (ps:List MemPlace) (H:Mem) (avs:List AV) (H' : Mem) (ρ:Rn),
  DataW.trod enc P w 0 sp held m t cs=some (d,ps)→(held=false→Tz P w cs ps)→Sim B G ρ H w→Dk H→mkD P tok n t d H=some (avs,H')→∃ ρ',Made B G ρ H w avs H' cs ρ'
 | 0,m,t,cs,d,ps,H,avs,H',ρ,_,_,_,_,h=>by simp [mkD] at h
 | n+1,m,t,cs,d,ps,H,avs,H',ρ,hr,hif,s,hno,h=>by
  have one:∀ {x:Value},cs=[x]→some ([AV.lit x],H)=some (avs,H')→∃ ρ',Made B G ρ H w avs H' cs ρ':=by
   intro x hcs h;simp only [Option.some.injEq,Prod.mk.injEq] at h;obtain ⟨rfl,rfl⟩:=h;subst hcs;exact ⟨ρ,.pure s hno ⟨x,[],rfl,rfl,rfl⟩⟩
  unfold mkD at h;split at h
  ·grind [DataW.trod_bool]
  ·grind [DataW.trod_int]
  ·rename_i ht;obtain ⟨x',hcs,hx,_⟩:=DataW.trod_string ht hr;simp_all
  ·grind [DataW.trod_pointer]
  ·rename_i ht;rcases DataW.trod_pointer ht hr with ⟨hcs,hx⟩ | ⟨a,cs',y,k,_,hcs,hx,hcl,hy⟩
   ·grind
   ·split at h
    ·rename_i l m1 hl;cases hx;obtain ⟨hlen,hcell⟩:=Ty hcl;obtain ⟨ρ1,M⟩:=Nc hsp htok n k _ cs' _ _ H l m1 ρ hy (fun hh=>⟨a9m hcl fun b off hp=>(hif hh).2 b off (by grind),fun b off hp=>(hif hh).2 b off (by grind)⟩) s hno hl;have hne:0 < cs'.length:=by
      cases l with
      | nil=>cases h
      | cons x l=>have:=M.vals.length; grind
     obtain ⟨b,o,spt⟩:=a;have hs:=hcell 0 (by omega);rw [W5 hne] at hs;have hspot:spt=none:=a1h hs;subst hspot;refine a9l (b:=b) (o:=o) s M h (fun i hi=>?_) fun ρ2 h2=>?_
     ·grind [Addr.add_eq]
     ·rw [hcs]; exact VRs.singleton ⟨b,o,0,h2,rfl⟩
    grind
  ·grind [DataW.trod_slice]
  ·rename_i e _ _ ht;rcases DataW.trod_slice ht hr with ⟨hcs,hx⟩ | ⟨a,len,cap,elems,rest,k,_,hcs,hx,hb0,hlc,hcm,hlen,hel,hrs,_⟩
   ·grind
   ·obtain ⟨hrl,hre⟩:=hrs (hsp _);simp only [Prod.mk.injEq,DataW.slice.injEq] at hx;obtain ⟨⟨rfl,rfl⟩,rfl⟩:=hx;split at h
    ·rename_i hnil;simp only [Option.some.injEq,Prod.mk.injEq] at h;obtain ⟨rfl,rfl⟩:=h;have h0:elems.length=0:=by
      simp_all
     rw [hcs];refine ⟨ρ,.pure s hno (VRs.singleton ⟨a,cap,?_⟩)⟩;grind
    ·split at h
     ·rename_i l m1 hl;have all:∀ i x,(elems++rest)[i]?=some x→∃ ci,w.cells? 0 (a.add (i * P.cellsOf e)) (P.cellsOf e)=some ci∧DataW.trod enc P w 0 sp held k e ci=some x:=by
       intro i x hi;rcases e6y i elems.length with h1 | h1
       all_goals grind [Option.bind_eq_some_iff]
      have hds:List.map (·.1) elems++List.map (·.1) rest=(elems++rest).map (·.1):=by simp
      rw [hds] at hl;obtain ⟨⟨ρ1,M⟩,hsz⟩:=a1i (B:=B) (G:=G) (w:=w) ((elems++rest).map (·.1)) ((List.range (elems++rest).length).map fun i=>(w.cells? 0 (a.add (i * P.cellsOf e)) (P.cellsOf e)).getD []) H l m1 ρ (by simp) (by
       intro i d ci hd hc H avs H' ρ s hno hmk;rw [e6j] at hd hc;obtain ⟨x,hx,rfl⟩:=Xq.1 hd;obtain ⟨ci',h2,h3⟩:=all i x hx;have hlt:i < (elems++rest).length:=(W8.1 hx).1;rw [List.getElem?_range hlt] at hc;simp only [e8l,Option.some.injEq] at hc;subst hc;rw [h2,e9h];refine Nc hsp htok n k e ci' x.1 x.2 H avs H' ρ h3 (fun hh=>⟨a9m h2 fun b off hp=>(hif hh).2 b off ?_,fun b off hp=>(hif hh).2 b off ?_⟩) s hno hmk
       ·rw [W9]; left;have:=c3a (n:=(elems++rest).length) (k:=0) hlt hp;grind
       grind) s hno hl
      have hpos:0 < (elems++rest).length:=by
       grind
      have hsz0:0 < P.cellsOf e:=by
       rcases Nat.eq_zero_or_pos (P.cellsOf e) with h0 | h0
       ·exfalso;have:((List.range (elems++rest).length).map fun i=>(w.cells? 0 (a.add (i * P.cellsOf e)) (P.cellsOf e)).getD []).flatten=[]:=by
         grind [List.flatten_eq_nil_iff]
        have h2:=M.vals.length;rw [this] at h2
        cases l with
        | nil=>cases h
        | cons x l=>grind
       grind
      have cellAt:∀ i,i < (elems++rest).length→∃ ci,w.cells? 0 (a.add (i * P.cellsOf e)) (P.cellsOf e)=some ci:=by
       intro i hi;obtain ⟨ci,h2,_⟩:=all i _ (W5 hi);grind
      obtain ⟨b,o,spt⟩:=a;have hspot:spt=none:=by
       obtain ⟨c0,h0⟩:=cellAt 0 hpos;obtain ⟨hl0,hc0⟩:=Ty h0;have:=hc0 0 hsz0;rw [W5 (by omega)] at this;have:=a1h this;grind [Addr.add]
      subst hspot;refine a9l (b:=b) (o:=o) s M h (fun j hj=>?_) fun ρ2 h2=>?_
      ·refine a9k (sz:=P.cellsOf e) _ o hsz (fun i c hi r hr=>?_) j hj;rw [e6j] at hi;obtain ⟨i',hi',rfl⟩:=Xq.1 hi;grind [Ty,Addr.add_eq]
      ·rw [hcs];refine VRs.singleton ⟨b,o,0,h2,by simp,?_⟩;grind
     grind
  ·rename_i ht;obtain ⟨xs,k,_,hx,hlen,hxl,hel⟩:=DataW.trod_struct ht hr;simp only [Prod.mk.injEq,DataW.agg.injEq] at hx;obtain ⟨rfl,rfl⟩:=hx;rw [← hlen] at h;have:=a9i (B:=B) (G:=G) (w:=w) (cs:=cs) _ _ 0 H avs H' ρ (fun i fd d hfd hd H avs H' ρ s hno hmk=>?_) s hno h
   ·grind
   ·rw [e6j] at hd;obtain ⟨x,hx,rfl⟩:=Xq.1 hd;have h1:=hel i fd (by grind);rw [hx] at h1;exact Nc hsp htok n k fd.type _ x.1 x.2 H avs H' ρ h1 (fun hh=>⟨fun u v hm=>(hif hh).1 u v (List.mem_of_mem_drop (e6p hm)),fun b off hp=>(hif hh).2 b off (e6v.2 ⟨x,e5w hx,hp⟩)⟩) s hno hmk
  ·rename_i ht;obtain ⟨xs,k,_,hx,hlen,hxl,hel⟩:=DataW.trod_array ht hr;simp only [Prod.mk.injEq,DataW.agg.injEq] at hx;obtain ⟨rfl,rfl⟩:=hx;split at h
   ·rename_i hb;rename_i nn e _ _;simp only [W0] at hb;have htot:=Xd hb.2;obtain ⟨⟨ρ1,M⟩,hsz⟩:=a1i (B:=B) (G:=G) (w:=w) (xs.map (·.1)) ((List.range nn).map fun i=>(cs.drop (i * P.cellsOf e)).take (P.cellsOf e)) H avs H' ρ (by grind) (by
     intro i d ci hd hc H avs H' ρ s hno hmk;rw [e6j] at hd hc;obtain ⟨x,hx,rfl⟩:=Xq.1 hd;have hlt:i < nn:=by grind
     rw [List.getElem?_range hlt] at hc;simp only [e8l,Option.some.injEq] at hc;subst hc;have h1:=hel i hlt;rw [hx] at h1;exact Nc hsp htok n k e _ x.1 x.2 H avs H' ρ h1 (fun hh=>⟨fun u v hm=>(hif hh).1 u v (List.mem_of_mem_drop (e6p hm)),fun b off hp=>(hif hh).2 b off (e6v.2 ⟨x,e5w hx,hp⟩)⟩) s hno hmk) s hno h
    grind [a9j]
   grind
  ·grind [c3e]
  ·rename_i ht;obtain ⟨u,v,k,hcs,hh,hn,hy⟩:=c3d ht hr;split at h
   ·rename_i u' hu';have:=c3b hu' hn;subst this;split at h
    ·rename_i e he;split at h
     ·rename_i a m1 hmk;simp only [Option.some.injEq,Prod.mk.injEq] at h;obtain ⟨rfl,rfl⟩:=h;have hok:=(hif hh).1 u v (by grind);have hv:=c3c he hok;rw [hv] at hy;have hio:Tz P w [v] ps:=by
       refine ⟨fun u2 v2 hm=>?_,(hif hh).2⟩;exfalso;have hm' : Value.iface u2 v2=v:=by grind
       (simp_all [Cell.ok,Cell.okWide,Value.okWide]; grind)
      obtain ⟨ρ1,M⟩:=Nc hsp htok n k u [v] _ ps H [a] m1 ρ hy (fun _=>hio) s hno hmk;obtain ⟨x,xs,e1,hv1,e2⟩:=M.vals;simp only [List.cons.injEq] at e1;obtain ⟨rfl,rfl⟩:=e1;rw [hcs];exact ⟨ρ1,M.same,M.sim,M.no,VRs.singleton ⟨_,rfl,hv1⟩,M.le⟩
     grind
    grind
   grind
  ·grind [c3f]
  ·rename_i ht;obtain ⟨v,hcs,he⟩:=c3g ht hr;split at h
   ·rename_i f hf;have:=htok t v f (by grind);grind
   grind
  all_goals grind [c3h]
end
section
variable {B G:Nat}{P:Program}{ρ ρ' : Rn}{H H' : Mem}{w:World}{Hh:Type}
variable {W:World}{l:List (String×DataW Unit)}
theorem Sim.glo(s:Sim B G ρ H w)(U:Dk H){g:Nat}{x:Blk}(hg:g<G)(hr:ρ g=some (g,0,0))(a0:x.own=false)(hx:BR B ρ x g 0 0 w):Sim B G ρ (H.upd g x) w:=by
 refine⟨?_,?_,λj A=>s.fresh j A,?_,s.names,s.base⟩
 .intro j z f;rcases Yb f with⟨rfl,rfl⟩|⟨D,f⟩
  .grind
  .exact s.blk j z f
 .intro j j' z z' b1 o1 k1 o2 k2 h h' D Z a1 a2;rcases Yb h with⟨e1,e2⟩|⟨a3,g1⟩
  .grind
  .rw[U j z g1] at Z;grind
 .intro j z A f;rcases Yb f with⟨rfl,rfl⟩|⟨D,f⟩
  .grind
  .exact s.glob j z A f
theorem Dk.upd(h:Dk H){x:Blk}{g:Nat}(hx:x.own=false):Dk (H.upd g x):=by
 intro a y hy;rcases Yb hy with⟨_,rfl⟩|⟨_,hy⟩
 .grind
 .exact h a y hy
def a1k(P:Program):List UInt8->Option FuncId
 | []=>none
 | b::r=>match (List.range P.funcs.size).filter λf=>(P.funcs[f]?).any (·.name.toUTF8.data.toList==b::r) with
  | [f]=>some f
  | _=>none
theorem c3i(P:Program):a1j (funcToken P) (a1k P):=by
 intro t v f h
 cases A:funcToken P (t,v) with
 | nil=>rw[A] at h;cases h
 | cons b r =>
  rw[A] at h;unfold a1k at h;split at h
  .cases h
  .rename_i U Z e;cases e;split at h
   .rename_i f' a0;cases h;obtain⟨f0,fn,rfl,D,_,hb⟩:=funcToken_tells A;have hm:f0∈(List.range P.funcs.size).filter λf=>(P.funcs[f]?).any (·.name.toUTF8.data.toList==b::r):=
     e6t.2 ⟨e6u.2 (e5y.1 D).1,by grind⟩
    grind
   grind
def a9n{Hh:Type}:Hh->Option FuncId:=λ_=>none
theorem c3j(enc:TypeId×Value->Hh):a1j enc a9n:=λ_ _ _ h=>by cases h
noncomputable def T0(g:Nat)(r:Option (List AV×Mem)):Option Mem:=match r with
 | some (a,m)=>some (m.upd g (.cells a false 0))
 | none=>none
noncomputable def a1l(P:Program)(x:String×DataW Unit)(H:Mem):Option Mem:=
 match P.globalNamed x.1 with
 | some g=>match (P.globals[g]?).map (·.type) with
  | some t=>match x.2 with
   | .iface "func table" d=>T0 g (mkD P (a1k P) 64 t d.funcsOut H)
   | d=>T0 g (mkD P a9n 64 t d H)
  | none=>none
 | none=>none
noncomputable def Qw(P:Program):List (String×DataW Unit)->Mem->Option Mem
 | [],H=>some H
 | x::l,H=>match a1l P x H with
  | some H=>Qw P l H
  | none=>none
def GOk(G:Nat)(ρ:Rn):Prop:=∀g,g<G->ρ g=some (g,0,0)
def a1m(P:Program)(W:World)(x:String×DataW Unit):Prop:=
 (∀d,x.2=.iface "func table" d->funcsAt P W x.1 d) /\
 ((∀d,x.2≠.iface "func table" d)->∃g t cs fuel p,P.globalNamed x.1=some g/\(P.globals[g]?).map (·.type)=some t/\W.var? P x.1=some cs /\
  DataW.trod (λ_=>()) P W 0 (λ_=>true) false fuel t cs.toList=some (x.2,p)/\Tz P W cs.toList p)
theorem a9o:∀{l:List (String×DataW Unit)} {ps:List MemPlace},DataW.LaidVars P W l ps->∀x∈l,∃g t cs h p,P.globalNamed x.1=some g/\(P.globals[g]?).map (·.type)=some t/\W.var? P x.1=some cs /\
  DataW.trod (λ_=>()) P W 0 (λ_=>true) false h t cs.toList=some (x.2,p)/\(∀q∈MemPlace.row ⟨g,0,none⟩ cs.size,q∈ps)/\∀q∈p,q∈ps
 | [],_,_,x,hx=>by grind
 | (n,d)::r,ps,⟨g,t,cs,h,p,q,A,D,U,Z,h5,f⟩,x,hx=>by
  rcases Xb.1 hx with rfl|hx
  .exact⟨g,t,cs,h,p,A,D,U,Z,λy hy=>by rw[f];simp[hy],λy hy=>by rw[f];simp[hy]⟩
  .obtain⟨g',t',a0,f',p',k1,k2,k3,k4,k5,k6⟩:=a9o h5 x hx;exact⟨g',t',a0,f',p',k1,k2,k3,k4,λy hy=>by rw[f];simp[k5 y hy],λy hy=>by rw[f];simp[k6 y hy]⟩
theorem a9p(h:laidMet P l W){x:String×DataW Unit}(hx:x∈l):∃g t cs Z p,P.globalNamed x.1=some g/\(P.globals[g]?).map (·.type)=some t/\W.var? P x.1=some cs /\
  DataW.trod (λ_=>()) P W 0 (λ_=>true) false Z t cs.toList=some (x.2,p)/\Tz P W cs.toList p:=by
 obtain⟨ps,h1,_,A⟩:=h;obtain⟨g,t,cs,f,p,D,k2,U,k4,k5,k6⟩:=a9o h1 x hx;refine⟨g,t,cs,f,p,D,k2,U,k4,λu v hm=>?_,λb off hp=>(A b off (k6 _ hp)).2⟩;obtain⟨i,hi,e⟩:=e6a.1 hm;have hi' : i<cs.size:=by grind
 have a0:MemPlace.cell g i∈MemPlace.row ⟨g,0,none⟩ cs.size:=by
  grind[MemPlace.row]
 refine(A g i (k5 _ a0)).2 u v ?_;rw[World.var?_cell D U i];grind
theorem c3k(h:laidMetH P l W)(D:(l.all λx=>x.2.handleName?.isNone||x.2.funcsIn?.isSome)=true):∀x∈l,a1m P W x:=by
 intro x hx;refine⟨λd f=>?_,λf=>?_⟩
 .obtain⟨n,e⟩:=x;dsimp only at f;subst f;exact h.funcs hx
 .have U:x.2.handleName?.isNone=true:=by
   have:=W7.1 D x hx;rcases e8m _ _ ▸ this with A|A
   .grind
   .exfalso;obtain⟨n,e⟩:=x;cases e<;>first|(cases A;done)|skip;rename_i t e;simp only[DataW.funcsIn?] at A;grind
  unfold laidMetH at h;split at h
  .grind[a9p]
  .exact a9p h.1 (e6t.2 ⟨hx,U⟩)
theorem a9q{g:Nat}{f:List AV}{cs:Array Value}{A:Mem}{n:String}(s:Sim B G ρ H w)(hg:GOk G ρ)(a0:P.globalNamed n=some g)(U:g<G)(D:w.var? P n=some cs)(M:Made B G ρ H w f A cs.toList ρ'):
  GOk G ρ'/\Sim B G ρ' (A.upd g (.cells f false 0)) w/\Dk (A.upd g (.cells f false 0)):=by
 have Z:GOk G ρ':=λa ha=>by
  have:a<H.next:=Xg ha s.names;rw[M.same a this];exact hg a ha
 refine⟨Z,M.sim.glo M.no U (Z g U) rfl ?_,M.no.upd rfl⟩;simp only[World.var?,a0,Option.bind_some] at D;split at D
 .rename_i c e fz hh;cases D;refine⟨cs,e,fz,hh,λi v hi=>?_,λh=>by cases h⟩;obtain⟨u,hu,a1⟩:=M.vals.get i hi;grind
 grind
theorem c3l{x:String×DataW Unit}(hG:G=P.globals.size)(hl:a1m P w x)(s:Sim B G ρ H w)(a2:Dk H)(hg:GOk G ρ)(h:a1l P x H=some H'):∃ρ',GOk G ρ'/\Sim B G ρ' H' w/\Dk H':=by
 unfold a1l at h;split at h
 .rename_i g D;split at h
  .rename_i t ht;have a3:g<G:=by
    grind
   split at h
   .rename_i d U;obtain⟨g',t',cs,Z,p,f,A,k3,k4⟩:=hl.1 d U;rw[D] at f;cases f;rw[ht] at A;cases A;unfold T0 at h;split at h
    .rename_i a m a0;cases h;obtain⟨a1,M⟩:=Nc (λ_=>rfl) (c3i P) 64 Z t cs.toList _ p H a m ρ k4 (λh=>by cases h) s a2 a0;exact⟨a1,a9q s hg D a3 k3 M⟩
    grind
   .rename_i d U;obtain⟨g',t',cs,Z,p,f,A,k3,k4,k5⟩:=hl.2 U;rw[D] at f;cases f;rw[ht] at A;cases A;unfold T0 at h;split at h
    .rename_i a m a0;cases h;obtain⟨a1,M⟩:=Nc (λ_=>rfl) (c3j _) 64 Z t cs.toList _ p H a m ρ k4 (λ_=>k5) s a2 a0;exact⟨a1,a9q s hg D a3 k3 M⟩
    grind
  grind
 grind
theorem a9r(hG:G=P.globals.size):∀(l:List (String×DataW Unit)) (H H' : Mem) (ρ:Rn),(∀x∈l,a1m P w x)->Sim B G ρ H w->Dk H->GOk G ρ->Qw P l H=some H' ->
  ∃ρ',GOk G ρ'/\Sim B G ρ' H' w/\Dk H'
 | [],H,H',ρ,_,s,f,A,h=>by cases h;grind
 | x::l,H,H',ρ,D,s,f,A,h=>by
  unfold Qw at h;split at h
  .rename_i U Z;obtain⟨a0,g1,s1,n1⟩:=c3l hG (D x (by simp)) s f A Z;exact a9r hG l U H' a0 (λy hy=>D y (by simp[hy])) s1 n1 g1 h
  .cases h
noncomputable def Nd(P:Program):Mem:=⟨.tr e4,P.globals.size⟩
theorem a9s(a:Nat):(Nd P).get a=none:=Te a
theorem c3m{H:Mem}(h:laidMetH P l w)(f:(l.all λx=>x.2.handleName?.isNone||x.2.funcsIn?.isSome)=true)(A:Qw P l (Nd P)=some H):
  ∃ρ,Sim w.heap.size P.globals.size ρ H w/\Dk H:=by
 have D:Sim w.heap.size P.globals.size (λa=>if a<P.globals.size then some (a,0,0) else none) (Nd P) w:=by
  refine⟨λa x hx=>?_,λa a' x x' b o k o' k' hx=>?_,λa U=>?_,λa x _ hx=>?_,Wy _,Wy _⟩
  .grind[a9s]
  .grind
  .exact if_neg (Nat.not_lt.2 U)
  grind
 obtain⟨ρ,_,h1,h2⟩:=a9r rfl l _ H _ (c3k h f) D (λa x hx=>by grind[a9s]) (λg Z=>if_pos Z) A;grind
end
section
abbrev WF:=FuncId->List AV->Mem->(Ay->Prop)->Prop
def WC(G:Nat)(P:Program):WF:=λf args H K=>∀(B:Nat)(ρ:Rn)(us:Array Value)(w:World),Sim B G ρ H w->VRs ρ args us.toList ->
 Calls P f us w λe w'=>∃r,K r/\Jd B G H.next ρ w r e w'
def orW(O:CallF)(W:WF):WF:=λf args H K=>match O f args H with
 | .bad=>W f args H K
 | r=>K r
theorem WC.mono{G:Nat}{P:Program}{f:FuncId}{args:List AV}{H:Mem}{K A:Ay->Prop}(h:WC G P f args H K)(D:∀r,K r->A r):WC G P f args H A:=
 λB ρ us w s v=>(h B ρ us w s v).mono λ_ _ ⟨r,k,c⟩=>⟨r,D r k,c⟩
abbrev Xs:=@WC.mono
def WOK(G:Nat)(P:Program)(W:WF):Prop:=∀(f:FuncId)(args:List AV)(H:Mem)(K:Ay->Prop),W f args H K->WC G P f args H K
theorem a9t{G:Nat}{P:Program}{O:CallF}(U:∀B,A4 B G P O){f:FuncId}{args:List AV}{H:Mem}{K:Ay->Prop}(h:orW O (WC G P) f args H K):WC G P f args H K:=by
 unfold orW at h
 cases A:O f args H with
 | bad=>grind
 | ret v H' =>
  rw[A] at h;intro B ρ us w s D;have:=U B f args H (by grind) ρ us w s D;rw[A] at this;exact this.mono λe Z c=>⟨_,h,c⟩
 | panic v H' =>
  rw[A] at h;intro B ρ us w s D;have:=U B f args H (by grind) ρ us w s D;rw[A] at this;exact this.mono λe Z c=>⟨_,h,c⟩
noncomputable def Fv(W:WF)(o:Oper)(fr:Fr)(k:Fr->Mem->Prop)(Q:Out->Prop):R->Prop
 | .val v H=>k (fr.put o.dst v) H
 | .skip H=>k (fr.put o.dst (.lit undef)) H
 | .enter f args H=>W f args H λr=>match r with
  | .ret v H=>k (fr.put o.dst v) H
  | .panic v H=>Q (.panic v fr H)
  | .bad=>False
 | .dfr fn cap args H=>k ((fr.defer (fn,cap,args)).put o.dst (.lit undef)) H
 | .panic v H=>Q (.panic v fr H)
 | _=>False
def Fg(x:Option AV)(want:Bool)(yes no:Prop):Prop:=match x with
 | some (.lit (.bool b))=>(b=want->yes)/\(b = !want->no)
 | some (.lit (.tuple _))=>no
 | _=>False
noncomputable def Dp(ops:Array Oper)(fr:Fr)(j:Nat):Option AV:=match ops[j]? with
 | some o=>match o.dst with
  | some d=>fr.get d
  | none=>none
 | none=>none
noncomputable def C6(P:Program)(W:WF)(ops:Array Oper)(o:Oper)(fr:Fr)(H:Mem)(k:Fr->Mem->Prop)(Q:Out->Prop):Prop:=
 match o.guard with
 | none=>Fv W o fr k Q (opV P H fr.ev o)
 | some g=>Fg (Dp ops fr g.1) g.2 (Fv W o fr k Q (opV P H fr.ev o)) (k (fr.put o.dst (.lit undef)) H)
noncomputable def Fw(P:Program)(W:WF)(ops:Array Oper)(Q:Out->Prop):List Oper->Fr->Mem->Prop
 | [],fr,H=>Q (.norm fr H)
 | o::l,fr,H=>C6 P W ops o fr H (Fw P W ops Q l) Q
abbrev ResF:=Nat->Option AV
def Ct(res:ResF)(i:Nat)(v:AV):ResF:=λj=>if j=i then some v else res j
noncomputable def G1(ops:Array Oper)(tab:List Nat)(fr:Fr)(res:ResF)(i t:Nat):Option AV:=
 match Gz t ops.toList 0 with
 | none=>fr.get t
 | some j=>match A1 tab i j with
  | true=>res j
  | false=>match A1 tab j i||Nat.beq i j with
   | true=>fr.get t
   | false=>none
noncomputable def Bw(ops:Array Oper)(tab:List Nat)(fr:Fr)(res:ResF)(i:Nat):Ev:=λx=>match x with
 | .tmp t=>G1 ops tab fr res i t
 | .const v=>some (.lit v)
 | .global g=>some (.lit (.pointer (some ⟨g,0,none⟩)))
 | .func f=>some (.lit (.func (.func f) #[] #[]))
noncomputable def a1n(tab:List Nat)(res:ResF)(i:Nat)(g:Nat×Bool):Option Bool:=
 match A1 tab i g.1,res g.1 with
 | true,some (.lit (.bool b))=>(match b,g.2 with|true,true=>some true|false,false=>some true|_,_=>some false)
 | true,some (.lit (.tuple _))=>some false
 | _,_=>none
noncomputable def Nf(tab:List Nat)(res:ResF)(i:Nat)(o:Oper):Option Bool:=match o.guard with|none=>some true|some g=>a1n tab res i g
noncomputable def Ng(tab:List Nat)(res:ResF)(i:Nat)(o:Oper)(yes no:Prop):Prop:=match o.guard with
 | none=>yes
 | some g=>A1 tab i g.1=true/\Fg (res g.1) g.2 yes no
def Jf(res:ResF)(i:Nat)(v:AV)(K:ResF->Prop):Prop:=res i=none/\K (Ct res i v)
abbrev StW:=ResF->Mem->List Nat->Als->Prop
noncomputable def Ly(P:Program)(H:Mem)(ev:Ev)(o:Oper)(K:AV->Prop):Prop:=match quiet P H ev o with
 | some v=>K v
 | none=>False
noncomputable def a1o(H:Mem)(i:Nat)(res:ResF)(held:List Nat)(als:Als)(K:StW):R->Prop
 | .val v H'=>match H'.get H.next with
  | some b=>Jf res i v λres=>K res H' held ((i,H.next,b)::als)
  | none=>False
 | _=>False
noncomputable def T1(P:Program)(ops:Array Oper)(tab:List Nat)(fr:Fr)(i:Nat)(res:ResF)(H:Mem)(held:List Nat)(als:Als)(K:StW):Prop:=
 match ops[i]? with
 | none=>False
 | some o=>Ng tab res i o
  (match cls o.op with
   | .alloc=>a1o H i res held als K (opV P H (Bw ops tab fr res i) o)
   | .read=>Ly P H (Bw ops tab fr res i) o λv=>Jf res i v λres=>K res H (i::held) als
   | _=>Ly P H (Bw ops tab fr res i) o λv=>Jf res i v λres=>K res H held als)
  (Jf res i (.lit undef) λres=>K res H held als)
noncomputable def Nh(P:Program)(ops:Array Oper)(tab:List Nat)(fr:Fr)(K:StW):List Nat->ResF->Mem->List Nat->Als->Prop
 | [],res,H,held,als=>K res H held als
 | i::l,res,H,held,als=>T1 P ops tab fr i res H held als (Nh P ops tab fr K l)
noncomputable def Kg(P:Program)(ops:Array Oper)(tab:List Nat)(fr:Fr)(res:ResF)(H:Mem):List Nat->Prop
 | []=>True
 | i::l=>(match ops[i]? with
  | some o=>∃v,res i=some v/\quiet P H (Bw ops tab fr res i) o=some v
  | none=>False)/\Kg P ops tab fr res H l
noncomputable def Kh(H:Mem):Als->Prop
 | []=>True
 | (_,a,b)::l=>H.get a=some b/\Kh H l
noncomputable def Ki(res:ResF)(K:Fr->Prop):List Oper->Nat->Fr->Prop
 | [],_,fr=>K fr
 | o::l,i,fr=>match res i with
  | some v=>Ki res K l (i+1) (fr.put o.dst v)
  | none=>False
noncomputable def T5(W:WF)(fr:Fr)(c:Nat)(res:ResF)(K:ResF->Mem->Prop)(Q:Out->Prop):R->Prop
 | .val v H=>Jf res c v λres=>K res H
 | .skip H=>Jf res c (.lit undef) λres=>K res H
 | .enter f args H=>W f args H λr=>match r with
  | .ret v H=>Jf res c v λres=>K res H
  | .panic v H=>Q (.panic v fr.clear H)
  | .bad=>False
 | _=>False
noncomputable def Qy(P:Program)(W:WF)(ops:Array Oper)(tab:List Nat)(fr:Fr)(c:Nat)(res:ResF)(H:Mem)(K:ResF->Mem->Prop)(Q:Out->Prop):Prop:=
 match ops[c]? with
 | none=>False
 | some o=>Ng tab res c o (T5 W fr c res K Q (opV P H (Bw ops tab fr res c) o)) (Jf res c (.lit undef) λres=>K res H)
noncomputable def Ox(P:Program)(W:WF)(ops:Array Oper)(tab:List Nat)(fr:Fr)(all:List Nat)(Q:Out->Prop):Nat->List Nat->ResF->Mem->List Nat->Als->Prop
 | k,[],res,H,held,als=>Nh P ops tab fr (λres H held als=>Kg P ops tab fr res H held/\Kh H als/\Ki res (λfr=>Q (.norm fr H)) ops.toList 0 fr) (Es tab all k ops.toList 0) res H held als
 | k,c::cs,res,H,held,als=>Nh P ops tab fr (λres H held als=>Kg P ops tab fr res H held/\Kh H als /\
   Qy P W ops tab fr c res H (λres H=>Ox P W ops tab fr all Q (k+1) cs res H (Hc tab c held) (Gi tab c als)) Q) (Es tab all k ops.toList 0) res H held als
noncomputable def T6(P:Program)(W:WF)(ops:Array Oper)(fr:Fr)(H:Mem)(Q:Out->Prop):Prop:=
 Oi ops.toList=true/\Tables.follows P.toTables .mixedOrders=true /\
 Ox P W ops (ancs [] ops.toList) fr (chainOf ops.toList 0) Q 0 (chainOf ops.toList 0) (λ_=>none) H [] []
abbrev LF:=Code->Fr->Mem->(Out->Prop)->Prop
noncomputable def Gl(k:Fr->Mem->Prop)(Q:Out->Prop):Out->Prop
 | .norm fr H=>k fr H
 | .exit id fr H=>Q (.exit id fr H)
 | .ret fr H=>Q (.ret fr H)
 | .panic v fr H=>Q (.panic v fr H)
 | .bad=>False
noncomputable def Jg(id:Nat)(Q:Out->Prop):Out->Prop
 | .exit id' fr H=>if id'=id then Q (.norm fr H) else Q (.exit id' fr H)
 | .norm fr H=>Q (.norm fr H)
 | .ret fr H=>Q (.ret fr H)
 | .panic v fr H=>Q (.panic v fr H)
 | .bad=>False
noncomputable def Gm(x:Option AV)(yes no:Prop):Prop:=match x with
 | some (.lit (.bool b))=>(b=true->yes)/\(b=false->no)
 | _=>False
noncomputable def Jh(P:Program)(W:WF)(L:LF):Code->Fr->Mem->(Out->Prop)->Prop
 | .skip,fr,H,Q=>Q (.norm fr H)
 | .region _ ops false,fr,H,Q=>Fw P W ops Q ops.toList fr H
 | .region _ ops true,fr,H,Q=>T6 P W ops fr H Q
 | .seq a b,fr,H,Q=>Jh P W L a fr H (Gl (λfr H=>Jh P W L b fr H Q) Q)
 | .cond c a b,fr,H,Q=>Gm (fr.ev c) (Jh P W L a fr H Q) (Jh P W L b fr H Q)
 | .block id b,fr,H,Q=>Jh P W L b fr H (Jg id Q)
 | .loop b,fr,H,Q=>L b fr H Q
 | .exit id,fr,H,Q=>Q (.exit id fr H)
 | .label _,fr,H,Q=>Q (.norm fr H)
 | .ret,fr,H,Q=>Q (.ret fr H)
 | _,_,_,_=>False
variable {B G:Nat}{P:Program}{n n0:Nat}{ρ0 ρ:Rn}{w0 w:World}{fr:Fr}{H:Mem}{a:Act}
def Eu(B G n n0:Nat)(ρ0:Rn)(w0:World)(Q:Out->Prop):Exit->Act->World->Prop:=λe a' w'=>∃out,Q out/\C5 B G n n0 ρ0 w0 out e a' w'
def XW(G:Nat)(P:Program)(n:Nat)(c:Code)(fr:Fr)(H:Mem)(Q:Out->Prop):Prop:=
 ∀(B n0:Nat)(ρ0:Rn)(w0:World)(ρ:Rn)(a:Act) (w:World),St B G n n0 ρ0 w0 ρ fr H a w->c.wp P (Eu B G n n0 ρ0 w0 Q) a w
def LX(G:Nat)(P:Program)(n:Nat):LF:=λb fr H Q =>
 ∀(B n0:Nat)(ρ0:Rn)(w0:World)(ρ:Rn)(a:Act) (w:World),St B G n n0 ρ0 w0 ρ fr H a w->LW P b (Eu B G n n0 ρ0 w0 Q) a w
theorem a9u{ops:Array Oper}{g:Nat×Bool}{o:Oper}{yes no:Prop}(s:St B G n n0 ρ0 w0 ρ fr H a w)(ho:o.guard=some g)(h:Fg (Dp ops fr g.1) g.2 yes no):
  (Region.wanted o (yielded ops a.tmps)=true/\yes)\/(Region.wanted o (yielded ops a.tmps)=false/\no):=by
 obtain⟨j,want⟩:=g;have slot:∀{d:Tmp}{v:AV},fr.get d=some v->∃u,a.tmps[d]?=some u/\VR ρ v u:=by
  intro d v hv;have hlt:=s.frel.only d v hv;have:=s.frel.slot d v hv hlt;have hsz:d<a.tmps.size:=Xg hlt s.frel.size;simp_all
 have atSlot:∀{v:AV},Dp ops fr j=some v->∃oj d u,ops[j]?=some oj/\oj.dst=some d/\a.tmps[d]?=some u/\VR ρ v u:=by
  grind[Dp]
 unfold Fg at h;split at h
 .rename_i b hs;obtain⟨oj,d,u,h1,h2,h3,h4⟩:=atSlot hs;cases h4;have hyl:yielded ops a.tmps j=some b:=by grind[yielded]
  by_cases e:b=want
  .grind[Region.wanted]
  .have e2:b = !want:=by cases b<;>cases want<;>simp_all
   grind[Region.wanted]
 .rename_i vs hs;obtain⟨oj,d,u,h1,h2,h3,h4⟩:=atSlot hs;cases h4;grind[yielded,Region.wanted]
 grind
theorem a9v{W:WF}(hW:WOK G P W){ops:Array Oper}{o:Oper}{a0:List Oper}{k:Fr->Mem->Prop}{Q:Out->Prop}(hG:G=P.globals.size)(a3:B6 n o=true)
  (s:St B G n n0 ρ0 w0 ρ fr H a w)
  (hk:∀(a1:Fr)(H' : Mem)(ρ' : Rn)(a' : Act)(w' : World),St B G n n0 ρ0 w0 ρ' a1 H' a' w'->k a1 H'->wpList P ops (Eu B G n n0 ρ0 w0 Q) a0 a' w')
  (h:Fv W o fr k Q (opV P H fr.ev o)) :
  o.wp P a w (wpList P ops (Eu B G n n0 ρ0 w0 Q) a0) (Eu B G n n0 ρ0 w0 Q):=by
 have A:=Ig (o:=o) s.sim s.ev hG;have hd:=Fe a3;unfold Oper.wp
 cases Z:opV P H fr.ev o with
 | val v H' =>
  rw[Z] at A h;obtain⟨ρ',u,w',D,U,h3,h4,h5⟩:=A;rw[D];exact hk _ _ _ _ _ (s.step U h3 h4 h5 hd) h
 | skip H' =>
  rw[Z] at A h;obtain⟨ρ',w',D,U,h3,h5⟩:=A;rw[D];exact hk _ _ _ _ _ (s.step U h3 (He _) h5 hd) h
 | enter f args H' =>
  rw[Z] at A h;obtain⟨us,D,U,rfl⟩:=A;rw[D];refine(hW _ _ _ _ h B ρ us w s.sim U).mono λe w' ⟨r,a2,hc⟩=>?_
  cases r with
  | bad=>grind
  | ret v H2 =>
   cases e with
   | returned u =>
    obtain⟨ρ',g1,g2,g3,g4⟩:=hc;exact hk _ _ _ _ _ (s.step g1 g2 g3 g4 hd) a2
   | panicked a4=>exact hc.elim
   | outgrown=>exact hc.elim
  | panic v H2 =>
   cases e with
   | returned u=>exact hc.elim
   | panicked a4 =>
    obtain⟨ρ',u,g0,g1,g2,g3,g4⟩:=hc;exact⟨_,a2,ρ',u,g0,g1,s.ext.trans g2 s.le,g3,s.frel.mono (g2.sub s.sim),W6 s.le g4⟩
   | outgrown=>exact hc.elim
 | dfr fn a5 args H' =>
  rw[Z] at A h;obtain⟨cs,as,D,U,h3,rfl⟩:=A;rw[D];have hf:Dj n ρ (fr.defer (fn,a5,args)) { a with defers:={ target:=.fn fn cs,args:=as }::a.defers }:=
   ⟨λt v hv ht=>s.frel.slot t v (by grind[Fr.get_defer]) ht,by rw[Y4];exact⟨cs,as,_,rfl,U,h3,s.frel.dfr⟩,s.frel.size,
    λt v hv=>s.frel.only t v (by grind[Fr.get_defer])⟩
  exact hk _ _ _ _ _ ⟨s.ext,s.sim,hf.put hd (He _),s.le⟩ h
 | recover=>rw[Z] at h;exact h.elim
 | panic v H' =>
  rw[Z] at A h;obtain⟨u,D,U,rfl⟩:=A;rw[D];exact⟨_,h,ρ,u,rfl,U,s⟩
 | bad=>rw[Z] at h;exact h.elim
theorem T7{W:WF}(hW:WOK G P W){ops:Array Oper}{Q:Out->Prop}(hG:G=P.globals.size):∀(l:List Oper)(fr:Fr)(H:Mem)(ρ:Rn)(a:Act) (w:World),
  (∀o∈l,B6 n o=true)->St B G n n0 ρ0 w0 ρ fr H a w->Fw P W ops Q l fr H->wpList P ops (Eu B G n n0 ρ0 w0 Q) l a w
 | [],fr,H,ρ,a,w,_,s,h=>wpList_nil ⟨_,h,ρ,s⟩
 | o::l,fr,H,ρ,a,w,hd,s,h=>by
  have a0:=hd o (by simp);have Z:∀(f:Fr)(H' : Mem)(ρ' : Rn)(A:Act)(D:World),St B G n n0 ρ0 w0 ρ' f H' A D->Fw P W ops Q l f H'->wpList P ops (Eu B G n n0 ρ0 w0 Q) l A D:=
   λf H' ρ' A D s' Z=>T7 hW hG l f H' ρ' A D (λo ho=>hd o (by grind)) s' Z
  have U:C6 P W ops o fr H (Fw P W ops Q l) Q:=h;unfold C6 at U;unfold wpList
  cases hg:o.guard with
  | none =>
   rw[hg] at U;rw[if_pos (by grind[Region.wanted])];grind[a9v]
  | some g =>
   rw[hg] at U;rcases a9u s hg U with⟨hw,hy⟩|⟨hw,hn⟩
   .rw[if_pos hw];grind[a9v]
   .rw[if_neg (by grind)];exact Z _ _ _ _ _ ⟨s.ext,s.sim,s.frel.put (Fe a0) (He _),s.le⟩ hn
theorem T8{G:Nat}{P:Program}{O:CallF}(f:∀B,A4 B G P O):WOK G P (orW O (WC G P)):=λ_ _ _ _ h=>a9t f h
end
section
variable {B G:Nat}{P:Program}{ops:Array Oper}{tab:List Nat}{fr0:Fr}
def GrF(r r' : ResF):Prop:=∀j v,r j=some v->r' j=some v
theorem GrF.refl(r:ResF):GrF r r:=λ_ _ h=>h
abbrev Yp:=@GrF.refl
theorem GrF.trans{a b c:ResF}(h:GrF a b)(k:GrF b c):GrF a c:=λj v e=>k j v (h j v e)
theorem Lz{res:ResF}{i:Nat}{v:AV}{K:ResF->Prop}(h:Jf res i v K):∃f,K f/\GrF res f/\f i=some v:=by
 refine⟨_,h.2,λj y A=>?_,if_pos rfl⟩;unfold Ct;by_cases e:j=i
 .subst e;rw[h.1] at A;grind
 grind
def L2(B:Nat)(P:Program)(ops:Array Oper)(tab:List Nat)(fr0:Fr)(res:ResF)(held:List Nat)(als:Als)(i:Nat)(o:Oper):Prop:=
  ∃r0 v,GrF r0 res/\res i=some v /\
    ((Nf tab r0 i o=some false/\v=.lit undef) \/
     (Nf tab r0 i o=some true /\
      ((cls o.op=.free/\∀H,opV P H (Bw ops tab fr0 r0 i) o=.val v H) \/
       (cls o.op=.gen/\A3 P (Bw ops tab fr0 r0 i) o=some v) \/
       (cls o.op=.read/\i∈held) \/
       (∃f x nm,(∀(ρ:Rn)(w:World)(e:Operand->Value),EvR ρ (Bw ops tab fr0 r0 i) e->B<=w.heap.size->ND B P ρ w f x (execOp e o))/\v=f nm/\(i,nm,x)∈als))))
theorem L2.mono{res U:ResF}{held Z:List Nat}{als a0:Als}{i:Nat}{o:Oper}(h:L2 B P ops tab fr0 res held als i o)(hg:GrF res U)
  (hh:i∈held->i∈Z) (ha:∀D x,(i,D,x)∈als->(i,D,x)∈a0):L2 B P ops tab fr0 U Z a0 i o:=by
 obtain⟨r0,v,h1,h2,h3⟩:=h;refine⟨r0,v,h1.trans hg,hg _ _ h2,h3.imp id λ⟨h4,A⟩=>⟨h4,A.imp id λA=>A.imp id λA=>A.imp ?_ ?_⟩⟩
 .grind
 .exact λ⟨f,x,D,a,b,c⟩=>⟨f,x,D,a,b,ha _ _ c⟩
structure a1p (B:Nat) (P:Program) (ops:Array Oper) (tab:List Nat) (fr0:Fr) (L:List Nat) (res:ResF) (H:Mem) (held:List Nat) (als:Als) (res' : ResF) (H' : Mem) (held' : List Nat) (als' : Als):Prop where
 gr:GrF res res'
 ph:Ph H H'
 keepH:∀i∈held,i∈held'
 keepA:∀x∈als,x∈als'
 new:∀x∈als',x∈als\/H.next<=x.2.1
 ok:∀n,n<=H.next->Ef n H als->Ef n H' als'
 known:∀i∈L,∀o,ops[i]?=some o->L2 B P ops tab fr0 res' held' als' i o
variable {L:List Nat}{res:ResF}{H:Mem}{held:List Nat}{als:Als}{K:StW}
theorem a9w{tab:List Nat}{res:ResF}{i:Nat}{o:Oper}{yes no:Prop}(h:Ng tab res i o yes no):
  (Nf tab res i o=some true/\yes)\/(Nf tab res i o=some false/\no):=by
 unfold Ng at h;unfold Nf;split at h
 .grind
 .rename_i g hg;obtain⟨ha,h⟩:=h;unfold a1n;rw[ha];unfold Fg at h;split at h
  .rename_i b hs;rw[hs];obtain⟨j,want⟩:=g;by_cases e:b=want
   .left;refine⟨?_,h.1 e⟩;subst e;cases b<;>rfl
   .right;have e2:b = !want:=by cases b<;>cases want<;>simp_all
    grind
  all_goals grind
theorem c3n{i:Nat}{o:Oper}(ho:ops[i]?=some o)(hk:Cj o.op=false)(hn:cls o.op≠.no)(h:T1 P ops tab fr0 i res H held als K):
    ∃A H' Z a0,K A H' Z a0/\a1p B P ops tab fr0 [i] res H held als A H' Z a0:=by
  have only:∀{A:ResF}{Z:List Nat}{a0:Als},L2 B P ops tab fr0 A Z a0 i o->∀j∈[i],∀o',ops[j]?=some o'->L2 B P ops tab fr0 A Z a0 j o':=by
    grind
  unfold T1 at h;rw[ho] at h;dsimp only at h;rcases a9w h with⟨hw,h⟩|⟨hw,h⟩
  · have a6:∀(a1:cls o.op ≠ .alloc)(a2:cls o.op ≠ .read), Ly P H (Bw ops tab fr0 res i) o (λv => Jf res i v λres => K res H held als) ->
        ∃A H' Z a0,K A H' Z a0/\a1p B P ops tab fr0 [i] res H held als A H' Z a0:=by
      intro a1 a2 h;unfold Ly at h;split at h
      · rename_i v U;obtain⟨A,h1,D,h3⟩:=Lz h;refine⟨A,H,held,als,h1,D,Yd _,λ_ h=>h,λ_ h=>h,λ_ h=>.inl h,λ_ _ h=>h,only ?_⟩;refine⟨res,_,D,h3,.inr ⟨hw,?_⟩⟩
        cases hc:cls o.op with
        | free =>
          left;refine⟨rfl,?_⟩;unfold quiet at U;rw[hc] at U;dsimp only at U;have hf:freeOp o.op=true:=by
            cases hf:freeOp o.op with
            | true=>rfl
            | false =>
              (simp_all[cls];grind)
          split at U
          · rename_i v' H' a3;cases U;intro H2;have a7:=a0w hf H v H' a3;grind
          grind
        | gen =>
          right;left;refine⟨rfl,?_⟩;grind[quiet]
        | read=>grind
        | alloc=>grind
        | chain=>grind[Cj]
        | no=>grind
      grind
    cases hc:cls o.op with
    | alloc =>
      rw[hc] at h;dsimp only at h
      cases U:opV P H (Bw ops tab fr0 res i) o with
      | val v H' =>
        rw[U] at h;dsimp only[a1o] at h;split at h
        · rename_i b hb;obtain⟨f,x,e1,e2,a4⟩:=a0x (B:=B) hc U;subst e1;subst e2;have a5:b=x:=by
            rcases X2 hb with⟨_,e⟩|⟨e,_⟩
            all_goals grind
          subst a5;obtain⟨A,h1,D,h3⟩:=Lz h;refine⟨A,_,held,_,h1,D,Ph.add _ _,λ_ h=>h,λ_ h=>e6h _ h,?_,λn hn hk=>hk.cons hn i b b,only ?_⟩
          · grind
          · exact⟨res,_,D,h3,.inr ⟨hw,.inr (.inr (.inr ⟨f,b,H.next,a4,rfl,by simp⟩))⟩⟩
        grind
      | _=>rw[U] at h;exact h.elim
    | read =>
      rw[hc] at h;dsimp only at h;unfold Ly at h;split at h
      · rename_i v U;obtain⟨A,h1,D,h3⟩:=Lz h;refine⟨A,H,i::held,als,h1,D,Yd _,λ_ h=>e6h _ h,λ_ h=>h,λ_ h=>.inl h,λ_ _ h=>h,only ?_⟩;exact⟨res,_,D,h3,.inr ⟨hw,.inr (.inr (.inl ⟨hc,by simp⟩))⟩⟩
      grind
    | free=>grind
    | gen=>grind
    | chain=>grind
    | no=>grind
  · obtain⟨A,h1,D,h3⟩:=Lz h;exact⟨A,H,held,als,h1,D,Yd _,λ_ h=>h,λ_ h=>h,λ_ h=>.inl h,λ_ _ h=>h,only ⟨res,_,D,h3,.inl ⟨hw,rfl⟩⟩⟩
theorem stageW_sound:∀(L:List Nat)(res:ResF)(H:Mem)(held:List Nat)(als:Als),(∀i∈L,∃o,ops[i]?=some o/\Cj o.op=false/\cls o.op≠.no) ->
  Nh P ops tab fr0 K L res H held als->∃U H' Z a0,K U H' Z a0/\a1p B P ops tab fr0 L res H held als U H' Z a0
 | [],res,H,held,als,_,h=>⟨res,H,held,als,h,Yp _,Yd _,λ_ h=>h,λ_ h=>h,λ_ h=>.inl h,λ_ _ h=>h,λ_ h=>by cases h⟩
 | i::L,res,H,held,als,hL,h=>by
  obtain⟨o,ho,A,f⟩:=hL i (by simp);obtain⟨r1,H1,a2,a3,h1,f1⟩:=c3n (B:=B) ho A f h;obtain⟨r2,H2,a4,a5,h2,f2⟩:=stageW_sound L r1 H1 a2 a3 (λi hi=>hL i (by grind)) h1;refine⟨r2,H2,a4,a5,h2,f1.gr.trans f2.gr,f1.ph.trans f2.ph,λi hi=>f2.keepH i (f1.keepH i hi),λx hx=>f2.keepA x (f1.keepA x hx),?_,?_,?_⟩
  .intro x hx;rcases f2.new x hx with h|h
   .exact f1.new x h
   .exact .inr (W6 f1.ph.le h)
  .intro n f A;exact f2.ok n (W6 f f1.ph.le) (f1.ok n f A)
  .intro j D o' a1;rcases Xb.1 D with rfl|D
   .exact(f1.known j (by simp) o' a1).mono f2.gr (λh=>f2.keepH _ h) λnm x h=>f2.keepA _ h
   .exact f2.known j D o' a1
noncomputable def a9x(P:Program)(W:WF)(ops:Array Oper)(tab:List Nat)(fr:Fr)(all:List Nat)(Q:Out->Prop)(k:Nat)(cs:List Nat)(res:ResF)(H:Mem)(held:List Nat)(als:Als):Prop:=
 match cs with
 | []=>Ki res (λfr=>Q (.norm fr H)) ops.toList 0 fr
 | c::cs=>Qy P W ops tab fr c res H (λres H=>Ox P W ops tab fr all Q (k+1) cs res H (Hc tab c held) (Gi tab c als)) Q
def T9(P:Program)(W:WF)(ops:Array Oper)(tab:List Nat)(fr:Fr)(all:List Nat)(Q:Out->Prop)(k:Nat)(cs:List Nat)(res:ResF)(H:Mem)(held:List Nat)(als:Als):Prop:=
 Kg P ops tab fr res H held/\Kh H als/\a9x P W ops tab fr all Q k cs res H held als
theorem Ua{W:WF}{Q:Out->Prop}(f:List Nat)(k:Nat)(cs:List Nat)(res:ResF)(H:Mem)(held:List Nat)(als:Als):
  Ox P W ops tab fr0 f Q k cs res H held als=Nh P ops tab fr0 (λres H held als=>T9 P W ops tab fr0 f Q k cs res H held als) (Es tab f k ops.toList 0) res H held als:=by
 cases cs<;>rfl
theorem a9y{res:ResF}{H:Mem}:∀{held:List Nat},Kg P ops tab fr0 res H held->∀i∈held,∃o v,ops[i]?=some o/\res i=some v/\quiet P H (Bw ops tab fr0 res i) o=some v
 | [],_,_,h=>by cases h
 | j::held,h,i,hi=>by
  rcases Xb.1 hi with rfl|hi
  .have f:=h.1;split at f
   .rename_i o A;obtain⟨v,D,U⟩:=f;exact⟨o,v,A,D,U⟩
   .exact f.elim
  .exact a9y h.2 i hi
theorem a9z{H:Mem}:∀{als:Als},Kh H als->∀i f x,(i,f,x)∈als->H.get f=some x
 | [],_,_,_,_,h=>by cases h
 | (j,a,b)::als,h,i,f,x,hx=>by
  rcases Xb.1 hx with e|hx
  .cases e;exact h.1
  .exact a9z h.2 i f x hx
end
section
variable {B G n n0:Nat}{P:Program}{ops:Array Oper}{fr0:Fr}{ρ0 ρ:Rn}{w0 w:World}{dn cs:List Nat}{res:ResF}{H:Mem}{held:List Nat}{als:Als}{listed:Array Bool}{a:Act}{Q:Out→Prop}{W:WF}
structure Ji (B G n n0:Nat) (P:Program) (ops:Array Oper) (fr0:Fr) (ρ0:Rn) (w0:World) (dn cs:List Nat) (res:ResF) (H:Mem) (held:List Nat) (als:Als) (listed:Array Bool) (ρ:Rn) (a:Act) (w:World):Prop where
 ext:Ext B n0 ρ0 w0 ρ w
 sim:Sim B G ρ H w
 le:n0<=H.next
 size:listed.size=ops.size
 tsz:n<=a.tmps.size
 dfr:DR ρ fr0.defers a.defers
 only:∀t v,fr0.get t=some v->t<n
 chain:chainOf ops.toList 0=dn++cs
 csN:∀c∈cs,¬Dn listed c
 down:∀i o,Dn listed i->ops[i]?=some o->∀e∈o.after.toList,Region.binds .any e=true->Dn listed e.on
 old:∀t,(∀j,Gz t ops.toList 0=some j->¬Dn listed j)->∀v,fr0.get t=some v->VR ρ v (a.tmps.getD t undef)
 new:∀j o,Dn listed j->ops[j]?=some o->∃v,res j=some v/\∀d,o.dst=some d->VR ρ v (a.tmps.getD d undef)
 known:∀i o,¬Dn listed i->ops[i]?=some o->Cj o.op=false->Ee (ancs [] ops.toList) i (dn++cs)<=dn.length->L2 B P ops (ancs [] ops.toList) fr0 res held als i o
 aok:Ef n0 H als
 alsN:∀x∈als,¬Dn listed x.1->ρ x.2.1=none
theorem Rd.ancW{i j:Nat}{o:Oper}(r:Rd ops listed i o)(d:Ji B G n n0 P ops fr0 ρ0 w0 dn cs res H held als listed ρ a w)(h:A1 (ancs [] ops.toList) i j=true):Dn listed j:=
 Tn (listed:=Dn listed) d.down i o j r.at' r.all h
theorem Rd.not_ancW{i j:Nat}{o:Oper}(r:Rd ops listed i o)(d:Ji B G n n0 P ops fr0 ρ0 w0 dn cs res H held als listed ρ a w)(U:j<ops.size)(h:A1 (ancs [] ops.toList) j i=true):¬Dn listed j:=by
 intro D;obtain⟨f,A⟩:∃f,ops[j]?=some f:=⟨ops[j],by grind⟩;exact r.un (Tn (listed:=Dn listed) d.down j f i A (d.down j f D A) h)
theorem a1q{i:Nat}{o:Oper}{A:ResF}(d:Ji B G n n0 P ops fr0 ρ0 w0 dn cs res H held als listed ρ a w)(r:Rd ops listed i o)(hg:GrF A res):
  EvR ρ (Bw ops (ancs [] ops.toList) fr0 A i) a.eval:=by
 intro x v hx
 cases x with
 | tmp t =>
  have h:G1 ops (ancs [] ops.toList) fr0 A i t=some v:=hx;unfold G1 at h;split at h
  .rename_i D;exact d.old t (λj hj=>by grind) v h
  .rename_i j D;obtain⟨_,oj,a3,a2⟩:=Lm D;have a0:ops[j]?=some oj:=B7.1 (by grind);split at h
   .rename_i U;obtain⟨y,hy,hv⟩:=d.new j oj (r.ancW d U) a0;have:=hg _ _ h;rw[this] at hy;cases hy;exact hv t a2
   .split at h
    .rename_i U;refine d.old t (λj' a1=>?_) v h;rw[D] at a1;cases a1;rcases e8m _ _ ▸ U with Z|Z
     .exact r.not_ancW d (Ff a0) Z
     .have:=Xd Z;subst this;exact r.un
    grind
 | const c=>cases hx;rfl
 | global g=>cases hx;rfl
 | func f=>cases hx;rfl
theorem b0a{i:Nat}{o:Oper}{U:ResF}{b:Bool}(a3:fit ops.toList ops.toList 0=true)(a4:∀(j:Nat)(o:Oper),ops[j]?=some o->B6 n o=true)
  (d:Ji B G n n0 P ops fr0 ρ0 w0 dn cs res H held als listed ρ a w) (r:Rd ops listed i o) (hg:GrF U res) (h:Nf (ancs [] ops.toList) U i o=some b) :
  Region.wanted o (yielded ops a.tmps)=b:=by
 unfold Nf at h;split at h
 .grind[Region.wanted]
 .rename_i g a0;obtain⟨j,a5⟩:=g;have Z:=Lp a3 i o (B7.2 r.at');unfold Ka at Z;simp only[W0] at Z;have D:=Z.2;rw[a0] at D;dsimp only at D;split at D
  .rename_i oj a6;have a1:ops[j]?=some oj:=B7.1 a6;obtain⟨t,ht⟩:=Option.isSome_iff_exists.1 D;have a2:∀{v:AV},A1 (ancs [] ops.toList) i j=true->U j=some v->∃u,a.tmps[t]?=some u/\VR ρ v u:=by
    intro v f A;obtain⟨y,hy,a9⟩:=d.new j oj (r.ancW d f) a1;rw[hg _ _ A] at hy;cases hy;have a7:t<n:=Fe (a4 j oj a1) t ht;have b0:t<a.tmps.size:=Xg a7 d.tsz;simp_all
   unfold a1n at h;split at h
   .rename_i b' f hb;obtain⟨u,hu,A⟩:=a2 f hb;cases A;have a8:yielded ops a.tmps j=some b':=by grind[yielded]
    simp only[Region.wanted,a0,a8];revert h;cases b'<;>cases a5<;>simp<;>exact λh=>h ▸ rfl
   .rename_i vs f hb;obtain⟨u,hu,A⟩:=a2 f hb;cases A;grind[yielded,Region.wanted]
   grind
  grind
theorem Ji.go{i:Nat}{o:Oper}{ρ': Rn}{w': World}{u:Value}{v:AV}{a0 a1:List Nat}{a2:ResF}{H': Mem}{a7:List Nat}{a3:Als}
  (a4:fit ops.toList ops.toList 0=true) (a8:∀(j:Nat)(o:Oper),ops[j]?=some o->B6 n o=true)
  (d:Ji B G n n0 P ops fr0 ρ0 w0 dn cs res H held als listed ρ a w) (r:Rd ops listed i o)
  (a9:Ext B n0 ρ w ρ' w') (a5:Sub ρ ρ') (hs:Sim B G ρ' H' w') (b0:n0<=H'.next) (b1:GrF res a2) (hv:a2 i=some v) (hr:VR ρ' v u)
  (b2:chainOf ops.toList 0=a0++a1) (b3:∀c∈a1,c≠i/\c∈cs)
  (b5:∀j A,j≠i->¬Dn listed j->ops[j]?=some A->Cj A.op=false->Ee (ancs [] ops.toList) j (a0++a1)<=a0.length->L2 B P ops (ancs [] ops.toList) fr0 a2 a7 a3 j A)
  (b4:Ef n0 H' a3) (b6:∀x∈a3,x.1≠i->¬Dn listed x.1->ρ' x.2.1=none) :
  Ji B G n n0 P ops fr0 ρ0 w0 a0 a1 a2 H' a7 a3 (listed.setIfInBounds i true) ρ' (a.put o.dst u) w':=by
 have hi:i<listed.size:=by rw[d.size];exact Ff r.at'
 have D:∀j,Dn (listed.setIfInBounds i true) j↔j=i\/Dn listed j:=λj=>Ye hi;refine⟨d.ext.trans a9 (Wy _),hs,b0,by simp[d.size],by rw[a8z];exact d.tsz,by rw[Ow];exact d.dfr.mono a5,d.only,b2,?_,?_,?_,?_,?_,b4,?_⟩
 .intro c hc hd;rcases (D c).1 hd with e|h
  .grind
  .exact d.csN c (b3 c hc).2 h
 .intro j A Z f e he hb;rcases (D j).1 Z with e1|h
  .subst e1;rw[r.at'] at f;cases f;exact(D _).2 (.inr (r.all e he hb))
  .exact(D _).2 (.inr (d.down j A h f e he hb))
 .intro t U y hy;have a6:o.dst≠some t:=λe=>U i (Ou a4 r.at' e) ((D i).2 (.inl rfl));rw[Tv a6];exact(d.old t (λj Z hd=>U j Z ((D j).2 (.inr hd))) y hy).mono a5
 .intro j A Z f;by_cases e:j=i
  .subst e;rw[r.at'] at f;cases f;refine⟨v,hv,λt U=>?_⟩;have b7:t<a.tmps.size:=Xg (Fe (a8 j _ r.at') t U) d.tsz;grind[a8y]
  .rcases (D j).1 Z with e1|h
   .grind
   .obtain⟨y,h1,h2⟩:=d.new j A h f;refine⟨y,b1 _ _ h1,λt U=>?_⟩;have a6:o.dst≠some t:=by
     intro e1;have h3:=Ou a4 r.at' e1;rw[Ou a4 f U] at h3;grind
    rw[Tv a6];exact(h2 t U).mono a5
 all_goals grind
structure Qz (B G n n0:Nat) (P:Program) (W:WF) (ops:Array Oper) (fr0:Fr) (ρ0:Rn) (w0:World) (Q:Out->Prop) (listed:Array Bool) (a:Act) (w:World):Prop where
 go:∃dn cs res H held als ρ,Ji B G n n0 P ops fr0 ρ0 w0 dn cs res H held als listed ρ a w/\(∀c∈dn,Dn listed c)/\(∀x∈als,G<=x.2.1) /\
  T9 P W ops (ancs [] ops.toList) fr0 (dn++cs) Q dn.length cs res H held als
theorem c3o{i:Nat}{o:Oper}(hG:G=P.globals.size)(a0:fit ops.toList ops.toList 0=true)(a7:∀(j:Nat)(o:Oper),ops[j]?=some o->B6 n o=true)
  (a8:∀x∈als,G<=x.2.1) (d:Ji B G n n0 P ops fr0 ρ0 w0 dn cs res H held als listed ρ a w) (b1:∀c∈dn,Dn listed c)
  (hg:T9 P W ops (ancs [] ops.toList) fr0 (dn++cs) Q dn.length cs res H held als) (r:Rd ops listed i o) (hc:Cj o.op=false)
  {K:Act->World->Prop} (hK:∀a' h,Qz B G n n0 P W ops fr0 ρ0 w0 Q (listed.setIfInBounds i true) a' h->K a' h) :
  wpOp P ops (Eu B G n n0 ρ0 w0 Q) i K a w:=by
 have b2:=hg;obtain⟨b3,b4,_⟩:=hg;have b5:Ee (ancs [] ops.toList) i (dn++cs)<=dn.length:=by
  refine a0y λc a1=>?_
  cases U:A1 (ancs [] ops.toList) i c with
  | false=>rfl
  | true=>exact absurd (r.ancW d U) (d.csN c a1)
 obtain⟨r0,v,a9,hv,hk⟩:=d.known i o r.un r.at' hc b5;have b6:=Lu a0 r.at';have b7:∀c∈cs,c≠i/\c∈cs:=by
  intro c a1;refine⟨?_,a1⟩;rintro rfl;have D:c∈chainOf ops.toList 0:=by rw[d.chain];grind
  obtain⟨_,o',a2,e6⟩:=mem_chainOf.1 D;have A:ops[c]?=some o':=B7.1 (by grind);rw[r.at'] at A;grind
 have a3:∀(ρ' : Rn)(u:Value)(h:World),Ext B n0 ρ w ρ' h->Sub ρ ρ'->Sim B G ρ' H h->VR ρ' v u->(∀x∈als,x.1≠i->¬Dn listed x.1->ρ' x.2.1=none)->K (a.put o.dst u) h:=by
  intro ρ' u h he b8 hs a4 b9;refine hK _ _ ⟨dn,cs,res,H,held,als,ρ',?_,λc c0=>(Ye (by rw[d.size];exact Ff r.at')).2 (.inr (b1 c c0)),a8,b2⟩;exact d.go a0 a7 r he b8 hs d.le (Yp _) hv a4 d.chain b7 (λj oj _ hj c1 c2 hn=>d.known j oj hj c1 c2 hn) d.aok b9
 have a5:=a1q d r a9;have base:=λb U=>b0a (b:=b) a0 a7 d r a9 U;unfold wpOp;rw[r.at'];dsimp only;rcases hk with⟨hw,rfl⟩|⟨hw,hk⟩
 .rw[if_neg (by grind)];exact a3 ρ undef w (X6 _ _ _ _) (Yl _) d.sim rfl (λx hx _ hd=>d.alsN x hx hd)
 .rw[if_pos (base _ hw)];left;have val:RS B G P ρ H w (.val v H) (execOp a.eval o)->o.wp P a w K (Eu B G n n0 ρ0 w0 Q):=by
   rintro⟨ρ',u,h,h1,A,h3,h4,_⟩;unfold Oper.wp;rw[h1];refine a3 ρ' u h ⟨λx hx=>A.same x (Xg hx d.le),A.keeps,A.below⟩ (A.sub d.sim) h3 h4 λx hx _ hd=>?_;rw[A.same _ (d.aok.hi x hx)];exact d.alsN x hx hd
  rcases hk with⟨_,e7⟩|⟨_,c6⟩|⟨e8,hh⟩|⟨f,x,Z,c7,rfl,D⟩
  .have:=Ig (o:=o) d.sim a5 hG;grind
  .have:=M9 (B:=B) (G:=G) (P:=P) (H:=H) d.sim a5 (a9a b6);rw[c6] at this;exact val this
  .obtain⟨o',v',a2,b0,hq⟩:=a9y b3 i hh;rw[r.at'] at a2;cases a2;rw[hv] at b0;cases b0;have c8:=a1q d r (Yp res);have:=Ig (o:=o) d.sim c8 hG;grind[a9b]
  .have a6:=d.alsN _ D r.un;have c9:=a9z b4 i Z x D;obtain⟨ob,k,u,h,h1,A,h3,h4,h5,e9,h6⟩:=c7 ρ w a.eval a5 d.sim.base;obtain⟨U,a4⟩:=h6 Z a6;have e0:n0<=Z:=d.aok.lo _ D;have e1:Z<H.next:=d.aok.hi _ D;unfold Oper.wp;rw[h1];refine a3 _ u h ?_ (Jb a6) (d.sim.named c9 a6 e1 (a8 _ D) A U) a4 λy hy g0 e5=>?_
   .exact⟨λy hy=>C4 _ _ (Nat.ne_of_lt (Xg hy e0)),KD.push A,(Yh ρ n0 (w.heap.size,0,k) w h ob A h3 h4 h5 d.sim.base).below⟩
   .have:y.2.1≠Z:=by
     intro e;have:=d.aok.own y hy _ D e;grind
    rw[C4 _ _ this];exact d.alsN y hy e5
theorem c3p(hW:WOK G P W){i:Nat}{o:Oper}(hG:G=P.globals.size)(e7:Ie (ancs [] ops.toList) (chainOf ops.toList 0)=true)(a4:fit ops.toList ops.toList 0=true)
  (a5:∀(j:Nat)(o:Oper),ops[j]?=some o->B6 n o=true)
  (e8:∀x∈als,G<=x.2.1) (d:Ji B G n n0 P ops fr0 ρ0 w0 dn cs res H held als listed ρ a w) (b6:∀c∈dn,Dn listed c)
  (hg:T9 P W ops (ancs [] ops.toList) fr0 (dn++cs) Q dn.length cs res H held als) (r:Rd ops listed i o) (hc:Cj o.op=true)
  {K:Act->World->Prop} (hK:∀a' D,Qz B G n n0 P W ops fr0 ρ0 w0 Q (listed.setIfInBounds i true) a' D->K a' D) :
  wpOp P ops (Eu B G n n0 ρ0 w0 Q) i K a w:=by
 obtain⟨e9,g5,hn⟩:=hg;have b7:i∈dn++cs:=by
  rw[<- d.chain];exact mem_chainOf.2 ⟨W3 _,o,by simpa using r.at',hc⟩
 rcases W9.1 b7 with h|b8
 .exact absurd (b6 i h) r.un
 cases cs with
 | nil=>grind
 | cons c cs =>
 have b9:i=c:=by
  rcases Xb.1 b8 with h|h
  .exact h
  .obtain⟨p,hp,ha⟩:=Qu (dn:=dn) (c:=c) (cs:=cs) (by rw[<- d.chain];omega) i h;exact absurd (r.ancW d ha) (d.csN p hp)
 subst b9;have hi:i<listed.size:=by rw[d.size];exact Ff r.at'
 have a6:(dn++i::cs)=(dn++[i])++cs:=by simp
 have c0:∀c∈cs,c≠i/\c∈i::cs:=by
  intro c a7;refine⟨?_,e6h _ a7⟩;rintro rfl;obtain⟨p,hp,ha⟩:=Qu (dn:=dn) (c:=c) (cs:=cs) (by rw[<- d.chain];omega) c a7;exact absurd (r.ancW d ha) (d.csN p hp)
 have a2:∀(v:AV)(H' : Mem)(ρ' : Rn)(u:Value)(D:World) (U:ResF),GrF res U->U i=some v->Ext B H.next ρ w ρ' D->Sim B G ρ' H' D->VR ρ' v u->H.next<=H'.next ->
   Ox P W ops (ancs [] ops.toList) fr0 (dn++i::cs) Q (dn.length+1) cs U H' (Hc (ancs [] ops.toList) i held) (Gi (ancs [] ops.toList) i als)->K (a.put o.dst u) D:=by
  intro v H' ρ' u D U a8 hv he hs c1 a3 a9;rw[Ua] at a9;obtain⟨c2,H2,c6,c7,h1,f⟩:=stageW_sound (B:=B) (Es (ancs [] ops.toList) (dn++i::cs) (dn.length+1) ops.toList 0) U H' _ _ (by
   grind[Ii,Lu]) a9
  have c8:(dn++[i]).length=dn.length+1:=by simp
  refine hK _ _ ⟨dn++[i],cs,c2,H2,c6,c7,ρ',?_,?_,?_,?_⟩
  .refine d.go a4 a5 r ⟨λx hx=>he.same x (Xg hx d.le),he.keeps,he.below⟩ (he.sub d.sim) (f.ph.sim hs) (W6 d.le (W6 a3 f.ph.le)) (a8.trans f.gr) (f.gr _ _ hv) c1
    (by rw[d.chain,a6]) c0 ?_ ?_ ?_
   .intro j oj g6 b0 b1 b2 c9;rw[c8,<- a6] at c9;rcases e6y (Ee (ancs [] ops.toList) j (dn++i::cs)) (dn.length+1) with h|h
    .have b3:A1 (ancs [] ops.toList) i j=false:=by
      cases hb:A1 (ancs [] ops.toList) i j with
      | false=>rfl
      | true=>exact absurd (r.ancW d hb) b0
     exact(d.known j oj b0 b1 b2 (by omega)).mono (a8.trans f.gr) (λh=>f.keepH _ (Ts b3 h)) λnm x h=>f.keepA _ (Tt b3 h)
    .exact f.known j (Ii.2 ⟨W3 _,oj,by grind,b2,by omega⟩) oj b1
   .exact f.ok n0 (W6 d.le a3) (d.aok.sub (λx hx=>Lt x hx) a3)
   .intro x hx g7 e0;rcases f.new x hx with h|h
    .have b4:=Lt x h;rw[he.same _ (d.aok.hi x b4)];exact d.alsN x b4 e0
    .exact hs.fresh _ h
  .grind[Dn.set]
  .intro x hx;rcases f.new x hx with h|h
   .grind[Lt]
   .exact W6 hs.names h
  grind
 have e1:=a1q d r (Yp res);have base:=λb hb=>b0a (b:=b) a4 a5 d r (Yp res) hb;unfold wpOp;rw[r.at'];dsimp only;unfold a9x Qy at hn;dsimp only at hn;rw[r.at'] at hn;dsimp only at hn;rcases a9w hn with⟨hw,A⟩|⟨hw,A⟩
 .rw[if_pos (base _ hw)];left;have a0:=Ig (o:=o) d.sim e1 hG;unfold Oper.wp
  cases hr:opV P H (Bw ops (ancs [] ops.toList) fr0 res i) o with
  | val v H' =>
   rw[hr] at a0 A;obtain⟨ρ',u,D,h1,h2,h3,h4,h5⟩:=a0;rw[h1];simp only[T5] at A;obtain⟨U,g1,Z,g3⟩:=Lz A;exact a2 v H' ρ' u D U Z g3 h2 h3 h4 h5 g1
  | skip H' =>
   rw[hr] at a0 A;obtain⟨ρ',D,h1,h2,h3,h5⟩:=a0;rw[h1];simp only[T5] at A;obtain⟨U,g1,Z,g3⟩:=Lz A;exact a2 _ H' ρ' undef D U Z g3 h2 h3 rfl h5 g1
  | enter f args H' =>
   rw[hr] at a0 A;obtain⟨us,h1,h2,rfl⟩:=a0;rw[h1];have e5:=hW _ _ _ _ (show W f args H' _ from A);refine(e5 B ρ us w d.sim h2).mono λe D ⟨r',b5,a1⟩=>?_
   cases r' with
   | bad=>grind
   | ret v H2 =>
    obtain⟨U,g1,Z,g3⟩:=Lz b5
    cases e with
    | returned u =>
     obtain⟨ρ',k1,k2,k3,k4⟩:=a1;grind
    | panicked e6=>exact a1.elim
    | outgrown=>exact a1.elim
   | panic v H2 =>
    cases e with
    | returned u=>exact a1.elim
    | panicked e6 =>
     obtain⟨ρ',u,g0,g1,Z,g3,g4⟩:=a1;refine⟨_,b5,ρ',u,g0,g1,?_,g3,?_,W6 d.le g4⟩
     .exact d.ext.trans ⟨λx hx=>Z.same x (Xg hx d.le),Z.keeps,Z.below⟩ (Wy _)
     .exact⟨(λt v hv _=>(by grind[Fr.get_clear])),(by rw[Y7];exact d.dfr.mono (Z.sub d.sim)),d.tsz,(λt v hv=>(by grind[Fr.get_clear]))⟩
    | outgrown=>exact a1.elim
  | dfr fn g8 args H'=>rw[hr] at A;exact A.elim
  | recover=>rw[hr] at A;exact A.elim
  | panic v H'=>rw[hr] at A;exact A.elim
  | bad=>rw[hr] at A;exact A.elim
 .rw[if_neg (by grind)];obtain⟨U,h1,h2,h3⟩:=Lz A;exact a2 _ H ρ undef w U h2 h3 (X6 _ _ _ _) d.sim rfl (Wy _) h1
theorem b0b{res:ResF}{K:Fr->Prop}:∀(l:List Oper)(i:Nat)(fr:Fr),Ki res K l i fr ->
  ∃f,K f/\f.defers=fr.defers/\∀t v,f.get t=some v->(∃j o,l[j]?=some o/\o.dst=some t/\res (i+j)=some v)\/((∀o∈l,o.dst≠some t)/\fr.get t=some v)
 | [],i,fr,h=>⟨fr,h,rfl,λt v D=>.inr ⟨(λ_ h=>(by cases h)),D⟩⟩
 | o::l,i,fr,h=>by
  unfold Ki at h;split at h
  .rename_i v D;obtain⟨f,h1,h2,h3⟩:=b0b l (i+1) _ h;refine⟨f,h1,?_,?_⟩
   .rw[h2];unfold Fr.put;grind[Fr.defers_upd]
   .intro t y hy;rcases h3 t y hy with⟨j,oj,hj,Z,hr⟩|⟨Z,A⟩
    .exact .inl ⟨j+1,oj,by grind,Z,by grind⟩
    .cases U:o.dst with
     | none =>
      rw[U] at A;exact .inr ⟨λo' a1=>by grind,A⟩
     | some d =>
      rw[U] at A;have a0:(fr.upd d v).get t=some y:=A;rcases Yg a0 with⟨rfl,rfl⟩|⟨a2,a0⟩
      .exact .inl ⟨0,o,rfl,U,D⟩
      grind
  grind
theorem b0c(a1:fit ops.toList ops.toList 0=true)(hr:Region.ready .any ops listed=[])(g:Qz B G n n0 P W ops fr0 ρ0 w0 Q listed a w)
  (a2:∀(j:Nat)(o:Oper),ops[j]?=some o->B6 n o=true):Eu B G n n0 ρ0 w0 Q .normal a w:=by
 obtain⟨dn,cs,res,H,held,als,ρ,d,a6,a7,hg⟩:=g.go;have U:=a9d a1 d.size hr;obtain⟨_,_,hn⟩:=hg
 cases cs with
 | cons c cs =>
  exfalso;refine d.csN c (by simp) (U c ?_);have a8:c∈chainOf ops.toList 0:=by rw[d.chain];simp
  grind[mem_chainOf]
 | nil =>
  have a3:Ki res (λfr=>Q (.norm fr H)) ops.toList 0 fr0:=hn;obtain⟨a4,h1,h2,h3⟩:=b0b ops.toList 0 fr0 a3;have key:∀t v,a4.get t=some v->t<n/\VR ρ v (a.tmps.getD t undef):=by
   intro t v f;rcases h3 t v f with⟨j,o,h,A,Z⟩|⟨A,a0⟩
   .have D:ops[j]?=some o:=B7.1 h;rw[e6s] at Z;obtain⟨y,hy,a5⟩:=d.new j o (U j (Ff D)) D;rw[Z] at hy;cases hy;exact⟨Fe (a2 j o D) t A,a5 t A⟩
   .refine⟨d.only t v a0,d.old t (λj h=>?_) v a0⟩;obtain⟨_,o,ho,a9⟩:=Lm h;grind
  exact⟨_,h1,ρ,d.ext,d.sim,⟨λt v f _=>(key t v f).2,by rw[h2];exact d.dfr,d.tsz,λt v f=>(key t v f).1⟩,d.le⟩
theorem c3q(hW:WOK G P W)(hG:G=P.globals.size)(a4:Ie (ancs [] ops.toList) (chainOf ops.toList 0)=true)(a0:fit ops.toList ops.toList 0=true)
  (a1:∀(j:Nat)(o:Oper),ops[j]?=some o->B6 n o=true):∀(f:Nat)(listed:Array Bool)(a:Act)(w:World),
  (∃l:List Nat,l.Nodup/\l.length=f/\∀i,i<ops.size->Dn listed i\/i∈l)->Qz B G n n0 P W ops fr0 ρ0 w0 Q listed a w ->
  wpAny P .any ops (Eu B G n n0 ρ0 w0 Q) f listed a w:=by
 intro f
 induction f with
 | zero =>
  rintro listed a w ⟨l,_,hl,hc⟩ g;have a2:l=[]:=e6x.1 hl;subst a2;have D:Region.ready .any ops listed=[]:=by
   cases hx:Region.ready .any ops listed with
   | nil=>rfl
   | cons i is =>
    exfalso;obtain⟨o,A⟩:=Tu (ops:=ops) (listed:=listed) (i:=i) (by grind);rcases hc i (Ff A.at') with h|h
    .exact A.un h
    grind
  exact⟨D,b0c a0 D g a1⟩
 | succ f ih =>
  rintro listed a w ⟨l,a3,hl,hc⟩ g;refine⟨λD=>b0c a0 D g a1,λi hi=>?_⟩;obtain⟨o,A⟩:=Tu hi;obtain⟨dn,cs,res,H,held,als,ρ,d,a5,a6,hg⟩:=g.go;have a7:i∈l:=(hc i (Ff A.at')).resolve_left A.un;have a8:i<listed.size:=by rw[d.size];exact Ff A.at'
  have hK:∀U Z,Qz B G n n0 P W ops fr0 ρ0 w0 Q (listed.setIfInBounds i true) U Z->wpAny P .any ops (Eu B G n n0 ρ0 w0 Q) f (listed.setIfInBounds i true) U Z:=by
   intro U Z g';refine ih _ U Z ⟨l.erase i,a3.erase i,by grind,λj hj=>?_⟩ g';grind[Dn.set]
  grind[c3p,c3o,Cj]
theorem a1r(hW:WOK G P W){id:Nat}(hG:G=P.globals.size)(s:St B G n n0 ρ0 w0 ρ fr0 H a w)(hd:Aw n (.region id ops true)=true)
  (h:T6 P W ops fr0 H Q) (t:Nat):wpOps P ops (Eu B G n n0 ρ0 w0 Q) (Region.schedule (P.follows .mixedOrders) ops t) a { w with drawn:=w.drawn+1 }:=by
 obtain⟨A,a0,Z⟩:=h;unfold Oi at A;simp only[W0] at A;obtain⟨⟨_,a1⟩,a2⟩:=A;have a3:∀(j:Nat)(o:Oper),ops[j]?=some o->B6 n o=true:=λj o hj=>W7.1 hd o (e5w (B7.2 hj));simp only[Region.schedule,a0,Bool.true_or,if_true];refine wpAny_sound ops.size t _ a _ ?_;have D:∀i,¬Dn (Array.replicate ops.size false) i:=by
  (simp_all[Dn];grind)
 refine c3q (fr0:=fr0) (ρ0:=ρ0) (w0:=w0) hW hG a1 a2 a3 ops.size _ a _ ⟨List.range ops.size,List.nodup_range,by simp,λi hi=>.inr (by grind)⟩ ?_;rw[Ua] at Z;obtain⟨a4,H2,a5,a6,h1,f⟩:=stageW_sound (B:=B) (Es (ancs [] ops.toList) (chainOf ops.toList 0) 0 ops.toList 0) (λ_=>none) H [] [] (by
  grind[Ii,Lu]) Z
 have U:Sim B G ρ H { w with drawn:=w.drawn+1 }:=s.sim.heap rfl;have hb:Below B w { w with drawn:=w.drawn+1 }:=⟨rfl,rfl,rfl,Wy _,λ_ _=>rfl⟩;refine⟨[],chainOf ops.toList 0,a4,H2,a5,a6,ρ,?_,(λ_ h=>(by cases h)),?_,h1⟩
 .refine⟨s.ext.trans ⟨λ_ _=>rfl,KD.heap rfl,hb⟩ (Wy _),f.ph.sim U,W6 s.le f.ph.le,by simp,s.frel.size,s.frel.dfr,s.frel.only,rfl,λc _=>D c,λi _ h=>absurd h (D i),
   λt _ v hv=>s.frel.slot t v hv (s.frel.only t v hv),λj _ h=>absurd h (D j),?_,f.ok n0 s.le (Ef.nil _ _),?_⟩
  .intro i o _ ho hc a7;exact f.known i (Ii.2 ⟨W3 _,o,by grind,hc,by grind⟩) o ho
  .intro x hx _;rcases f.new x hx with h|h
   .cases h
   .exact U.fresh _ h
 .intro x hx;rcases f.new x hx with h|h
  .cases h
  .exact W6 U.names h
theorem b0d(f:WOK G P W){id:Nat}(hG:G=P.globals.size)(s:St B G n n0 ρ0 w0 ρ fr0 H a w)(A:Aw n (.region id ops true)=true)
  (h:T6 P W ops fr0 H Q):(Code.region id ops true).wp P (Eu B G n n0 ρ0 w0 Q) a w:=by grind[id,a1r,wp_region_draw]
end
end Go.Ai
