/- Parts of an interpreter and of a proof. No condition. -/
import Derived.Recover
import Derived.OpenShut
import Derived.ChangeArms
import Derived.DataReads
import Derived.LaidMore
import Derived.LaidLaws
import Derived.Test.YtpimmmnkcgnjjaaGreatA02
set_option linter.all false
open Go.RowKit (Below)
namespace Go.Ai
section
variable {B G n n0:Nat}{P:Program}{ops:Array Oper}{fr0:Fr}{ρ0 ρ:Rn}{w0 w:World}{dn cs:List Nat}{res:T2 AV}{H:Mem}{held:List Nat}{als:Als}{listed:Array Bool}{a:Act}{callf:CallF}
theorem Sim.named(s:Sim B G ρ H w){A:Nat}{x:Blk}{ob:Obj}{k:Nat}{w' : World}(hx:H.get A=some x)(hn:ρ A=Option.none)(a2:A<H.next)(hG:G<=A)(hw:w'.heap=w.heap.push ob)
  (hb:BR B (upd ρ A (w.heap.size,0,k)) x w.heap.size 0 k w'):Sim B G (upd ρ A (w.heap.size,0,k)) H w':=by
 have a3:=Je (x:=(w.heap.size,0,k)) hn;have old:∀j y b o U,H.get j=some y->ρ j=some (b,o,U)->b≠w.heap.size/\w'.heap[b]?=w.heap[b]?:=by
  intro j y b o U Z D;have a2:=(s.at Z D).lt;grind
 refine⟨?_,?_,?_,?_,s.names,by rw[hw];simp;exact e7l s.base⟩
 .intro j y hy;by_cases e:j=A
  .grind[Dr]
  .rw[Dj _ _ e];rcases s.blk j y hy with h|⟨b',o',U,D,a4⟩
   .grind
   .exact .inr ⟨b',o',U,D,a4.mono a3 (old j y b' o' U hy D).2⟩
 .intro j j' y y' b1 o1 k1 o2 k2 h h' a1 ho D a0;by_cases e:j=A
  .subst e;rw[Dr] at D;cases D;rw[Dj _ _ (Ne.symm a1)] at a0;grind
  .rw[Dj _ _ e] at D;by_cases e' : j'=A
   .subst e';rw[Dr] at a0;grind
   .rw[Dj _ _ e'] at a0;exact s.inj j j' y y' b1 o1 k1 o2 k2 h h' a1 ho D a0
 .intro j Z;rw[Dj _ _ (by omega)];exact s.fresh j Z
 .intro j y Z hy;rw[Dj _ _ (by omega)];exact s.glob j y Z hy
theorem a8x{A:Op}(h:cls A≠.no):∀cs b,A≠.select cs b:=by
 rintro c b rfl;exact h rfl
theorem a8y{ev:Ev}{o:Oper}{v:AV}(h:cls o.op=.read)(A:quiet P H ev o=some v):opV P H ev o=.val v H:=by
 grind[quiet,a8q]
structure Qs (B G n n0:Nat) (P:Program) (callf:CallF) (ops:Array Oper) (fr0:Fr) (ρ0:Rn) (w0:World) (out:Out) (listed:Array Bool) (a:Act) (w:World):Prop where
 go:∃dn cs res H held als ρ,Jh B G n n0 P ops fr0 ρ0 w0 dn cs res H held als listed ρ a w/\(∀c∈dn,Dn listed c)/\(∀x∈als,G<=x.2.1) /\
  gate P callf ops (ancs [] ops.toList) fr0 (dn++cs) dn.length cs res H held als=out
theorem a0w{tab:List Nat}{D:List Nat}{k:Nat}{A:Out}(h:gate P callf ops tab fr0 D k cs res H held als=A)(U:A≠.bad):
  Nd P ops tab fr0 res H held=true/\Nf H als=true/\nxt P callf ops tab fr0 D k cs res H held als=A:=by
 (simp_all[gate];grind)
theorem Lz(h:fit ops.toList ops.toList 0=true){i:Nat}{o:Oper}(A:ops[i]?=some o):cls o.op≠.no:=by
 have D:=Lw h i o (Co.2 A)
 (simp_all[Kc];grind)
theorem c2o(D:fit ops.toList ops.toList 0=true){i:Nat}{o:Oper}(U:ops[i]?=some o):∀e∈o.after.toList,Region.binds .any e=true->e.on<i:=by
 have A:=Lw D i o (Co.2 U);unfold Kc at A;simp only[W1] at A;have h:=A.1.2;intro e Z hb;have:=W7.1 h e Z;simp_all
theorem c2p{i:Nat}{o:Oper}{U:Out}(hG:G=P.globals.size)(a0:fit ops.toList ops.toList 0=true)(a7:∀(j:Nat)(o:Oper),ops[j]?=some o->Cn n o=true)
  (b1:U≠.bad) (a8:∀x∈als,G<=x.2.1) (d:Jh B G n n0 P ops fr0 ρ0 w0 dn cs res H held als listed ρ a w) (b2:∀c∈dn,Dn listed c)
  (hg:gate P callf ops (ancs [] ops.toList) fr0 (dn++cs) dn.length cs res H held als=U) (r:Rd ops listed i o) (hc:Cw o.op=false)
  {K:Act->World->Prop} (hK:∀a' h,Qs B G n n0 P callf ops fr0 ρ0 w0 U (listed.setIfInBounds i true) a' h->K a' h) :
  wpOp P ops (Dk B G n n0 ρ0 w0 U) i K a w:=by
 obtain⟨b3,b4,_⟩:=a0w hg b1;have b5:Et (ancs [] ops.toList) i (dn++cs)<=dn.length:=by
  refine a0s λc a1=>?_
  cases Z:A3 (ancs [] ops.toList) i c with
  | false=>rfl
  | true=>exact absurd (r.anc d Z) (d.csN c a1)
 obtain⟨r0,v,a9,hv,hk⟩:=d.known i o r.un r.at' hc b5;have b6:=Lz a0 r.at';have b7:∀c∈cs,c≠i/\c∈cs:=by
  intro c a1;refine⟨?_,a1⟩;rintro rfl;have D:c∈chainOf ops.toList 0:=by rw[d.chain];grind
  obtain⟨_,o',a2,e6⟩:=mem_chainOf.1 D;have A:ops[c]?=some o':=Co.1 (by grind);rw[r.at'] at A;grind
 have a3:∀(ρ' : Rn)(u:Value)(h:World),Ext B n0 ρ w ρ' h->Sub ρ ρ'->Sim B G ρ' H h->VR ρ' v u->(∀x∈als,x.1≠i->¬Dn listed x.1->ρ' x.2.1=none)->K (a.put o.dst u) h:=by
  intro ρ' u h he b8 hs a4 b9;refine hK _ _ ⟨dn,cs,res,H,held,als,ρ',?_,λc c0=>(Yi (by rw[d.size];exact Fm r.at')).2 (.inr (b2 c c0)),a8,hg⟩;exact d.go a0 a7 r he b8 hs d.le (Yx _) hv a4 d.chain b7 (λj oj _ hj c1 c2 hn=>d.known j oj hj c1 c2 hn) d.aok b9
 have a5:=a0v d r a9;have base:=λb Z=>a8u (b:=b) a0 a7 d r a9 Z;unfold wpOp;rw[r.at'];dsimp only;rcases hk with⟨hw,rfl⟩|⟨hw,hk⟩
 .rw[if_neg (by grind)];exact a3 ρ undef w (Ya _ _ _ _) (Yu _) d.sim rfl (λx hx _ hd=>d.alsN x hx hd)
 .rw[if_pos (base _ hw)];left;have val:RS B G P ρ H w (.val v H) (execOp a.eval o)->o.wp P a w K (Dk B G n n0 ρ0 w0 U):=by
   rintro⟨ρ',u,h,h1,A,h3,h4,_⟩;unfold Oper.wp;rw[h1];refine a3 ρ' u h ⟨λx hx=>A.same x (Xm hx d.le),A.keeps,A.below⟩ (A.sub d.sim) h3 h4 λx hx _ hd=>?_;rw[A.same _ (d.aok.hi x hx)];exact d.alsN x hx hd
  rcases hk with⟨_,e7⟩|⟨_,c6⟩|⟨e8,hh⟩|⟨f,x,nm,c7,rfl,D⟩
  .have:=Ij (o:=o) d.sim a5 hG;grind
  .have:=Ni (B:=B) (G:=G) (P:=P) (H:=H) d.sim a5 (a8x b6);rw[c6] at this;exact val this
  .obtain⟨o',v',a2,b0,hq⟩:=a8s b3 i hh;rw[r.at'] at a2;cases a2;rw[hv] at b0;cases b0;have c8:=a0v d r (Yx res);have:=Ij (o:=o) d.sim c8 hG;grind[a8y]
  .have a6:=d.alsN _ D r.un;have c9:=a8t b4 i nm x D;obtain⟨ob,k,u,h,h1,A,h3,h4,h5,e9,h6⟩:=c7 ρ w a.eval a5 d.sim.base;obtain⟨Z,a4⟩:=h6 nm a6;have e0:n0<=nm:=d.aok.lo _ D;have e1:nm<H.next:=d.aok.hi _ D;unfold Oper.wp;rw[h1];refine a3 _ u h ?_ (Je a6) (d.sim.named c9 a6 e1 (a8 _ D) A Z) a4 λy hy g0 e5=>?_
   .exact⟨λy hy=>Dj _ _ (Nat.ne_of_lt (Xm hy e0)),KD.push A,(Ym ρ n0 (w.heap.size,0,k) w h ob A h3 h4 h5 d.sim.base).below⟩
   .have:y.2.1≠nm:=by
     intro e;have:=d.aok.own y hy _ D e;grind
    rw[Dj _ _ this];exact d.alsN y hy e5
theorem Fr.get_clear(fr:Fr)(t:Nat):fr.clear.get t=none:=by
 have key:Cq (e2:T2 AV) t=none:=a7h t;cases fr<;>exact key
abbrev Y1:=@Fr.get_clear
theorem Fr.defers_clear(fr:Fr):fr.clear.defers=fr.defers:=by cases fr<;>rfl
abbrev Zc:=@Fr.defers_clear
theorem c2q{i:Nat}{o:Oper}{a2:Out}(b8:A8 B G P callf)(hG:G=P.globals.size)(e9:Ii (ancs [] ops.toList) (chainOf ops.toList 0)=true)(a6:fit ops.toList ops.toList 0=true)
  (a7:∀(j:Nat)(o:Oper),ops[j]?=some o->Cn n o=true)
  (a0:a2≠.bad) (g5:∀x∈als,G<=x.2.1) (d:Jh B G n n0 P ops fr0 ρ0 w0 dn cs res H held als listed ρ a w) (b9:∀c∈dn,Dn listed c)
  (hg:gate P callf ops (ancs [] ops.toList) fr0 (dn++cs) dn.length cs res H held als=a2) (r:Rd ops listed i o) (hc:Cw o.op=true)
  {K:Act->World->Prop} (hK:∀a' A,Qs B G n n0 P callf ops fr0 ρ0 w0 a2 (listed.setIfInBounds i true) a' A->K a' A) :
  wpOp P ops (Dk B G n n0 ρ0 w0 a2) i K a w:=by
 obtain⟨g6,g7,U⟩:=a0w hg a0;have c0:i∈dn++cs:=by
  rw[<- d.chain];exact mem_chainOf.2 ⟨W3 _,o,by simpa using r.at',hc⟩
 rcases W9.1 c0 with h|c1
 .exact absurd (b9 i h) r.un
 cases cs with
 | nil=>grind
 | cons c cs =>
 have c2:i=c:=by
  rcases Xb.1 c1 with h|h
  .exact h
  .obtain⟨p,hp,ha⟩:=Qr (dn:=dn) (c:=c) (cs:=cs) (by rw[<- d.chain];omega) i h;exact absurd (r.anc d ha) (d.csN p hp)
 subst c2;have hi:i<listed.size:=by rw[d.size];exact Fm r.at'
 have a8:(dn++i::cs)=(dn++[i])++cs:=by simp
 have c6:∀c∈cs,c≠i/\c∈i::cs:=by
  intro c a9;refine⟨?_,e6o _ a9⟩;rintro rfl;obtain⟨p,hp,ha⟩:=Qr (dn:=dn) (c:=c) (cs:=cs) (by rw[<- d.chain];omega) c a9;exact absurd (r.anc d ha) (d.csN p hp)
 have a3:∀(v:AV)(H' : Mem)(ρ' : Rn)(u:Value)(A:World) (Z:T2 AV),Gr res Z->Cq Z i=some v->Ext B H.next ρ w ρ' A->Sim B G ρ' H' A->VR ρ' v u->H.next<=H'.next ->
   Qg P callf ops (ancs [] ops.toList) fr0 (dn++i::cs) (dn.length+1) cs Z H' (Hl (ancs [] ops.toList) i held) (Gf (ancs [] ops.toList) i als)=a2->K (a.put o.dst u) A:=by
  intro v H' ρ' u A Z b0 hv D hs c7 a4 b1;rw[a8r] at b1;obtain⟨c8,H2,c9,e0,h1,f⟩:=stage_sound (B:=B) (E4 (ancs [] ops.toList) (dn++i::cs) (dn.length+1) ops.toList 0) Z H' _ _ (by
   grind[Il,Lz]) b1 a0
  have e1:(dn++[i]).length=dn.length+1:=by simp
  refine hK _ _ ⟨dn++[i],cs,c8,H2,c9,e0,ρ',?_,?_,?_,?_⟩
  .refine d.go a6 a7 r ⟨λx hx=>D.same x (Xm hx d.le),D.keeps,D.below⟩ (D.sub d.sim) (f.ph.sim hs) (Xa d.le (Xa a4 f.ph.le)) (b0.trans f.gr) (f.gr _ _ hv) c7
    (by rw[d.chain,a8]) c6 ?_ ?_ ?_
   .intro j oj g8 b2 b3 b4 e5;rw[e1,<- a8] at e5;rcases e6z (Et (ancs [] ops.toList) j (dn++i::cs)) (dn.length+1) with h|h
    .have b5:A3 (ancs [] ops.toList) i j=false:=by
      cases hb:A3 (ancs [] ops.toList) i j with
      | false=>rfl
      | true=>exact absurd (r.anc d hb) b2
     exact(d.known j oj b2 b3 b4 (by omega)).mono (b0.trans f.gr) (λh=>f.keepH _ (Tk b5 h)) λnm x h=>f.keepA _ (Tl b5 h)
    .exact f.known j (Il.2 ⟨W3 _,oj,by grind,b4,by omega⟩) oj b3
   .exact f.ok n0 (Xa d.le a4) (d.aok.sub (λx hx=>Ly x hx) a4)
   .intro x hx g9 e6;rcases f.new x hx with h|h
    .have b6:=Ly x h;rw[D.same _ (d.aok.hi x b6)];exact d.alsN x b6 e6
    .exact hs.fresh _ h
  .grind[Dn.set]
  .intro x hx;rcases f.new x hx with h|h
   .grind[Ly]
   .exact Xa hs.names h
  grind
 have e7:=a0v d r (Yx res);have base:=λb hb=>a8u (b:=b) a6 a7 d r (Yx res) hb;unfold wpOp;rw[r.at'];dsimp only;unfold nxt act at U;dsimp only at U;rw[r.at'] at U;dsimp only at U;split at U
 .rename_i hw;rw[if_neg (by grind)];obtain⟨Z,h1,h2,h3⟩:=Lt U a0;exact a3 _ H ρ undef w Z h2 h3 (Ya _ _ _ _) d.sim rfl (Wy _) h1
 .rename_i hw;rw[if_pos (base _ hw)];left;have a1:=Ij (o:=o) d.sim e7 hG;unfold Oper.wp;split at U
  .rename_i v H' hr;rw[hr] at a1;obtain⟨ρ',u,A,h1,h2,h3,h4,h5⟩:=a1;rw[h1];obtain⟨Z,g1,g2,g3⟩:=Lt U a0;exact a3 v H' ρ' u A Z g2 g3 h2 h3 h4 h5 g1
  .rename_i H' hr;rw[hr] at a1;obtain⟨ρ',A,h1,h2,h3,h5⟩:=a1;rw[h1];obtain⟨Z,g1,g2,g3⟩:=Lt U a0;exact a3 _ H' ρ' undef A Z g2 g3 h2 h3 rfl h5 g1
  .rename_i f args H' hr;rw[hr] at a1;obtain⟨us,h1,h2,rfl⟩:=a1;rw[h1];have b7:=b8 f args H';split at U
   .rename_i v H2 a5;have:=b7 (by grind) ρ us w d.sim h2;rw[a5] at this;refine this.mono λe A D=>?_;obtain⟨Z,g1,g2,g3⟩:=Lt U a0
    cases e with
    | returned u =>
     obtain⟨ρ',k1,k2,k3,k4⟩:=D;grind
    | panicked e8=>exact D.elim
    | outgrown=>exact D.elim
   .rename_i v H2 a5;have:=b7 (by grind) ρ us w d.sim h2;rw[a5] at this;refine this.mono λe A D=>?_
    cases e with
    | returned u=>exact D.elim
    | panicked e8 =>
     obtain⟨ρ',u,g0,g1,g2,g3,g4⟩:=D;subst U;refine⟨ρ',u,g0,g1,?_,g3,?_,Xa d.le g4⟩
     .exact d.ext.trans ⟨λx hx=>g2.same x (Xm hx d.le),g2.keeps,g2.below⟩ (Wy _)
     .exact⟨(λt v hv _=>(by grind[Fr.get_clear])),(by rw[Zc];exact d.dfr.mono (g2.sub d.sim)),d.tsz,(λt v hv=>(by grind[Fr.get_clear]))⟩
    | outgrown=>exact D.elim
   grind
  grind
 grind
theorem a8z{H:Mem}{res:T2 AV}{U:Out}(a2:U≠.bad):∀(l:List Oper)(i:Nat)(fr:Fr),fin res H l i fr=U ->
  ∃A,U=.norm A H/\A.defers=fr.defers/\∀t v,A.get t=some v->(∃j o,l[j]?=some o/\o.dst=some t/\Cq res (i+j)=some v)\/((∀o∈l,o.dst≠some t)/\fr.get t=some v)
 | [],i,fr,h=>⟨fr,h.symm,rfl,λt v Z=>.inr ⟨(λ_ h=>(by cases h)),Z⟩⟩
 | o::l,i,fr,h=>by
  unfold fin at h;split at h
  .rename_i v Z;rw[X8] at h;obtain⟨A,h1,h2,h3⟩:=a8z a2 l (i+1) _ h;refine⟨A,h1,?_,?_⟩
   .rw[h2];unfold Fr.put;grind[Fr.defers_upd]
   .intro t y hy;rcases h3 t y hy with⟨j,oj,hj,hd,hr⟩|⟨hd,D⟩
    .exact .inl ⟨j+1,oj,by grind,hd,by grind⟩
    .cases a0:o.dst with
     | none =>
      rw[a0] at D;exact .inr ⟨λo' a3=>by grind,D⟩
     | some d =>
      rw[a0] at D;have a1:(fr.upd d v).get t=some y:=D;rcases Yl a1 with⟨rfl,rfl⟩|⟨a4,a1⟩
      .exact .inl ⟨0,o,rfl,a0,Z⟩
      grind
  grind
theorem a9a(A:fit ops.toList ops.toList 0=true)(a1:listed.size=ops.size)(hr:Region.ready .any ops listed=[]):∀i,i<ops.size->Dn listed i:=by
 intro i
 induction i using Nat.strongRecOn with
 | _ i D =>
  intro hi;rcases Classical.em (Dn listed i) with h|h
  .exact h
  .exfalso;have a2:i∈Region.ready .any ops listed:=by
    refine mem_ready.2 ⟨?_,ops[i],by grind,λe U Z=>?_⟩
    .grind[Dn]
    .have a0:=c2o A (i:=i) (o:=ops[i]) (by grind) e (Array.mem_toList_iff.2 U) Z;exact D e.on a0 (by omega)
   grind
theorem a9b{A:Out}(a4:fit ops.toList ops.toList 0=true)(a0:A≠.bad)(hr:Region.ready .any ops listed=[])(g:Qs B G n n0 P callf ops fr0 ρ0 w0 A listed a w)
  (a5:∀(j:Nat)(o:Oper),ops[j]?=some o->Cn n o=true):Dk B G n n0 ρ0 w0 A .normal a w:=by
 obtain⟨dn,cs,res,H,held,als,ρ,d,a9,b0,hg⟩:=g.go;have a1:=a9a a4 d.size hr;obtain⟨_,_,hn⟩:=a0w hg a0
 cases cs with
 | cons c cs =>
  exfalso;refine d.csN c (by simp) (a1 c ?_);have b1:c∈chainOf ops.toList 0:=by rw[d.chain];simp
  grind[mem_chainOf]
 | nil =>
  have a6:fin res H ops.toList 0 fr0=A:=hn;obtain⟨a7,h1,h2,h3⟩:=a8z a0 ops.toList 0 fr0 a6;subst h1;have key:∀t v,a7.get t=some v->t<n/\VR ρ v (a.tmps.getD t undef):=by
   intro t v h;rcases h3 t v h with⟨j,o,D,U,a2⟩|⟨U,a3⟩
   .have Z:ops[j]?=some o:=Co.1 D;rw[e6u] at a2;obtain⟨y,hy,a8⟩:=d.new j o (a1 j (Fm Z)) Z;rw[a2] at hy;cases hy;exact⟨Fl (a5 j o Z) t U,a8 t U⟩
   .refine⟨d.only t v a3,d.old t (λj D=>?_) v a3⟩;obtain⟨_,o,ho,b2⟩:=Lu D;grind
  exact⟨ρ,d.ext,d.sim,⟨λt v h _=>(key t v h).2,by rw[h2];exact d.dfr,d.tsz,λt v h=>(key t v h).1⟩,d.le⟩
theorem c2r{U:Out}(a5:A8 B G P callf)(hG:G=P.globals.size)(a6:Ii (ancs [] ops.toList) (chainOf ops.toList 0)=true)(a0:fit ops.toList ops.toList 0=true)
  (a1:∀(j:Nat)(o:Oper),ops[j]?=some o->Cn n o=true) (a2:U≠.bad):∀(A:Nat)(listed:Array Bool)(a:Act)(w:World),
  (∃l:List Nat,l.Nodup/\l.length=A/\∀i,i<ops.size->Dn listed i\/i∈l)->Qs B G n n0 P callf ops fr0 ρ0 w0 U listed a w ->
  wpAny P .any ops (Dk B G n n0 ρ0 w0 U) A listed a w:=by
 intro A
 induction A with
 | zero =>
  rintro listed a w ⟨l,_,hl,hc⟩ g;have a3:l=[]:=e6j.1 hl;subst a3;have Z:Region.ready .any ops listed=[]:=by
   cases hx:Region.ready .any ops listed with
   | nil=>rfl
   | cons i is =>
    exfalso;obtain⟨o,D⟩:=Tm (ops:=ops) (listed:=listed) (i:=i) (by grind);rcases hc i (Fm D.at') with h|h
    .exact D.un h
    grind
  exact⟨Z,a9b a0 a2 Z g a1⟩
 | succ A ih =>
  rintro listed a w ⟨l,a4,hl,hc⟩ g;refine⟨λZ=>a9b a0 a2 Z g a1,λi hi=>?_⟩;obtain⟨o,D⟩:=Tm hi;obtain⟨dn,cs,res,H,held,als,ρ,d,a7,a8,hg⟩:=g.go;have a9:i∈l:=(hc i (Fm D.at')).resolve_left D.un;have b0:i<listed.size:=by rw[d.size];exact Fm D.at'
  have hK:∀a' w',Qs B G n n0 P callf ops fr0 ρ0 w0 U (listed.setIfInBounds i true) a' w'->wpAny P .any ops (Dk B G n n0 ρ0 w0 U) A (listed.setIfInBounds i true) a' w':=by
   intro a' w' g';refine ih _ a' w' ⟨l.erase i,a4.erase i,by grind,λj hj=>?_⟩ g';grind[Dn.set]
  grind[c2q,c2p,Cw]
theorem c2s{id:Nat}(a1:A8 B G P callf)(hG:G=P.globals.size)(s:St B G n n0 ρ0 w0 ρ fr0 H a w)(hd:Az n (.region id ops true)=true)
  (D:drawn P callf ops fr0 H≠.bad):(Code.region id ops true).wp P (Dk B G n n0 ρ0 w0 (drawn P callf ops fr0 H)) a w:=by
 have A:∃a0,drawn P callf ops fr0 H=a0:=⟨_,rfl⟩;obtain⟨a0,A⟩:=A;rw[A] at D |-;unfold drawn at A;split at A
 .rename_i hp;rw[W1] at hp;obtain⟨U,a2⟩:=hp;unfold On at U;simp only[W1] at U;obtain⟨⟨_,a3⟩,a4⟩:=U;have a5:∀(j:Nat)(o:Oper),ops[j]?=some o->Cn n o=true:=λj o hj=>W7.1 hd o (e6e (Co.2 hj));refine wp_region_any a2 ?_;have Z:∀i,¬Dn (Array.replicate ops.size false) i:=by
   (simp_all[Dn];grind)
  refine c2r (fr0:=fr0) (ρ0:=ρ0) (w0:=w0) a1 hG a3 a4 a5 D ops.size _ a _ ⟨List.range ops.size,List.nodup_range,by simp,λi hi=>.inr (by grind)⟩ ?_;rw[a8r] at A;obtain⟨a6,H2,a7,a8,h1,f⟩:=stage_sound (B:=B) (E4 (ancs [] ops.toList) (chainOf ops.toList 0) 0 ops.toList 0) e2 H [] [] (by
   grind[Il,Lz]) A D
  have hs:Sim B G ρ H { w with drawn:=w.drawn+1 }:=s.sim.heap rfl;have hb:Below B w { w with drawn:=w.drawn+1 }:=⟨rfl,rfl,rfl,Wy _,λ_ _=>rfl⟩;refine⟨[],chainOf ops.toList 0,a6,H2,a7,a8,ρ,?_,(λ_ h=>(by cases h)),?_,h1⟩;refine⟨s.ext.trans ⟨λ_ _=>rfl,KD.heap rfl,hb⟩ (Wy _),f.ph.sim hs,Xa s.le f.ph.le,by simp,s.frel.size,s.frel.dfr,s.frel.only,rfl,λc _=>Z c,λi _ h=>absurd h (Z i),
   λt _ v hv=>s.frel.slot t v hv (s.frel.only t v hv),λj _ h=>absurd h (Z j),?_,f.ok n0 s.le (Eu.nil _ _),?_⟩
  .intro i o _ ho hc a9;exact f.known i (Il.2 ⟨W3 _,o,by grind,hc,by grind⟩) o ho
  .intro x hx _;rcases f.new x hx with h|h
   .cases h
   .exact hs.fresh _ h
  .intro x hx;rcases f.new x hx with h|h
   .cases h
   .exact Xa hs.names h
 grind
end
section
variable {B G:Nat}{P:Program}{n n0:Nat}{ρ0 ρ:Rn}{w0 w:World}{fr:Fr}{H:Mem}{a:Act}
variable {callf:CallF}{loopf:LoopF}
def LW(P:Program)(c:Code)(Q:Exit->Act->World->Prop)(a:Act)(w:World):Prop:=
 ∀(b:Frame)(k:List Item)(cs:List Frame),∃e a' w',Q e a' w'/\Arrives P (lone (b.at a (.code c::.inLoop c::k)) cs w) b k cs e a' w'
theorem LW.wp{c:Code}{Q:Exit->Act->World->Prop}(h:LW P c Q a w):(Code.loop c).wp P Q a w:=
 λb k cs=>let ⟨e,A,D,q,r⟩:=h b k cs;⟨e,A,D,q,.of_steps (.one step_loop) r⟩
theorem LW.unroll{c:Code}{Q:Exit->Act->World->Prop}(h:c.wp P (Exit.then (LW P c Q) Q) a w):LW P c Q a w:=by
 intro b k cs;obtain⟨e,U,Z,A,D⟩:=h b (.inLoop c::k) cs
 cases e with
 | normal =>
  obtain⟨a0,a1,a2,a3,a4⟩:=A b k cs;exact⟨a0,a1,a2,a3,.of_steps (Steps.trans D (.one step_inLoop)) a4⟩
 | exit id=>exact⟨_,U,Z,A,.pass (x:=.inLoop c) rfl (λ_ _=>.inl (by simp)) D⟩
 | goto l=>exact⟨_,U,Z,A,.pass (x:=.inLoop c) rfl (λ_ _=>.inl (by simp)) D⟩
 | ret=>exact⟨_,U,Z,A,.pass (x:=.inLoop c) rfl (λ_ _=>.inl (by simp)) D⟩
 | panic ch=>exact⟨_,U,Z,A,.pass (x:=.inLoop c) rfl (λ_ _=>.inl (by simp)) D⟩
 | outgrown=>exact⟨_,U,Z,A,.pass (x:=.inLoop c) rfl (λ_ _=>.inl (by simp)) D⟩
abbrev Y2:=@LW.unroll
def Good(B G:Nat)(P:Program)(callf:CallF)(loopf:LoopF)(c:Code):Prop:=
 ∀(n n0:Nat)(ρ0:Rn)(w0:World)(ρ:Rn)(fr:Fr) (H:Mem) (a:Act) (w:World),Az n c=true->St B G n n0 ρ0 w0 ρ fr H a w->C2 P callf loopf c fr H≠.bad ->
  c.wp P (Dk B G n n0 ρ0 w0 (C2 P callf loopf c fr H)) a w
def Im(B G:Nat)(P:Program)(loopf:LoopF):Prop:=
 ∀(b:Code)(n n0:Nat)(ρ0:Rn)(w0:World)(ρ:Rn) (fr:Fr) (H:Mem) (a:Act) (w:World),Az n b=true->St B G n n0 ρ0 w0 ρ fr H a w->loopf (.loop b) fr H≠.bad ->
  LW P b (Dk B G n n0 ρ0 w0 (loopf (.loop b) fr H)) a w
theorem Tp{r:Out}{k:Fr->Mem->Out}{K:Act->World->Prop}(Z:Lj r k≠.bad)
  (hk:∀(A:Fr)(H' : Mem)(ρ' : Rn)(D:Act)(U:World),r=.norm A H'->St B G n n0 ρ0 w0 ρ' A H' D U->k A H'≠.bad->K D U) :
  ∀e D U,Dk B G n n0 ρ0 w0 r e D U->Exit.then K (Dk B G n n0 ρ0 w0 (Lj r k)) e D U:=by
 intro e D U h
 cases r with
 | norm A H' =>
  cases e with
  | normal=>obtain⟨ρ',s'⟩:=h;exact hk A H' ρ' D U rfl s' Z
  | _=>exact h.elim
 | exit id A H'=>cases e<;>first|exact h.elim|exact h
 | ret A H'=>cases e<;>first|exact h.elim|exact h
 | panic v A H'=>cases e<;>first|exact h.elim|exact h
 | bad=>exact absurd rfl Z
theorem c2t{b:Code}(U:Im B G P loopf)(Z:Good B G P callf loopf b)(n n0:Nat)(ρ0:Rn)(w0:World)(ρ:Rn)(fr:Fr)(H:Mem)(a:Act)(w:World)
  (D:Az n b=true) (s:St B G n n0 ρ0 w0 ρ fr H a w) (A:C2 P callf loopf (.loop b) fr H≠.bad):LW P b (Dk B G n n0 ρ0 w0 (C2 P callf loopf (.loop b) fr H)) a w:=by
 have he:C2 P callf loopf (.loop b) fr H=Lj (C2 P callf loopf b fr H) (loopf (.loop b)):=rfl;rw[he] at A |-;have hr:C2 P callf loopf b fr H≠.bad:=λh=>A (by rw[h];rfl);refine Y2 (Code.wp_mono (Tp A λa0 H' ρ' a' w' a1 s' hk=>?_) (Z n n0 ρ0 w0 ρ fr H a w D s hr));rw[a1];exact U b n n0 ρ0 w0 ρ' a0 H' a' w' D s' hk
theorem c2u(hc:A8 B G P callf)(hl:Im B G P loopf)(hG:G=P.globals.size):∀c:Code,Good B G P callf loopf c:=by
 intro c
 induction c with
 | skip=>intro n n0 ρ0 w0 ρ fr H a w D s A;exact wp_skip ⟨ρ,s⟩
 | region id ops a4 =>
  intro n n0 ρ0 w0 ρ fr H a w D s A
  cases a4 with
  | false =>
   refine wp_region_list (a0t hc hG A ops.toList fr H ρ a w ?_ s rfl);exact λo ho=>W7.1 D o ho
  | true=>exact c2s hc hG s D A
 | seq x y a0 a1 =>
  intro n n0 ρ0 w0 ρ fr H a w D s A;have U:C2 P callf loopf (.seq x y) fr H=Lj (C2 P callf loopf x fr H) (C2 P callf loopf y):=rfl;rw[U] at A |-;simp only[Az,W1] at D;have hr:C2 P callf loopf x fr H≠.bad:=λh=>A (by rw[h];rfl);refine wp_seq (Code.wp_mono (Tp A λZ H' ρ' a' w' a5 s' hk=>?_) (a0 n n0 ρ0 w0 ρ fr H a w D.1 s hr));rw[a5];exact a1 n n0 ρ0 w0 ρ' Z H' a' w' D.2 s' hk
 | cond a3 x y a0 a1 =>
  intro n n0 ρ0 w0 ρ fr H a w D s A;have U:C2 P callf loopf (.cond a3 x y) fr H=Qd (fr.ev a3) (C2 P callf loopf x) (C2 P callf loopf y) fr H:=rfl;rw[U] at A |-;simp only[Az,W1] at D;unfold Qd at A |-;split at A
  .rename_i a2;have:=s.ev _ _ a2;exact wp_cond_true this (a0 n n0 ρ0 w0 ρ fr H a w D.1 s A)
  .rename_i a2;have:=s.ev _ _ a2;exact wp_cond_false this (a1 n n0 ρ0 w0 ρ fr H a w D.2 s A)
  grind
 | block id b ih =>
  intro n n0 ρ0 w0 ρ fr H a w D s A;have U:C2 P callf loopf (.block id b) fr H=Qe id (C2 P callf loopf b fr H):=rfl;rw[U] at A |-;have hr:C2 P callf loopf b fr H≠.bad:=λh=>A (by rw[h];rfl);refine wp_block (Code.wp_mono ?_ (ih n n0 ρ0 w0 ρ fr H a w D s hr));intro e a' w' h;generalize C2 P callf loopf b fr H=r at h A |-
  cases r with
  | norm Z H'=>cases e<;>first|exact h.elim|exact h
  | exit a8 Z H' =>
   cases e with
   | exit a6 =>
    obtain⟨rfl,ρ',s'⟩:=h;unfold Qe;dsimp only;split
    .rename_i hb;have:=Xe hb;subst this;simp only[Exit.inBlock,if_true];exact⟨ρ',s'⟩
    .rename_i hb;have a7:a6≠id:=by intro h0;simp_all
     simp only[Exit.inBlock,a7,if_false];exact⟨rfl,ρ',s'⟩
   | _=>exact h.elim
  | ret Z H'=>cases e<;>first|exact h.elim|exact h
  | panic v Z H'=>cases e<;>first|exact h.elim|exact h
  | bad=>exact absurd rfl A
 | loop b ih =>
  intro n n0 ρ0 w0 ρ fr H a w D s A;exact(c2t hl ih n n0 ρ0 w0 ρ fr H a w D s A).wp
 | rangeFunc f ps x y a0 a1=>intro n n0 ρ0 w0 ρ fr H a w D s A;exact absurd rfl A
 | exit id=>intro n n0 ρ0 w0 ρ fr H a w D s A;exact wp_exit ⟨rfl,ρ,s⟩
 | scope b ih=>intro n n0 ρ0 w0 ρ fr H a w D s A;exact absurd rfl A
 | label l=>intro n n0 ρ0 w0 ρ fr H a w D s A;exact wp_label ⟨ρ,s⟩
 | goto l=>intro n n0 ρ0 w0 ρ fr H a w D s A;exact absurd rfl A
 | ret=>intro n n0 ρ0 w0 ρ fr H a w D s A;exact wp_ret ⟨ρ,s⟩
 | refuse a9=>intro n n0 ρ0 w0 ρ fr H a w D s A;exact absurd rfl A
noncomputable def putArgs:List AV->Fr->Nat->Fr
 | [],fr,_=>fr
 | v::l,fr,i=>putArgs l (fr.upd i v) (i+1)
theorem a0x{A:Type}(l:List AV)(fr:Fr)(K:Fr->A):Qh l fr K=K (putArgs l fr 0):=by
 have:∀(fr:Fr)(i:Nat),List.rec (motive:=λ_=>Fr->Nat->A) (λfr _=>K fr) (λv _ h fr i=>fr.set i v λfr=>h fr (Nat.succ i)) l fr i=K (putArgs l fr i):=by
  induction l with
  | nil=>intro fr i;rfl
  | cons v l h=>intro fr i;show fr.set i v _=_;rw[Fr.set_eq,h];rfl
 exact this fr 0
theorem putArgs_get:∀(l:List AV)(fr:Fr)(i t:Nat)(v:AV),(putArgs l fr i).get t=some v->(i<=t/\l[t-i]?=some v)\/fr.get t=some v
 | [],fr,i,t,v,h=>.inr h
 | x::l,fr,i,t,v,h=>by
  rcases putArgs_get l (fr.upd i x) (i+1) t v h with⟨A,D⟩|A
  .grind
  .rcases Yl A with⟨rfl,rfl⟩|⟨_,D⟩
   all_goals grind
theorem putArgs_defers:∀(l:List AV)(fr:Fr)(i:Nat),(putArgs l fr i).defers=fr.defers
 | [],fr,i=>rfl
 | x::l,fr,i=>by rw[putArgs,putArgs_defers l,Yt]
theorem a0y{args:List AV}{us:Array Value}(A:VRs ρ args us.toList)(Z:args.length<=n):
  Dz n ρ (putArgs args (Cx n) 0) { tmps:=us++Array.replicate (n-us.size) undef,defers:=[] }:=by
 have a0:us.size=args.length:=by have:=A.length;grind
 have D:∀t v,(putArgs args (Cx n) 0).get t=some v->args[t]?=some v:=by
  intro t v h;rcases putArgs_get _ _ _ _ _ h with⟨_,U⟩|U
  all_goals grind[a7j]
 refine⟨?_,?_,by grind,?_⟩
 .intro t v h _;obtain⟨u,hu,a1⟩:=A.get t (D t v h)
  (simp_all;grind)
 .rw[putArgs_defers,a7k];rfl
 grind
def a0z(tmps:Array Value)(r:ResultVar):Sem Value:=match r with
 | .tmp t=>pure (tmps.getD t undef)
 | .cell x t=>do loadVar t (<- asAddr (tmps.getD x undef))
theorem c2v(fn:Func)(tmps:Array Value):results fn tmps=(do
  let vs <- fn.results.mapM (a0z tmps)
  pure (if h:vs.size=1 then vs[0] else .tuple vs)):=rfl
theorem c2w{r:ResultVar}{v:AV}(s:St B G n n0 ρ0 w0 ρ fr H a w)(hG:G=P.globals.size)(h:Jc P fr H r=some v):
  ∃u,(a0z a.tmps r).run P w=.ok u w/\VR ρ v u:=by
 cases r with
 | tmp t =>
  have A:fr.get t=some v:=h;exact⟨_,rfl,s.frel.slot t v A (s.frel.only t v A)⟩
 | cell x t =>
  have A:(match fr.get x with|some p=>load P H t p|none=>none)=some v:=h;split at A
  .rename_i p U;have D:=s.frel.slot x p U (s.frel.only x p U);obtain⟨r,hr,a0⟩:=a7n s.sim hG A D;refine⟨r,?_,a0⟩;have a1:∃Z,a.tmps.getD x undef=.pointer (some Z):=by
    unfold load at A;split at A
    .obtain⟨b,o,k,_,hu⟩:=D;grind
    .exact⟨_,D⟩
    grind
   obtain⟨Z,a2⟩:=a1;show (do loadVar t (<- asAddr (a.tmps.getD x undef)):Sem Value).run P w=_;grind[asAddr,Instr.sureAddr,Instr.loadAt]
  grind
theorem a9c(s:St B G n n0 ρ0 w0 ρ fr H a w)(hG:G=P.globals.size):∀{l:List ResultVar}{vs:List AV},Ke P fr H l=some vs ->
  ∃us:List Value,(l.mapM (a0z a.tmps)).run P w=.ok us w/\VRs ρ vs us
 | [],vs,h=>by cases h;exact⟨[],rfl,rfl⟩
 | r::l,vs,h=>by
  simp only[Ke] at h;split at h
  .rename_i v A;split at h
   .rename_i ws D;cases h;obtain⟨u,hu,U⟩:=c2w s hG A;obtain⟨us,a0,Z⟩:=a9c s hG D;refine⟨u::us,?_,_,_,rfl,U,Z⟩;simp_all
   grind
  grind
theorem L3{fn:Func}{v:AV}(s:St B G n n0 ρ0 w0 ρ fr H a w)(hG:G=P.globals.size)(h:Fi P fn fr H=some v):∃u,(results fn a.tmps).run P w=.ok u w/\VR ρ v u:=by
 unfold Fi at h;have base:∀{vs:List AV},Ke P fr H fn.results.toList=some vs->∃us:List Value,VRs ρ vs us/\(results fn a.tmps).run P w=.ok (if h:us.toArray.size=1 then us.toArray[0] else .tuple us.toArray) w:=by
  intro vs A;obtain⟨us,a0,D⟩:=a9c s hG A
  (simp_all[Array.mapM_eq_mapM_toList,c2v];grind)
 split at h
 .rename_i v' A;cases h;obtain⟨us,D,U⟩:=base A;obtain⟨u,hu,a1⟩:=D.one;grind
 .rename_i vs a2 A;cases h;obtain⟨us,D,U⟩:=base A;have a3:=D.length;have Z:¬(us.toArray.size=1):=by
   intro Z
   cases vs with
   | nil=>grind
   | cons x l=>simp_all
  rw[dif_neg Z] at U;exact⟨_,U,_,rfl,by grind⟩
 grind
def MR(ρ:Rn):Mode->FrameMode->Prop
 | .returning,m=>m=.returning
 | .panicking v,m=>∃u,m=.panicking [{ v:=u,recovered:=false }]/\VR ρ v u
 | .recovered v,m=>∃u,m=.panicking [{ v:=u,recovered:=true }]/\VR ρ v u
theorem MR.mono{ρ ρ': Rn}(h:Sub ρ ρ'){u:Mode}{m:FrameMode}(k:MR ρ u m):MR ρ' u m:=by
 cases u with
 | returning=>exact k
 | panicking v=>obtain⟨x,e,r⟩:=k;exact⟨x,e,r.mono h⟩
 | recovered v=>obtain⟨x,e,r⟩:=k;exact⟨x,e,r.mono h⟩
def Kh(B G n n0:Nat)(ρ0:Rn)(w0:World)(c₀:Frame)(cs:List Frame)(out:Kd):Exit->Act->List Frame->World->Prop:=λe a' cs' w' =>
 match out,e with
 | .norm fr u H,.normal=>∃ρ' m,cs' = { c₀ with mode:=m }::cs/\MR ρ' u m/\St B G n n0 ρ0 w0 ρ' fr H a' w'
 | .ret fr u H,.ret=>∃ρ' m,cs' = { c₀ with mode:=m }::cs/\MR ρ' u m/\St B G n n0 ρ0 w0 ρ' fr H a' w'
 | _,_=>False
theorem a9d(hc:A8 B G P callf)(hl:Im B G P loopf)(hG:G=P.globals.size)(c:Code){c₀:Frame}{cs:List Frame}{u:Mode}{m:FrameMode}
  (hd:Az n c=true) (s:St B G n n0 ρ0 w0 ρ fr H a w) (hm:MR ρ u m) (hne:S6 u (C2 P callf loopf c fr H)≠.bad) :
  c.wpS P (Kh B G n n0 ρ0 w0 c₀ cs (S6 u (C2 P callf loopf c fr H))) a ({ c₀ with mode:=m }::cs) w:=by
 have hr:C2 P callf loopf c fr H≠.bad:=λh=>hne (by rw[h];rfl);have s1:St B G n H.next ρ w ρ fr H a w:=⟨Ya _ _ _ _,s.sim,s.frel,Wy _⟩;have key:=c2u hc hl hG c n H.next ρ w ρ fr H a w hd s1 hr;refine wpS_of_wp (Code.wp_mono ?_ key);intro e a' w' h;have up:∀{ρ' : Rn}{fr' : Fr}{H' : Mem},St B G n H.next ρ w ρ' fr' H' a' w'->MR ρ' u m/\St B G n n0 ρ0 w0 ρ' fr' H' a' w':=λ{ρ' fr' H'} s' =>
  ⟨hm.mono (s'.ext.sub s.sim),s.ext.trans s'.ext s.le,s'.sim,s'.frel,Xa s.le s'.le⟩
 generalize C2 P callf loopf c fr H=r at h hne |-
 cases r with
 | norm fr' H'=>cases e<;>first|exact h.elim|(obtain⟨ρ',s'⟩:=h;exact⟨ρ',m,rfl,(up s').1,(up s').2⟩)
 | ret fr' H'=>cases e<;>first|exact h.elim|(obtain⟨ρ',s'⟩:=h;exact⟨ρ',m,rfl,(up s').1,(up s').2⟩)
 | exit id fr' H'=>exact absurd rfl hne
 | panic v fr' H'=>exact absurd rfl hne
 | bad=>assumption
theorem a9e{ops:Array Oper}(hc:A8 B G P callf)(hG:G=P.globals.size){c₀:Frame}{cs:List Frame}{out:Kd}(hne:out≠.bad):∀(l:List Oper)(k:Nat)(fr:Fr)(u:Mode)(H:Mem) (ρ:Rn) (m:FrameMode) (a:Act) (w:World),
  (∀j,l[j]?=ops[k+j]?)->(∀o∈l,Cn n o=true)->St B G n n0 ρ0 w0 ρ fr H a w->MR ρ u m->Ng P callf ops l fr u H=out ->
  wpOpsS P ops (Kh B G n n0 ρ0 w0 c₀ cs out) (List.range' k l.length) a ({ c₀ with mode:=m }::cs) w
 | [],k,fr,u,H,ρ,m,a,w,_,_,s,hm,h=>by
  have:Kd.norm fr u H=out:=h;subst this;exact⟨ρ,m,rfl,hm,s⟩
 | o::l,k,fr,u,H,ρ,m,a,w,hi,hd,s,hm,h=>by
  have h0:ops[k]?=some o:=by simpa using (hi 0).symm
  have hdo:=hd o (by simp);have hdl:=Fl hdo;have hk:∀(fr' : Fr)(u' : Mode)(H' : Mem)(ρ' : Rn)(m' : FrameMode) (a' : Act) (w' : World),St B G n n0 ρ0 w0 ρ' fr' H' a' w'->MR ρ' u' m'->Ng P callf ops l fr' u' H'=out ->
    wpOpsS P ops (Kh B G n n0 ρ0 w0 c₀ cs out) (List.range' (k+1) l.length) a' ({ c₀ with mode:=m' }::cs) w' :=
   λfr' u' H' ρ' m' a' w' s' hm' hk=>a9e hc hG hne l (k+1) fr' u' H' ρ' m' a' w' (λj=>by have:=hi (j+1);grind) (λo ho=>hd o (by grind)) s' hm' hk
  simp only[Xk,List.range'_succ,wpOpsS,h0];simp only[Ng] at h;have run:Region.wanted o (yielded ops a.tmps)=true->Ww callf o fr u (Ng P callf ops l) H (opV P H fr.ev o)=out ->
    (if Region.wanted o (yielded ops a.tmps) then
     match (execOp a.eval o).run P w with
     | .ok .recover w' =>
      match recoverD ({ c₀ with mode:=m }::cs) with
      | some (v,cs')=>wpOpsS P ops (Kh B G n n0 ρ0 w0 c₀ cs out) (List.range' (k+1) l.length) (a.put o.dst v) cs' w'
      | none=>wpOpsS P ops (Kh B G n n0 ρ0 w0 c₀ cs out) (List.range' (k+1) l.length) (a.put o.dst .nilIface) ({ c₀ with mode:=m }::cs) w'
     | r=>o.upon P a (λa' w'=>wpOpsS P ops (Kh B G n n0 ρ0 w0 c₀ cs out) (List.range' (k+1) l.length) a' ({ c₀ with mode:=m }::cs) w') (λe a' w'=>Kh B G n n0 ρ0 w0 c₀ cs out e a' ({ c₀ with mode:=m }::cs) w') r
    else wpOpsS P ops (Kh B G n n0 ρ0 w0 c₀ cs out) (List.range' (k+1) l.length) (a.put o.dst undef) ({ c₀ with mode:=m }::cs) w):=by
   intro hw hout;rw[if_pos hw];have hrs:=Ij (o:=o) s.sim s.ev hG;unfold Ww at hout
   cases hr:opV P H fr.ev o with
   | val v H' =>
    rw[hr] at hrs hout;obtain⟨ρ',x,w',h1,h2,h3,h4,h5⟩:=hrs;rw[h1];dsimp only at hout;rw[X8] at hout;exact hk _ _ _ _ _ _ _ (s.step h2 h3 h4 h5 hdl) (hm.mono (h2.sub s.sim)) hout
   | skip H' =>
    rw[hr] at hrs hout;obtain⟨ρ',w',h1,h2,h3,h5⟩:=hrs;rw[h1];dsimp only at hout;rw[X8] at hout;exact hk _ _ _ _ _ _ _ (s.step h2 h3 (Hm _) h5 hdl) (hm.mono (h2.sub s.sim)) hout
   | enter f args H' =>
    rw[hr] at hrs hout;obtain⟨us,h1,h2,rfl⟩:=hrs;rw[h1];dsimp only at hout
    cases hcall:callf f args H' with
    | bad=>grind
    | panic v H2=>grind
    | ret v H2 =>
     rw[hcall] at hout;dsimp only at hout;rw[X8] at hout;have:=hc f args H' (by grind) ρ us w s.sim h2;rw[hcall] at this;refine this.mono λe w' he=>?_
     cases e with
     | returned x =>
      obtain⟨ρ',g1,g2,g3,g4⟩:=he;exact hk _ _ _ _ _ _ _ (s.step g1 g2 g3 g4 hdl) (hm.mono (g1.sub s.sim)) hout
     | panicked chain=>exact he.elim
     | outgrown=>exact he.elim
   | recover =>
    rw[hr] at hrs hout;have h1:(execOp a.eval o).run P w=.ok .recover w:=hrs;rw[h1];dsimp only at hout |-
    cases u with
    | returning =>
     cases hm;dsimp only[recoverD];dsimp only at hout;rw[X8] at hout;exact hk _ .returning H ρ .returning _ _ ⟨s.ext,s.sim,s.frel.put hdl (show VR ρ (.lit .nilIface) .nilIface from rfl),s.le⟩ rfl hout
    | panicking v =>
     obtain⟨x,rfl,hx⟩:=hm;dsimp only[recoverD];dsimp only at hout;rw[X8] at hout;exact hk _ (.recovered v) H ρ (.panicking [{ v:=x,recovered:=true }]) _ _ ⟨s.ext,s.sim,s.frel.put hdl hx,s.le⟩ (show MR ρ (.recovered v) _ from ⟨x,rfl,hx⟩) hout
    | recovered v =>
     obtain⟨x,rfl,hx⟩:=hm;dsimp only[recoverD];dsimp only at hout;rw[X8] at hout;exact hk _ (.recovered v) H ρ (.panicking [{ v:=x,recovered:=true }]) _ _ ⟨s.ext,s.sim,s.frel.put hdl (show VR ρ (.lit .nilIface) .nilIface from rfl),s.le⟩ (show MR ρ (.recovered v) _ from ⟨x,rfl,hx⟩) hout
   | dfr fn cap args H'=>grind
   | panic v H'=>grind
   | bad=>grind
  cases hg:o.guard with
  | none =>
   grind[Region.wanted]
  | some g =>
   rw[hg] at h;dsimp only at h
   cases hw:Lh ops fr g with
   | none=>grind
   | some b =>
    rw[hw] at h;have hwb:=Tj s hg hw
    cases b with
    | true=>grind
    | false =>
     rw[if_neg (by grind)];dsimp only at h;rw[X8] at h;exact hk _ _ _ _ _ _ _ ⟨s.ext,s.sim,s.frel.put hdl (Hm _),s.le⟩ hm h
theorem c2x(hc:A8 B G P callf)(hl:Im B G P loopf)(hG:G=P.globals.size){c₀:Frame}{cs:List Frame}:∀(c:Code)(ρ:Rn)(fr:Fr)(u:Mode)(H:Mem) (m:FrameMode) (a:Act) (w:World),
  Az n c=true->St B G n n0 ρ0 w0 ρ fr H a w->MR ρ u m->G5 P callf loopf c fr u H≠.bad ->
  c.wpS P (Kh B G n n0 ρ0 w0 c₀ cs (G5 P callf loopf c fr u H)) a ({ c₀ with mode:=m }::cs) w:=by
 intro c
 induction c with
 | seq x y ihx ihy =>
  intro ρ fr u H m a w hd s hm hne;simp only[Az,W1] at hd;simp only[G5] at hne |-;have hr:G5 P callf loopf x fr u H≠.bad:=λh=>hne (by rw[h]);refine wpS_seq ?_;have key:=ihx ρ fr u H m a w hd.1 s hm hr;intro b k hb hro;obtain⟨e,a',cs',w',hq,harr⟩:=key b k hb hro;refine⟨e,a',cs',w',?_,harr⟩;generalize hgen:G5 P callf loopf x fr u H=r at hq hne |-
  cases r with
  | norm fr' u' H' =>
   cases e with
   | normal =>
    obtain⟨ρ',m',rfl,hm',s'⟩:=hq;exact ihy ρ' fr' u' H' m' a' w' hd.2 s' hm' hne
   | _=>exact hq.elim
  | ret fr' u' H'=>cases e<;>first|exact hq.elim|exact hq
  | bad=>grind
 | cond cnd x y ihx ihy =>
  intro ρ fr u H m a w hd s hm hne;simp only[Az,W1] at hd;simp only[G5] at hne |-;split at hne
  .rename_i hev;have:=s.ev _ _ hev;exact wpS_cond (t:=true) this (ihx ρ fr u H m a w hd.1 s hm hne)
  .rename_i hev;have:=s.ev _ _ hev;exact wpS_cond (t:=false) this (ihy ρ fr u H m a w hd.2 s hm hne)
  grind
 | region id ops draw =>
  intro ρ fr u H m a w hd s hm hne
  cases draw with
  | true=>exact a9d hc hl hG (.region id ops true) hd s hm hne
  | false =>
   refine wpS_region ?_;have:=a9e (c₀:=c₀) (cs:=cs) hc hG hne ops.toList 0 fr u H ρ m a w (λj=>by simp) (λo ho=>W7.1 hd o ho) s hm rfl;grind[List.range_eq_range']
 | _=>intro ρ fr u H m a w hd s hm hne;exact a9d hc hl hG _ hd s hm hne
theorem L4{fn:Func}(hc:A8 B G P callf)(hl:Im B G P loopf)(hG:G=P.globals.size){out:A1}(hne:out≠.bad):∀(l:List Dfr)(ds:List Deferred)(u:Mode)(H:Mem)(ρ:Rn) (m:FrameMode) (w:World),
  DR ρ l ds->St B G n n0 ρ0 w0 ρ fr H a w->MR ρ u m->C3 P callf loopf fn fr l u H=out->Leaves P fn a.tmps (Jg B G n0 ρ0 w0 out) ds m w
 | [],ds,u,H,ρ,m,w,hd,s,hm,h=>by
  cases hd
  cases u with
  | returning =>
   cases hm;simp only[C3] at h;split at h
   .rename_i v hv;subst h;obtain⟨x,hx,hvx⟩:=L3 s hG hv;exact⟨x,hx,ρ,s.ext,s.sim,hvx,s.le⟩
   grind
  | panicking v =>
   obtain⟨x,rfl,hx⟩:=hm;simp only[C3] at h;subst h;exact⟨ρ,x,rfl,hx,s.ext,s.sim,s.le⟩
  | recovered v=>grind[C3]
 | (fx,cap,args)::l,ds,u,H,ρ,m,w,hd,s,hm,h=>by
  obtain⟨cs,as,ds',rfl,hcap,hargs,hd'⟩:=hd
  cases fx with
  | func f =>
   simp only[C3] at h;unfold a7e at h;split at h
   .rename_i g hg;split at h
    .rename_i c hbody hhas;split at h
     .rename_i hdst hlen;rw[a0x] at h;have hrun:m≠.run:=by
       cases u with
       | returning=>cases hm;simp
       | panicking v=>obtain⟨x,rfl,_⟩:=hm;simp
       | recovered v=>obtain⟨x,rfl,_⟩:=hm;simp
      have hva:VRs ρ (args++cap) (as++cs).toList:=by simpa using hargs.append hcap
      refine⟨hrun,.func f,cs,f,as++cs,rfl,?_,?_⟩
      .show (callFunc f (as++cs)).run P w=_;grind[Tf]
      .refine callsD_of_wpS hg hbody λc₀ cs0 hmode=>?_;have hfe:=a0y (n:=g.ntmps) hva (by simp_all[Di]);have s1:St B G g.ntmps H.next ρ w ρ (putArgs (args++cap) (Cx g.ntmps) 0) H { tmps:=(as++cs)++Array.replicate (g.ntmps-(as++cs).size) undef,defers:=[] } w:=⟨Ya _ _ _ _,s.sim,hfe,Wy _⟩;have hr:G5 P callf loopf c (putArgs (args++cap) (Cx g.ntmps) 0) u H≠.bad:=λh0=>by
        rw[h0] at h;exact hne h.symm
       have hc0:({ c₀ with mode:=m }:Frame)=c₀:=by subst hmode;rfl
       have key:=c2x (c₀:=c₀) (cs:=cs0) hc hl hG c ρ _ u H m _ w hdst s1 hm hr;rw[hc0] at key;intro b k hb hro;obtain⟨e,a',cs',w',hq,harr⟩:=key b k hb hro;refine⟨e,a',cs',w',?_,harr⟩;have fin:∀{fr' : Fr}{u' : Mode}{H' : Mem}{ρ' : Rn}{m' : FrameMode},cs' = { c₀ with mode:=m' }::cs0->MR ρ' u' m'->St B G g.ntmps H.next ρ w ρ' fr' H' a' w' ->
         (match fr'.defers,Fi P g fr' H',u' with
          | [],some _,.recovered _=>C3 P callf loopf fn fr l .returning H'
          | [],some _,.returning=>C3 P callf loopf fn fr l .returning H'
          | [],some _,.panicking v=>C3 P callf loopf fn fr l (.panicking v) H'
          | _,_,_=>A1.bad)=out ->
         a'.defers=[]/\∃u2,cs' = { c₀ with mode:=u2 }::cs0/\∃v,(results g a'.tmps).run P w'=.ok v w'/\Leaves P fn a.tmps (Jg B G n0 ρ0 w0 out) ds' (settle u2) w':=by
        intro fr' u' H' ρ' m' hcs hm' s' hmatch;have sub:=s'.ext.sub s.sim;have hs2:St B G n n0 ρ0 w0 ρ' fr H' a w':=⟨s.ext.trans s'.ext s.le,s'.sim,s.frel.mono sub,Xa s.le s'.le⟩;have hdr:=hd'.mono sub;have hdf:fr'.defers=[]->a'.defers=[]:=λh0=>by have:=s'.frel.dfr;rw[h0] at this;exact this
        split at hmatch
        .rename_i v x h1 h2;obtain⟨y,hy,_⟩:=L3 s' hG h2;obtain⟨z,rfl,hz⟩:=hm';exact⟨hdf h1,_,hcs,y,hy,L4 hc hl hG hne l ds' .returning H' ρ' .returning w' hdr hs2 rfl hmatch⟩
        .rename_i v h1 h2;obtain⟨y,hy,_⟩:=L3 s' hG h2;cases hm';exact⟨hdf h1,_,hcs,y,hy,L4 hc hl hG hne l ds' .returning H' ρ' .returning w' hdr hs2 rfl hmatch⟩
        .rename_i v x h1 h2;obtain⟨y,hy,_⟩:=L3 s' hG h2;obtain⟨z,rfl,hz⟩:=hm';exact⟨hdf h1,_,hcs,y,hy,L4 hc hl hG hne l ds' (.panicking _) H' ρ' (.panicking [{ v:=z,recovered:=false }]) w' hdr hs2 ⟨z,rfl,hz⟩ hmatch⟩
        grind
       generalize G5 P callf loopf c (putArgs (args++cap) (Cx g.ntmps) 0) u H=r at hq h
       cases r with
       | norm fr' u' H' =>
        cases e with
        | normal=>obtain⟨ρ',m',hcs,hm',s'⟩:=hq;exact fin hcs hm' s' h
        | _=>exact hq.elim
       | ret fr' u' H' =>
        cases e with
        | ret=>obtain⟨ρ',m',hcs,hm',s'⟩:=hq;exact fin hcs hm' s' h
        | _=>exact hq.elim
       | bad=>exact hq.elim
     grind
    grind
   grind
  | _=>grind[C3]
end
section
@[reducible] def star:String:=String.ofList [Char.ofNat 42]
def a1a(P:Program)(name:String):Option TypeId:=
 match (List.range P.types.size).find? λu=>decide (P.typeName? 3 u=some name) with
 | some tp=>match decide (name=star++String.ofList name.toList.tail) &&
   ((List.range P.types.size).all λu=>P.typeName? 3 u != some (star++String.ofList name.toList.tail)||u==tp) &&
   ((List.range P.types.size).all λe=>P.typeName? 2 e != some (String.ofList name.toList.tail)||(match (P.info? e).map (·.desc) with|some (TypeDesc.named _ _)=>true|_=>false)) &&
   decide ((String.ofList name.toList.tail).toList.head?≠some (Char.ofNat 42)) with
  | true=>some tp
  | false=>none
 | none=>none
noncomputable def Tr(a:List AV)(m:Mem)(v:Nat->AV):Option (List AV×Mem):=
 match a with
 | []=>none
 | _=>some ([v m.next],m.add (.cells a false 0))
noncomputable def mkL{α:Type}(f:α->Mem->Option (List AV×Mem))(sz:Nat):List α->Mem->Option (List AV×Mem)
 | [],m=>some ([],m)
 | d::ds,m=>match f d m with
  | some (a,m)=>match mkL f sz ds m with
   | some (b,m)=>match Nat.beq a.length sz with|true=>some (a++b,m)|false=>none
   | none=>none
  | none=>none
noncomputable def mkF{α:Type}(f:TypeId->α->Mem->Option (List AV×Mem))(sz:TypeId->Nat)(tot:Nat):Nat->List Field->List α->Mem->Option (List AV×Mem)
 | k,[],[],m=>match Nat.beq k tot with|true=>some ([],m)|false=>none
 | k,fd::fs,d::ds,m=>match f fd.type d m with
  | some (a,m)=>match mkF f sz tot (k+sz fd.type) fs ds m with
   | some (b,m)=>match Nat.beq a.length (sz fd.type)&&Nat.beq fd.offset k with|true=>some (a++b,m)|false=>none
   | none=>none
  | none=>none
 | _,_,_,_=>none
noncomputable def mkD{Hh:Type}(P:Program)(tok:Hh->Option FuncId):Nat->TypeId->DataW Hh->Mem->Option (List AV×Mem)
 | 0,_,_,_=>none
 | n+1,t,d,m=>match P.underlying t,d with
  | some .bool,.lit (.bool b)=>some ([.lit (.bool b)],m)
  | some (.int _),.lit (.int k x)=>some ([.lit (.int k x)],m)
  | some .string,.lit (.string bs)=>some ([.lit (.string ⟨bs.toArray⟩)],m)
  | some (.pointer _),.nil=>some ([.lit (.pointer none)],m)
  | some (.pointer e),.ptr d=>match mkD P tok n e d m with
   | some (a,m)=>Tr a m (λx=>.ptr x 0)
   | none=>none
  | some (.slice _),.nil=>some ([.nl],m)
  | some (.slice e),.slice es sp=>match es++sp with
   | []=>some ([.es],m)
   | _=>match mkL (mkD P tok n e) (P.cellsOf e) (es++sp) m with
    | some (a,m)=>Tr a m (λx=>.sl x 0 es.length (es.length+sp.length))
    | none=>none
  | some (.struct fs),.agg ds=>mkF (λt d m=>mkD P tok n t d m) P.cellsOf (P.cellsOf t) 0 fs.toList ds m
  | some (.array k e),.agg ds=>match Nat.beq ds.length k&&Nat.beq (k*P.cellsOf e) (P.cellsOf t) with
   | true=>mkL (mkD P tok n e) (P.cellsOf e) ds m
   | false=>none
  | some (.interface _),.nil=>some ([.lit .nilIface],m)
  | some (.interface _),.iface name d=>match a1a P name with
   | some u=>match P.underlying u with
    | some (.pointer _)=>match mkD P tok n u d m with
     | some ([a],m)=>some ([.iface u a],m)
     | _=>none
    | _=>none
   | none=>none
  | some (.func _ _ _),.nil=>some ([.lit .nilFunc],m)
  | some (.func _ _ _),.held h=>match tok h with
   | some f=>some ([.lit (.func (.func f) #[] #[])],m)
   | none=>none
  | some (.map _ _),.nil=>some ([.lit (.map none)],m)
  | _,_=>none
def Ds(H:Mem):Prop:=∀a x,H.get a=some x->x.own=false
variable {B G:Nat}{P:Program}{ρ ρ' : Rn}{H H' : Mem}{w:World}{Hh:Type}
theorem Sim.see(s:Sim B G ρ H w)(Z:Ds H){x:Blk}{b o k:Nat}(a1:x.own=false)(hx:BR B (upd ρ H.next (b,o,k)) x b o k w):Sim B G (upd ρ H.next (b,o,k)) (H.add x) w:=by
 have a0:=Je (x:=(b,o,k)) s.none;refine⟨?_,?_,?_,?_,e7l s.names,s.base⟩
 .intro a y hy;rcases X7 hy with⟨rfl,rfl⟩|⟨A,hy⟩
  .grind[Dr]
  .rw[Dj _ _ A];rcases s.blk a y hy with hn|⟨b',o',k',U,hb⟩
   .grind
   .exact .inr ⟨b',o',k',U,hb.mono a0 rfl⟩
 .intro a a' y y' b1 o1 k1 o2 k2 h h' A ho U a2;rcases X7 h with⟨e1,e2⟩|⟨a3,g⟩
  .grind
  .rw[Z a y g] at ho;grind
 .intro a D;have h1:H.next+1<=a:=D;rw[Dj _ _ (by omega)];exact s.fresh a (by omega)
 .intro a y D hy;have a4:=s.names;rcases X7 hy with⟨rfl,rfl⟩|⟨A,hy⟩
  .omega
  .rw[Dj _ _ A];exact s.glob a y D hy
theorem Ds.add(h:Ds H){x:Blk}(hx:x.own=false):Ds (H.add x):=by
 intro a y hy;rcases X7 hy with⟨_,rfl⟩|⟨_,hy⟩
 .grind
 .exact h a y hy
structure Made (B G:Nat) (ρ:Rn) (H:Mem) (w:World) (avs:List AV) (H' : Mem) (cs:List Value) (ρ' : Rn):Prop where
 same:∀a,a<H.next->ρ' a=ρ a
 sim:Sim B G ρ' H' w
 no:Ds H'
 vals:VRs ρ' avs cs
 le:H.next<=H'.next
theorem Made.sub{A:List AV}{cs:List Value}(h:Made B G ρ H w A H' cs ρ')(s:Sim B G ρ H w):Sub ρ ρ':=by
 intro a x hx;rw[h.same a (s.lt_next hx)];grind
theorem Made.pure(s:Sim B G ρ H w)(D:Ds H){A:List AV}{cs:List Value}(h:VRs ρ A cs):Made B G ρ H w A H cs ρ:=⟨λ_ _=>rfl,s,D,h,Wy _⟩
theorem Ts{base:Nat}{a:Addr}{n:Nat}{cs:List Value}(h:w.cells? base a n=some cs):cs.length=n/\∀i,i<n->w.cell? (a.add i)=cs[i]?:=by
 exact(World.cells?_some h).2
theorem a1b{a:Addr}{v:Value}(h:w.cell? a=some v):a.spot=none:=by
 unfold World.cell? at h;split at h
 all_goals simp_all
theorem c2y {l:List AV} {cs:List Value} {b o k:Nat} (hl:VRs ρ l cs) (hne:cs≠[]) (hc:∀ i,i < cs.length→w.cell? ⟨b,o+i,none⟩=cs[i]?) : BR B ρ (.cells l false 0) b o k w:=by
 have h0:0 < cs.length:=e7y.2 hne;have hb:∃ c e fz,w.heap[b]?=some (.cells c e fz):=by
  grind [World.cell?]
 obtain ⟨c,e,fz,hh⟩:=hb;refine ⟨c,e,fz,hh,fun i v hi=>?_,fun h=>by cases h⟩;obtain ⟨u,hu,hv⟩:=hl.get i hi;grind [World.cell?]
theorem Addr.add_eq {b o i:Nat} : (Addr.mk b o none).add i=⟨b,o+i,none⟩:=by
 grind [Addr.add]
abbrev Za:=@Addr.add_eq
theorem a1c {α:Type} {f:α→Mem→Option (List AV×Mem)} {sz:Nat} : ∀ (ds:List α) (css:List (List Value)) (H:Mem) (avs:List AV) (H' : Mem) (ρ:Rn),
  css.length=ds.length→(∀ (i:Nat) d ci,ds[i]?=some d→css[i]?=some ci→∀ H avs H' ρ,Sim B G ρ H w→Ds H→f d H=some (avs,H')→∃ ρ',Made B G ρ H w avs H' ci ρ') →
  Sim B G ρ H w→Ds H→mkL f sz ds H=some (avs,H')→(∃ ρ',Made B G ρ H w avs H' css.flatten ρ')∧∀ c∈css,c.length=sz
 | [],css,H,avs,H',ρ,hl,_,s,hno,h=>by
  simp [mkL] at h;obtain ⟨rfl,rfl⟩:=h;have:css=[]:=e6j.1 (by grind);subst this;exact ⟨⟨ρ,.pure s hno rfl⟩,fun c hc=>by grind⟩
 | d :: ds,css,H,avs,H',ρ,hl,hf,s,hno,h=>by
  cases css with
  | nil=>grind
  | cons c css =>
  unfold mkL at h;split at h
  ·rename_i a m1 h1;split at h
   ·rename_i b m2 h2;split at h
    ·rename_i hb;simp only [Option.some.injEq,Prod.mk.injEq] at h;obtain ⟨rfl,rfl⟩:=h;obtain ⟨ρ1,M1⟩:=hf 0 d c rfl rfl H a m1 ρ s hno h1;obtain ⟨⟨ρ2,M2⟩,hlen⟩:=a1c ds css m1 b m2 ρ1 (by grind) (fun i d' ci hd hc=>hf (i+1) d' ci (by grind) (by grind)) M1.sim M1.no h2;refine ⟨⟨ρ2,fun x hx=>(M2.same x (Xm hx M1.le)).trans (M1.same x hx),M2.sim,M2.no,?_,Xa M1.le M2.le⟩,?_⟩
     ·rw [e8r];exact (M1.vals.mono (M2.sub M1.sim)).append M2.vals
     ·intro c' hc';rcases Xb.1 hc' with rfl | hc'
      ·rw [M1.vals.length,Xe hb]
      grind
    grind
   grind
  grind
theorem a9f{α:Type}{f:TypeId->α->Mem->Option (List AV×Mem)}{sz:TypeId->Nat}{cs:List Value}:∀(fs:List Field)(ds:List α)(k:Nat)(H:Mem)(D:List AV) (H' : Mem) (ρ:Rn),
  (∀(i:Nat) U d,fs[i]?=some U->ds[i]?=some d->∀H D H' ρ,Sim B G ρ H w->Ds H->f U.type d H=some (D,H')->∃ρ',Made B G ρ H w D H' ((cs.drop U.offset).take (sz U.type)) ρ') ->
  Sim B G ρ H w->Ds H->mkF f sz cs.length k fs ds H=some (D,H')->∃ρ',Made B G ρ H w D H' (cs.drop k) ρ'
 | [],[],k,H,D,H',ρ,_,s,a0,h=>by
  unfold mkF at h;split at h
  .rename_i hk;simp only[Option.some.injEq,Prod.mk.injEq] at h;obtain⟨rfl,rfl⟩:=h;rw[Xe hk,e7e];exact⟨ρ,.pure s a0 rfl⟩
  grind
 | U::fs,d::ds,k,H,D,H',ρ,hf,s,a0,h=>by
  unfold mkF at h;split at h
  .rename_i a m1 h1;split at h
   .rename_i b m2 h2;split at h
    .rename_i hb;simp only[W1] at hb;simp only[Option.some.injEq,Prod.mk.injEq] at h;obtain⟨rfl,rfl⟩:=h;have a4:=Xe hb.2;have a5:=Xe hb.1;obtain⟨a1,A⟩:=hf 0 U d rfl rfl H a m1 ρ s a0 h1;obtain⟨a2,Z⟩:=a9f fs ds (k+sz U.type) m1 b m2 a1 (λi a3 d' a6 hd=>hf (i+1) a3 d' (by grind) (by grind)) A.sim A.no h2;refine⟨a2,λx hx=>(Z.same x (Xm hx A.le)).trans (A.same x hx),Z.sim,Z.no,?_,Xa A.le Z.le⟩;have h3:=(A.vals.mono (Z.sub A.sim)).append Z.vals;have h4:=A.vals.length;grind[List.drop_drop,List.take_append_drop]
    grind
   grind
  grind
 | [],_::_,_,_,_,_,_,_,_,_,h=>by grind[mkF]
 | _::_,[],_,_,_,_,_,_,_,_,h=>by grind[mkF]
theorem a9g {sz:Nat} : ∀ (n:Nat) (cs:List Value),cs.length=n * sz→((List.range n).map fun i=>(cs.drop (i * sz)).take sz).flatten=cs
 | 0,cs,h=>by grind
 | n+1,cs,h=>by
  rw [List.range_succ_eq_map,e6v,e8r,e9e];have hr:=a9g (sz:=sz) n (cs.drop sz) (by grind);have:((List.range n).map ((fun i=>(cs.drop (i * sz)).take sz) ∘ Nat.succ))=(List.range n).map fun i=>((cs.drop sz).drop (i * sz)).take sz:=by
   simp [e8c,e8j]
  rw [this,hr];simp
theorem a9h {sz b:Nat} : ∀ (css:List (List Value)) (o:Nat),(∀ c∈css,c.length=sz)→(∀ i c,css[i]?=some c→∀ r,r < sz→w.cell? ⟨b,o+i * sz+r,none⟩=c[r]?) →
  ∀ j,j < css.flatten.length→w.cell? ⟨b,o+j,none⟩=css.flatten[j]?
 | [],_,_,_,j,hj=>by grind
 | c :: css,o,hl,h,j,hj=>by
  rw [e8r] at hj ⊢;have hc:=hl c (by simp);rcases e6z j sz with h1 | h1
  ·have:=h 0 c rfl j h1;grind
  ·rw [Xq (by omega)];have:=a9h css (o+sz) (fun c' hc'=>hl c' (by grind)) (fun i c' hi r hr=>by
    have:=h (i+1) c' (by grind) r hr;rw [← this]; congr 2; grind) (j - c.length) (by grind)
   grind
def a1d{Hh:Type}(enc:TypeId×Value->Hh)(tok:Hh->Option FuncId):Prop:=∀t v f,tok (enc (t,v))=some f->v=.func (.func f) #[] #[]
def Tt(P:Program)(w:World)(cs:List Value)(ps:List MemPlace):Prop:=
 (∀u v,Value.iface u v∈cs->Value.okWide P w .any 0 u v)/\∀b off,MemPlace.cell b off∈ps->∀u v,w.cell? ⟨b,off,none⟩=some (.iface u v)->Value.okWide P w .any 0 u v
theorem a9i {H2:Mem} {l:List AV} {cs:List Value} {avs:List AV} {g:Nat→AV} {b o:Nat} {us:List Value} (s:Sim B G ρ H w) (M:Made B G ρ H w l H' cs ρ') (h:Tr l H' g=some (avs,H2))
  (hc:∀ i,i < cs.length→w.cell? ⟨b,o+i,none⟩=cs[i]?) (hg:∀ ρ2,ρ2 H'.next=some (b,o,0)→VRs ρ2 [g H'.next] us) : ∃ ρ2,Made B G ρ H w avs H2 us ρ2:=by
 cases l with
 | nil=>cases h
 | cons x l =>
  simp only [Tr,Option.some.injEq,Prod.mk.injEq] at h;obtain ⟨rfl,rfl⟩:=h;have hne:cs≠[]:=by rintro rfl; have:=M.vals.length; grind
  refine ⟨upd ρ' H'.next (b,o,0),fun a ha=>?_,M.sim.see M.no rfl ?_,M.no.add rfl,hg _ (Dr _ _ _),e7l M.le⟩
  ·rw [Dj _ _ (by have:=M.le; omega)]; exact M.same a ha
  ·exact c2y (M.vals.mono (Je M.sim.none)) hne hc
theorem a9j {a:Addr} {k:Nat} {cs' : List Value} (hcl:w.cells? 0 a k=some cs') (h:∀ b off,MemPlace.cell b off∈MemPlace.row a k→∀ u v,w.cell? ⟨b,off,none⟩=some (.iface u v)→Value.okWide P w .any 0 u v) :
  ∀ u v,Value.iface u v∈cs'→Value.okWide P w .any 0 u v:=by
 intro u v hm;obtain ⟨hlen,hcell⟩:=Ts hcl;obtain ⟨i,hi,e⟩:=e5y.1 hm;have hci:=hcell i (by omega);rw [W6 hi,e] at hci;obtain ⟨b,o,spt⟩:=a;have hspot:spt=none:=by
  have h0:=hcell 0 (by omega);rw [W6 (by omega)] at h0;exact a1b h0
 subst hspot;rw [Addr.add_eq] at hci;refine h b (o+i) ?_ u v hci;unfold MemPlace.row;exact Xc.2 ⟨i,by grind,rfl⟩
theorem c2z {a:Addr} {i k sz n:Nat} {b off:Nat} (hi:i < n) (h:MemPlace.cell b off∈MemPlace.row (a.add (i * sz)) sz) : MemPlace.cell b off∈MemPlace.row a (n * sz):=by
 unfold MemPlace.row at h ⊢;obtain ⟨j,hj,e⟩:=Xc.1 h;have hj' : j < sz:=by grind
 have hb:(a.add (i * sz)).block=a.block:=by grind [Addr.add]
 have ho:(a.add (i * sz)).off=a.off+i * sz:=by
  grind [Addr.add]
 rw [hb,ho] at e;refine Xc.2 ⟨i * sz+j,?_,by grind⟩;have:(i+1) * sz≤n * sz:=e9d _ hi;grind
theorem VRs.singleton{x:AV}{v:Value}(h:VR ρ x v):VRs ρ [x] [v]:=⟨v,[],rfl,h,rfl⟩
abbrev Y3:=@VRs.singleton
theorem c3a{A:String}{u v:TypeId}(h:a1a P A=some u)(D:P.typeName? 3 v=some A):v=u:=by
 unfold a1a at h;split at h
 .rename_i x hx;split at h
  .rename_i U;cases h;simp only[W1,decide_eq_true_eq] at U;obtain⟨⟨⟨Z,h2⟩,h3⟩,h4⟩:=U;rw[Z] at D;exact typeName_ptr_named h2 h3 h4 v D
  grind
 grind
theorem c3b{u e:TypeId}{v:Value}(A:P.underlying u=some (.pointer e))(h:Value.okWide P w .any 0 u v):v.cells.toList=[v]:=by
 cases v<;>first|rfl|skip;simp_all[Cell.ok,Cell.okWide,Value.okWide]
theorem c3c {enc:TypeId×Value→Hh} {sp:Nat→Bool} {held:Bool} {m:Nat} {t:TypeId} {cs:List Value} {name:String} {d:DataW Hh} {ps:List MemPlace} {ms:Array (String×TypeId)} (ht:P.underlying t=some (.interface ms))
  (h:DataW.trod enc P w 0 sp held m t cs=some (.iface name d,ps)) : ∃ u v k,cs=[.iface u v]∧held=false∧P.typeName? 3 u=some name∧DataW.trod enc P w 0 sp held k u v.cells.toList=some (d,ps):=by
 cases m with
 | zero=>simp [DataW.trod] at h
 | succ k =>
  unfold DataW.trod at h;rw [ht] at h;split at h <;> simp_all;rename_i u v _
  cases held with
  | true=>grind
  | false =>
   cases hn:P.typeName? 3 u with
   | none=>grind
   | some nm =>
    rw [hn] at h;simp only [e6a] at h;grind
theorem c3d {enc:TypeId×Value→Hh} {sp:Nat→Bool} {held:Bool} {m:Nat} {t:TypeId} {cs:List Value} {ps:List MemPlace} {ms:Array (String×TypeId)} (ht:P.underlying t=some (.interface ms))
  (h:DataW.trod enc P w 0 sp held m t cs=some (.nil,ps)) : cs=[.nilIface]:=by
 cases m with
 | zero=>simp [DataW.trod] at h
 | succ k =>
  unfold DataW.trod at h;rw [ht] at h;split at h <;> simp_all;rename_i u v _;exfalso
  cases held with
  | true=>grind
  | false =>
   cases hn:P.typeName? 3 u with
   | none=>grind
   | some nm=>simp_all
theorem c3e {enc:TypeId×Value→Hh} {sp:Nat→Bool} {held:Bool} {m:Nat} {t:TypeId} {cs:List Value} {ps:List MemPlace} {a b:Array TypeId} {c:Bool} (ht:P.underlying t=some (.func a b c))
  (h:DataW.trod enc P w 0 sp held m t cs=some (.nil,ps)) : cs=[.nilFunc]:=by
 cases m with
 | zero=>simp [DataW.trod] at h
 | succ k =>
  unfold DataW.trod at h;grind
theorem c3f {enc:TypeId×Value→Hh} {sp:Nat→Bool} {held:Bool} {m:Nat} {t:TypeId} {cs:List Value} {ps:List MemPlace} {a b:Array TypeId} {c:Bool} {x:Hh} (ht:P.underlying t=some (.func a b c))
  (h:DataW.trod enc P w 0 sp held m t cs=some (.held x,ps)) : ∃ v,cs=[v]∧enc (t,v)=x:=by
 cases m with
 | zero=>simp [DataW.trod] at h
 | succ k =>
  unfold DataW.trod at h;grind
theorem c3g {enc:TypeId×Value→Hh} {sp:Nat→Bool} {held:Bool} {m:Nat} {t:TypeId} {cs:List Value} {ps:List MemPlace} {a b:TypeId} (ht:P.underlying t=some (.map a b))
  (h:DataW.trod enc P w 0 sp held m t cs=some (.nil,ps)) : cs=[.map none]:=by
 cases m with
 | zero=>simp [DataW.trod] at h
 | succ k =>
  unfold DataW.trod at h;grind [Option.bind_eq_some_iff]
theorem L5 {enc:TypeId×Value→Hh} {tok:Hh→Option FuncId} {sp:Nat→Bool} (hsp:∀ b,sp b=true) {held:Bool} (htok:a1d enc tok) : ∀ (n m:Nat) (t:TypeId) (cs:List Value) (d:DataW Hh) (ps:List MemPlace) (H:Mem) (avs:List AV) (H' : Mem) (ρ:Rn),
  DataW.trod enc P w 0 sp held m t cs=some (d,ps)→(held=false→Tt P w cs ps)→Sim B G ρ H w→Ds H→mkD P tok n t d H=some (avs,H')→∃ ρ',Made B G ρ H w avs H' cs ρ'
 | 0,m,t,cs,d,ps,H,avs,H',ρ,_,_,_,_,h=>by simp [mkD] at h
 | n+1,m,t,cs,d,ps,H,avs,H',ρ,hr,hif,s,hno,h=>by
  have one:∀ {x:Value},cs=[x]→some ([AV.lit x],H)=some (avs,H')→∃ ρ',Made B G ρ H w avs H' cs ρ':=by
   intro x hcs h;simp only [Option.some.injEq,Prod.mk.injEq] at h;obtain ⟨rfl,rfl⟩:=h;subst hcs;exact ⟨ρ,.pure s hno ⟨x,[],rfl,rfl,rfl⟩⟩
  unfold mkD at h;split at h
  ·grind [DataW.trod_bool]
  ·grind [DataW.trod_int]
  ·rename_i ht;obtain ⟨x',hcs,hx,_⟩:=DataW.trod_string ht hr;simp_all
  ·grind [DataW.trod_pointer]
  ·rename_i ht;rcases DataW.trod_pointer ht hr with ⟨hcs,hx⟩ | ⟨a,cs',y,k,_,hcs,hx,hcl,hy⟩
   ·grind
   ·split at h
    ·rename_i l m1 hl;cases hx;obtain ⟨hlen,hcell⟩:=Ts hcl;obtain ⟨ρ1,M⟩:=L5 hsp htok n k _ cs' _ _ H l m1 ρ hy (fun hh=>⟨a9j hcl fun b off hp=>(hif hh).2 b off (by grind),fun b off hp=>(hif hh).2 b off (by grind)⟩) s hno hl;have hne:0 < cs'.length:=by
      cases l with
      | nil=>cases h
      | cons x l=>have:=M.vals.length; grind
     obtain ⟨b,o,spt⟩:=a;have hs:=hcell 0 (by omega);rw [W6 hne] at hs;have hspot:spt=none:=a1b hs;subst hspot;refine a9i (b:=b) (o:=o) s M h (fun i hi=>?_) fun ρ2 h2=>?_
     ·grind [Addr.add_eq]
     ·rw [hcs]; exact VRs.singleton ⟨b,o,0,h2,rfl⟩
    grind
  ·grind [DataW.trod_slice]
  ·rename_i e _ _ ht;rcases DataW.trod_slice ht hr with ⟨hcs,hx⟩ | ⟨a,len,cap,elems,rest,k,_,hcs,hx,hb0,hlc,hcm,hlen,hel,hrs,_⟩
   ·grind
   ·obtain ⟨hrl,hre⟩:=hrs (hsp _);simp only [Prod.mk.injEq,DataW.slice.injEq] at hx;obtain ⟨⟨rfl,rfl⟩,rfl⟩:=hx;split at h
    ·rename_i hnil;simp only [Option.some.injEq,Prod.mk.injEq] at h;obtain ⟨rfl,rfl⟩:=h;have h0:elems.length=0:=by
      simp_all
     rw [hcs];refine ⟨ρ,.pure s hno (VRs.singleton ⟨a,cap,?_⟩)⟩;grind
    ·split at h
     ·rename_i l m1 hl;have all:∀ i x,(elems++rest)[i]?=some x→∃ ci,w.cells? 0 (a.add (i * P.cellsOf e)) (P.cellsOf e)=some ci∧DataW.trod enc P w 0 sp held k e ci=some x:=by
       intro i x hi;rcases e6z i elems.length with h1 | h1
       all_goals grind [Option.bind_eq_some_iff]
      have hds:List.map (·.1) elems++List.map (·.1) rest=(elems++rest).map (·.1):=by simp
      rw [hds] at hl;obtain ⟨⟨ρ1,M⟩,hsz⟩:=a1c (B:=B) (G:=G) (w:=w) ((elems++rest).map (·.1)) ((List.range (elems++rest).length).map fun i=>(w.cells? 0 (a.add (i * P.cellsOf e)) (P.cellsOf e)).getD []) H l m1 ρ (by simp) (by
       intro i d ci hd hc H avs H' ρ s hno hmk;rw [e6r] at hd hc;obtain ⟨x,hx,rfl⟩:=e6a.1 hd;obtain ⟨ci',h2,h3⟩:=all i x hx;have hlt:i < (elems++rest).length:=(W8.1 hx).1;rw [List.getElem?_range hlt] at hc;simp only [e8s,Option.some.injEq] at hc;subst hc;rw [h2,Option.getD_some];refine L5 hsp htok n k e ci' x.1 x.2 H avs H' ρ h3 (fun hh=>⟨a9j h2 fun b off hp=>(hif hh).2 b off ?_,fun b off hp=>(hif hh).2 b off ?_⟩) s hno hmk
       ·rw [W9]; left;have:=c2z (n:=(elems++rest).length) (k:=0) hlt hp;grind
       grind) s hno hl
      have hpos:0 < (elems++rest).length:=by
       grind
      have hsz0:0 < P.cellsOf e:=by
       rcases Nat.eq_zero_or_pos (P.cellsOf e) with h0 | h0
       ·exfalso;have:((List.range (elems++rest).length).map fun i=>(w.cells? 0 (a.add (i * P.cellsOf e)) (P.cellsOf e)).getD []).flatten=[]:=by
         grind [List.flatten_eq_nil_iff]
        have h2:=M.vals.length;rw [this] at h2
        cases l with
        | nil=>cases h
        | cons x l=>grind
       grind
      have cellAt:∀ i,i < (elems++rest).length→∃ ci,w.cells? 0 (a.add (i * P.cellsOf e)) (P.cellsOf e)=some ci:=by
       intro i hi;obtain ⟨ci,h2,_⟩:=all i _ (W6 hi);grind
      obtain ⟨b,o,spt⟩:=a;have hspot:spt=none:=by
       obtain ⟨c0,h0⟩:=cellAt 0 hpos;obtain ⟨hl0,hc0⟩:=Ts h0;have:=hc0 0 hsz0;rw [W6 (by omega)] at this;have:=a1b this;grind [Addr.add]
      subst hspot;refine a9i (b:=b) (o:=o) s M h (fun j hj=>?_) fun ρ2 h2=>?_
      ·refine a9h (sz:=P.cellsOf e) _ o hsz (fun i c hi r hr=>?_) j hj;rw [e6r] at hi;obtain ⟨i',hi',rfl⟩:=e6a.1 hi;grind [Ts,Addr.add_eq]
      ·rw [hcs];refine VRs.singleton ⟨b,o,0,h2,by simp,?_⟩;grind
     grind
  ·rename_i ht;obtain ⟨xs,k,_,hx,hlen,hxl,hel⟩:=DataW.trod_struct ht hr;simp only [Prod.mk.injEq,DataW.agg.injEq] at hx;obtain ⟨rfl,rfl⟩:=hx;rw [← hlen] at h;have:=a9f (B:=B) (G:=G) (w:=w) (cs:=cs) _ _ 0 H avs H' ρ (fun i fd d hfd hd H avs H' ρ s hno hmk=>?_) s hno h
   ·grind
   ·rw [e6r] at hd;obtain ⟨x,hx,rfl⟩:=e6a.1 hd;have h1:=hel i fd (by grind);rw [hx] at h1;exact L5 hsp htok n k fd.type _ x.1 x.2 H avs H' ρ h1 (fun hh=>⟨fun u v hm=>(hif hh).1 u v (e9f (e6l hm)),fun b off hp=>(hif hh).2 b off (e6x.2 ⟨x,e6e hx,hp⟩)⟩) s hno hmk
  ·rename_i ht;obtain ⟨xs,k,_,hx,hlen,hxl,hel⟩:=DataW.trod_array ht hr;simp only [Prod.mk.injEq,DataW.agg.injEq] at hx;obtain ⟨rfl,rfl⟩:=hx;split at h
   ·rename_i hb;rename_i nn e _ _;simp only [W1] at hb;have htot:=Xe hb.2;obtain ⟨⟨ρ1,M⟩,hsz⟩:=a1c (B:=B) (G:=G) (w:=w) (xs.map (·.1)) ((List.range nn).map fun i=>(cs.drop (i * P.cellsOf e)).take (P.cellsOf e)) H avs H' ρ (by grind) (by
     intro i d ci hd hc H avs H' ρ s hno hmk;rw [e6r] at hd hc;obtain ⟨x,hx,rfl⟩:=e6a.1 hd;have hlt:i < nn:=by grind
     rw [List.getElem?_range hlt] at hc;simp only [e8s,Option.some.injEq] at hc;subst hc;have h1:=hel i hlt;rw [hx] at h1;exact L5 hsp htok n k e _ x.1 x.2 H avs H' ρ h1 (fun hh=>⟨fun u v hm=>(hif hh).1 u v (e9f (e6l hm)),fun b off hp=>(hif hh).2 b off (e6x.2 ⟨x,e6e hx,hp⟩)⟩) s hno hmk) s hno h
    grind [a9g]
   grind
  ·grind [c3d]
  ·rename_i ht;obtain ⟨u,v,k,hcs,hh,hn,hy⟩:=c3c ht hr;split at h
   ·rename_i u' hu';have:=c3a hu' hn;subst this;split at h
    ·rename_i e he;split at h
     ·rename_i a m1 hmk;simp only [Option.some.injEq,Prod.mk.injEq] at h;obtain ⟨rfl,rfl⟩:=h;have hok:=(hif hh).1 u v (by grind);have hv:=c3b he hok;rw [hv] at hy;have hio:Tt P w [v] ps:=by
       refine ⟨fun u2 v2 hm=>?_,(hif hh).2⟩;exfalso;have hm' : Value.iface u2 v2=v:=by grind
       (simp_all [Cell.ok,Cell.okWide,Value.okWide]; grind)
      obtain ⟨ρ1,M⟩:=L5 hsp htok n k u [v] _ ps H [a] m1 ρ hy (fun _=>hio) s hno hmk;obtain ⟨x,xs,e1,hv1,e2⟩:=M.vals;simp only [List.cons.injEq] at e1;obtain ⟨rfl,rfl⟩:=e1;rw [hcs];exact ⟨ρ1,M.same,M.sim,M.no,VRs.singleton ⟨_,rfl,hv1⟩,M.le⟩
     grind
    grind
   grind
  ·grind [c3e]
  ·rename_i ht;obtain ⟨v,hcs,he⟩:=c3f ht hr;split at h
   ·rename_i f hf;have:=htok t v f (by grind);grind
   grind
  all_goals grind [c3g]
end
section
variable {B G:Nat}{P:Program}{ρ ρ' : Rn}{H H' : Mem}{w:World}{Hh:Type}
variable {W:World}{l:List (String×DataW Unit)}
theorem Sim.glo(s:Sim B G ρ H w)(Z:Ds H){g:Nat}{x:Blk}(hg:g<G)(hr:ρ g=some (g,0,0))(a0:x.own=false)(hx:BR B ρ x g 0 0 w):Sim B G ρ (H.upd g x) w:=by
 refine⟨?_,?_,λj D=>s.fresh j D,?_,s.names,s.base⟩
 .intro j z A;rcases Yf A with⟨rfl,rfl⟩|⟨U,A⟩
  .grind
  .exact s.blk j z A
 .intro j j' z z' b1 o1 k1 o2 k2 h h' U ho a1 a2;rcases Yf h with⟨e1,e2⟩|⟨a3,g1⟩
  .grind
  .rw[Z j z g1] at ho;grind
 .intro j z D A;rcases Yf A with⟨rfl,rfl⟩|⟨U,A⟩
  .grind
  .exact s.glob j z D A
theorem Ds.upd(h:Ds H){x:Blk}{g:Nat}(hx:x.own=false):Ds (H.upd g x):=by
 intro a y hy;rcases Yf hy with⟨_,rfl⟩|⟨_,hy⟩
 .grind
 .exact h a y hy
def a1e(P:Program):List UInt8->Option FuncId
 | []=>none
 | b::r=>match (List.range P.funcs.size).filter λf=>(P.funcs[f]?).any (·.name.toUTF8.data.toList==b::r) with
  | [f]=>some f
  | _=>none
theorem c3h(P:Program):a1d (funcToken P) (a1e P):=by
 intro t v f h
 cases A:funcToken P (t,v) with
 | nil=>rw[A] at h;cases h
 | cons b r =>
  rw[A] at h;unfold a1e at h;split at h
  .cases h
  .rename_i U Z e;cases e;split at h
   .rename_i f' a0;cases h;obtain⟨f0,fn,rfl,D,_,hb⟩:=funcToken_tells A;have hm:f0∈(List.range P.funcs.size).filter λf=>(P.funcs[f]?).any (·.name.toUTF8.data.toList==b::r):=
     e6q.2 ⟨e8a.2 (e6d.1 D).1,by grind⟩
    grind
   grind
def Dl{Hh:Type}:Hh->Option FuncId:=λ_=>none
theorem a9k(enc:TypeId×Value->Hh):a1d enc Dl:=λ_ _ _ h=>by cases h
noncomputable def Tu(g:Nat)(r:Option (List AV×Mem)):Option Mem:=match r with
 | some (a,m)=>some (m.upd g (.cells a false 0))
 | none=>none
noncomputable def a1f(P:Program)(x:String×DataW Unit)(H:Mem):Option Mem:=
 match P.globalNamed x.1 with
 | some g=>match (P.globals[g]?).map (·.type) with
  | some t=>match x.2 with
   | .iface "func table" d=>Tu g (mkD P (a1e P) 64 t d.funcsOut H)
   | d=>Tu g (mkD P Dl 64 t d H)
  | none=>none
 | none=>none
noncomputable def Qt(P:Program):List (String×DataW Unit)->Mem->Option Mem
 | [],H=>some H
 | x::l,H=>match a1f P x H with
  | some H=>Qt P l H
  | none=>none
def GOk(G:Nat)(ρ:Rn):Prop:=∀g,g<G->ρ g=some (g,0,0)
def a1g(P:Program)(W:World)(x:String×DataW Unit):Prop:=
 (∀d,x.2=.iface "func table" d->funcsAt P W x.1 d) /\
 ((∀d,x.2≠.iface "func table" d)->∃g t cs fuel p,P.globalNamed x.1=some g/\(P.globals[g]?).map (·.type)=some t/\W.var? P x.1=some cs /\
  DataW.trod (λ_=>()) P W 0 (λ_=>true) false fuel t cs.toList=some (x.2,p)/\Tt P W cs.toList p)
theorem a9l:∀{l:List (String×DataW Unit)} {ps:List MemPlace},DataW.LaidVars P W l ps->∀x∈l,∃g t cs A p,P.globalNamed x.1=some g/\(P.globals[g]?).map (·.type)=some t/\W.var? P x.1=some cs /\
  DataW.trod (λ_=>()) P W 0 (λ_=>true) false A t cs.toList=some (x.2,p)/\(∀q∈MemPlace.row ⟨g,0,none⟩ cs.size,q∈ps)/\∀q∈p,q∈ps
 | [],_,_,x,hx=>by grind
 | (n,d)::r,ps,⟨g,t,cs,A,p,q,D,U,Z,h4,h5,h⟩,x,hx=>by
  rcases Xb.1 hx with rfl|hx
  .exact⟨g,t,cs,A,p,D,U,Z,h4,λy hy=>by rw[h];simp[hy],λy hy=>by rw[h];simp[hy]⟩
  .obtain⟨g',t',a0,f',p',k1,k2,k3,k4,k5,k6⟩:=a9l h5 x hx;exact⟨g',t',a0,f',p',k1,k2,k3,k4,λy hy=>by rw[h];simp[k5 y hy],λy hy=>by rw[h];simp[k6 y hy]⟩
theorem a9m(h:laidMet P l W){x:String×DataW Unit}(hx:x∈l):∃g t cs Z p,P.globalNamed x.1=some g/\(P.globals[g]?).map (·.type)=some t/\W.var? P x.1=some cs /\
  DataW.trod (λ_=>()) P W 0 (λ_=>true) false Z t cs.toList=some (x.2,p)/\Tt P W cs.toList p:=by
 obtain⟨ps,h1,_,A⟩:=h;obtain⟨g,t,cs,f,p,D,k2,U,k4,k5,k6⟩:=a9l h1 x hx;refine⟨g,t,cs,f,p,D,k2,U,k4,λu v hm=>?_,λb off hp=>(A b off (k6 _ hp)).2⟩;obtain⟨i,hi,e⟩:=e5y.1 hm;have hi' : i<cs.size:=by grind
 have a0:MemPlace.cell g i∈MemPlace.row ⟨g,0,none⟩ cs.size:=by
  grind[MemPlace.row]
 refine(A g i (k5 _ a0)).2 u v ?_;rw[World.var?_cell D U i];grind
theorem c3i(h:laidMetH P l W)(U:(l.all λx=>x.2.handleName?.isNone||x.2.funcsIn?.isSome)=true):∀x∈l,a1g P W x:=by
 intro x hx;refine⟨λd A=>?_,λA=>?_⟩
 .obtain⟨n,e⟩:=x;dsimp only at A;subst A;exact h.funcs hx
 .have Z:x.2.handleName?.isNone=true:=by
   have:=W7.1 U x hx;rcases e8t _ _ ▸ this with D|D
   .grind
   .exfalso;obtain⟨n,e⟩:=x;cases e<;>first|(cases D;done)|skip;rename_i t e;simp only[DataW.funcsIn?] at D;grind
  unfold laidMetH at h;split at h
  .grind[a9m]
  .exact a9m h.1 (e6q.2 ⟨hx,Z⟩)
theorem a9n{g:Nat}{A:List AV}{cs:Array Value}{D:Mem}{n:String}(s:Sim B G ρ H w)(hg:GOk G ρ)(a1:P.globalNamed n=some g)(Z:g<G)(U:w.var? P n=some cs)(M:Made B G ρ H w A D cs.toList ρ'):
  GOk G ρ'/\Sim B G ρ' (D.upd g (.cells A false 0)) w/\Ds (D.upd g (.cells A false 0)):=by
 have a0:GOk G ρ':=λa ha=>by
  have:a<H.next:=Xm ha s.names;rw[M.same a this];exact hg a ha
 refine⟨a0,M.sim.glo M.no Z (a0 g Z) rfl ?_,M.no.upd rfl⟩;simp only[World.var?,a1,Option.bind_some] at U;split at U
 .rename_i c e fz hh;cases U;refine⟨cs,e,fz,hh,λi v hi=>?_,λh=>by cases h⟩;obtain⟨u,hu,a2⟩:=M.vals.get i hi;grind
 grind
theorem c3j{x:String×DataW Unit}(hG:G=P.globals.size)(hl:a1g P w x)(s:Sim B G ρ H w)(a3:Ds H)(hg:GOk G ρ)(h:a1f P x H=some H'):∃ρ',GOk G ρ'/\Sim B G ρ' H' w/\Ds H':=by
 unfold a1f at h;split at h
 .rename_i g U;split at h
  .rename_i t ht;have a4:g<G:=by
    grind
   split at h
   .rename_i d Z;obtain⟨g',t',cs,a0,p,A,D,k3,k4⟩:=hl.1 d Z;rw[U] at A;cases A;rw[ht] at D;cases D;unfold Tu at h;split at h
    .rename_i a m a1;cases h;obtain⟨a2,M⟩:=L5 (λ_=>rfl) (c3h P) 64 a0 t cs.toList _ p H a m ρ k4 (λh=>by cases h) s a3 a1;exact⟨a2,a9n s hg U a4 k3 M⟩
    grind
   .rename_i d Z;obtain⟨g',t',cs,a0,p,A,D,k3,k4,k5⟩:=hl.2 Z;rw[U] at A;cases A;rw[ht] at D;cases D;unfold Tu at h;split at h
    .rename_i a m a1;cases h;obtain⟨a2,M⟩:=L5 (λ_=>rfl) (a9k _) 64 a0 t cs.toList _ p H a m ρ k4 (λ_=>k5) s a3 a1;exact⟨a2,a9n s hg U a4 k3 M⟩
    grind
  grind
 grind
theorem a9o(hG:G=P.globals.size):∀(l:List (String×DataW Unit)) (H H' : Mem) (ρ:Rn),(∀x∈l,a1g P w x)->Sim B G ρ H w->Ds H->GOk G ρ->Qt P l H=some H' ->
  ∃ρ',GOk G ρ'/\Sim B G ρ' H' w/\Ds H'
 | [],H,H',ρ,_,s,A,D,h=>by cases h;grind
 | x::l,H,H',ρ,U,s,A,D,h=>by
  unfold Qt at h;split at h
  .rename_i Z h1;obtain⟨a0,g1,s1,n1⟩:=c3j hG (U x (by simp)) s A D h1;exact a9o hG l Z H' a0 (λy hy=>U y (by simp[hy])) s1 n1 g1 h
  .cases h
noncomputable def Nl(P:Program):Mem:=⟨.tr e4,P.globals.size⟩
theorem a9p(a:Nat):(Nl P).get a=none:=S8 a
theorem c3k{H:Mem}(h:laidMetH P l w)(A:(l.all λx=>x.2.handleName?.isNone||x.2.funcsIn?.isSome)=true)(D:Qt P l (Nl P)=some H):
  ∃ρ,Sim w.heap.size P.globals.size ρ H w/\Ds H:=by
 have U:Sim w.heap.size P.globals.size (λa=>if a<P.globals.size then some (a,0,0) else none) (Nl P) w:=by
  refine⟨λa x hx=>?_,λa a' x x' b o k o' k' hx=>?_,λa Z=>?_,λa x _ hx=>?_,Wy _,Wy _⟩
  .grind[a9p]
  .grind
  .exact if_neg (Nat.not_lt.2 Z)
  grind
 obtain⟨ρ,_,h1,h2⟩:=a9o rfl l _ H _ (c3i h A) U (λa x hx=>by grind[a9p]) (λg hg=>if_pos hg) D;grind
end
section
abbrev WF:=FuncId->List AV->Mem->(A1->Prop)->Prop
def WC(G:Nat)(P:Program):WF:=λf args H K=>∀(B:Nat)(ρ:Rn)(us:Array Value)(w:World),Sim B G ρ H w->VRs ρ args us.toList ->
 Calls P f us w λe w'=>∃r,K r/\Jg B G H.next ρ w r e w'
def orW(O:CallF)(W:WF):WF:=λf args H K=>match O f args H with
 | .bad=>W f args H K
 | r=>K r
theorem WC.mono{G:Nat}{P:Program}{f:FuncId}{args:List AV}{H:Mem}{K A:A1->Prop}(h:WC G P f args H K)(D:∀r,K r->A r):WC G P f args H A:=
 λB ρ us w s v=>(h B ρ us w s v).mono λ_ _ ⟨r,k,c⟩=>⟨r,D r k,c⟩
abbrev Xv:=@WC.mono
def WOK(G:Nat)(P:Program)(W:WF):Prop:=∀(f:FuncId)(args:List AV)(H:Mem)(K:A1->Prop),W f args H K->WC G P f args H K
theorem a9q{G:Nat}{P:Program}{O:CallF}(U:∀B,A8 B G P O){f:FuncId}{args:List AV}{H:Mem}{K:A1->Prop}(h:orW O (WC G P) f args H K):WC G P f args H K:=by
 unfold orW at h
 cases A:O f args H with
 | bad=>grind
 | ret v H' =>
  rw[A] at h;intro B ρ us w s D;have:=U B f args H (by grind) ρ us w s D;rw[A] at this;exact this.mono λe Z c=>⟨_,h,c⟩
 | panic v H' =>
  rw[A] at h;intro B ρ us w s D;have:=U B f args H (by grind) ρ us w s D;rw[A] at this;exact this.mono λe Z c=>⟨_,h,c⟩
noncomputable def Fx(W:WF)(o:Oper)(fr:Fr)(k:Fr->Mem->Prop)(Q:Out->Prop):R->Prop
 | .val v H=>k (fr.put o.dst v) H
 | .skip H=>k (fr.put o.dst (.lit undef)) H
 | .enter f args H=>W f args H λr=>match r with
  | .ret v H=>k (fr.put o.dst v) H
  | .panic v H=>Q (.panic v fr H)
  | .bad=>False
 | .dfr fn cap args H=>k ((fr.defer (fn,cap,args)).put o.dst (.lit undef)) H
 | .panic v H=>Q (.panic v fr H)
 | _=>False
def Fo(x:Option AV)(want:Bool)(yes no:Prop):Prop:=match x with
 | some (.lit (.bool b))=>(b=want->yes)/\(b = !want->no)
 | some (.lit (.tuple _))=>no
 | _=>False
noncomputable def D4(ops:Array Oper)(fr:Fr)(j:Nat):Option AV:=match ops[j]? with
 | some o=>match o.dst with
  | some d=>fr.get d
  | none=>none
 | none=>none
noncomputable def Dm(P:Program)(W:WF)(ops:Array Oper)(o:Oper)(fr:Fr)(H:Mem)(k:Fr->Mem->Prop)(Q:Out->Prop):Prop:=
 match o.guard with
 | none=>Fx W o fr k Q (opV P H fr.ev o)
 | some g=>Fo (D4 ops fr g.1) g.2 (Fx W o fr k Q (opV P H fr.ev o)) (k (fr.put o.dst (.lit undef)) H)
noncomputable def Fy(P:Program)(W:WF)(ops:Array Oper)(Q:Out->Prop):List Oper->Fr->Mem->Prop
 | [],fr,H=>Q (.norm fr H)
 | o::l,fr,H=>Dm P W ops o fr H (Fy P W ops Q l) Q
abbrev ResF:=Nat->Option AV
def C9(res:ResF)(i:Nat)(v:AV):ResF:=λj=>if j=i then some v else res j
noncomputable def G6(ops:Array Oper)(tab:List Nat)(fr:Fr)(res:ResF)(i t:Nat):Option AV:=
 match G4 t ops.toList 0 with
 | none=>fr.get t
 | some j=>match A3 tab i j with
  | true=>res j
  | false=>match A3 tab j i||Nat.beq i j with
   | true=>fr.get t
   | false=>none
noncomputable def Cc(ops:Array Oper)(tab:List Nat)(fr:Fr)(res:ResF)(i:Nat):Ev:=λx=>match x with
 | .tmp t=>G6 ops tab fr res i t
 | .const v=>some (.lit v)
 | .global g=>some (.lit (.pointer (some ⟨g,0,none⟩)))
 | .func f=>some (.lit (.func (.func f) #[] #[]))
noncomputable def a1h(tab:List Nat)(res:ResF)(i:Nat)(g:Nat×Bool):Option Bool:=
 match A3 tab i g.1,res g.1 with
 | true,some (.lit (.bool b))=>(match b,g.2 with|true,true=>some true|false,false=>some true|_,_=>some false)
 | true,some (.lit (.tuple _))=>some false
 | _,_=>none
noncomputable def Nn(tab:List Nat)(res:ResF)(i:Nat)(o:Oper):Option Bool:=match o.guard with|none=>some true|some g=>a1h tab res i g
noncomputable def Np(tab:List Nat)(res:ResF)(i:Nat)(o:Oper)(yes no:Prop):Prop:=match o.guard with
 | none=>yes
 | some g=>A3 tab i g.1=true/\Fo (res g.1) g.2 yes no
def Ji(res:ResF)(i:Nat)(v:AV)(K:ResF->Prop):Prop:=res i=none/\K (C9 res i v)
abbrev StW:=ResF->Mem->List Nat->Als->Prop
noncomputable def L6(P:Program)(H:Mem)(ev:Ev)(o:Oper)(K:AV->Prop):Prop:=match quiet P H ev o with
 | some v=>K v
 | none=>False
noncomputable def a1i(H:Mem)(i:Nat)(res:ResF)(held:List Nat)(als:Als)(K:StW):R->Prop
 | .val v H'=>match H'.get H.next with
  | some b=>Ji res i v λres=>K res H' held ((i,H.next,b)::als)
  | none=>False
 | _=>False
noncomputable def Tv(P:Program)(ops:Array Oper)(tab:List Nat)(fr:Fr)(i:Nat)(res:ResF)(H:Mem)(held:List Nat)(als:Als)(K:StW):Prop:=
 match ops[i]? with
 | none=>False
 | some o=>Np tab res i o
  (match cls o.op with
   | .alloc=>a1i H i res held als K (opV P H (Cc ops tab fr res i) o)
   | .read=>L6 P H (Cc ops tab fr res i) o λv=>Ji res i v λres=>K res H (i::held) als
   | _=>L6 P H (Cc ops tab fr res i) o λv=>Ji res i v λres=>K res H held als)
  (Ji res i (.lit undef) λres=>K res H held als)
noncomputable def Nq(P:Program)(ops:Array Oper)(tab:List Nat)(fr:Fr)(K:StW):List Nat->ResF->Mem->List Nat->Als->Prop
 | [],res,H,held,als=>K res H held als
 | i::l,res,H,held,als=>Tv P ops tab fr i res H held als (Nq P ops tab fr K l)
noncomputable def Ki(P:Program)(ops:Array Oper)(tab:List Nat)(fr:Fr)(res:ResF)(H:Mem):List Nat->Prop
 | []=>True
 | i::l=>(match ops[i]? with
  | some o=>∃v,res i=some v/\quiet P H (Cc ops tab fr res i) o=some v
  | none=>False)/\Ki P ops tab fr res H l
noncomputable def Kj(H:Mem):Als->Prop
 | []=>True
 | (_,a,b)::l=>H.get a=some b/\Kj H l
noncomputable def Kk(res:ResF)(K:Fr->Prop):List Oper->Nat->Fr->Prop
 | [],_,fr=>K fr
 | o::l,i,fr=>match res i with
  | some v=>Kk res K l (i+1) (fr.put o.dst v)
  | none=>False
noncomputable def Tw(W:WF)(fr:Fr)(c:Nat)(res:ResF)(K:ResF->Mem->Prop)(Q:Out->Prop):R->Prop
 | .val v H=>Ji res c v λres=>K res H
 | .skip H=>Ji res c (.lit undef) λres=>K res H
 | .enter f args H=>W f args H λr=>match r with
  | .ret v H=>Ji res c v λres=>K res H
  | .panic v H=>Q (.panic v fr.clear H)
  | .bad=>False
 | _=>False
noncomputable def Qu(P:Program)(W:WF)(ops:Array Oper)(tab:List Nat)(fr:Fr)(c:Nat)(res:ResF)(H:Mem)(K:ResF->Mem->Prop)(Q:Out->Prop):Prop:=
 match ops[c]? with
 | none=>False
 | some o=>Np tab res c o (Tw W fr c res K Q (opV P H (Cc ops tab fr res c) o)) (Ji res c (.lit undef) λres=>K res H)
noncomputable def O1(P:Program)(W:WF)(ops:Array Oper)(tab:List Nat)(fr:Fr)(all:List Nat)(Q:Out->Prop):Nat->List Nat->ResF->Mem->List Nat->Als->Prop
 | k,[],res,H,held,als=>Nq P ops tab fr (λres H held als=>Ki P ops tab fr res H held/\Kj H als/\Kk res (λfr=>Q (.norm fr H)) ops.toList 0 fr) (E4 tab all k ops.toList 0) res H held als
 | k,c::cs,res,H,held,als=>Nq P ops tab fr (λres H held als=>Ki P ops tab fr res H held/\Kj H als /\
   Qu P W ops tab fr c res H (λres H=>O1 P W ops tab fr all Q (k+1) cs res H (Hl tab c held) (Gf tab c als)) Q) (E4 tab all k ops.toList 0) res H held als
noncomputable def Tx(P:Program)(W:WF)(ops:Array Oper)(fr:Fr)(H:Mem)(Q:Out->Prop):Prop:=
 On ops.toList=true/\Tables.follows P.toTables .mixedOrders=true /\
 O1 P W ops (ancs [] ops.toList) fr (chainOf ops.toList 0) Q 0 (chainOf ops.toList 0) (λ_=>none) H [] []
abbrev LF:=Code->Fr->Mem->(Out->Prop)->Prop
noncomputable def Gi(k:Fr->Mem->Prop)(Q:Out->Prop):Out->Prop
 | .norm fr H=>k fr H
 | .exit id fr H=>Q (.exit id fr H)
 | .ret fr H=>Q (.ret fr H)
 | .panic v fr H=>Q (.panic v fr H)
 | .bad=>False
noncomputable def Jj(id:Nat)(Q:Out->Prop):Out->Prop
 | .exit id' fr H=>if id'=id then Q (.norm fr H) else Q (.exit id' fr H)
 | .norm fr H=>Q (.norm fr H)
 | .ret fr H=>Q (.ret fr H)
 | .panic v fr H=>Q (.panic v fr H)
 | .bad=>False
noncomputable def Gj(x:Option AV)(yes no:Prop):Prop:=match x with
 | some (.lit (.bool b))=>(b=true->yes)/\(b=false->no)
 | _=>False
noncomputable def Jk(P:Program)(W:WF)(L:LF):Code->Fr->Mem->(Out->Prop)->Prop
 | .skip,fr,H,Q=>Q (.norm fr H)
 | .region _ ops false,fr,H,Q=>Fy P W ops Q ops.toList fr H
 | .region _ ops true,fr,H,Q=>Tx P W ops fr H Q
 | .seq a b,fr,H,Q=>Jk P W L a fr H (Gi (λfr H=>Jk P W L b fr H Q) Q)
 | .cond c a b,fr,H,Q=>Gj (fr.ev c) (Jk P W L a fr H Q) (Jk P W L b fr H Q)
 | .block id b,fr,H,Q=>Jk P W L b fr H (Jj id Q)
 | .loop b,fr,H,Q=>L b fr H Q
 | .exit id,fr,H,Q=>Q (.exit id fr H)
 | .label _,fr,H,Q=>Q (.norm fr H)
 | .ret,fr,H,Q=>Q (.ret fr H)
 | _,_,_,_=>False
variable {B G:Nat}{P:Program}{n n0:Nat}{ρ0 ρ:Rn}{w0 w:World}{fr:Fr}{H:Mem}{a:Act}
def E7(B G n n0:Nat)(ρ0:Rn)(w0:World)(Q:Out->Prop):Exit->Act->World->Prop:=λe a' w'=>∃out,Q out/\Dk B G n n0 ρ0 w0 out e a' w'
def XW(G:Nat)(P:Program)(n:Nat)(c:Code)(fr:Fr)(H:Mem)(Q:Out->Prop):Prop:=
 ∀(B n0:Nat)(ρ0:Rn)(w0:World)(ρ:Rn)(a:Act) (w:World),St B G n n0 ρ0 w0 ρ fr H a w->c.wp P (E7 B G n n0 ρ0 w0 Q) a w
def LX(G:Nat)(P:Program)(n:Nat):LF:=λb fr H Q =>
 ∀(B n0:Nat)(ρ0:Rn)(w0:World)(ρ:Rn)(a:Act) (w:World),St B G n n0 ρ0 w0 ρ fr H a w->LW P b (E7 B G n n0 ρ0 w0 Q) a w
theorem a9r{ops:Array Oper}{g:Nat×Bool}{o:Oper}{yes no:Prop}(s:St B G n n0 ρ0 w0 ρ fr H a w)(ho:o.guard=some g)(h:Fo (D4 ops fr g.1) g.2 yes no):
  (Region.wanted o (yielded ops a.tmps)=true/\yes)\/(Region.wanted o (yielded ops a.tmps)=false/\no):=by
 obtain⟨j,want⟩:=g;have slot:∀{d:Tmp}{v:AV},fr.get d=some v->∃u,a.tmps[d]?=some u/\VR ρ v u:=by
  intro d v hv;have hlt:=s.frel.only d v hv;have:=s.frel.slot d v hv hlt;have hsz:d<a.tmps.size:=Xm hlt s.frel.size;simp_all
 have atSlot:∀{v:AV},D4 ops fr j=some v->∃oj d u,ops[j]?=some oj/\oj.dst=some d/\a.tmps[d]?=some u/\VR ρ v u:=by
  grind[D4]
 unfold Fo at h;split at h
 .rename_i b hs;obtain⟨oj,d,u,h1,h2,h3,h4⟩:=atSlot hs;cases h4;have hyl:yielded ops a.tmps j=some b:=by grind[yielded]
  by_cases e:b=want
  .grind[Region.wanted]
  .have e2:b = !want:=by cases b<;>cases want<;>simp_all
   grind[Region.wanted]
 .rename_i vs hs;obtain⟨oj,d,u,h1,h2,h3,h4⟩:=atSlot hs;cases h4;grind[yielded,Region.wanted]
 grind
theorem a9s{W:WF}(hW:WOK G P W){ops:Array Oper}{o:Oper}{a0:List Oper}{k:Fr->Mem->Prop}{Q:Out->Prop}(hG:G=P.globals.size)(a3:Cn n o=true)
  (s:St B G n n0 ρ0 w0 ρ fr H a w)
  (hk:∀(a1:Fr)(H' : Mem)(ρ' : Rn)(a' : Act)(w' : World),St B G n n0 ρ0 w0 ρ' a1 H' a' w'->k a1 H'->wpList P ops (E7 B G n n0 ρ0 w0 Q) a0 a' w')
  (h:Fx W o fr k Q (opV P H fr.ev o)) :
  o.wp P a w (wpList P ops (E7 B G n n0 ρ0 w0 Q) a0) (E7 B G n n0 ρ0 w0 Q):=by
 have A:=Ij (o:=o) s.sim s.ev hG;have hd:=Fl a3;unfold Oper.wp
 cases Z:opV P H fr.ev o with
 | val v H' =>
  rw[Z] at A h;obtain⟨ρ',u,w',D,U,h3,h4,h5⟩:=A;rw[D];exact hk _ _ _ _ _ (s.step U h3 h4 h5 hd) h
 | skip H' =>
  rw[Z] at A h;obtain⟨ρ',w',D,U,h3,h5⟩:=A;rw[D];exact hk _ _ _ _ _ (s.step U h3 (Hm _) h5 hd) h
 | enter f args H' =>
  rw[Z] at A h;obtain⟨us,D,U,rfl⟩:=A;rw[D];refine(hW _ _ _ _ h B ρ us w s.sim U).mono λe w' ⟨r,a2,hc⟩=>?_
  cases r with
  | bad=>grind
  | ret v H2 =>
   cases e with
   | returned u =>
    obtain⟨ρ',g1,g2,g3,g4⟩:=hc;exact hk _ _ _ _ _ (s.step g1 g2 g3 g4 hd) a2
   | panicked a4=>exact hc.elim
   | outgrown=>exact hc.elim
  | panic v H2 =>
   cases e with
   | returned u=>exact hc.elim
   | panicked a4 =>
    obtain⟨ρ',u,g0,g1,g2,g3,g4⟩:=hc;exact⟨_,a2,ρ',u,g0,g1,s.ext.trans g2 s.le,g3,s.frel.mono (g2.sub s.sim),Xa s.le g4⟩
   | outgrown=>exact hc.elim
 | dfr fn a5 args H' =>
  rw[Z] at A h;obtain⟨cs,as,D,U,h3,rfl⟩:=A;rw[D];have hf:Dz n ρ (fr.defer (fn,a5,args)) { a with defers:={ target:=.fn fn cs,args:=as }::a.defers }:=
   ⟨λt v hv ht=>s.frel.slot t v (by grind[Fr.get_defer]) ht,by rw[Y9];exact⟨cs,as,_,rfl,U,h3,s.frel.dfr⟩,s.frel.size,
    λt v hv=>s.frel.only t v (by grind[Fr.get_defer])⟩
  exact hk _ _ _ _ _ ⟨s.ext,s.sim,hf.put hd (Hm _),s.le⟩ h
 | recover=>rw[Z] at h;exact h.elim
 | panic v H' =>
  rw[Z] at A h;obtain⟨u,D,U,rfl⟩:=A;rw[D];exact⟨_,h,ρ,u,rfl,U,s⟩
 | bad=>rw[Z] at h;exact h.elim
theorem Ty{W:WF}(hW:WOK G P W){ops:Array Oper}{Q:Out->Prop}(hG:G=P.globals.size):∀(l:List Oper)(fr:Fr)(H:Mem)(ρ:Rn)(a:Act) (w:World),
  (∀o∈l,Cn n o=true)->St B G n n0 ρ0 w0 ρ fr H a w->Fy P W ops Q l fr H->wpList P ops (E7 B G n n0 ρ0 w0 Q) l a w
 | [],fr,H,ρ,a,w,_,s,h=>wpList_nil ⟨_,h,ρ,s⟩
 | o::l,fr,H,ρ,a,w,hd,s,h=>by
  have a0:=hd o (by simp);have hk:∀(A:Fr)(H' : Mem)(ρ' : Rn)(D:Act)(U:World),St B G n n0 ρ0 w0 ρ' A H' D U->Fy P W ops Q l A H'->wpList P ops (E7 B G n n0 ρ0 w0 Q) l D U:=
   λA H' ρ' D U s' hk=>Ty hW hG l A H' ρ' D U (λo ho=>hd o (by grind)) s' hk
  have Z:Dm P W ops o fr H (Fy P W ops Q l) Q:=h;unfold Dm at Z;unfold wpList
  cases hg:o.guard with
  | none =>
   rw[hg] at Z;rw[if_pos (by grind[Region.wanted])];grind[a9s]
  | some g =>
   rw[hg] at Z;rcases a9r s hg Z with⟨hw,hy⟩|⟨hw,hn⟩
   .rw[if_pos hw];grind[a9s]
   .rw[if_neg (by grind)];exact hk _ _ _ _ _ ⟨s.ext,s.sim,s.frel.put (Fl a0) (Hm _),s.le⟩ hn
theorem Tz{G:Nat}{P:Program}{O:CallF}(A:∀B,A8 B G P O):WOK G P (orW O (WC G P)):=λ_ _ _ _ h=>a9q A h
end
section
variable {B G:Nat}{P:Program}{ops:Array Oper}{tab:List Nat}{fr0:Fr}
def GrF(r r' : ResF):Prop:=∀j v,r j=some v->r' j=some v
theorem GrF.refl(r:ResF):GrF r r:=λ_ _ h=>h
abbrev Yy:=@GrF.refl
theorem GrF.trans{a b c:ResF}(h:GrF a b)(k:GrF b c):GrF a c:=λj v e=>k j v (h j v e)
theorem L7{res:ResF}{i:Nat}{v:AV}{K:ResF->Prop}(h:Ji res i v K):∃A,K A/\GrF res A/\A i=some v:=by
 refine⟨_,h.2,λj y D=>?_,if_pos rfl⟩;unfold C9;by_cases e:j=i
 .subst e;rw[h.1] at D;grind
 grind
def L8(B:Nat)(P:Program)(ops:Array Oper)(tab:List Nat)(fr0:Fr)(res:ResF)(held:List Nat)(als:Als)(i:Nat)(o:Oper):Prop:=
  ∃r0 v,GrF r0 res/\res i=some v /\
    ((Nn tab r0 i o=some false/\v=.lit undef) \/
     (Nn tab r0 i o=some true /\
      ((cls o.op=.free/\∀H,opV P H (Cc ops tab fr0 r0 i) o=.val v H) \/
       (cls o.op=.gen/\A7 P (Cc ops tab fr0 r0 i) o=some v) \/
       (cls o.op=.read/\i∈held) \/
       (∃f x nm,(∀(ρ:Rn)(w:World)(e:Operand->Value),EvR ρ (Cc ops tab fr0 r0 i) e->B<=w.heap.size->ND B P ρ w f x (execOp e o))/\v=f nm/\(i,nm,x)∈als))))
theorem L8.mono{res U:ResF}{held Z:List Nat}{als a0:Als}{i:Nat}{o:Oper}(h:L8 B P ops tab fr0 res held als i o)(hg:GrF res U)
  (hh:i∈held->i∈Z) (ha:∀D x,(i,D,x)∈als->(i,D,x)∈a0):L8 B P ops tab fr0 U Z a0 i o:=by
 obtain⟨r0,v,h1,h2,h3⟩:=h;refine⟨r0,v,h1.trans hg,hg _ _ h2,h3.imp id λ⟨h4,A⟩=>⟨h4,A.imp id λA=>A.imp id λA=>A.imp ?_ ?_⟩⟩
 .grind
 .exact λ⟨f,x,D,a,b,c⟩=>⟨f,x,D,a,b,ha _ _ c⟩
structure a1j (B:Nat) (P:Program) (ops:Array Oper) (tab:List Nat) (fr0:Fr) (L:List Nat) (res:ResF) (H:Mem) (held:List Nat) (als:Als) (res' : ResF) (H' : Mem) (held' : List Nat) (als' : Als):Prop where
 gr:GrF res res'
 ph:Ph H H'
 keepH:∀i∈held,i∈held'
 keepA:∀x∈als,x∈als'
 new:∀x∈als',x∈als\/H.next<=x.2.1
 ok:∀n,n<=H.next->Eu n H als->Eu n H' als'
 known:∀i∈L,∀o,ops[i]?=some o->L8 B P ops tab fr0 res' held' als' i o
variable {L:List Nat}{res:ResF}{H:Mem}{held:List Nat}{als:Als}{K:StW}
theorem a9t{tab:List Nat}{res:ResF}{i:Nat}{o:Oper}{yes no:Prop}(h:Np tab res i o yes no):
  (Nn tab res i o=some true/\yes)\/(Nn tab res i o=some false/\no):=by
 unfold Np at h;unfold Nn;split at h
 .grind
 .rename_i g hg;obtain⟨ha,h⟩:=h;unfold a1h;rw[ha];unfold Fo at h;split at h
  .rename_i b hs;rw[hs];obtain⟨j,want⟩:=g;by_cases e:b=want
   .left;refine⟨?_,h.1 e⟩;subst e;cases b<;>rfl
   .right;have e2:b = !want:=by cases b<;>cases want<;>simp_all
    grind
  all_goals grind
theorem c3l{i:Nat}{o:Oper}(ho:ops[i]?=some o)(hk:Cw o.op=false)(hn:cls o.op≠.no)(h:Tv P ops tab fr0 i res H held als K):
    ∃A H' Z a0,K A H' Z a0/\a1j B P ops tab fr0 [i] res H held als A H' Z a0:=by
  have only:∀{A:ResF}{Z:List Nat}{a0:Als},L8 B P ops tab fr0 A Z a0 i o->∀j∈[i],∀o',ops[j]?=some o'->L8 B P ops tab fr0 A Z a0 j o':=by
    grind
  unfold Tv at h;rw[ho] at h;dsimp only at h;rcases a9t h with⟨hw,h⟩|⟨hw,h⟩
  · have a6:∀(a1:cls o.op ≠ .alloc)(a2:cls o.op ≠ .read), L6 P H (Cc ops tab fr0 res i) o (λv => Ji res i v λres => K res H held als) ->
        ∃A H' Z a0,K A H' Z a0/\a1j B P ops tab fr0 [i] res H held als A H' Z a0:=by
      intro a1 a2 h;unfold L6 at h;split at h
      · rename_i v U;obtain⟨A,h1,D,h3⟩:=L7 h;refine⟨A,H,held,als,h1,D,Yh _,λ_ h=>h,λ_ h=>h,λ_ h=>.inl h,λ_ _ h=>h,only ?_⟩;refine⟨res,_,D,h3,.inr ⟨hw,?_⟩⟩
        cases hc:cls o.op with
        | free =>
          left;refine⟨rfl,?_⟩;unfold quiet at U;rw[hc] at U;dsimp only at U;have hf:freeOp o.op=true:=by
            cases hf:freeOp o.op with
            | true=>rfl
            | false =>
              (simp_all[cls];grind)
          split at U
          · rename_i v' H' a3;cases U;intro H2;have a7:=a0q hf H v H' a3;grind
          grind
        | gen =>
          right;left;refine⟨rfl,?_⟩;grind[quiet]
        | read=>grind
        | alloc=>grind
        | chain=>grind[Cw]
        | no=>grind
      grind
    cases hc:cls o.op with
    | alloc =>
      rw[hc] at h;dsimp only at h
      cases U:opV P H (Cc ops tab fr0 res i) o with
      | val v H' =>
        rw[U] at h;dsimp only[a1i] at h;split at h
        · rename_i b hb;obtain⟨f,x,e1,e2,a4⟩:=a0r (B:=B) hc U;subst e1;subst e2;have a5:b=x:=by
            rcases X7 hb with⟨_,e⟩|⟨e,_⟩
            all_goals grind
          subst a5;obtain⟨A,h1,D,h3⟩:=L7 h;refine⟨A,_,held,_,h1,D,Ph.add _ _,λ_ h=>h,λ_ h=>e6o _ h,?_,λn hn hk=>hk.cons hn i b b,only ?_⟩
          · grind
          · exact⟨res,_,D,h3,.inr ⟨hw,.inr (.inr (.inr ⟨f,b,H.next,a4,rfl,by simp⟩))⟩⟩
        grind
      | _=>rw[U] at h;exact h.elim
    | read =>
      rw[hc] at h;dsimp only at h;unfold L6 at h;split at h
      · rename_i v U;obtain⟨A,h1,D,h3⟩:=L7 h;refine⟨A,H,i::held,als,h1,D,Yh _,λ_ h=>e6o _ h,λ_ h=>h,λ_ h=>.inl h,λ_ _ h=>h,only ?_⟩;exact⟨res,_,D,h3,.inr ⟨hw,.inr (.inr (.inl ⟨hc,by simp⟩))⟩⟩
      grind
    | free=>grind
    | gen=>grind
    | chain=>grind
    | no=>grind
  · obtain⟨A,h1,D,h3⟩:=L7 h;exact⟨A,H,held,als,h1,D,Yh _,λ_ h=>h,λ_ h=>h,λ_ h=>.inl h,λ_ _ h=>h,only ⟨res,_,D,h3,.inl ⟨hw,rfl⟩⟩⟩
theorem stageW_sound:∀(L:List Nat)(res:ResF)(H:Mem)(held:List Nat)(als:Als),(∀i∈L,∃o,ops[i]?=some o/\Cw o.op=false/\cls o.op≠.no) ->
  Nq P ops tab fr0 K L res H held als->∃Z H' a0 a1,K Z H' a0 a1/\a1j B P ops tab fr0 L res H held als Z H' a0 a1
 | [],res,H,held,als,_,h=>⟨res,H,held,als,h,Yy _,Yh _,λ_ h=>h,λ_ h=>h,λ_ h=>.inl h,λ_ _ h=>h,λ_ h=>by cases h⟩
 | i::L,res,H,held,als,hL,h=>by
  obtain⟨o,ho,D,A⟩:=hL i (by simp);obtain⟨r1,H1,a3,a4,h1,f1⟩:=c3l (B:=B) ho D A h;obtain⟨r2,H2,a5,a6,h2,f2⟩:=stageW_sound L r1 H1 a3 a4 (λi hi=>hL i (by grind)) h1;refine⟨r2,H2,a5,a6,h2,f1.gr.trans f2.gr,f1.ph.trans f2.ph,λi hi=>f2.keepH i (f1.keepH i hi),λx hx=>f2.keepA x (f1.keepA x hx),?_,?_,?_⟩
  .intro x hx;rcases f2.new x hx with h|h
   .exact f1.new x h
   .exact .inr (Xa f1.ph.le h)
  .intro n A D;exact f2.ok n (Xa A f1.ph.le) (f1.ok n A D)
  .intro j U o' a2;rcases Xb.1 U with rfl|U
   .exact(f1.known j (by simp) o' a2).mono f2.gr (λh=>f2.keepH _ h) λnm x h=>f2.keepA _ h
   .exact f2.known j U o' a2
noncomputable def a9u(P:Program)(W:WF)(ops:Array Oper)(tab:List Nat)(fr:Fr)(all:List Nat)(Q:Out->Prop)(k:Nat)(cs:List Nat)(res:ResF)(H:Mem)(held:List Nat)(als:Als):Prop:=
 match cs with
 | []=>Kk res (λfr=>Q (.norm fr H)) ops.toList 0 fr
 | c::cs=>Qu P W ops tab fr c res H (λres H=>O1 P W ops tab fr all Q (k+1) cs res H (Hl tab c held) (Gf tab c als)) Q
def T0(P:Program)(W:WF)(ops:Array Oper)(tab:List Nat)(fr:Fr)(all:List Nat)(Q:Out->Prop)(k:Nat)(cs:List Nat)(res:ResF)(H:Mem)(held:List Nat)(als:Als):Prop:=
 Ki P ops tab fr res H held/\Kj H als/\a9u P W ops tab fr all Q k cs res H held als
theorem T1{W:WF}{Q:Out->Prop}(h:List Nat)(k:Nat)(cs:List Nat)(res:ResF)(H:Mem)(held:List Nat)(als:Als):
  O1 P W ops tab fr0 h Q k cs res H held als=Nq P ops tab fr0 (λres H held als=>T0 P W ops tab fr0 h Q k cs res H held als) (E4 tab h k ops.toList 0) res H held als:=by
 cases cs<;>rfl
theorem a9v{res:ResF}{H:Mem}:∀{held:List Nat},Ki P ops tab fr0 res H held->∀i∈held,∃o v,ops[i]?=some o/\res i=some v/\quiet P H (Cc ops tab fr0 res i) o=some v
 | [],_,_,h=>by cases h
 | j::held,h,i,hi=>by
  rcases Xb.1 hi with rfl|hi
  .have A:=h.1;split at A
   .rename_i o D;obtain⟨v,U,Z⟩:=A;exact⟨o,v,D,U,Z⟩
   .exact A.elim
  .exact a9v h.2 i hi
theorem a9w{H:Mem}:∀{als:Als},Kj H als->∀i A x,(i,A,x)∈als->H.get A=some x
 | [],_,_,_,_,h=>by cases h
 | (j,a,b)::als,h,i,A,x,hx=>by
  rcases Xb.1 hx with e|hx
  .cases e;exact h.1
  .exact a9w h.2 i A x hx
end
section
variable {B G n n0:Nat}{P:Program}{ops:Array Oper}{fr0:Fr}{ρ0 ρ:Rn}{w0 w:World}{dn cs:List Nat}{res:ResF}{H:Mem}{held:List Nat}{als:Als}{listed:Array Bool}{a:Act}{Q:Out→Prop}{W:WF}
structure Jl (B G n n0:Nat) (P:Program) (ops:Array Oper) (fr0:Fr) (ρ0:Rn) (w0:World) (dn cs:List Nat) (res:ResF) (H:Mem) (held:List Nat) (als:Als) (listed:Array Bool) (ρ:Rn) (a:Act) (w:World):Prop where
 ext:Ext B n0 ρ0 w0 ρ w
 sim:Sim B G ρ H w
 le:n0<=H.next
 size:listed.size=ops.size
 tsz:n<=a.tmps.size
 dfr:DR ρ fr0.defers a.defers
 only:∀t v,fr0.get t=some v->t<n
 chain:chainOf ops.toList 0=dn++cs
 csN:∀c∈cs,¬Dn listed c
 down:∀i o,Dn listed i->ops[i]?=some o->∀e∈o.after.toList,Region.binds .any e=true->Dn listed e.on
 old:∀t,(∀j,G4 t ops.toList 0=some j->¬Dn listed j)->∀v,fr0.get t=some v->VR ρ v (a.tmps.getD t undef)
 new:∀j o,Dn listed j->ops[j]?=some o->∃v,res j=some v/\∀d,o.dst=some d->VR ρ v (a.tmps.getD d undef)
 known:∀i o,¬Dn listed i->ops[i]?=some o->Cw o.op=false->Et (ancs [] ops.toList) i (dn++cs)<=dn.length->L8 B P ops (ancs [] ops.toList) fr0 res held als i o
 aok:Eu n0 H als
 alsN:∀x∈als,¬Dn listed x.1->ρ x.2.1=none
theorem Rd.ancW{i j:Nat}{o:Oper}(r:Rd ops listed i o)(d:Jl B G n n0 P ops fr0 ρ0 w0 dn cs res H held als listed ρ a w)(h:A3 (ancs [] ops.toList) i j=true):Dn listed j:=
 Th (listed:=Dn listed) d.down i o j r.at' r.all h
theorem Rd.not_ancW{i j:Nat}{o:Oper}(r:Rd ops listed i o)(d:Jl B G n n0 P ops fr0 ρ0 w0 dn cs res H held als listed ρ a w)(Z:j<ops.size)(h:A3 (ancs [] ops.toList) j i=true):¬Dn listed j:=by
 intro U;obtain⟨A,D⟩:∃A,ops[j]?=some A:=⟨ops[j],by grind⟩;exact r.un (Th (listed:=Dn listed) d.down j A i D (d.down j A U D) h)
theorem a1k{i:Nat}{o:Oper}{A:ResF}(d:Jl B G n n0 P ops fr0 ρ0 w0 dn cs res H held als listed ρ a w)(r:Rd ops listed i o)(hg:GrF A res):
  EvR ρ (Cc ops (ancs [] ops.toList) fr0 A i) a.eval:=by
 intro x v hx
 cases x with
 | tmp t =>
  have h:G6 ops (ancs [] ops.toList) fr0 A i t=some v:=hx;unfold G6 at h;split at h
  .rename_i D;exact d.old t (λj hj=>by grind) v h
  .rename_i j D;obtain⟨_,oj,a3,a2⟩:=Lu D;have a0:ops[j]?=some oj:=Co.1 (by grind);split at h
   .rename_i U;obtain⟨y,hy,hv⟩:=d.new j oj (r.ancW d U) a0;have:=hg _ _ h;rw[this] at hy;cases hy;exact hv t a2
   .split at h
    .rename_i U;refine d.old t (λj' a1=>?_) v h;rw[D] at a1;cases a1;rcases e8t _ _ ▸ U with Z|Z
     .exact r.not_ancW d (Fm a0) Z
     .have:=Xe Z;subst this;exact r.un
    grind
 | const c=>cases hx;rfl
 | global g=>cases hx;rfl
 | func f=>cases hx;rfl
theorem a9x{i:Nat}{o:Oper}{Z:ResF}{b:Bool}(a4:fit ops.toList ops.toList 0=true)(a5:∀(j:Nat)(o:Oper),ops[j]?=some o->Cn n o=true)
  (d:Jl B G n n0 P ops fr0 ρ0 w0 dn cs res H held als listed ρ a w) (r:Rd ops listed i o) (hg:GrF Z res) (h:Nn (ancs [] ops.toList) Z i o=some b) :
  Region.wanted o (yielded ops a.tmps)=b:=by
 unfold Nn at h;split at h
 .grind[Region.wanted]
 .rename_i g a1;obtain⟨j,a6⟩:=g;have a0:=Lw a4 i o (Co.2 r.at');unfold Kc at a0;simp only[W1] at a0;have U:=a0.2;rw[a1] at U;dsimp only at U;split at U
  .rename_i oj a7;have a2:ops[j]?=some oj:=Co.1 a7;obtain⟨t,ht⟩:=Option.isSome_iff_exists.1 U;have a3:∀{v:AV},A3 (ancs [] ops.toList) i j=true->Z j=some v->∃u,a.tmps[t]?=some u/\VR ρ v u:=by
    intro v A D;obtain⟨y,hy,b0⟩:=d.new j oj (r.ancW d A) a2;rw[hg _ _ D] at hy;cases hy;have a8:t<n:=Fl (a5 j oj a2) t ht;have b1:t<a.tmps.size:=Xm a8 d.tsz;simp_all
   unfold a1h at h;split at h
   .rename_i b' A hb;obtain⟨u,hu,D⟩:=a3 A hb;cases D;have a9:yielded ops a.tmps j=some b':=by grind[yielded]
    simp only[Region.wanted,a1,a9];revert h;cases b'<;>cases a6<;>simp<;>exact λh=>h ▸ rfl
   .rename_i vs A hb;obtain⟨u,hu,D⟩:=a3 A hb;cases D;grind[yielded,Region.wanted]
   grind
  grind
theorem Jl.go{i:Nat}{o:Oper}{ρ': Rn}{w': World}{u:Value}{v:AV}{a0 a1:List Nat}{a2:ResF}{H': Mem}{a7:List Nat}{a3:Als}
  (a4:fit ops.toList ops.toList 0=true) (a8:∀(j:Nat)(o:Oper),ops[j]?=some o->Cn n o=true)
  (d:Jl B G n n0 P ops fr0 ρ0 w0 dn cs res H held als listed ρ a w) (r:Rd ops listed i o)
  (a9:Ext B n0 ρ w ρ' w') (a5:Sub ρ ρ') (hs:Sim B G ρ' H' w') (b0:n0<=H'.next) (b1:GrF res a2) (hv:a2 i=some v) (hr:VR ρ' v u)
  (b2:chainOf ops.toList 0=a0++a1) (b3:∀c∈a1,c≠i/\c∈cs)
  (b5:∀j D,j≠i->¬Dn listed j->ops[j]?=some D->Cw D.op=false->Et (ancs [] ops.toList) j (a0++a1)<=a0.length->L8 B P ops (ancs [] ops.toList) fr0 a2 a7 a3 j D)
  (b4:Eu n0 H' a3) (b6:∀x∈a3,x.1≠i->¬Dn listed x.1->ρ' x.2.1=none) :
  Jl B G n n0 P ops fr0 ρ0 w0 a0 a1 a2 H' a7 a3 (listed.setIfInBounds i true) ρ' (a.put o.dst u) w':=by
 have hi:i<listed.size:=by rw[d.size];exact Fm r.at'
 have U:∀j,Dn (listed.setIfInBounds i true) j↔j=i\/Dn listed j:=λj=>Yi hi;refine⟨d.ext.trans a9 (Wy _),hs,b0,by simp[d.size],by rw[a8w];exact d.tsz,by rw[O0];exact d.dfr.mono a5,d.only,b2,?_,?_,?_,?_,?_,b4,?_⟩
 .intro c hc hd;rcases (U c).1 hd with e|h
  .grind
  .exact d.csN c (b3 c hc).2 h
 .intro j D hj A e he hb;rcases (U j).1 hj with e1|h
  .subst e1;rw[r.at'] at A;cases A;exact(U _).2 (.inr (r.all e he hb))
  .exact(U _).2 (.inr (d.down j D h A e he hb))
 .intro t Z y hy;have a6:o.dst≠some t:=λe=>Z i (Oz a4 r.at' e) ((U i).2 (.inl rfl));rw[Tn a6];exact(d.old t (λj hj hd=>Z j hj ((U j).2 (.inr hd))) y hy).mono a5
 .intro j D hj A;by_cases e:j=i
  .subst e;rw[r.at'] at A;cases A;refine⟨v,hv,λt Z=>?_⟩;have b7:t<a.tmps.size:=Xm (Fl (a8 j _ r.at') t Z) d.tsz;grind[a8v]
  .rcases (U j).1 hj with e1|h
   .grind
   .obtain⟨y,h1,h2⟩:=d.new j D h A;refine⟨y,b1 _ _ h1,λt Z=>?_⟩;have a6:o.dst≠some t:=by
     intro e1;have h3:=Oz a4 r.at' e1;rw[Oz a4 A Z] at h3;grind
    rw[Tn a6];exact(h2 t Z).mono a5
 all_goals grind
structure Qv (B G n n0:Nat) (P:Program) (W:WF) (ops:Array Oper) (fr0:Fr) (ρ0:Rn) (w0:World) (Q:Out->Prop) (listed:Array Bool) (a:Act) (w:World):Prop where
 go:∃dn cs res H held als ρ,Jl B G n n0 P ops fr0 ρ0 w0 dn cs res H held als listed ρ a w/\(∀c∈dn,Dn listed c)/\(∀x∈als,G<=x.2.1) /\
  T0 P W ops (ancs [] ops.toList) fr0 (dn++cs) Q dn.length cs res H held als
theorem c3m{i:Nat}{o:Oper}(hG:G=P.globals.size)(a0:fit ops.toList ops.toList 0=true)(a7:∀(j:Nat)(o:Oper),ops[j]?=some o->Cn n o=true)
  (a8:∀x∈als,G<=x.2.1) (d:Jl B G n n0 P ops fr0 ρ0 w0 dn cs res H held als listed ρ a w) (b1:∀c∈dn,Dn listed c)
  (hg:T0 P W ops (ancs [] ops.toList) fr0 (dn++cs) Q dn.length cs res H held als) (r:Rd ops listed i o) (hc:Cw o.op=false)
  {K:Act->World->Prop} (hK:∀a' h,Qv B G n n0 P W ops fr0 ρ0 w0 Q (listed.setIfInBounds i true) a' h->K a' h) :
  wpOp P ops (E7 B G n n0 ρ0 w0 Q) i K a w:=by
 have b2:=hg;obtain⟨b3,b4,_⟩:=hg;have b5:Et (ancs [] ops.toList) i (dn++cs)<=dn.length:=by
  refine a0s λc a1=>?_
  cases U:A3 (ancs [] ops.toList) i c with
  | false=>rfl
  | true=>exact absurd (r.ancW d U) (d.csN c a1)
 obtain⟨r0,v,a9,hv,hk⟩:=d.known i o r.un r.at' hc b5;have b6:=Lz a0 r.at';have b7:∀c∈cs,c≠i/\c∈cs:=by
  intro c a1;refine⟨?_,a1⟩;rintro rfl;have D:c∈chainOf ops.toList 0:=by rw[d.chain];grind
  obtain⟨_,o',a2,e6⟩:=mem_chainOf.1 D;have A:ops[c]?=some o':=Co.1 (by grind);rw[r.at'] at A;grind
 have a3:∀(ρ' : Rn)(u:Value)(h:World),Ext B n0 ρ w ρ' h->Sub ρ ρ'->Sim B G ρ' H h->VR ρ' v u->(∀x∈als,x.1≠i->¬Dn listed x.1->ρ' x.2.1=none)->K (a.put o.dst u) h:=by
  intro ρ' u h he b8 hs a4 b9;refine hK _ _ ⟨dn,cs,res,H,held,als,ρ',?_,λc c0=>(Yi (by rw[d.size];exact Fm r.at')).2 (.inr (b1 c c0)),a8,b2⟩;exact d.go a0 a7 r he b8 hs d.le (Yy _) hv a4 d.chain b7 (λj oj _ hj c1 c2 hn=>d.known j oj hj c1 c2 hn) d.aok b9
 have a5:=a1k d r a9;have base:=λb U=>a9x (b:=b) a0 a7 d r a9 U;unfold wpOp;rw[r.at'];dsimp only;rcases hk with⟨hw,rfl⟩|⟨hw,hk⟩
 .rw[if_neg (by grind)];exact a3 ρ undef w (Ya _ _ _ _) (Yu _) d.sim rfl (λx hx _ hd=>d.alsN x hx hd)
 .rw[if_pos (base _ hw)];left;have val:RS B G P ρ H w (.val v H) (execOp a.eval o)->o.wp P a w K (E7 B G n n0 ρ0 w0 Q):=by
   rintro⟨ρ',u,h,h1,A,h3,h4,_⟩;unfold Oper.wp;rw[h1];refine a3 ρ' u h ⟨λx hx=>A.same x (Xm hx d.le),A.keeps,A.below⟩ (A.sub d.sim) h3 h4 λx hx _ hd=>?_;rw[A.same _ (d.aok.hi x hx)];exact d.alsN x hx hd
  rcases hk with⟨_,e7⟩|⟨_,c6⟩|⟨e8,hh⟩|⟨f,x,Z,c7,rfl,D⟩
  .have:=Ij (o:=o) d.sim a5 hG;grind
  .have:=Ni (B:=B) (G:=G) (P:=P) (H:=H) d.sim a5 (a8x b6);rw[c6] at this;exact val this
  .obtain⟨o',v',a2,b0,hq⟩:=a9v b3 i hh;rw[r.at'] at a2;cases a2;rw[hv] at b0;cases b0;have c8:=a1k d r (Yy res);have:=Ij (o:=o) d.sim c8 hG;grind[a8y]
  .have a6:=d.alsN _ D r.un;have c9:=a9w b4 i Z x D;obtain⟨ob,k,u,h,h1,A,h3,h4,h5,e9,h6⟩:=c7 ρ w a.eval a5 d.sim.base;obtain⟨U,a4⟩:=h6 Z a6;have e0:n0<=Z:=d.aok.lo _ D;have e1:Z<H.next:=d.aok.hi _ D;unfold Oper.wp;rw[h1];refine a3 _ u h ?_ (Je a6) (d.sim.named c9 a6 e1 (a8 _ D) A U) a4 λy hy g0 e5=>?_
   .exact⟨λy hy=>Dj _ _ (Nat.ne_of_lt (Xm hy e0)),KD.push A,(Ym ρ n0 (w.heap.size,0,k) w h ob A h3 h4 h5 d.sim.base).below⟩
   .have:y.2.1≠Z:=by
     intro e;have:=d.aok.own y hy _ D e;grind
    rw[Dj _ _ this];exact d.alsN y hy e5
theorem c3n(hW:WOK G P W){i:Nat}{o:Oper}(hG:G=P.globals.size)(e7:Ii (ancs [] ops.toList) (chainOf ops.toList 0)=true)(a4:fit ops.toList ops.toList 0=true)
  (a5:∀(j:Nat)(o:Oper),ops[j]?=some o->Cn n o=true)
  (e8:∀x∈als,G<=x.2.1) (d:Jl B G n n0 P ops fr0 ρ0 w0 dn cs res H held als listed ρ a w) (b6:∀c∈dn,Dn listed c)
  (hg:T0 P W ops (ancs [] ops.toList) fr0 (dn++cs) Q dn.length cs res H held als) (r:Rd ops listed i o) (hc:Cw o.op=true)
  {K:Act->World->Prop} (hK:∀a' D,Qv B G n n0 P W ops fr0 ρ0 w0 Q (listed.setIfInBounds i true) a' D->K a' D) :
  wpOp P ops (E7 B G n n0 ρ0 w0 Q) i K a w:=by
 obtain⟨e9,g5,hn⟩:=hg;have b7:i∈dn++cs:=by
  rw[<- d.chain];exact mem_chainOf.2 ⟨W3 _,o,by simpa using r.at',hc⟩
 rcases W9.1 b7 with h|b8
 .exact absurd (b6 i h) r.un
 cases cs with
 | nil=>grind
 | cons c cs =>
 have b9:i=c:=by
  rcases Xb.1 b8 with h|h
  .exact h
  .obtain⟨p,hp,ha⟩:=Qr (dn:=dn) (c:=c) (cs:=cs) (by rw[<- d.chain];omega) i h;exact absurd (r.ancW d ha) (d.csN p hp)
 subst b9;have hi:i<listed.size:=by rw[d.size];exact Fm r.at'
 have a6:(dn++i::cs)=(dn++[i])++cs:=by simp
 have c0:∀c∈cs,c≠i/\c∈i::cs:=by
  intro c a7;refine⟨?_,e6o _ a7⟩;rintro rfl;obtain⟨p,hp,ha⟩:=Qr (dn:=dn) (c:=c) (cs:=cs) (by rw[<- d.chain];omega) c a7;exact absurd (r.ancW d ha) (d.csN p hp)
 have a2:∀(v:AV)(H' : Mem)(ρ' : Rn)(u:Value)(D:World) (U:ResF),GrF res U->U i=some v->Ext B H.next ρ w ρ' D->Sim B G ρ' H' D->VR ρ' v u->H.next<=H'.next ->
   O1 P W ops (ancs [] ops.toList) fr0 (dn++i::cs) Q (dn.length+1) cs U H' (Hl (ancs [] ops.toList) i held) (Gf (ancs [] ops.toList) i als)->K (a.put o.dst u) D:=by
  intro v H' ρ' u D U a8 hv he hs c1 a3 a9;rw[T1] at a9;obtain⟨c2,H2,c6,c7,h1,f⟩:=stageW_sound (B:=B) (E4 (ancs [] ops.toList) (dn++i::cs) (dn.length+1) ops.toList 0) U H' _ _ (by
   grind[Il,Lz]) a9
  have c8:(dn++[i]).length=dn.length+1:=by simp
  refine hK _ _ ⟨dn++[i],cs,c2,H2,c6,c7,ρ',?_,?_,?_,?_⟩
  .refine d.go a4 a5 r ⟨λx hx=>he.same x (Xm hx d.le),he.keeps,he.below⟩ (he.sub d.sim) (f.ph.sim hs) (Xa d.le (Xa a3 f.ph.le)) (a8.trans f.gr) (f.gr _ _ hv) c1
    (by rw[d.chain,a6]) c0 ?_ ?_ ?_
   .intro j oj g6 b0 b1 b2 c9;rw[c8,<- a6] at c9;rcases e6z (Et (ancs [] ops.toList) j (dn++i::cs)) (dn.length+1) with h|h
    .have b3:A3 (ancs [] ops.toList) i j=false:=by
      cases hb:A3 (ancs [] ops.toList) i j with
      | false=>rfl
      | true=>exact absurd (r.ancW d hb) b0
     exact(d.known j oj b0 b1 b2 (by omega)).mono (a8.trans f.gr) (λh=>f.keepH _ (Tk b3 h)) λnm x h=>f.keepA _ (Tl b3 h)
    .exact f.known j (Il.2 ⟨W3 _,oj,by grind,b2,by omega⟩) oj b1
   .exact f.ok n0 (Xa d.le a3) (d.aok.sub (λx hx=>Ly x hx) a3)
   .intro x hx g7 e0;rcases f.new x hx with h|h
    .have b4:=Ly x h;rw[he.same _ (d.aok.hi x b4)];exact d.alsN x b4 e0
    .exact hs.fresh _ h
  .grind[Dn.set]
  .intro x hx;rcases f.new x hx with h|h
   .grind[Ly]
   .exact Xa hs.names h
  grind
 have e1:=a1k d r (Yy res);have base:=λb hb=>a9x (b:=b) a4 a5 d r (Yy res) hb;unfold wpOp;rw[r.at'];dsimp only;unfold a9u Qu at hn;dsimp only at hn;rw[r.at'] at hn;dsimp only at hn;rcases a9t hn with⟨hw,A⟩|⟨hw,A⟩
 .rw[if_pos (base _ hw)];left;have a0:=Ij (o:=o) d.sim e1 hG;unfold Oper.wp
  cases hr:opV P H (Cc ops (ancs [] ops.toList) fr0 res i) o with
  | val v H' =>
   rw[hr] at a0 A;obtain⟨ρ',u,D,h1,h2,h3,h4,h5⟩:=a0;rw[h1];simp only[Tw] at A;obtain⟨U,g1,Z,g3⟩:=L7 A;exact a2 v H' ρ' u D U Z g3 h2 h3 h4 h5 g1
  | skip H' =>
   rw[hr] at a0 A;obtain⟨ρ',D,h1,h2,h3,h5⟩:=a0;rw[h1];simp only[Tw] at A;obtain⟨U,g1,Z,g3⟩:=L7 A;exact a2 _ H' ρ' undef D U Z g3 h2 h3 rfl h5 g1
  | enter f args H' =>
   rw[hr] at a0 A;obtain⟨us,h1,h2,rfl⟩:=a0;rw[h1];have e5:=hW _ _ _ _ (show W f args H' _ from A);refine(e5 B ρ us w d.sim h2).mono λe D ⟨r',b5,a1⟩=>?_
   cases r' with
   | bad=>grind
   | ret v H2 =>
    obtain⟨U,g1,Z,g3⟩:=L7 b5
    cases e with
    | returned u =>
     obtain⟨ρ',k1,k2,k3,k4⟩:=a1;grind
    | panicked e6=>exact a1.elim
    | outgrown=>exact a1.elim
   | panic v H2 =>
    cases e with
    | returned u=>exact a1.elim
    | panicked e6 =>
     obtain⟨ρ',u,g0,g1,Z,g3,g4⟩:=a1;refine⟨_,b5,ρ',u,g0,g1,?_,g3,?_,Xa d.le g4⟩
     .exact d.ext.trans ⟨λx hx=>Z.same x (Xm hx d.le),Z.keeps,Z.below⟩ (Wy _)
     .exact⟨(λt v hv _=>(by grind[Fr.get_clear])),(by rw[Zc];exact d.dfr.mono (Z.sub d.sim)),d.tsz,(λt v hv=>(by grind[Fr.get_clear]))⟩
    | outgrown=>exact a1.elim
  | dfr fn g8 args H'=>rw[hr] at A;exact A.elim
  | recover=>rw[hr] at A;exact A.elim
  | panic v H'=>rw[hr] at A;exact A.elim
  | bad=>rw[hr] at A;exact A.elim
 .rw[if_neg (by grind)];obtain⟨U,h1,h2,h3⟩:=L7 A;exact a2 _ H ρ undef w U h2 h3 (Ya _ _ _ _) d.sim rfl (Wy _) h1
theorem a9y{res:ResF}{K:Fr->Prop}:∀(l:List Oper)(i:Nat)(fr:Fr),Kk res K l i fr ->
  ∃A,K A/\A.defers=fr.defers/\∀t v,A.get t=some v->(∃j o,l[j]?=some o/\o.dst=some t/\res (i+j)=some v)\/((∀o∈l,o.dst≠some t)/\fr.get t=some v)
 | [],i,fr,h=>⟨fr,h,rfl,λt v U=>.inr ⟨(λ_ h=>(by cases h)),U⟩⟩
 | o::l,i,fr,h=>by
  unfold Kk at h;split at h
  .rename_i v U;obtain⟨A,h1,h2,h3⟩:=a9y l (i+1) _ h;refine⟨A,h1,?_,?_⟩
   .rw[h2];unfold Fr.put;grind[Fr.defers_upd]
   .intro t y hy;rcases h3 t y hy with⟨j,oj,hj,hd,hr⟩|⟨hd,D⟩
    .exact .inl ⟨j+1,oj,by grind,hd,by grind⟩
    .cases Z:o.dst with
     | none =>
      rw[Z] at D;exact .inr ⟨λo' a1=>by grind,D⟩
     | some d =>
      rw[Z] at D;have a0:(fr.upd d v).get t=some y:=D;rcases Yl a0 with⟨rfl,rfl⟩|⟨a2,a0⟩
      .exact .inl ⟨0,o,rfl,Z,U⟩
      grind
  grind
theorem a9z(a2:fit ops.toList ops.toList 0=true)(hr:Region.ready .any ops listed=[])(g:Qv B G n n0 P W ops fr0 ρ0 w0 Q listed a w)
  (a3:∀(j:Nat)(o:Oper),ops[j]?=some o->Cn n o=true):E7 B G n n0 ρ0 w0 Q .normal a w:=by
 obtain⟨dn,cs,res,H,held,als,ρ,d,a7,a8,hg⟩:=g.go;have Z:=a9a a2 d.size hr;obtain⟨_,_,hn⟩:=hg
 cases cs with
 | cons c cs =>
  exfalso;refine d.csN c (by simp) (Z c ?_);have a9:c∈chainOf ops.toList 0:=by rw[d.chain];simp
  grind[mem_chainOf]
 | nil =>
  have a4:Kk res (λfr=>Q (.norm fr H)) ops.toList 0 fr0:=hn;obtain⟨a5,h1,h2,h3⟩:=a9y ops.toList 0 fr0 a4;have key:∀t v,a5.get t=some v->t<n/\VR ρ v (a.tmps.getD t undef):=by
   intro t v h;rcases h3 t v h with⟨j,o,A,D,a0⟩|⟨D,a1⟩
   .have U:ops[j]?=some o:=Co.1 A;rw[e6u] at a0;obtain⟨y,hy,a6⟩:=d.new j o (Z j (Fm U)) U;rw[a0] at hy;cases hy;exact⟨Fl (a3 j o U) t D,a6 t D⟩
   .refine⟨d.only t v a1,d.old t (λj A=>?_) v a1⟩;obtain⟨_,o,ho,b0⟩:=Lu A;grind
  exact⟨_,h1,ρ,d.ext,d.sim,⟨λt v h _=>(key t v h).2,by rw[h2];exact d.dfr,d.tsz,λt v h=>(key t v h).1⟩,d.le⟩
theorem c3o(hW:WOK G P W)(hG:G=P.globals.size)(a4:Ii (ancs [] ops.toList) (chainOf ops.toList 0)=true)(a0:fit ops.toList ops.toList 0=true)
  (a1:∀(j:Nat)(o:Oper),ops[j]?=some o->Cn n o=true):∀(A:Nat)(listed:Array Bool)(a:Act)(w:World),
  (∃l:List Nat,l.Nodup/\l.length=A/\∀i,i<ops.size->Dn listed i\/i∈l)->Qv B G n n0 P W ops fr0 ρ0 w0 Q listed a w ->
  wpAny P .any ops (E7 B G n n0 ρ0 w0 Q) A listed a w:=by
 intro A
 induction A with
 | zero =>
  rintro listed a w ⟨l,_,hl,hc⟩ g;have a2:l=[]:=e6j.1 hl;subst a2;have U:Region.ready .any ops listed=[]:=by
   cases hx:Region.ready .any ops listed with
   | nil=>rfl
   | cons i is =>
    exfalso;obtain⟨o,D⟩:=Tm (ops:=ops) (listed:=listed) (i:=i) (by grind);rcases hc i (Fm D.at') with h|h
    .exact D.un h
    grind
  exact⟨U,a9z a0 U g a1⟩
 | succ A ih =>
  rintro listed a w ⟨l,a3,hl,hc⟩ g;refine⟨λU=>a9z a0 U g a1,λi hi=>?_⟩;obtain⟨o,D⟩:=Tm hi;obtain⟨dn,cs,res,H,held,als,ρ,d,a5,a6,hg⟩:=g.go;have a7:i∈l:=(hc i (Fm D.at')).resolve_left D.un;have a8:i<listed.size:=by rw[d.size];exact Fm D.at'
  have hK:∀Z w',Qv B G n n0 P W ops fr0 ρ0 w0 Q (listed.setIfInBounds i true) Z w'->wpAny P .any ops (E7 B G n n0 ρ0 w0 Q) A (listed.setIfInBounds i true) Z w':=by
   intro Z w' g';refine ih _ Z w' ⟨l.erase i,a3.erase i,by grind,λj hj=>?_⟩ g';grind[Dn.set]
  grind[c3n,c3m,Cw]
theorem a1l(hW:WOK G P W){id:Nat}(hG:G=P.globals.size)(s:St B G n n0 ρ0 w0 ρ fr0 H a w)(hd:Az n (.region id ops true)=true)
  (h:Tx P W ops fr0 H Q) (t:Nat):wpOps P ops (E7 B G n n0 ρ0 w0 Q) (Region.schedule (P.follows .mixedOrders) ops t) a { w with drawn:=w.drawn+1 }:=by
 obtain⟨A,a0,Z⟩:=h;unfold On at A;simp only[W1] at A;obtain⟨⟨_,a1⟩,a2⟩:=A;have a3:∀(j:Nat)(o:Oper),ops[j]?=some o->Cn n o=true:=λj o hj=>W7.1 hd o (e6e (Co.2 hj));simp only[Region.schedule,a0,e8o,if_true];refine wpAny_sound ops.size t _ a _ ?_;have D:∀i,¬Dn (Array.replicate ops.size false) i:=by
  (simp_all[Dn];grind)
 refine c3o (fr0:=fr0) (ρ0:=ρ0) (w0:=w0) hW hG a1 a2 a3 ops.size _ a _ ⟨List.range ops.size,List.nodup_range,by simp,λi hi=>.inr (by grind)⟩ ?_;rw[T1] at Z;obtain⟨a4,H2,a5,a6,h1,f⟩:=stageW_sound (B:=B) (E4 (ancs [] ops.toList) (chainOf ops.toList 0) 0 ops.toList 0) (λ_=>none) H [] [] (by
  grind[Il,Lz]) Z
 have U:Sim B G ρ H { w with drawn:=w.drawn+1 }:=s.sim.heap rfl;have hb:Below B w { w with drawn:=w.drawn+1 }:=⟨rfl,rfl,rfl,Wy _,λ_ _=>rfl⟩;refine⟨[],chainOf ops.toList 0,a4,H2,a5,a6,ρ,?_,(λ_ h=>(by cases h)),?_,h1⟩
 .refine⟨s.ext.trans ⟨λ_ _=>rfl,KD.heap rfl,hb⟩ (Wy _),f.ph.sim U,Xa s.le f.ph.le,by simp,s.frel.size,s.frel.dfr,s.frel.only,rfl,λc _=>D c,λi _ h=>absurd h (D i),
   λt _ v hv=>s.frel.slot t v hv (s.frel.only t v hv),λj _ h=>absurd h (D j),?_,f.ok n0 s.le (Eu.nil _ _),?_⟩
  .intro i o _ ho hc a7;exact f.known i (Il.2 ⟨W3 _,o,by grind,hc,by grind⟩) o ho
  .intro x hx _;rcases f.new x hx with h|h
   .cases h
   .exact U.fresh _ h
 .intro x hx;rcases f.new x hx with h|h
  .cases h
  .exact Xa U.names h
theorem b0a(A:WOK G P W){id:Nat}(hG:G=P.globals.size)(s:St B G n n0 ρ0 w0 ρ fr0 H a w)(D:Az n (.region id ops true)=true)
  (h:Tx P W ops fr0 H Q):(Code.region id ops true).wp P (E7 B G n n0 ρ0 w0 Q) a w:=by grind[id,a1l,wp_region_draw]
end
end Go.Ai
