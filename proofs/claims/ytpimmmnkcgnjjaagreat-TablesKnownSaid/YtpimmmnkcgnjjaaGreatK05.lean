/- Parts of an interpreter and of a proof. No condition. -/
import Derived.Test.YtpimmmnkcgnjjaaGreatK04
set_option linter.all false
set_option maxRecDepth 10000
open Go.RowKit (Below)
namespace Go.Ai
class Spl (P:Prop) (A B:outParam Prop):Prop where
 of:A→B→P
instance {p x y:Prop}:Spl (Q0 p x y) (p→x) (¬p→y):=⟨Ab⟩
instance {b:Bool} {x y:Prop}:Spl (Ew b x y) (b=true→x) (b=false→y):=⟨Ac⟩
theorem spl {P A B:Prop} [h:Spl P A B] (a:A) (b:B):P:=h.of a b
section
variable {P:Program}{W:WF}{ops:Array Oper}{g:Nat→Option AV}{ds:List Dfr}{Q:Out→Prop}{S:Nat}{res:ResF}{H:Mem}{held:List Nat}{als:Als}{alsP:AlP}{i:Nat}{o:Oper}{s:Hs}{K:Hs→List It}
theorem a2s{f:List Nat}{fr:Fr}:∀{held:List Nat},(∀i∈held,∃o v,ops[i]?=some o/\res i=some v/\quiet P H (Bw ops f fr res i) o=some v)->Kg P ops f fr res H held
 | [],_=>trivial
 | i::l,h=>by
  obtain⟨o,v,A,D,U⟩:=h i (by simp);refine⟨?_,a2s λj Z=>h j (by simp[Z])⟩;rw[A];exact⟨v,D,U⟩
theorem stays_of:∀{als:Als},(∀x∈als,H.get x.2.1=some x.2.2)->Kh H als
 | [],_=>trivial
 | (a,b,c)::l,h=>⟨h (a,b,c) (by simp),stays_of λy hy=>h y (by grind)⟩
theorem a2t{f:List Nat}{c i:Nat}:∀{held:List Nat},i∈Hc f c held->i∈held/\A1 f c i=false
 | [],h=>by cases h
 | j::held,h=>by
  unfold Hc at h;split at h
  .obtain⟨a,b⟩:=a2t h;exact⟨by simp[a],b⟩
  .rename_i hb;rcases Xb.1 h with rfl|h
   .exact⟨by simp,hb⟩
   .obtain⟨a,b⟩:=a2t h;exact⟨by simp[a],b⟩
theorem a2u{f:List Nat}{c:Nat}:∀{als:Als}{x:Nat×Nat×Blk},x∈Gi f c als->x∈als/\A1 f c x.1=false
 | [],_,h=>by cases h
 | y::als,x,h=>by
  unfold Gi at h;split at h
  .obtain⟨a,b⟩:=a2u h;exact⟨by simp[a],b⟩
  .rename_i hb;rcases Xb.1 h with rfl|h
   .exact⟨by simp,hb⟩
   .obtain⟨a,b⟩:=a2u h;exact⟨by simp[a],b⟩
theorem b0y{fr:Fr}:∀{hs:List Nat},Hm P W ops fr H hs->∀i∈hs,∃o,ops[i]?=some o/\C6 P W ops o fr H (λA _=>D2 A o.dst=D2 fr o.dst) (λ_=>False)
 | j::hs,h,i,hi=>by
  rcases Xb.1 hi with rfl|hi
  .have f:=h.1;split at f
   .rename_i o D;exact⟨o,D,f⟩
   .exact f.elim
  .exact b0y h.2 i hi
theorem b0z{as:List Nat}:∀{l:AlP},Km H as l->∀x∈l,x.1∈as->H.get x.2.1=x.2.2
 | (i,a,b)::l,h,x,hx,f=>by
  rcases Xb.1 hx with rfl|hx
  .exact h.1 f
  .exact b0z h.2 x hx f
theorem d1h(a2:fit ops.toList ops.toList 0=true)(a6:Kl P (ancs [] ops.toList) ops.toList ops.toList 0=true)(hp:PI ops S res)(hi:S.testBit i=true)(hr:Ran ops res i)
  (U:a2l (ancs [] ops.toList) ops.toList i=true) (A:ops[i]?=some o) (h:C6 P W ops o (.f (Gs ops g S res) ds) H (λa0 _=>D2 a0 o.dst=D2 (.f (Gs ops g S res) ds) o.dst) (λ_=>False)) :
  Rq P ops g ds H res i:=by
 obtain⟨o',a3,b1,hg⟩:=hr;rw[A] at a3;cases a3;have Z:=Uo a6 i o (B7.2 A);rw[e6s] at Z;unfold Ra at Z;simp only[W0] at Z;obtain⟨⟨_,a4⟩,a7⟩:=Z;unfold a2l at U;rw[B7.2 A] at U;simp only[W0] at U;obtain⟨a8,a9⟩:=U;obtain⟨d,hd⟩:=Option.isSome_iff_exists.1 a8;have a5:cls o.op≠.no:=by grind
 have key:Fv W o (.f (Gs ops g S res) ds) (λa0 _=>D2 a0 o.dst=D2 (.f (Gs ops g S res) ds) o.dst) (λ_=>False) (opV P H (Fr.f (Gs ops g S res) ds).ev o)->Rq P ops g ds H res i:=by
  intro h;rw[Um (P:=P) (H:=H) (a2m a5) (d1f (g:=g) (ds:=ds) hp hi a9)] at h;rcases b0v (P:=P) (H:=H) (ev:=Bw ops (ancs [] ops.toList) (.f g ds) res i) (o:=o) (by grind) a5 (by grind) a7 with hb|⟨v,hv,hq⟩
  .rw[hb] at h;exact h.elim
  .rw[hv] at h;have h' : D2 ((Fr.f (Gs ops g S res) ds).put o.dst v) o.dst=D2 (.f (Gs ops g S res) ds) o.dst:=h;rw[hd] at h';have D:some v=Gs ops g S res d:=by
    rw[show D2 ((Fr.f (Gs ops g S res) ds).put (some d) v) (some d)=some v from if_pos rfl] at h';exact h'
   unfold Gs at D;rw[a2o a2 A hd] at D;dsimp only at D;rw[hi] at D;exact⟨o,v,A,D.symm,hq⟩
 unfold C6 at h;split at h
 .grind
 .rename_i gd a1;rw[a1] at a4;have b0:A1 (ancs [] ops.toList) i gd.1=true:=a4;rw[a2q a2 A a1 (hp.down _ _ hi b0),hg gd a1] at h;exact key (h.1 rfl)
theorem b1a(U:fit ops.toList ops.toList 0=true)(Z:Kl P (ancs [] ops.toList) ops.toList ops.toList 0=true)(h:PS P ops g ds s S res H held als alsP)
  (D:D1 (ancs [] ops.toList) ops.toList S (Q8 s K)=true) (hp:Bm P W ops Q (Q8 s K) (.f (Gs ops g S res) ds) H alsP) :
  Kg P ops (ancs [] ops.toList) (.f g ds) res H held/\Kh H als/\∃A,A.di=[]/\A.adi=[]/\PS P ops g ds A S res H held als alsP /\
   D1 (ancs [] ops.toList) ops.toList S (K A)=true/\Bm P W ops Q (K A) (.f (Gs ops g S res) ds) H alsP:=by
 have done:s.di=[]->s.adi=[]->D1 (ancs [] ops.toList) ops.toList S (K s)=true->Bm P W ops Q (K s) (.f (Gs ops g S res) ds) H alsP->Kg P ops (ancs [] ops.toList) (.f g ds) res H held/\Kh H als/\∃A,A.di=[]/\A.adi=[]/\PS P ops g ds A S res H held als alsP /\
   D1 (ancs [] ops.toList) ops.toList S (K A)=true/\Bm P W ops Q (K A) (.f (Gs ops g S res) ds) H alsP:=by
  intro e1 e2 D hp;refine⟨a2s λi hi=>?_,stays_of λx hx=>?_,s,e1,e2,h,D,hp⟩
  .obtain⟨_,_,c⟩:=h.hd i hi;rcases c with c|⟨_,c⟩
   .grind
   .exact c
  .obtain⟨_,c⟩:=h.al x hx;grind
 have go:D1 (ancs [] ops.toList) ops.toList S (.gate s.di s.adi::K ⟨s.di++s.cl,[],s.adi++s.acl,[]⟩)=true ->
   Bm P W ops Q (.gate s.di s.adi::K ⟨s.di++s.cl,[],s.adi++s.acl,[]⟩) (.f (Gs ops g S res) ds) H alsP->Kg P ops (ancs [] ops.toList) (.f g ds) res H held/\Kh H als/\∃A,A.di=[]/\A.adi=[]/\PS P ops g ds A S res H held als alsP /\
   D1 (ancs [] ops.toList) ops.toList S (K A)=true/\Bm P W ops Q (K A) (.f (Gs ops g S res) ds) H alsP:=by
  intro D hp;simp only[D1,W0] at D;obtain⟨a0,D⟩:=D;obtain⟨h1,h2,h3⟩:=hp;have hR:∀i∈held,Rq P ops g ds H res i:=by
   intro i hi;obtain⟨a,b,c⟩:=h.hd i hi;rcases c with c|⟨_,c⟩
   .obtain⟨o,ho,a1⟩:=b0y h1 i c;exact d1h U Z h.pi a b (W7.1 a0 i c) ho a1
   grind
  have hA:∀x∈als,H.get x.2.1=some x.2.2:=by
   intro x hx;obtain⟨a,c⟩:=h.al x hx;rcases c with c|⟨_,c⟩
   .exact b0z h2 _ a c
   grind
  refine⟨a2s hR,stays_of hA,_,rfl,rfl,⟨h.pi,λi hi=>?_,λx hx=>?_⟩,D,h3⟩
  .obtain⟨a,b,c⟩:=h.hd i hi;grind
  .obtain⟨a,c⟩:=h.al x hx;grind
 grind[Q8]
def Io(W:WF):Prop:=∀(f:FuncId)(args:List AV)(H:Mem)(K K' : Ay->Prop),(∀r,K r->K' r)->W f args H K->W f args H K'
theorem Uq(G:Nat)(P:Program):Io (WC G P):=λ_ _ _ _ _ f h=>h.mono f
theorem Ur{O:CallF}(h:Io W):Io (orW O W):=by
 intro f args H K U D A;unfold orW at A |-;split
 .rename_i e;rw[e] at A;exact h _ _ _ _ _ D A
 grind
theorem d1i(hW:Io W)(a3:fit ops.toList ops.toList 0=true)(a4:Kl P (ancs [] ops.toList) ops.toList ops.toList 0=true)(hp:PI ops S res)(U:ops[i]?=some o)(hc:cls o.op=.chain)
  (hi:S.testBit i=false) (ha:∀j,A1 (ancs [] ops.toList) i j=true->S.testBit j=true) {k:Fr->Mem->Prop} {K' : ResF->Mem->Prop}
  (h:C6 P W ops o (.f (Gs ops g S res) ds) H k (Im Q)) (Z:∀v H',k (.f (Gs ops g (S ||| 2 ^ i) (Ct res i v)) ds) H'->K' (Ct res i v) H') :
  Qy P W ops (ancs [] ops.toList) (.f g ds) i res H K' Q:=by
 have a0:=Uo a4 i o (B7.2 U);rw[e6s] at a0;unfold Ra at a0;simp only[W0] at a0;obtain⟨⟨a5,a1⟩,a8⟩:=a0;have a6:cls o.op≠.no:=by grind
 have a7:=Um (P:=P) (H:=H) (a2m a6) (b0w (g:=g) (ds:=ds) hp hi ha a5);have a2:=λv=>Rc (g:=g) (ds:=ds) (S:=S) (res:=res) a3 U v;have act:Fv W o (.f (Gs ops g S res) ds) k (Im Q) (opV P H (Bw ops (ancs [] ops.toList) (.f g ds) res i) o) ->
   T5 W (.f g ds) i res K' Q (opV P H (Bw ops (ancs [] ops.toList) (.f g ds) res i) o):=by
  intro h;have D:=d1e (P:=P) (H:=H) (ev:=Bw ops (ancs [] ops.toList) (.f g ds) res i) hc
  cases A:opV P H (Bw ops (ancs [] ops.toList) (.f g ds) res i) o with
  | val v H' =>
   rw[A] at h;refine⟨hp.un i hi,Z v H' ?_⟩;rw[<- a2];exact h
  | skip H' =>
   rw[A] at h;refine⟨hp.un i hi,Z _ H' ?_⟩;rw[<- a2];exact h
  | enter f args H' =>
   rw[A] at h;refine hW _ _ _ _ _ ?_ h;intro r hr
   cases r with
   | ret v H2 =>
    refine⟨hp.un i hi,Z v H2 ?_⟩;grind
   | panic v H2=>exact hr
   | bad=>grind
  | bad=>rw[A] at h;assumption
  | dfr _ _ _ _=>rw[A] at D;cases D
  | recover=>rw[A] at D;cases D
  | panic _ _=>rw[A] at D;cases D
 unfold Qy;rw[U];dsimp only;unfold C6 at h;unfold Ng;split at h
 .grind
 .rename_i gd hg;rw[hg] at a1;dsimp only at a1;rw[a2q a3 U hg (ha _ a1),a2,a7] at h;exact⟨a1,b0x h (λ_=>act) λh=>⟨hp.un i hi,Z _ _ h⟩⟩
theorem d1j{S': Nat}(h:∀j,j<ops.size->S.testBit j=S'.testBit j):Gs ops g S res=Gs ops g S' res:=by
 funext t;unfold Gs;split
 .rename_i j f;obtain⟨_,o,A,_⟩:=Lm f;grind
 .rfl
theorem b1b(A:fit ops.toList ops.toList 0=true){KF:Fr->Prop}(D:∀j,j<ops.size->∃v,res j=some v):∀(l:List Oper)(k:Nat),ops.toList.drop k=l->k+l.length=ops.size ->
  KF (.f (Gs ops g (2 ^ ops.size-1) res) ds)->Ki res KF l k (.f (Gs ops g (2 ^ k-1) res) ds)
 | [],k,_,U,h=>by
  have:k=ops.size:=by grind
  subst this;exact h
 | o::l,k,Z,U,h=>by
  have a0:k<ops.size:=by grind
  obtain⟨v,hv⟩:=D k a0;have a1:ops.toList[k]?=some o:=by
   have:(ops.toList.drop k)[0]?=some o:=by grind
   grind
  unfold Ki;rw[hv];dsimp only;rw[Rc A (B7.1 a1)];have e1:Ct res k v=res:=by
   funext j;unfold Ct;grind
  rw[e1,d1j (S':=2 ^ (k+1)-1) (λj _=>by
   grind)]
  refine b1b A D l (k+1) ?_ (by grind) h;have:=congrArg List.tail Z;simpa using this
theorem d1k(hW:Io W)(A:fit ops.toList ops.toList 0=true)(Z:Kl P (ancs [] ops.toList) ops.toList ops.toList 0=true)(a1:List Nat):
  ∀(cs:List Nat)(k:Nat)(s:Hs)(S:Nat)(res:ResF) (H:Mem) (held:List Nat) (als:Als) (alsP:AlP),(∀c∈cs,∃o,ops[c]?=some o/\Cj o.op=true) ->
   PS P ops g ds s S res H held als alsP->D1 (ancs [] ops.toList) ops.toList S (O4 (ancs [] ops.toList) a1 ops.toList k cs s)=true ->
   Bm P W ops (Im Q) (O4 (ancs [] ops.toList) a1 ops.toList k cs s) (.f (Gs ops g S res) ds) H alsP ->
   Ox P W ops (ancs [] ops.toList) (.f g ds) a1 Q k cs res H held als:=by
 intro cs
 induction cs with
 | nil =>
  intro k s S res H held als alsP _ ps h hp;rw[Ua];unfold O4 at h hp;refine Jp A Z ?_ _ _ _ _ _ _ _ _ (λj hj=>?_) ps h hp
  .intro s S res H held als alsP ps h hp;obtain⟨h1,h2,s',_,_,a0,D,U⟩:=b1a A Z ps h hp;refine⟨h1,h2,?_⟩;have hS:S+1=2 ^ ops.toList.length:=Xd D;have a3:S=2 ^ ops.size-1:=by grind
   have hq:Q (.norm (.f (Gs ops g S res) ds) H):=U;subst a3;have hz:Fr.f g ds=.f (Gs ops g (2 ^ 0-1) res) ds:=by
    congr 1;funext t;unfold Gs;grind
   show Ki res (λfr=>Q (.norm fr H)) ops.toList 0 (.f g ds);rw[hz];refine b1b A (λj hj=>a0.pi.dn j ?_) ops.toList 0 rfl (by simp) hq;grind
  grind[Lu,Ii]
 | cons c cs ih =>
  intro k s S res H held als alsP a2 ps h hp;rw[Ua];unfold O4 at h hp;refine Jp A Z ?_ _ _ _ _ _ _ _ _ (λj hj=>?_) ps h hp
  .intro s S res H held als alsP ps h hp;obtain⟨h1,h2,s',e1,e2,a0,D,U⟩:=b1a A Z ps h hp;refine⟨h1,h2,?_⟩;simp only[D1,W0] at D;obtain⟨⟨t1,t2⟩,D⟩:=D;have hi:S.testBit c=false:=by grind
   have ha:=Re t2;obtain⟨o,ho,a5⟩:=a2 c (by simp);have a4:cls o.op=.chain:=by
    grind[Cj]
   unfold Bm at U;rw[ho] at U;dsimp only at U;refine d1i hW A Z a0.pi ho a4 hi ha U ?_;intro v H' hk;refine ih _ _ _ _ _ _ _ _ (λc hc=>a2 c (by grind)) ?_ D hk;have p1:=a0.step hi ha v;refine⟨p1.pi,λj hj=>?_,λx hx=>?_⟩
   .have hm:j∈held/\A1 (ancs [] ops.toList) c j=false:=a2t hj;obtain⟨a,b,d⟩:=p1.hd j hm.1;grind
   .have hm:x∈als/\A1 (ancs [] ops.toList) c x.1=false:=a2u hx;obtain⟨a,d⟩:=p1.al x hm.1;grind
  grind[Lu,Ii]
theorem a2v(U:Io W)(A:Rb P ops.toList=true)(h:Bm P W ops (Im Q) (Nk ops.toList) (.f g ds) H []):T6 P W ops (.f g ds) H Q:=by
 unfold Rb at A;simp only[W0] at A;obtain⟨⟨⟨Z,h2⟩,h3⟩,D⟩:=A;have a0:fit ops.toList ops.toList 0=true:=by
  simp_all[Oi]
 have hz:Fr.f g ds=.f (Gs ops g 0 (λ_=>none)) ds:=by
  congr 1;grind[Gs]
 refine⟨Z,h2,?_⟩;unfold Nk at h D;rw[hz] at h;refine d1k U a0 h3 _ _ _ _ 0 _ _ _ _ [] (λc hc=>?_) ⟨⟨λ_ _=>rfl,λj hj=>?_,λj k hj=>?_⟩,λ_ h=>(by cases h),λ_ h=>(by cases h)⟩ D h
 all_goals grind[mem_chainOf]
end
section
def planAt:List (Nat×List It)->Nat->List It
 | [],_=>[]
 | (k,l)::r,i=>if k=i then l else planAt r i
def Hn(P:Program)(plan:List (Nat×List It)):Code->Bool
 | .region id ops true=>Rb P ops.toList&&decide (Nk ops.toList=planAt plan id)
 | .seq a b=>Hn P plan a&&Hn P plan b
 | .cond _ a b=>Hn P plan a&&Hn P plan b
 | .block _ b=>Hn P plan b
 | .loop b=>Hn P plan b
 | _=>true
noncomputable def Kn(P:Program)(W:WF)(ops:Array Oper)(Q:Out->Prop)(l:List It)(fr:Fr)(H:Mem):Prop:=match fr with
 | .f g ds=>Bm P W ops (Im Q) l (.f g ds) H []
 | _=>False
noncomputable def Cp(P:Program)(W:WF)(L:LF)(plan:List (Nat×List It)):Code->Fr->Mem->(Out->Prop)->Prop
 | .skip,fr,H,Q=>Q (.norm fr H)
 | .region _ ops false,fr,H,Q=>Fw P W ops Q ops.toList fr H
 | .region id ops true,fr,H,Q=>Kn P W ops Q (planAt plan id) fr H
 | .seq a b,fr,H,Q=>Cp P W L plan a fr H (Gl (λfr H=>Cp P W L plan b fr H Q) Q)
 | .cond c a b,fr,H,Q=>Gm (fr.ev c) (Cp P W L plan a fr H Q) (Cp P W L plan b fr H Q)
 | .block id b,fr,H,Q=>Cp P W L plan b fr H (Jg id Q)
 | .loop b,fr,H,Q=>L b fr H Q
 | .exit id,fr,H,Q=>Q (.exit id fr H)
 | .label _,fr,H,Q=>Q (.norm fr H)
 | .ret,fr,H,Q=>Q (.ret fr H)
 | _,_,_,_=>False
variable {B G:Nat}{P:Program}{n n0:Nat}{ρ0 ρ:Rn}{w0 w:World}{fr:Fr}{H:Mem}{a:Act}{W:WF}{Q:Out→Prop}{plan:List (Nat×List It)}
theorem b1c(hW:WOK G P W)(hM:Io W)(hG:G=P.globals.size):∀(c:Code)(fr:Fr)(H:Mem)(Q:Out->Prop),Aw n c=true->Hn P plan c=true->Cp P W (LX G P n) plan c fr H Q->XW G P n c fr H Q:=by
 intro c
 induction c with
 | skip=>intro fr H Q _ _ h B n0 ρ0 w0 ρ a w s;exact wp_skip ⟨_,h,ρ,s⟩
 | region id ops a6 =>
  intro fr H Q D A h B n0 ρ0 w0 ρ a w s
  cases a6 with
  | false=>exact wp_region_list (T7 hW hG ops.toList fr H ρ a w (λo U=>W7.1 D o U) s h)
  | true =>
   simp only[Hn,W0,decide_eq_true_eq] at A;have h' : Kn P W ops Q (planAt plan id) fr H:=h;rw[<- A.2] at h'
   cases fr with
   | f g ds=>exact b0d hW hG s D (a2v hM A.1 h')
   | _=>exact h'.elim
 | seq x y a1 a2 =>
  intro fr H Q D A h B n0 ρ0 w0 ρ a w s;simp only[Aw,W0] at D;simp only[Hn,W0] at A;refine wp_seq (Code.wp_mono ?_ (a1 fr H _ D.1 A.1 h B n0 ρ0 w0 ρ a w s));rintro e a' w' ⟨a4,Z,U⟩
  cases a4 with
  | norm a0 H' =>
   cases e with
   | normal=>obtain⟨ρ',s'⟩:=U;exact a2 a0 H' Q D.2 A.2 Z B n0 ρ0 w0 ρ' a' w' s'
   | _=>exact U.elim
  | exit id a0 H'=>cases e<;>first|exact U.elim|exact⟨_,Z,U⟩
  | ret a0 H'=>cases e<;>first|exact U.elim|exact⟨_,Z,U⟩
  | panic v a0 H'=>cases e<;>first|exact U.elim|exact⟨_,Z,U⟩
  | bad=>exact Z.elim
 | cond a7 x y a1 a2 =>
  intro fr H Q D A h B n0 ρ0 w0 ρ a w s;simp only[Aw,W0] at D;simp only[Hn,W0] at A;have h' : Gm (fr.ev a7) (Cp P W (LX G P n) plan x fr H Q) (Cp P W (LX G P n) plan y fr H Q):=h;unfold Gm at h';split at h'
  .rename_i b a8;have:=s.ev _ _ a8
   cases b with
   | true=>exact wp_cond_true this (a1 fr H Q D.1 A.1 (h'.1 rfl) B n0 ρ0 w0 ρ a w s)
   | false=>exact wp_cond_false this (a2 fr H Q D.2 A.2 (h'.2 rfl) B n0 ρ0 w0 ρ a w s)
  grind
 | block id b ih =>
  intro fr H Q D A h B n0 ρ0 w0 ρ a w s;refine wp_block (Code.wp_mono ?_ (ih fr H _ D A h B n0 ρ0 w0 ρ a w s));rintro e a' w' ⟨a4,Z,U⟩
  cases a4 with
  | norm a0 H'=>cases e<;>first|exact U.elim|exact⟨_,Z,U⟩
  | exit a9 a0 H' =>
   cases e with
   | exit a5 =>
    obtain⟨rfl,ρ',s'⟩:=U;have a3:if a5=id then Q (.norm a0 H') else Q (.exit a5 a0 H'):=Z;by_cases e:a5=id
    .subst e;rw[if_pos rfl] at a3;simp only[Exit.inBlock,if_true];exact⟨_,a3,ρ',s'⟩
    .rw[if_neg e] at a3;simp only[Exit.inBlock,e,if_false];exact⟨_,a3,rfl,ρ',s'⟩
   | _=>exact U.elim
  | ret a0 H'=>cases e<;>first|exact U.elim|exact⟨_,Z,U⟩
  | panic v a0 H'=>cases e<;>first|exact U.elim|exact⟨_,Z,U⟩
  | bad=>exact Z.elim
 | loop b ih =>
  intro fr H Q D A h B n0 ρ0 w0 ρ a w s;exact LW.wp (h B n0 ρ0 w0 ρ a w s)
 | rangeFunc f ps x y a1 a2=>intro fr H Q D A h;exact h.elim
 | exit id=>intro fr H Q D A h B n0 ρ0 w0 ρ a w s;exact wp_exit ⟨_,h,rfl,ρ,s⟩
 | scope b ih=>intro fr H Q D A h;exact h.elim
 | label l=>intro fr H Q D A h B n0 ρ0 w0 ρ a w s;exact wp_label ⟨_,h,ρ,s⟩
 | goto l=>intro fr H Q D A h;exact h.elim
 | ret=>intro fr H Q D A h B n0 ρ0 w0 ρ a w s;exact wp_ret ⟨_,h,ρ,s⟩
 | refuse b0=>intro fr H Q D A h;exact h.elim
theorem LX.roundP{O:CallF}(Z:∀B,A4 B G P O)(hG:G=P.globals.size)(plan:List (Nat×List It)){b:Code}(D:(Aw n b&&Hn P plan b)=true)
  (h:Cp P (orW O (WC G P)) (LX G P n) plan b fr H (Gl (λfr H=>LX G P n b fr H Q) Q)):LX G P n b fr H Q:=by
 rw[W0] at D;intro B n0 ρ0 w0 ρ a w s;refine Yx (Code.wp_mono ?_ (b1c (T8 Z) (Ur (Uq G P)) hG b fr H _ D.1 D.2 h B n0 ρ0 w0 ρ a w s));rintro e a' w' ⟨a0,A,f⟩
 cases a0 with
 | norm U H' =>
  cases e with
  | normal=>obtain⟨ρ',s'⟩:=f;exact A B n0 ρ0 w0 ρ' a' w' s'
  | _=>exact f.elim
 | exit id U H'=>cases e<;>first|exact f.elim|exact⟨_,A,f⟩
 | ret U H'=>cases e<;>first|exact f.elim|exact⟨_,A,f⟩
 | panic v U H'=>cases e<;>first|exact f.elim|exact⟨_,A,f⟩
 | bad=>exact A.elim
abbrev Xu:=@LX.roundP
theorem WC.enterP{f:FuncId}{fn:Func}{c:Code}{args:List AV}{K:Ay->Prop}{O:CallF}(hO:∀B,A4 B G P O)(hG:G=P.globals.size)(plan:List (Nat×List It))(hf:P.funcs[f]?=some fn)(hb:fn.body=some c)
  (hd:(Aw fn.ntmps c&&Hn P plan c)=true) (hl:args.length<=fn.ntmps) (h:Cp P (orW O (WC G P)) (LX G P fn.ntmps) plan c (Hf args) H (G2 P O fn K)):WC G P f args H K:=by
 rw[W0] at hd;intro B ρ us w s hv;have s1:St B G fn.ntmps H.next ρ w ρ (Hf args) H { tmps:=us++Array.replicate (fn.ntmps-us.size) undef,defers:=[] } w:=⟨X6 _ _ _ _,s,Ub hv hl,Wy _⟩;refine calls_of_wp_defers hf hb (Code.wp_mono ?_ (b1c (T8 hO) (Ur (Uq G P)) hG c _ H _ hd.1 hd.2 h B H.next ρ w ρ _ w s1));rintro e Z w' ⟨a0,hq,U⟩;have fin:∀{A:Fr}{u:Mode}{H' : Mem}{ρ' : Rn}{m:FrameMode},(match Co P O (λ_ _ _=>.bad) fn A A.defers u H' with|.bad=>False|r=>K r)->St B G fn.ntmps H.next ρ w ρ' A H' Z w'->MR ρ' u m ->
   Leaves P fn Z.tmps (λe w'=>∃r,K r/\Jd B G H.next ρ w r e w') Z.defers m w':=by
  intro A u H' ρ' m hm D a1;have key:∀r,Co P O (λ_ _ _=>.bad) fn A A.defers u H'=r->r≠.bad->K r->Leaves P fn Z.tmps (λe w'=>∃r,K r/\Jd B G H.next ρ w r e w') Z.defers m w':=by
   intro r hr a2 hk;refine Uc (λe w' hc=>⟨r,hk,hc⟩) ?_;exact Lx (hO B) (b0f B G P) hG a2 _ _ u H' ρ' m w' D.frel.dfr D a1 hr
  grind
 cases a0 with
 | norm A H' =>
  cases e with
  | normal=>obtain⟨ρ',D⟩:=U;exact fin (u:=.returning) (m:=.returning) hq D rfl
  | _=>exact U.elim
 | ret A H' =>
  cases e with
  | ret=>obtain⟨ρ',D⟩:=U;exact fin (u:=.returning) (m:=.returning) hq D rfl
  | _=>exact U.elim
 | panic v A H' =>
  cases e with
  | panic a3=>obtain⟨ρ',x,rfl,hx,D⟩:=U;exact fin (u:=.panicking v) hq D ⟨x,rfl,hx⟩
  | _=>exact U.elim
 | exit id A H'=>exact hq.elim
 | bad=>exact hq.elim
abbrev Xt:=@WC.enterP
end
section
variable {P:Program}{W:WF}{L:LF}{Q:Out→Prop}{fr:Fr}{H:Mem}{plan:List (Nat×List It)}{ops:Array Oper}{al:AlP}
variable {tk id i:Nat}{l:List Oper}{b:Code}{r:List It}{as:List Nat}
theorem d1l(h:tick=tk){c:Code}{fr f:Fr}{H H' : Mem}(A:fr=f)(D:H=H'):Cp P W L plan c fr H Q=Cp P W L plan c f H' Q:=by grind
theorem d1m(h:tick=tk){l:List It}{fr f:Fr}{H H' : Mem}(A:fr=f)(D:H=H'):Bm P W ops Q l fr H al=Bm P W ops Q l f H' al:=by grind
theorem d1n(h:tick=tk){l:List Nat}{fr f:Fr}{H H' : Mem}(A:fr=f)(D:H=H'):Hm P W ops fr H l=Hm P W ops f H' l:=by grind
theorem d1o(A:tick=tk){l f:List It}{fr h:Fr}{H H' : Mem}(D:l=f)(U:fr=h)(Z:H=H'):Kn P W ops Q l fr H=Kn P W ops Q f h H':=by grind
theorem d1p(A:tick=tk){o f:Out}(h:o=f):Im Q o=Im Q f:=by rw[h]
def atW(l:List Oper)(i:Nat)(k:Oper->Prop):Prop:=match l[i]? with|some o=>k o|none=>False
theorem d1q{o:Oper}{k:Oper->Prop}:atW (o::l) 0 k=k o:=(rfl)
theorem d1r{o:Oper}{n:Nat}{k:Oper->Prop}:atW (o::l) (n+1) k=atW l n k:=(rfl)
theorem d1s(f:tick=tk){l:List Oper}{i:Nat}{k:Oper->Prop}:atW l i k=atW l i k:=rfl
attribute [congr] d1l d1m d1n d1o d1p d1s
theorem execP_skip:Cp P W L plan .skip fr H Q=Q (.norm fr H):=(rfl)
theorem d1t:Cp P W L plan (.region id l.toArray false) fr H Q=Fw P W l.toArray Q l fr H:=(rfl)
theorem d1u:Cp P W L plan (.region id ops true) fr H Q=Kn P W ops Q (planAt plan id) fr H:=(rfl)
theorem d1v{a:Code}:Cp P W L plan (.seq a b) fr H Q=Cp P W L plan a fr H (Gl (λfr H=>Cp P W L plan b fr H Q) Q):=(rfl)
theorem d1w{x:Operand}{a:Code}:Cp P W L plan (.cond x a b) fr H Q=Gm (fr.ev x) (Cp P W L plan a fr H Q) (Cp P W L plan b fr H Q):=(rfl)
theorem d1x:Cp P W L plan (.block id b) fr H Q=Cp P W L plan b fr H (Jg id Q):=(rfl)
theorem d1y:Cp P W L plan (.loop b) fr H Q=L b fr H Q:=(rfl)
theorem d1z:Cp P W L plan (.exit id) fr H Q=Q (.exit id fr H):=(rfl)
theorem execP_ret:Cp P W L plan .ret fr H Q=Q (.ret fr H):=(rfl)
theorem d2a{g:Nat->Option AV}{ds:List Dfr}{l:List It}:Kn P W ops Q l (.f g ds) H=Bm P W ops (Im Q) l (.f g ds) H []:=(rfl)
theorem clearQ_norm:Im Q (.norm fr H)=Q (.norm fr H):=(rfl)
theorem planW_nil:Bm P W ops Q [] fr H al=Q (.norm fr H):=(rfl)
theorem d2b:Bm P W l.toArray Q (.run i::r) fr H al=atW l i λo=>C6 P W l.toArray o fr H (λfr H=>Bm P W l.toArray Q r fr H al) Q:=by
 rw[Bm,List.getElem?_toArray];rfl
theorem d2c:Bm P W l.toArray Q (.mk i::r) fr H al=atW l i λo=>C6 P W l.toArray o fr H (λfr H'=>Bm P W l.toArray Q r fr H' ((i,H.next,H'.get H.next)::al)) Q:=by
 rw[Bm,List.getElem?_toArray];rfl
theorem d2d{hs:List Nat}:Bm P W ops Q (.gate hs as::r) fr H al=(Hm P W ops fr H hs/\Km H as al/\Bm P W ops Q r fr H al):=(rfl)
theorem againW_nil:Hm P W ops fr H []=True:=(rfl)
theorem d2e{hs:List Nat}:Hm P W l.toArray fr H (i::hs)=((atW l i λo=>C6 P W l.toArray o fr H (λf _=>D2 f o.dst=D2 fr o.dst) λ_=>False)/\Hm P W l.toArray fr H hs):=by
 rw[Hm,List.getElem?_toArray];rfl
theorem d2f{d:Tmp}:D2 fr (some d)=fr.get d:=(rfl)
theorem d2g:Km H as []=True:=(rfl)
theorem d2h{a:Nat}{b:Option Blk}{l:AlP}:Km H as ((i,a,b)::l)=((i∈as->H.get a=b)/\Km H as l):=(rfl)
attribute [simp] execP_skip d1t d1u d1v d1w d1x d1y d1z execP_ret d2a clearQ_norm
 planW_nil d2b d2c d2d againW_nil d2e d2f d2g d2h d1q d1r
end
section
variable {P:Program}{H:Mem}
section
variable {ev:Ev}{d:Option Tmp}{ty:TypeId}{p:String}{af:Array Edge}{g:Option (Nat×Bool)}
theorem b1d{t:TypeId}{i:TypeInfo}(h:P.info? t=some i):Ap P (typeInfo t)=some i:=by
 unfold typeInfo;show Ap P (match P.info? t with|some d=>pure d|none=>stuck "no such type")=_;rw[h];rfl
theorem d2i{t:TypeId}{a b:Bool}(f:P.underlying t=some .bool):Ap P (Op.equal t (.bool a) (.bool b))=some (a==b):=by
 unfold Op.equal;show Ap P (Op.equalIn (9999+1) t (.bool a) (.bool b))=_;unfold Op.equalIn;exact(Bi (m:=underlying t) (Hj f)).trans rfl
theorem d2j{t f:TypeId}{x y:Operand}{a b:Bool}(hx:ev x=some (.lit (.bool a)))(hy:ev y=some (.lit (.bool b)))(h:P.underlying t=some .bool):
  Fx P H ev ⟨d,.binOp .neq t x y f,ty,p,af,g⟩ .neq t (some (.lit (.bool a))) (some (.lit (.bool b)))=.val (.lit (.bool (!(a==b)))) H:=by
 unfold Fx;dsimp only;rw[Ni (v:=.lit (.bool (!(a==b)))) rfl];refine L3 (r:=.bool (!(a==b))) rfl hx hy λρ A D=>Nj A D rfl ?_;show Ap P (do pure (Value.bool (!(<- Op.equal t (.bool a) (.bool b)))))=_;exact(Bi (d2i h)).trans rfl
attribute [simp] d2j
end
end
variable {n' sz n2 B n0:Nat}{P:Program}{O:Int}
structure Nl where
 n:Nat
 succ:Nat->List Nat
abbrev SetS:=Nat->Bool
def Nl.ok(G:Nl):Prop:=∀s,s<G.n->∀t∈G.succ s,t<G.n
def leS(n:Nat)(X Y:SetS):Prop:=∀s,s<n->X s=true->Y s=true
def eqS(n:Nat)(X Y:SetS):Prop:=∀s,s<n->X s=Y s
theorem eqS.le{n:Nat}{X Y:SetS}(h:eqS n X Y):leS n X Y:=λs hs hx=>by rw[<- h s hs];grind
theorem eqS.symm{n:Nat}{X Y:SetS}(h:eqS n X Y):eqS n Y X:=λs hs=>(h s hs).symm
theorem eqS.trans{n:Nat}{X Y Z:SetS}(h:eqS n X Y)(f:eqS n Y Z):eqS n X Z:=λs hs=>(h s hs).trans (f s hs)
theorem leS.antisymm{n:Nat}{X Y:SetS}(h:leS n X Y)(f:leS n Y X):eqS n X Y:=λs hs=>by
 cases hx:X s with
 | true=>exact(h s hs hx).symm
 | false =>
  cases hy:Y s with
  | false=>rfl
  | true=>rw[f s hs hy] at hx;grind
def Nl.pre(G:Nl)(X:SetS):SetS:=λs=>(G.succ s).any X
def Nl.post(G:Nl)(X:SetS):SetS:=λs=>(G.succ s).all X
structure IsL (n:Nat) (F:SetS->SetS) (L:SetS):Prop where
 fix:eqS n (F L) L
 least:∀Z,leS n (F Z) Z->leS n L Z
theorem IsL.uniq{n:Nat}{F:SetS->SetS}{L M:SetS}(h:IsL n F L)(f:IsL n F M):eqS n L M:=(h.least M f.fix.le).antisymm (f.least L h.fix.le)
def cnt(X:SetS):Nat->Nat
 | 0=>0
 | k+1=>cnt X k+(if X k then 1 else 0)
section
variable {B G:Nat}{P:Program}{ρ:Rn}{H:Mem}{w:World}
noncomputable def orR(x:Ay)(y:Ay):Ay:=Ay.rec (motive:=λ_=>Ay) (λv H=>.ret v H) (λv H=>.panic v H) y x
noncomputable def orC(O c:CallF):CallF:=λf a H=>orR (O f a H) (c f a H)
theorem d2k{O c:CallF}(U:A4 B G P O)(Z:A4 B G P c):A4 B G P (orC O c):=by
 intro f args H h ρ us w s A;unfold orC at h |-
 cases D:O f args H with
 | bad=>rw[D] at h;exact Z f args H h ρ us w s A
 | ret v H'=>have:=U f args H (by grind) ρ us w s A;rw[D] at this;exact this
 | panic v H'=>have:=U f args H (by grind) ρ us w s A;rw[D] at this;exact this
noncomputable def Mem.fn(H:Mem):Mem:=⟨.fn H.get,H.next⟩
theorem Sim.toFn(s:Sim B G ρ H w):Sim B G ρ H.fn w:=⟨s.blk,s.inj,s.fresh,s.glob,s.names,s.base⟩
theorem Sim.ofFn(s:Sim B G ρ H.fn w):Sim B G ρ H w:=⟨s.blk,s.inj,s.fresh,s.glob,s.names,s.base⟩
theorem WC.ofFn{f:FuncId}{args:List AV}{v:AV}(h:WC G P f args H.fn λr=>r=.ret v H.fn):WC G P f args H λr=>r=.ret v H:=by
 intro B ρ us w s A;refine(h B ρ us w s.toFn A).mono ?_;rintro e w' ⟨r,rfl,D⟩;refine⟨_,rfl,?_⟩
 cases e with
 | returned u =>
  obtain⟨ρ',U,Z,h3,h4⟩:=D;exact⟨ρ',U,Z.ofFn,h3,Wy _⟩
 | panicked a0=>assumption
 | outgrown=>assumption
abbrev Yz:=@WC.ofFn
mutual
def D3(n:Nat):AV->Bool
 | .lit _=>true
 | .es=>true
 | .ptr a _=>Nat.blt a n
 | .sl a _ _ _=>Nat.blt a n
 | .slq a _ _ _=>Nat.blt a n
 | .map a=>Nat.blt a n
 | .func _ x y=>belowL n x&&belowL n y
 | .iface _ v=>D3 n v
 | .agg l=>belowL n l
 | .tup l=>belowL n l
def belowL (n:Nat):List AV->Bool
 | []=>true
 | v::l=>D3 n v&&belowL n l
end
def O6(n:Nat)(ρ:Rn):Rn:=λa=>if a<n then ρ a else none
theorem Us{n a:Nat}{ρ:Rn}(h:Nat.blt a n=true):O6 n ρ a=ρ a:=if_pos (Wz h)
mutual
theorem a2w{n:Nat}{ρ:Rn}:∀{v:AV}{u:Value},D3 n v=true->VR ρ v u->VR (O6 n ρ) v u
 | .lit _,_,_,r=>r
 | .es,_,_,r=>r
 | .ptr a _,_,hb,⟨b,o,k,e,r⟩=>⟨b,o,k,(Us (by simpa[D3] using hb)).trans e,r⟩
 | .sl a _ _ _,_,hb,⟨b,o,k,e,r⟩=>⟨b,o,k,(Us (by simpa[D3] using hb)).trans e,r⟩
 | .slq a _ _ _,_,hb,⟨b,o,k,e,r⟩=>⟨b,o,k,(Us (by simpa[D3] using hb)).trans e,r⟩
 | .map a,_,hb,⟨b,o,k,e,r⟩=>⟨b,o,k,(Us (by simpa[D3] using hb)).trans e,r⟩
 | .func _ _ _,_,hb,⟨f,h,e,r,q⟩=>by
  simp only[D3,W0] at hb;exact⟨f,h,e,below_VRs hb.1 r,below_VRs hb.2 q⟩
 | .iface _ _,_,hb,⟨u',e,r⟩=>⟨u',e,a2w (by simpa[D3] using hb) r⟩
 | .agg _,_,hb,⟨cs,e,r⟩=>⟨cs,e,below_VRs (by simpa[D3] using hb) r⟩
 | .tup _,_,hb,⟨cs,e,r⟩=>⟨cs,e,below_VRs (by simpa[D3] using hb) r⟩
theorem below_VRs {n:Nat} {ρ:Rn}:∀{l:List AV}{us:List Value},belowL n l=true->VRs ρ l us->VRs (O6 n ρ) l us
 | [],_,_,r=>r
 | _::_,_,hb,⟨u,A,e,r,q⟩=>by
  simp only[belowL,W0] at hb;exact⟨u,A,e,a2w hb.1 r,below_VRs hb.2 q⟩
end
def Ut(n:Nat):Option Blk->Bool
 | none=>true
 | some (.cells l own _)=>!own&&belowL n l
 | _=>false
def b1e(v:AV):Ay->Bool
 | .ret u _=>eqAV u v
 | _=>false
theorem Sim.small{H0:Mem}(s:Sim B G ρ H w)(hG:G<=H0.next)(A:∀a,Ut H0.next (H0.get a)=true)(D:∀a x,H0.get a=some x->H.get a=some x)(U:∀a x,H0.get a=some x->a<H0.next):
  Sim w.heap.size G (O6 H0.next ρ) H0 w:=by
 refine⟨λa x f=>?_,λa a' x x' b o k o' k' f _ _ Z=>?_,λa f=>if_neg (Nat.not_lt.2 f),λa x a0 f=>?_,hG,Wy _⟩
 .have h:O6 H0.next ρ a=ρ a:=if_pos (U a x f);rcases s.blk a x (D a x f) with hn|⟨b,o,k,h1,h2⟩
  .grind
  .refine .inr ⟨b,o,k,h.trans h1,?_⟩;have hs:=A a;rw[f] at hs
   cases x with
   | cells l own z =>
    simp only[Ut,W0,e8h] at hs;obtain⟨c,e,fz,h3,h4,h5⟩:=h2;refine⟨c,e,fz,h3,λi v hi=>?_,λZ=>by grind⟩;obtain⟨u,hu,hv⟩:=h4 i v hi;refine⟨u,hu,a2w ?_ hv⟩;have key:∀(l:List AV)(i:Nat),belowL H0.next l=true->l[i]?=some v->D3 H0.next v=true:=by
     intro l
     induction l with
     | nil=>grind
     | cons y l ih =>
      (simp_all[belowL];grind)
    grind
   | map _ _=>cases hs
   | siter _ _=>cases hs
   | typ _ _ _=>cases hs
 .have hs:=A a;rw[f] at hs
  cases x with
  | cells l own z =>
   simp only[Ut,W0,e8h] at hs;have:own=true:=Z;grind
  | map _ _=>cases hs
  | siter _ _=>cases hs
  | typ _ _ _=>cases hs
 .have h:O6 H0.next ρ a=ρ a:=if_pos (U a x f);exact h.trans (s.glob a x a0 (D a x f))
theorem WC.local{H0:Mem}{O:CallF}{f:FuncId}{args:List AV}{v:AV}(hO:∀B,A4 B G P O)(h:b1e v (O f args H0)=true)(hv:plainV v=true)(a0:belowL 0 args=true)
  (hG:G<=H0.next) (a1:∀a,Ut H0.next (H0.get a)=true) (a2:∀a x,H0.get a=some x->H.get a=some x) (a3:∀a x,H0.get a=some x->a<H0.next) :
  WC G P f args H λr=>r=.ret v H:=by
 intro B ρ us w s a4;have a5:∀(n:Nat),(∀v,D3 0 v=true->D3 n v=true)/\(∀l,belowL 0 l=true->belowL n l=true):=by
  intro n;have hV:∀v,D3 0 v=true->D3 n v=true:=by
   intro v;refine AV.rec (motive_1:=λv=>D3 0 v=true->D3 n v=true) (motive_2:=λl=>belowL 0 l=true->belowL n l=true) ?_ ?_ ?_ ?_ ?_ ?_ ?_ ?_ ?_ ?_ ?_ ?_ v
   all_goals intros
   all_goals simp_all[D3,belowL]
  have hL:∀l,belowL 0 l=true->belowL n l=true:=by
   intro l
   induction l with
   | nil=>intro _;rfl
   | cons x l ih =>
    simp_all[belowL]
  grind
 have s0:=s.small hG a1 a2 a3;have a6:∃u A,O f args H0=.ret u A/\u=v:=by
  cases D:O f args H0 with
  | ret u A=>rw[D] at h;exact⟨u,A,rfl,eqAV_sound _ _ h⟩
  | panic u A=>rw[D] at h;cases h
  | bad=>rw[D] at h;cases h
 obtain⟨u,A,D,rfl⟩:=a6;refine(hO _ f args H0 (by grind) _ us w s0 (below_VRs ((a5 H0.next).2 args a0) a4)).mono ?_;intro e w' Z;rw[D] at Z;refine⟨_,rfl,?_⟩
 cases e with
 | returned x =>
  obtain⟨ρ',h1,h2,h3,h4⟩:=Z;have hb:=h1.below;have a7:Go.RowKit.Below B w w':=⟨hb.os,hb.tape,hb.output,hb.size,λa U=>hb.block a (Xg U s.base)⟩;refine⟨ρ,⟨λ_ _=>rfl,h1.keeps,a7⟩,?_,Jo hv h3,Wy _⟩;refine s.other hb.size λa x b o k U a8=>?_;exact hb.block b (s.at U a8).lt
 | panicked a9=>assumption
 | outgrown=>assumption
end
section
variable {G:Nat}{P:Program}{W:WF}{Q:Out→Prop}{fr:Fr}{H:Mem}{ev:Ev}{d:Option Tmp}{ty:TypeId}{p:String}{af:Array Edge}{g:Option (Nat×Bool)}
noncomputable def Rf(P:Program)(H:Mem)(ev:Ev)(o:Oper)(x y:Option AV):R:=match x,y with
 | some (.lit (.int k a)),some (.lit (.int _ b))=>.val (.lit (.int k (if b > a then b else a))) H
 | _,_=>opV P H ev o
theorem d2l{x y:Operand}{s t:TypeId}:opV P H ev ⟨d,.call ⟨.builtin .max,#[x,y],#[s,t]⟩,ty,p,af,g⟩=Rf P H ev ⟨d,.call ⟨.builtin .max,#[x,y],#[s,t]⟩,ty,p,af,g⟩ (ev x) (ev y):=by
 unfold Rf;split
 .rename_i k a f b hx hy;have Z:A3 P ev ⟨d,.call ⟨.builtin .max,#[x,y],#[s,t]⟩,ty,p,af,g⟩=some (.lit (.int k (if b > a then b else a))):=by
   refine L3 (u:=.int k a) (u':=.int f b) (by rfl) hx hy λρ h A=>?_;rw[Jc (b:=.max) (c:=⟨.builtin .max,#[x,y],#[s,t]⟩) rfl rfl];have D:(#[x,y]:Array Operand).map ρ=#[ρ x,ρ y]:=by simp
   have U:Ap P (Builtin.max_ #[s,t] ty #[ρ x,ρ y])=some (.int k (if b > a then b else a)):=by
    rw[h,A];rfl
   show Ap P (builtin .max #[s,t] ty _ ((#[x,y]:Array Operand).map ρ))=_;rw[D];show Ap P (do pure (Next.value (<- Builtin.max_ #[s,t] ty #[ρ x,ρ y])))=_;exact(Bi U).trans rfl
  show Bj P H ev _ ⟨.builtin .max,#[x,y],#[s,t]⟩=_;unfold Bj;rw[show (#[x,y]:Array Operand).toList=[x,y] from rfl];simp_all[E7]
 .rfl
theorem d2m{A:Nat}(D:tick=A){o:Oper}{x f y h:Option AV}{H H' : Mem}(U:H=H')(Z:x=f)(h3:y=h):Rf P H ev o x y=Rf P H' ev o f h:=by grind
attribute [congr] d2m
theorem d2n{o:Oper}{k f:IntKind}{a b:Int}:Rf P H ev o (some (.lit (.int k a))) (some (.lit (.int f b)))=.val (.lit (.int k (if b > a then b else a))) H:=(rfl)
noncomputable def Rg(P:Program)(H:Mem)(ev:Ev)(o:Oper)(x y:Option AV):R:=match x,y with
 | some (.lit (.int k a)),some (.lit (.int _ b))=>.val (.lit (.int k (if b<a then b else a))) H
 | _,_=>opV P H ev o
theorem d2o{x y:Operand}{s t:TypeId}:opV P H ev ⟨d,.call ⟨.builtin .min,#[x,y],#[s,t]⟩,ty,p,af,g⟩=Rg P H ev ⟨d,.call ⟨.builtin .min,#[x,y],#[s,t]⟩,ty,p,af,g⟩ (ev x) (ev y):=by
 unfold Rg;split
 .rename_i k a f b hx hy;have Z:A3 P ev ⟨d,.call ⟨.builtin .min,#[x,y],#[s,t]⟩,ty,p,af,g⟩=some (.lit (.int k (if b<a then b else a))):=by
   refine L3 (u:=.int k a) (u':=.int f b) (by rfl) hx hy λρ h A=>?_;rw[Jc (b:=.min) (c:=⟨.builtin .min,#[x,y],#[s,t]⟩) rfl rfl];have D:(#[x,y]:Array Operand).map ρ=#[ρ x,ρ y]:=by simp
   have U:Ap P (Builtin.min_ #[s,t] ty #[ρ x,ρ y])=some (.int k (if b<a then b else a)):=by
    rw[h,A];rfl
   show Ap P (builtin .min #[s,t] ty _ ((#[x,y]:Array Operand).map ρ))=_;rw[D];show Ap P (do pure (Next.value (<- Builtin.min_ #[s,t] ty #[ρ x,ρ y])))=_;exact(Bi U).trans rfl
  show Bj P H ev _ ⟨.builtin .min,#[x,y],#[s,t]⟩=_;unfold Bj;rw[show (#[x,y]:Array Operand).toList=[x,y] from rfl];simp_all[E7]
 .rfl
theorem d2p{A:Nat}(D:tick=A){o:Oper}{x f y h:Option AV}{H H' : Mem}(U:H=H')(Z:x=f)(h3:y=h):Rg P H ev o x y=Rg P H' ev o f h:=by grind
attribute [congr] d2p
theorem d2q{o:Oper}{k f:IntKind}{a b:Int}:Rg P H ev o (some (.lit (.int k a))) (some (.lit (.int f b)))=.val (.lit (.int k (if b<a then b else a))) H:=(rfl)
attribute [simp] d2o d2q
attribute [simp] d2l d2n
end
section
variable {P:Program}{H:Mem}{ev:Ev}{d:Option Tmp}{ty:TypeId}{p:String}{af:Array Edge}{g:Option (Nat×Bool)}{x y:Operand}{s t:TypeId}{size bytes:Nat}
variable {c b:Nat}{hy:ev y=some (.sl b 0 1 c)}
theorem Uu{a n:Nat}{l:List AV}{own:Bool}{z:Nat}(h:H.get a=some (.cells l own z))(f:l.length=n*size):Ci H size n (.sl a 0 n c)=some l:=by
 rw[a2h h (by omega),e7u,Xn (by omega)]
variable {hp:apI P s t=some (size,bytes)}{hs:0<size}{hb:bytes≤1048576}
theorem d2r{l:List AV}{own:Bool}{z:Nat}{hx:ev x=some (.nl)}(hp:apI P s t=some (size,bytes))(hs:(decide (0<size)&&decide (bytes<=1048576))=true)
  (f:H.get b=some (.cells l own z)) (h:l.length=size) :
  ex2 P H ev ⟨d,.call ⟨.builtin .append,#[x,y],#[s,t]⟩,ty,p,af,g⟩ x y (some (.nl)) (some (.sl b 0 1 c)) hx hy=.val (.slq H.next 0 1 0) (H.add (.cells l true size)):=by
 simp only[W0,decide_eq_true_eq] at hs;show opV P H ev _=_;rw[Hk hx hy hp,d0j (n:=0) rfl hs.1 (Uu f (by omega)) (by omega) (by omega) hs.2]
theorem d2s{a k:Nat}{l r:List AV}{own:Bool}{z:Nat}{hx:ev x=some (.slq a 0 k 0)}(hp:apI P s t=some (size,bytes))(hs:(decide (0<size)&&decide (bytes<=1048576))=true)
  (f:H.get b=some (.cells l own z)) (h:H.get a=some (.cells r true size)) (U:l.length=size) (A:r.length=k*size) (Z:k<=1000000) (D:allOne l=true) :
  ex2 P H ev ⟨d,.call ⟨.builtin .append,#[x,y],#[s,t]⟩,ty,p,af,g⟩ x y (some (.slq a 0 k 0)) (some (.sl b 0 1 c)) hx hy=.val (.slq H.next 0 (k+1) 0) ((H.rm a).add (.cells (r++l) true size)):=by
 simp only[W0,decide_eq_true_eq] at hs;show opV P H ev _=_;rw[Hk hx hy hp,b0q (n:=0) rfl hs.1 (Uu f (by omega)) (by omega) h A (by omega) hs.2 D];rfl
/- The same,by what the blocks hold. -/
noncomputable def apN(q:Option (Nat×Nat))(gb:Option Blk)(H:Mem)(els:R):R:=match q,gb with
 | some (size,bytes),some (.cells l _ _)=>if 0<size/\bytes<=1048576/\l.length=size then .val (.slq H.next 0 1 0) (H.add (.cells l true size)) else els
 | _,_=>els
noncomputable def apQ(q:Option (Nat×Nat))(k a:Nat)(ga gb:Option Blk)(H:Mem)(els:R):R:=match q,ga,gb with
 | some (size,bytes),some (.cells r true z),some (.cells l _ _)=>if z=size/\0<size/\bytes<=1048576/\l.length=size/\r.length=k*size/\k<=1000000/\allOne l=true then .val (.slq H.next 0 (k+1) 0) ((H.rm a).add (.cells (r++l) true size)) else els
 | _,_,_=>els
theorem d2t{hx:ev x=some (.nl)}:
  ex2 P H ev ⟨d,.call ⟨.builtin .append,#[x,y],#[s,t]⟩,ty,p,af,g⟩ x y (some (.nl)) (some (.sl b 0 1 c)) hx hy=apN (apI P s t) (H.get b) H (opV P H ev ⟨d,.call ⟨.builtin .append,#[x,y],#[s,t]⟩,ty,p,af,g⟩):=by
 unfold apN;split
 .rename_i size bytes l own z f h;split
  .grind[d2r]
  .rfl
 .rfl
theorem d2u{a k:Nat}{hx:ev x=some (.slq a 0 k 0)}:
  ex2 P H ev ⟨d,.call ⟨.builtin .append,#[x,y],#[s,t]⟩,ty,p,af,g⟩ x y (some (.slq a 0 k 0)) (some (.sl b 0 1 c)) hx hy=apQ (apI P s t) k a (H.get a) (H.get b) H (opV P H ev ⟨d,.call ⟨.builtin .append,#[x,y],#[s,t]⟩,ty,p,af,g⟩):=by
 unfold apQ;split
 .rename_i size bytes r z l own w f A D;split
  .rename_i h;obtain⟨rfl,e2,e3,e4,U,Z,e7⟩:=h;grind[d2s]
  .rfl
 .rfl
theorem d2v{D:Nat}(U:tick=D){q f:Option (Nat×Nat)}{h A:Option Blk}{H:Mem}{els:R}(Z:q=f)(h2:h=A):apN q h H els=apN f A H els:=by grind
theorem d2w{Z:Nat}(a0:tick=Z){q f:Option (Nat×Nat)}{k a:Nat}{h A D U:Option Blk}{H:Mem}{els:R}(h1:q=f)(h2:h=A)(h3:D=U):apQ q k a h D H els=apQ f k a A U H els:=by grind
attribute [congr] d2v d2w
variable {els:R}{z w:Nat}{l r l0:List AV}{own own0:Bool}{k a n off:Nat}{G:Gb}
theorem d2x(f:0<size)(h:bytes<=1048576)(A:l.length=size):apN (some (size,bytes)) (some (.cells l own z)) ⟨.fn G,n⟩ els=.val (.slq n 0 1 0) ⟨.fn (Ak G n (some (.cells l true size))),n+1⟩:=if_pos ⟨f,h,A⟩
theorem d2y(f:0<size)(h:bytes<=1048576)(A:l.length=size)(D:r.length=k*size)(U:k<=1000000)(Z:allOne l=true):
  apQ (some (size,bytes)) k a (some (.cells r true size)) (some (.cells l own w)) ⟨.fn G,n⟩ els=.val (.slq n 0 (k+1) 0) ⟨.fn (Ak (Ak G a none) n (some (.cells (r++l) true size))),n+1⟩:=if_pos ⟨rfl,f,h,A,D,U,Z⟩
attribute [simp] d2t d2u d2x d2y
end
def rOf:R->Option AV
 | .val v _=>some v
 | _=>none
theorem d2z{g:Nat->Option AV}{ds:List Dfr}{H:Mem}{a:Tmp}{t:TypeId}:I9 P (.f g ds) H (.cell a t)=rOf (Fs P H t (g a)):=by
 show (match g a with|some p=>load P H t p|none=>none)=_;unfold Fs
 cases g a with
 | none=>rfl
 | some p =>
  dsimp only;cases load P H t p<;>rfl
theorem d3a{v:AV}{H:Mem}:rOf (.val v H)=some v:=(rfl)
attribute [simp] d2z d3a
theorem d3b{t:TypeId}{z:List AV}{size n:Nat}{g:Gb}(h:bsI P t=some (z,size)):
  bsS P ⟨.fn g,n⟩ t 0 (some (z,size)) (some [])=.val (.sl n 0 0 0) ⟨.fn (Ak g n (some (.cells [] true 0))),n+1⟩:=by
 unfold bsS;dsimp only;rw[if_neg (by omega)];exact c9v h
attribute [simp] d3b
section
variable {P:Program}{H:Mem}{ev:Ev}{d:Option Tmp}{ty:TypeId}{p:String}{af:Array Edge}{g:Option (Nat×Bool)}{x y:Operand}{s t:TypeId}{size bytes:Nat}
noncomputable def apF(q:Option (Nat×Nat))(k off:Nat)(ga gb:Option Blk)(H:Mem)(els:R):R:=match q,ga,gb with
 | some (size,bytes),some (.cells l0 _ _),some (.cells l _ _)=>if 0<size/\bytes<=1048576/\l.length=size/\off+(k+1)*size<=l0.length/\k<=1000000 then .val (.slq H.next 0 (k+1+1) 0) (H.add (.cells ((l0.drop off).take ((k+1)*size)++l) true size)) else els
 | _,_,_=>els
theorem d3c{a b c off k:Nat}{hx:ev x=some (.sl a off (k+1) (k+1))}{hy:ev y=some (.sl b 0 1 c)}:
  ex2 P H ev ⟨d,.call ⟨.builtin .append,#[x,y],#[s,t]⟩,ty,p,af,g⟩ x y (some (.sl a off (k+1) (k+1))) (some (.sl b 0 1 c)) hx hy=apF (apI P s t) k off (H.get a) (H.get b) H (opV P H ev ⟨d,.call ⟨.builtin .append,#[x,y],#[s,t]⟩,ty,p,af,g⟩):=by
 unfold apF;split
 .rename_i size bytes l0 Z z0 l own z f A D;split
  .rename_i h;obtain⟨U,e2,e3,e4,e5⟩:=h;show opV P H ev _=_;rw[Hk hx hy f,b0p (n:=0) rfl U (Uu D (by omega)) (by omega) A e4 (by omega) (by omega) e2]
  .rfl
 .rfl
theorem d3d{Z:Nat}(a0:tick=Z){q f:Option (Nat×Nat)}{k off:Nat}{h A D U:Option Blk}{H:Mem}{els:R}(h1:q=f)(h2:h=A)(h3:D=U):apF q k off h D H els=apF f k off A U H els:=by grind
attribute [congr] d3d
variable {els:R}{z w:Nat}{l l0:List AV}{own own0:Bool}{k n off:Nat}{G:Gb}
theorem d3e(f:0<size)(h:bytes<=1048576)(A:l.length=size)(D:off+(k+1)*size<=l0.length)(U:k<=1000000):
  apF (some (size,bytes)) k off (some (.cells l0 own0 w)) (some (.cells l own z)) ⟨.fn G,n⟩ els=.val (.slq n 0 (k+1+1) 0) ⟨.fn (Ak G n (some (.cells ((l0.drop off).take ((k+1)*size)++l) true size))),n+1⟩:=if_pos ⟨f,h,A,D,U⟩
attribute [simp] d3c d3e
end
section
variable {P:Program}{W:WF}{Q:Out→Prop}{fr:Fr}{H:Mem}{ev:Ev}{d:Option Tmp}{ty:TypeId}{p:String}{af:Array Edge}{g:Option (Nat×Bool)}
theorem d3f{o:Oper}{x y z:Operand}{u u' f r:Value}(h:o.op.operands=#[x,y,z])(hx:ev x=some (.lit u))(hy:ev y=some (.lit u'))(A:ev z=some (.lit f))
  (D:∀ρ:Operand->Value,ρ x=u->ρ y=u'->ρ z=f->Ap P (execOp ρ o)=some (.value r)):A3 P ev o=some (.lit r):=by
 simp_all[A3,toLit]
end
section
variable {P:Program}{W:WF}{Q:Out→Prop}{fr:Fr}{H:Mem}{ev:Ev}{d:Option Tmp}{ty:TypeId}{p:String}{af:Array Edge}{g:Option (Nat×Bool)}
noncomputable def O7(P:Program)(H:Mem)(ev:Ev)(o:Oper)(s t:TypeId)(ed:Option TypeDesc)(x:AV)(off n:Nat)(b:Option Blk):R:=match ed,b with
 | some (.int .u8),some (.cells l _ _)=>if off+n<=l.length then (match bytesOf ((l.drop off).take n) with|some bs=>.val (.lit (.string ⟨bs.toArray⟩)) H|none=>Eb P H ev o s t (some x)) else Eb P H ev o s t (some x)
 | _,_=>Eb P H ev o s t (some x)
theorem d3g{s t:TypeId}{x:Operand}{e:TypeId}{a off n c:Nat}(hx:ev x=some (.sl a off n c))(hs:P.underlying s=some (.slice e))(f:P.underlying t=some .string):
  cvS P H ev ⟨d,.convert s t x,ty,p,af,g⟩ s t (some (.slice e)) (some .string) (some (.sl a off n c))=O7 P H ev ⟨d,.convert s t x,ty,p,af,g⟩ s t (P.underlying e) (.sl a off n c) off n (H.get a):=by
 show Eb P H ev _ s t (some (.sl a off n c))=_;unfold O7;split
 .rename_i l own z A D;split
  .rename_i U;split
   .rename_i Z a0;unfold Eb;rw[Jm (x:=x) (by simp[Op.operands]) (λv' h=>by rw[hx] at h;cases h;rfl)];dsimp only;unfold Go.Ai.convert;rw[hs,f];dsimp only;rw[A];dsimp only[lenOf];have hf:Ci H 1 n (.sl a off n c)=some ((l.drop off).take n):=by
     have:=a2h (size:=1) (n:=n) (c:=c) D (by rw[Xk];omega);grind
    grind
   .rfl
  .rfl
 .rfl
theorem d3h{D:Nat}(U:tick=D){o:Oper}{s t:TypeId}{f h:Option TypeDesc}{x:AV}{off n:Nat}{b A:Option Blk}(Z:f=h)(h2:b=A):O7 P H ev o s t f x off n b=O7 P H ev o s t h x off n A:=by grind
attribute [congr] d3h
noncomputable def Rh(H:Mem)(els:R)(x:Option (List UInt8)):R:=match x with|some bs=>.val (.lit (.string ⟨bs.toArray⟩)) H|none=>els
theorem d3i{A:Nat}(D:tick=A){H:Mem}{els:R}{x f:Option (List UInt8)}(h:x=f):Rh H els x=Rh H els f:=by rw[h]
attribute [congr] d3i
theorem d3j{els:R}{f:List UInt8}:Rh H els (some f)=.val (.lit (.string ⟨f.toArray⟩)) H:=(rfl)
theorem d3k{o:Oper}{s t:TypeId}{x:AV}{off n:Nat}{l:List AV}{own:Bool}{z:Nat}(f:off+n<=l.length):O7 P H ev o s t (some (.int .u8)) x off n (some (.cells l own z))=Rh H (Eb P H ev o s t (some x)) (bytesOf ((l.drop off).take n)):=by
 simp_all[Rh,O7]
def b1f(x:UInt8)(l:Option (List UInt8)):Option (List UInt8):=match l with|some r=>some (x::r)|none=>none
theorem b1g{n:Int}{l:List AV}:bytesOf (.lit (.int .u8 n)::l)=b1f (UInt8.ofNat n.toNat) (bytesOf l):=by
 rfl
theorem b1h{x:UInt8}{r:List UInt8}:b1f x (some r)=some (x::r):=(rfl)
attribute [simp] d3g d3k d3j b1g b1h
end
theorem Ae{g:Gb}{a j:Nat}{x:Option Blk}(h:j≠a):Ak g a x j=g j:=if_neg h
theorem Ah{g:Gb}{a:Nat}{x:Option Blk}:Ak g a x a=x:=if_pos rfl
theorem ba_lawful:LawfulBEq ByteArray where
 eq_of_beq:=λ{a b} h=>by grind[a2i]
 rfl:=λ{a}=>by grind[a2i]
def Af(g:Gb)(b:Nat)(sv:AV)(len:Nat)(cs:List AV):Prop:=
 (len=0/\cs=[]/\(sv=.nl\/sv=.es))\/∃a off,a<b/\((∃c,sv=.sl a off len c)\/∃c,sv=.slq a off len c)/\Row g a off cs
theorem Af.mono{g g': Gb}{b f len:Nat}{sv:AV}{cs:List AV}(hb:b<=f)(h:∀a,a<b->g' a=g a):Af g b sv len cs->Af g' f sv len cs:=
 λhs=>hs.imp id λ⟨a,off,A,D,U⟩=>⟨a,off,by omega,D,U.mono (h a A)⟩
abbrev Xw:=@Af.mono
theorem Ez{g:Gb}{a n len c:Nat}{cs:List AV}{own:Bool}{z:Nat}(h:g a=some (.cells cs own z))(f:a<n):Af g n (.sl a 0 len c) len cs:=
 .inr ⟨a,0,f,.inl ⟨c,rfl⟩,⟨cs,own,z,h,by simp[*]⟩⟩
inductive Dq where
 | mk (op:Nat) (a b:Int) (subs:List Dq)
def Dq.op:Dq->Nat
 | .mk op _ _ _=>op
mutual
def L5(g:Gb)(b:Nat):Dq->List AV->Prop
  | .mk op k q subs,cs=>op<256/\∃sv,cs=[.lit (.int .u8 op),.li k,.li q,sv] /\
    ((subs=[]/\(sv=.nl\/sv=.es)) \/
     ∃a off r,a<b/\((∃c,sv=.sl a off subs.length c)\/(∃c,sv=.slq a off subs.length c))/\Row g a off r/\repL g b subs r)
def repL (g:Gb) (b:Nat):List Dq->List AV->Prop
 | [],cs=>cs=[]
 | x::l,cs=>∃c r,cs=c++r/\L5 g b x c/\repL g b l r
end
mutual
theorem Ko{g g' : Gb}{b f:Nat}(hb:b<=f)(h:∀a x,a<b->g a=some x->g' a=some x):∀{x:Dq}{cs:List AV},L5 g b x cs->L5 g' f x cs
 | .mk op k q a0,cs,⟨A,sv,D,U⟩=>⟨A,sv,D,U.imp id λ⟨a,off,r,Z,h4,⟨l,own,z,h5,h6⟩,h7⟩=>⟨a,off,r,by omega,h4,⟨l,own,z,h a _ Z h5,h6⟩,repL_ext hb h h7⟩⟩
theorem repL_ext {g g' : Gb} {b f:Nat} (hb:b<=f) (h:∀a x,a<b->g a=some x->g' a=some x):∀{l:List Dq}{cs:List AV},repL g b l cs->repL g' f l cs
 | [],_,A=>A
 | _::_,_,⟨c,r,D,U,Z⟩=>⟨c,r,D,Ko hb h U,repL_ext hb h Z⟩
end
theorem b1i{g:Gb}{b:Nat}{x:Dq}{cs:List AV}(h:L5 g b x cs):repL g b [x] cs:=⟨cs,[],by simp,h,rfl⟩
def Jq(g:Gb)(n n' : Nat)(x:Dq)(cs:List AV):Prop:=∃gk:Gb,(∀a z,gk a=some z->g a=some z/\n<=a/\a<n')/\L5 gk n' x cs
theorem Jq.keep{g g': Gb}{n:Nat}{x:Dq}{cs:List AV}(h:Jq g n n' x cs)(Z:n0<=n)(A:n'<=n2)(hg:∀a,n<=a->a<n'->g' a=g a):Jq g' n0 n2 x cs:=by
 obtain⟨D,h1,U⟩:=h;refine⟨D,λa z f=>?_,Ko A (λa z _ f=>f) U⟩;grind
theorem Jq.rep{g:Gb}{n:Nat}{x:Dq}{cs:List AV}(h:Jq g n n' x cs):L5 g n' x cs:=by
 obtain⟨U,f,A⟩:=h;exact Ko (Wy _) (λa z _ D=>(f a z D).1) A
def Uv(g:Gb)(n n' : Nat)(l:List Dq)(cs:List AV):Prop:=∃gk:Gb,(∀a z,gk a=some z->g a=some z/\n<=a/\a<n')/\repL gk n' l cs
theorem Uv.one{g:Gb}{n:Nat}{x:Dq}{cs:List AV}(h:Jq g n n' x cs):Uv g n n' [x] cs:=by
 obtain⟨f,A,D⟩:=h;exact⟨f,A,b1i D⟩
theorem Uv.two{g:Gb}{n:Nat}{x y:Dq}{cs ds:List AV}(h:Jq g n n' x cs)(A:Jq g n n' y ds):Uv g n n' [x,y] (cs++ds):=by
 obtain⟨Z,h1,D⟩:=h;obtain⟨gl,h4,U⟩:=A;refine⟨λa=>if n<=a/\a<n' then g a else none,λa z f=>?_,cs,ds,rfl,Ko (Wy _) (λa z _ f=>?_) D,b1i (Ko (Wy _) (λa z _ f=>?_) U)⟩
 all_goals grind
def Kp(g:Gb)(n q n' : Nat)(x:Dq)(cs:List AV):Prop:=∃gk:Gb,(∀a z,gk a=some z->g a=some z/\n<=a/\a<n'/\a≠q)/\L5 gk n' x cs
theorem Kp.rep{g:Gb}{n q:Nat}{x:Dq}{cs:List AV}(h:Kp g n q n' x cs):L5 g n' x cs:=by
 obtain⟨U,f,A⟩:=h;exact Ko (Wy _) (λa z _ D=>(f a z D).1) A
theorem Kp.of{g g': Gb}{n q:Nat}{x:Dq}{cs:List AV}(h:Jq g n n' x cs)(Z:n'<=q)(A:n'<=n2)(hg:∀a,n<=a->a<n'->g' a=g a):Kp g' n q n2 x cs:=by
 obtain⟨D,h3,U⟩:=h;refine⟨D,λa z f=>?_,Ko A (λa z _ f=>f) U⟩;grind
theorem Kp.fresh{g g': Gb}{n q:Nat}{x:Dq}{cs:List AV}(h:Kp g n q n' x cs)(Z:n0<=n)(A:n'<=n2)(hg:∀a,n<=a->a<n'->a≠q->g' a=g a):Jq g' n0 n2 x cs:=by
 obtain⟨D,h1,U⟩:=h;refine⟨D,λa z f=>?_,Ko A (λa z _ f=>f) U⟩;grind
theorem Kp.keep{g g': Gb}{n q:Nat}{x:Dq}{cs:List AV}(h:Kp g n q n' x cs)(A:n'<=n2)(Z:∀a,n<=a->a<n'->a≠q->g' a=g a):Kp g' n q n2 x cs:=by
 obtain⟨D,h1,U⟩:=h;refine⟨D,λa z f=>?_,Ko A (λa z _ f=>f) U⟩;grind
inductive e5r where
 | ok (x:Dq) (k:Nat)
 | err (k:Nat)
structure Az where
 inp:Int
 out:Int
 rows:Tq
def Az.edge(M:Az)(s:Nat)(i:Nat):Int×Int:=((M.rows.getD s []).getD i (-1,-1))
def succL:List (Int×Int)->List Nat
 | []=>[]
 | e::l=>if e.1<0 then succL l else e.1.toNat::succL l
def Az.gr(M:Az):Nl:=⟨M.rows.length,λs=>succL (M.rows.getD s [])⟩
def Dc(n:Nat)(out:Int)(e:Int×Int):Bool:=decide (e=(-1,-1))||(decide (0<=e.1)&&(decide (e.1<n)&&(decide (0<=e.2)&&decide (e.2<out))))
def Az.ok(M:Az):Prop:=1<=M.inp/\M.inp<=16/\1<=M.out/\M.out<=16/\1<=M.rows.length/\M.rows.length<=64/\∀r∈M.rows,(r.length:Int)=M.inp/\∀e∈r,Dc M.rows.length M.out e=true
theorem eqS.refl(n:Nat)(X:SetS):eqS n X X:=λ_ _=>rfl
theorem Row.ext{g g': Gb}{a off:Nat}{cs:List AV}(f:Row g a off cs)(h:∀x,g a=some x->g' a=some x):Row g' a off cs:=
 let ⟨l,own,z,A,D,U⟩:=f;⟨l,own,z,h _ A,D,U⟩
theorem Af.ext{g g': Gb}{b f len:Nat}{sv:AV}{cs:List AV}(hb:b<=f)(h:∀a x,a<b->g a=some x->g' a=some x):Af g b sv len cs->Af g' f sv len cs:=
 λhs=>hs.imp id λ⟨a,off,A,D,U⟩=>⟨a,off,by omega,D,U.ext λx hx=>h a x A hx⟩
abbrev Xx:=@Af.ext
theorem Af.one{g:Gb}{b len:Nat}{sv:AV}{cs:List AV}:Af g b sv len cs->oneC sv=true:=by
 rintro (⟨_,_,rfl|rfl⟩|⟨a,off,_,⟨c,rfl⟩|⟨c,rfl⟩,_⟩)<;>rfl
def O8(g:Gb)(b:Nat)(sv:AV)(len:Nat)(cs:List AV):Prop:=
 (len=0/\(sv=.nl\/sv=.es))\/∃a off c,a<b/\sv=.sl a off len c/\Row g a off cs
theorem O8.mono{g g': Gb}{b f len:Nat}{sv:AV}{cs:List AV}(hb:b<=f)(h:∀a,a<b->g' a=g a):O8 g b sv len cs->O8 g' f sv len cs:=
 λhs=>hs.imp id λ⟨a,off,c,A,D,U⟩=>⟨a,off,c,by omega,D,U.mono (h a A)⟩
theorem O8.one{g:Gb}{b len:Nat}{sv:AV}{cs:List AV}:O8 g b sv len cs->oneC sv=true:=by
 rintro (⟨_,rfl|rfl⟩|⟨a,off,c,_,rfl,_⟩)<;>rfl
def Ar(r:List (Int×Int)):List AV:=r.flatMap λe=>[.li e.1,.li e.2]
theorem rowC_len:∀(r:List (Int×Int)),(Ar r).length=r.length*2
 | []=>rfl
 | e::r=>by
  have:=rowC_len r;unfold Ar at this |-;rw[e7i,W1,this,Xi];simp;omega
theorem b1j(r:List (Int×Int))(e:Int×Int):Ar (r++[e])=Ar r++[.li e.1,.li e.2]:=by
 grind[Ar]
theorem rowC_at:∀(r:List (Int×Int)) (k:Nat) (h:k<r.length),((Ar r).drop (k*2)).take 2=[.lit (.int .i64 r[k].1),.lit (.int .i64 r[k].2)]
 | e::r,0,_=>rfl
 | e::r,k+1,h=>by
  have:=rowC_at r k (by grind);have f:Ar (e::r)=[.li e.1,.li e.2]++Ar r:=rfl;grind
theorem O9(f:List (Int×Int))(k:Nat)(h:k<f.length):(Ar f)[k*2]?=some (.lit (.int .i64 f[k].1))/\(Ar f)[k*2+1]?=some (.lit (.int .i64 f[k].2)):=by
 have A:=rowC_at f k h;have D:(((Ar f).drop (k*2)).take 2)[0]?=some (.lit (.int .i64 f[k].1)):=by grind
 have U:(((Ar f).drop (k*2)).take 2)[1]?=some (.lit (.int .i64 f[k].2)):=by grind
 grind
def RowsE(g:Gb)(b:Nat):Tq->List AV->Prop
 | [],cs=>cs=[]
 | r::l,cs=>∃c t,cs=c::t/\Af g b c r.length (Ar r)/\RowsE g b l t
theorem RowsE.ext{g g': Gb}{b f:Nat}(hb:b<=f)(h:∀a x,a<b->g a=some x->g' a=some x):∀{l:Tq}{cs:List AV},RowsE g b l cs->RowsE g' f l cs
 | [],_,A=>A
 | _::_,_,⟨c,t,D,U,Z⟩=>⟨c,t,D,U.ext hb h,Z.ext hb h⟩
theorem RowsE.len{g:Gb}{b:Nat}:∀{l:Tq}{cs:List AV},RowsE g b l cs->cs.length=l.length
 | [],cs,h=>by have D:cs=[]:=h;grind
 | r::l,cs,⟨c,t,f,U,A⟩=>by rw[f,Xi,Xi,A.len]
theorem RowsE.at{g:Gb}{b:Nat}:∀{l:Tq}{cs:List AV},RowsE g b l cs->∀(k:Nat)(h:k<l.length)(f:k<cs.length),Af g b cs[k] l[k].length (Ar l[k])
 | r::l,cs,⟨c,t,A,U,D⟩,0,h,f=>by grind
 | r::l,cs,⟨c,t,A,U,D⟩,k+1,h,f=>by subst A;exact D.at k (by grind) (by grind)
theorem RowsE.snoc{g:Gb}{b:Nat}{r:List (Int×Int)}{c:AV}(f:Af g b c r.length (Ar r)):∀{l:Tq}{cs:List AV},RowsE g b l cs->RowsE g b (l++[r]) (cs++[c])
 | [],cs,h=>by have A:cs=[]:=h;subst A;exact⟨c,[],rfl,f,rfl⟩
 | _::_,_,⟨d,t,Z,D,U⟩=>⟨d,t++[c],by grind,D,U.snoc f⟩
def Cx(g:Gb)(b:Nat)(M:Az)(cs:List AV):Prop:=
 ∃sv svs,cs=[.li M.inp,.li M.out,sv]/\RowsE g b M.rows svs/\Af g b sv M.rows.length svs
theorem Cx.ext{g g': Gb}{b f:Nat}(hb:b<=f)(h:∀a x,a<b->g a=some x->g' a=some x){M:Az}{cs:List AV}:Cx g b M cs->Cx g' f M cs:=
 λ⟨sv,A,D,U,Z⟩=>⟨sv,A,D,U.ext hb h,Z.ext hb h⟩
theorem Cx.mono{g g': Gb}{b f:Nat}(hb:b<=f)(h:∀a,a<b->g' a=g a){M:Az}{cs:List AV}(A:Cx g b M cs):Cx g' f M cs:=A.ext hb λa x D hx=>(h a D).trans hx
theorem Cx.one{g:Gb}{b:Nat}{M:Az}{cs:List AV}(h:Cx g b M cs):∃sv,cs=[.li M.inp,.li M.out,sv]/\oneC sv=true:=
 let ⟨sv,_,f,_,A⟩:=h;⟨sv,f,A.one⟩
def Ri(g:Gb)(n n' : Nat)(M:Az)(cs:List AV):Prop:=∃gk:Gb,(∀a z,gk a=some z->g a=some z/\n<=a/\a<n')/\Cx gk n' M cs
theorem Ri.keep{g g': Gb}{n:Nat}{M:Az}{cs:List AV}(h:Ri g n n' M cs)(Z:n0<=n)(A:n'<=n2)(hg:∀a,n<=a->a<n'->g' a=g a):Ri g' n0 n2 M cs:=by
 obtain⟨D,h1,U⟩:=h;refine⟨D,λa z f=>?_,U.ext A λa z _ f=>f⟩;grind
theorem Ri.rep{g:Gb}{n:Nat}{M:Az}{cs:List AV}(h:Ri g n n' M cs):Cx g n' M cs:=
 let ⟨_,f,A⟩:=h;A.ext (Wy _) λa z _ D=>(f a z D).1
def D4(g:Gb)(lo n' B:Nat)(sv:AV)(len sz:Nat)(cs:List AV):Prop:=
 (len=0/\cs=[]/\sv=.nl)\/(0<len/\sv=.slq B 0 len 0/\lo<=B/\B<n'/\g B=some (.cells cs true sz)/\cs.length=len*sz)
theorem D4.keep{g g': Gb}{lo len:Nat}{sv:AV}{cs:List AV}(h:D4 g lo n' B sv len sz cs)(hn:n'<=n2)(A:lo<=B->B<n'->g' B=g B):D4 g' lo n2 B sv len sz cs:=
 h.imp id λ⟨D,U,f,Z,h4,h5⟩=>⟨D,U,f,by omega,(A f Z).trans h4,h5⟩
theorem D4.mk{g:Gb}{lo len:Nat}{cs:List AV}(h:g B=some (.cells cs true sz))(f:lo<=B)(A:B<n')(D:cs.length=(len+1)*sz):D4 g lo n' B (.slq B 0 (len+1) 0) (len+1) sz cs:=
 .inr ⟨by omega,rfl,f,A,h,D⟩
theorem D4.one{g:Gb}{lo len:Nat}{sv:AV}{cs:List AV}:D4 g lo n' B sv len sz cs->oneC sv=true:=by
 rintro (⟨_,_,rfl⟩|⟨_,rfl,_⟩)<;>rfl
theorem D4.slice {g:Gb} {lo n' B len sz:Nat} {sv:AV} {cs:List AV} (h:D4 g lo n' B sv len sz cs) : Af (fun a=>if a=B/\lo<=B/\B<n' then g a else none) n' sv len cs:=by
 rcases h with⟨h1,h2,h3⟩|⟨h0,h1,h2,h3,h4,h5⟩
 ·exact .inl ⟨h1,h2,.inl h3⟩
 ·exact .inr ⟨B,0,h3,.inr ⟨0,h1⟩,cs,true,sz,(if_pos ⟨rfl,h2,h3⟩).trans h4,by simp,by simp⟩
def wdC(w:Wd):List AV:=w.map λi=>.li i
theorem Cb(w:Wd):(wdC w).length=w.length:=by simp[wdC]
theorem Kq(w:Wd)(k:Nat)(h:k<w.length):(wdC w)[k]?=some (.lit (.int .i64 w[k])):=by grind[wdC]
theorem wdC_one:∀(w:Wd),allOne (wdC w)=true
 | []=>rfl
 | i::w=>wdC_one w
def Al(g:Gb)(n:Nat)(w:Wd)(sv:AV):Prop:=Af g n sv w.length (wdC w)
theorem Au{P:Program}{g:Gb}{b len:Nat}{sv:AV}{cs:List AV}(h:Af g b sv len cs):∀{H:Mem}{ev:Ev}{o:Oper}{c:Call}{e:TypeId},Jk P H ev o c (some (.slice e)) (some [sv])=.val (.li len) H:=by
 intro H ev o c e;rcases h with⟨rfl,_,rfl|rfl⟩|⟨a,off,_,⟨f,rfl⟩|⟨f,rfl⟩,_⟩<;>rfl
theorem Af.ia{g:Gb}{b len:Nat}{sv:AV}{cs:List AV}(h:Af g b sv len cs){k:Nat}(f:k<len)(sz:Nat):
  ∃a off,a<b/\Row g a off cs/\∀{H:Mem}{ev:Ev}{o:Oper}{t:TypeId},iaS P H ev o t (some (none,sz)) (some sv) (some (.li (k:Int)))=.val (.ptr a (off+k*sz)) H:=by
 rcases h with⟨A,_⟩|⟨a,off,D,⟨c,rfl⟩|⟨c,rfl⟩,U⟩
 all_goals grind[b0m,a2e]
abbrev X4:=@Af.ia
def RowsW(g:Gb)(n:Nat)(l:Wq)(svs:List AV):Prop:=svs.length=l.length/\∀(k:Nat)(h:k<l.length),∃sv,svs[k]?=some sv/\Al g n l[k] sv
theorem RowsW.ext{g g': Gb}{b f:Nat}{l:Wq}{A:List AV}(h:RowsW g b l A)(hb:b<=f)(D:∀a x,a<b->g a=some x->g' a=some x):RowsW g' f l A:=
 ⟨h.1,λk U=>let ⟨sv,Z,h2⟩:=h.2 k U;⟨sv,Z,Xx hb D h2⟩⟩
def longM:Wq->Nat
 | []=>0
 | w::l=>max w.length (longM l)
theorem longM_snoc:∀(l:Wq)(w:Wd),longM (l++[w])=max (longM l) w.length
 | [],w=>by simp[longM]
 | x::l,w=>by simp only[e8r,longM,longM_snoc l w,Nat.max_assoc]
theorem le_longM:∀{l:Wq}{w:Wd},w∈l->w.length<=longM l
 | x::l,w,h=>by
  unfold longM;rcases Xb.1 h with rfl|h
  .omega
  .have:=le_longM h;omega
theorem Rj{l:Wq}{m:Nat}(h:∀w∈l,w.length<=m):longM l<=m:=by
 induction l with
 | nil=>exact W3 _
 | cons x l f =>
  grind[longM]
section
variable {P:Program}{H:Mem}{ev:Ev}{d:Option Tmp}{ty:TypeId}{p:String}{af:Array Edge}{g:Option (Nat×Bool)}
noncomputable def mkI(P:Program)(t:TypeId):Option AV:=match Fp P t with
 | some (e,size,bytes)=>if size=1/\bytes<=1048576 then (match Br P e with|some [v]=>some v|_=>none) else none
 | none=>none
noncomputable def Fy(P:Program)(H:Mem)(t:TypeId)(q:Option AV)(x y:Option AV):R:=match q,x,y with
 | some v,some (.li a),some (.li b)=>if a=b/\0<=a/\a<=1048576 then .val (.sl H.next 0 a.toNat a.toNat) (H.add (.cells (List.replicate a.toNat v) true 0)) else Ec P H t x y
 | _,_,_=>Ec P H t x y
theorem Rk(v:AV):∀n,rep [v] n=List.replicate n v
 | 0=>rfl
 | n+1=>by rw[Ug,Rk v n];rfl
theorem d3l{t:TypeId}{v:AV}(h:mkI P t=some v):∃e bytes,Fp P t=some (e,1,bytes)/\bytes<=1048576/\Br P e=some [v]:=by
 unfold mkI at h;grind
theorem d3m{t:TypeId}{l c:Operand}:opV P H ev ⟨d,.makeSlice t l c,ty,p,af,g⟩=Fy P H t (mkI P t) (ev l) (ev c):=by
 show Ec P H t (ev l) (ev c)=_;unfold Fy;split
 .rename_i v a b f hx hy;split
  .rename_i h;obtain⟨rfl,A,h1⟩:=h;obtain⟨e,bytes,D,h3,h4⟩:=d3l f;rw[hx,hy];unfold Ec;rw[D];simp only[Option.bind_some,Ik A];have U:(Nat.ble a.toNat a.toNat&&Nat.ble a.toNat 1048576&&Nat.ble bytes 1048576)=true:=by
    simp_all
   rw[U];by_cases Z:a.toNat=0
   .have e1:Ea P e (a.toNat*1)=some []:=by unfold Ea;simp[*]
    rw[e1];dsimp only;rw[Z];simp[C9,Xy]
   grind[Mem.newK_eq,C9,Rk,Nat.eq_of_beq_eq_true,Ea]
  rfl
 .rfl
theorem d3n{D:Nat}(U:tick=D){t:TypeId}{q f:Option AV}{x h y A:Option AV}{H H' : Mem}(Z:q=f)(h1:H=H')(h2:x=h)(h3:y=A):Fy P H t q x y=Fy P H' t f h A:=by grind
attribute [congr] d3n
theorem d3o{t:TypeId}{v:AV}{a:Int}(f:0<=a)(h:a<=1048576):Fy P H t (some v) (some (.li a)) (some (.li a))=.val (.sl H.next 0 a.toNat a.toNat) (H.add (.cells (List.replicate a.toNat v) true 0)):=if_pos ⟨rfl,f,h⟩
attribute [simp] d3m d3o
end
section
variable {H:Mem}
theorem d3p{l:List AV}{z:Nat}{f:Bool}{a off:Nat}{k:IntKind}{v:Int}(h:off<l.length):
  stS (some (f,1)) (some (.cells l true z)) H a off [.lit (.int k v)]=.skip (H.upd a (.cells (l.set off (.lit (.int k v))) true z)):=by
 refine(Uf (size:=1) rfl rfl h).trans ?_;simp_all[List.set_eq_take_append_cons_drop]
attribute [simp] d3p
end
section
variable {P:Program}{H:Mem}{ev:Ev}{d:Option Tmp}{ty:TypeId}{p:String}{af:Array Edge}{g:Option (Nat×Bool)}
noncomputable def Nn(P:Program)(H:Mem)(ev:Ev)(o:Oper)(q:Option TypeDesc)(x:Option AV):R:=match x,q with
 | some (.sl _ _ _ n),some (.slice _)=>.val (.li n) H
 | some (.lit (.slice none _ n)),some (.slice _)=>.val (.li n) H
 | _,_=>opV P H ev o
theorem d3q{x:Operand}{t:TypeId}:opV P H ev ⟨d,.call ⟨.builtin .cap,#[x],#[t]⟩,ty,p,af,g⟩=Nn P H ev ⟨d,.call ⟨.builtin .cap,#[x],#[t]⟩,ty,p,af,g⟩ (P.underlying t) (ev x):=by
 unfold Nn;split
 .rename_i a off n k e hx f;show Bj P H ev ⟨d,.call ⟨.builtin .cap,#[x],#[t]⟩,ty,p,af,g⟩ ⟨.builtin .cap,#[x],#[t]⟩=_;have h:Be ev [x]=some [.sl a off n k]:=by simp_all
  have A:A3 P ev ⟨d,.call ⟨.builtin .cap,#[x],#[t]⟩,ty,p,af,g⟩=none:=by
   unfold A3;have D:(Op.operands (.call ⟨.builtin .cap,#[x],#[t]⟩)).toList=[x]:=by rfl
   dsimp only;rw[D];have l1:toLit (.sl a off n k)=none:=rfl;grind
  unfold Bj;rw[show (#[x]:Array Operand).toList=[x] from rfl,h];dsimp only;unfold E7 K9;dsimp only;rw[A];have e2:((⟨.builtin .cap,#[x],#[t]⟩:Call).argTypes[0]?).bind P.underlying=P.underlying t:=rfl;dsimp only;rw[e2,f];rfl
 .rename_i m n e hx f;show Bj P H ev ⟨d,.call ⟨.builtin .cap,#[x],#[t]⟩,ty,p,af,g⟩ ⟨.builtin .cap,#[x],#[t]⟩=_;have h:Be ev [x]=some [.lit (.slice none m n)]:=by simp_all
  have A:A3 P ev ⟨d,.call ⟨.builtin .cap,#[x],#[t]⟩,ty,p,af,g⟩=some (.li n):=by
   refine Ue (u:=.slice none m n) (r:=.int .i64 n) (by rfl) hx λρ U=>?_;rw[Jc (b:=.cap) (c:=⟨.builtin .cap,#[x],#[t]⟩) rfl rfl];have Z:(#[x]:Array Operand).map ρ=#[ρ x]:=by simp
   rw[Z];have a0:Ap P (Builtin.cap_ #[t] ty #[ρ x])=some (goInt n):=by
    rw[U];refine(Bi (m:=underlying t) (a:=TypeDesc.slice e) (Hj f)).trans ?_;rfl
   show Ap P (do pure (Next.value (<- Builtin.cap_ #[t] ty #[ρ x])))=_;exact(Bi a0).trans rfl
  unfold Bj;rw[show (#[x]:Array Operand).toList=[x] from rfl,h];simp_all[K9,E7]
 .rfl
theorem d3r{A:Nat}(D:tick=A){o:Oper}{q f:Option TypeDesc}{x h:Option AV}{H H' : Mem}(U:H=H')(Z:q=f)(h3:x=h):Nn P H ev o q x=Nn P H' ev o f h:=by grind
attribute [congr] d3r
theorem b1k{o:Oper}{e:TypeId}{a off n k:Nat}:Nn P H ev o (some (.slice e)) (some (.sl a off n k))=.val (.li k) H:=(rfl)
theorem a2x{o:Oper}{e:TypeId}{n k:Nat}:Nn P H ev o (some (.slice e)) (some (.lit (.slice none n k)))=.val (.li k) H:=(rfl)
attribute [simp] d3q b1k a2x
end
section
variable {P:Program}{H:Mem}{ev:Ev}{d:Option Tmp}{ty:TypeId}{p:String}{af:Array Edge}{g:Option (Nat×Bool)}
variable {t:TypeId}{x hi mx:Operand}{i:Int}{n c:Nat}{k:IntKind}
theorem d3s:opV P H ev ⟨d,.slice t x none (some hi) (some mx),ty,p,af,g⟩=ex3 P H ev ⟨d,.slice t x none (some hi) (some mx),ty,p,af,g⟩ x hi mx (ev x) (ev hi) (ev mx) rfl rfl rfl:=(rfl)
theorem d3t(f:i=n):C2 none (some (.lit (.int k i))) (some (.lit (.int k i))) n n=some (0,n,n):=by
 unfold C2 Iz;simp_all[Ik,e6q,Oe]
theorem d3u(f:i=n)(h:n<=c):C2 none (some (.lit (.int k i))) (some (.lit (.int k i))) n c=some (0,n,n):=by
 unfold C2 Iz;simp_all[Ik,e6q,Oe]
theorem d3v{a off:Nat}{hx:ev x=some (.slq a off n c)}{hh:ev hi=some (.lit (.int k i))}{f:ev mx=some (.lit (.int k i))}(D:(Bp P t).map (·.1)=some none)(h1:i=n)(h2:0<n):
  ex3 P H ev ⟨d,.slice t x none (some hi) (some mx),ty,p,af,g⟩ x hi mx (some (.slq a off n c)) (some (.lit (.int k i))) (some (.lit (.int k i))) hx hh f=.val (.sl a off n n) H:=by
 show opV P H ev _=_;show Cw P H ev _ t (ev x) none (some hi) (some mx)=_;unfold Cw;rw[Jm (x:=x) (by simp[Op.operands]) (λv' h=>by rw[hx] at h;cases h;rfl),hx];obtain⟨q,U,A⟩:=Xq.1 D;obtain⟨q1,q2⟩:=q;dsimp only at A;subst A;obtain⟨e,i',Z,h4,h5⟩:=Jn U;dsimp only;unfold Gg Er;dsimp only;rw[hh,f];dsimp only;rw[L4 Z h4];grind[I1,d3t,I0,Nat.eq_of_beq_eq_true,ofOpt,Dy]
theorem d3w{a off:Nat}{hx:ev x=some (.sl a off n c)}{hh:ev hi=some (.lit (.int k i))}{f:ev mx=some (.lit (.int k i))}(U:(Bp P t).map (·.1)=some none)(h1:i=n)(h2:0<n)(A:n<=c):
  ex3 P H ev ⟨d,.slice t x none (some hi) (some mx),ty,p,af,g⟩ x hi mx (some (.sl a off n c)) (some (.lit (.int k i))) (some (.lit (.int k i))) hx hh f=.val (.sl a off n n) H:=by
 show opV P H ev _=_;show Cw P H ev _ t (ev x) none (some hi) (some mx)=_;unfold Cw;rw[Jm (x:=x) (by simp[Op.operands]) (λv' h=>by rw[hx] at h;cases h;rfl),hx];obtain⟨q,Z,D⟩:=Xq.1 U;obtain⟨q1,q2⟩:=q;dsimp only at D;subst D;obtain⟨e,i',A,h4,h5⟩:=Jn Z;dsimp only;unfold Gg Er;dsimp only;rw[hh,f];dsimp only;rw[L4 A h4];grind[I1,d3u,I0,Nat.eq_of_beq_eq_true,ofOpt,Dy]
theorem d3x{hx:ev x=some (.nl)}{hh:ev hi=some (.li 0)}{f:ev mx=some (.li 0)}(A:(Bp P t).map (·.1)=some none):
  ex3 P H ev ⟨d,.slice t x none (some hi) (some mx),ty,p,af,g⟩ x hi mx (some (.nl)) (some (.li 0)) (some (.li 0)) hx hh f=.val (.nl) H:=by
 show opV P H ev _=_;show Cw P H ev _ t (ev x) none (some hi) (some mx)=_;unfold Cw;rw[d3f (r:=.slice none 0 0) (x:=x) (y:=hi) (z:=mx) (by rfl) hx hh f λρ D e2 e3=>?_];show Ap P (do pure (Next.value (<- Instr.sliceAt t (ρ x) none (some (ρ hi)) (some (ρ mx)))))=_;rw[D,e2,e3];obtain⟨q,U,h⟩:=Xq.1 A;obtain⟨q1,q2⟩:=q;dsimp only at h;subst h;obtain⟨e,i,Z,hi',h5⟩:=Jn U;have key:Ap P (Instr.slice t (.slice none 0 0) none (some (.int .i64 0)) (some (.int .i64 0)))=some (.slice none 0 0):=by
  unfold Instr.slice;refine(Bi (m:=underlying t) (a:=TypeDesc.slice e) (Hj Z)).trans ?_;dsimp only;refine(Bi (a:=(0,0,0)) ?_).trans ?_
  .rfl
  .refine(Bi (m:=sizeOf e) (a:=i.size) ?_).trans ?_
   .exact(Bi (b1d hi')).trans rfl
   .rfl
 have a0:Ap P (Instr.sliceAt t (.slice none 0 0) none (some (.int .i64 0)) (some (.int .i64 0)))=some (.slice none 0 0):=by
  grind[Instr.sliceAt,Hj,Bi]
 rw[Bi a0];rfl
attribute [simp] d3s d3v d3w d3x
end
section
variable {P:Program}{H:Mem}{ev:Ev}{d:Option Tmp}{ty:TypeId}{p:String}{af:Array Edge}{g:Option (Nat×Bool)}{x y:Operand}{s t:TypeId}{size bytes:Nat}
open Classical in
noncomputable def apV(q:Option (Nat×Nat))(sz off len:Nat)(cs:List AV)(ga gb blk:Option Blk)(H:Mem)(els:R):R:=match q,ga with
 | some (size,bytes),some (.cells l0 _ _)=>if gb=blk/\size=sz/\0<size/\bytes<=1048576/\off<=l0.length then .val (.slq H.next 0 len 0) (H.add (.cells cs true size)) else els
 | _,_=>els
theorem d3y{Z:Nat}(a0:tick=Z){q f:Option (Nat×Nat)}{sz off len:Nat}{cs:List AV}{h A D U blk:Option Blk}{H:Mem}{els:R}(h1:q=f)(h2:h=A)(h3:D=U):apV q sz off len cs h D blk H els=apV f sz off len cs A U blk H els:=by grind
attribute [congr] d3y
theorem d3z{l0 cs:List AV}{own:Bool}{z len off n:Nat}{G:Gb}{els:R}{b:Option Blk}(f:0<size)(h:bytes<=1048576)(A:off<=l0.length):apV (some (size,bytes)) size off len cs (some (.cells l0 own z)) b b ⟨.fn G,n⟩ els=.val (.slq n 0 len 0) ⟨.fn (Ak G n (some (.cells cs true size))),n+1⟩:=if_pos ⟨rfl,rfl,f,h,A⟩
attribute [simp] d3z
theorem Rl{a off n c size:Nat}{cs:List AV}{l:List AV}{own:Bool}{z:Nat}{v:AV}(f:v=.sl a off n c\/v=.slq a off n c)(h:H.get a=some (.cells l own z))(A:(l.drop off).take (cs.length)=cs)(D:off+cs.length<=l.length)(U:cs.length=n*size):Ci H size n v=some cs:=by
 rcases f with rfl|rfl
 all_goals grind[a2h,d0i]
end
section
variable {H:Mem}
theorem d4a{l:List AV}{z:Nat}{f:Bool}{a off:Nat}{v:AV}(h:off<l.length)(A:oneC v=true):
  stS (some (f,1)) (some (.cells l true z)) H a off [v]=.skip (H.upd a (.cells (l.set off v) true z)):=by
 refine(Uf (size:=1) rfl (by simp[A]) h).trans ?_;simp_all[List.set_eq_take_append_cons_drop]
end
theorem Af.ap0{g:Gb}{b len:Nat}{sv:AV}{cs:List AV}(h:Af g b sv len cs)(hl:0<len)(a4:len<=1000000)(D:cs.length=len*sz):
  ∃f blk,f<b/\g f=some blk/\∀{H:Mem}{ev:Ev}{d:Option Tmp}{ty:TypeId}{p:String} {af:Array Edge} {gd:Option (Nat×Bool)} {x y:Operand} {s t:TypeId} {a off:Nat} {hx:ev x=some (.sl a off 0 0)} {hy:ev y=some sv},
   ex2 P H ev ⟨d,.call ⟨.builtin .append,#[x,y],#[s,t]⟩,ty,p,af,gd⟩ x y (some (.sl a off 0 0)) (some sv) hx hy=apV (apI P s t) sz off len cs (H.get a) (H.get f) (some blk) H (opV P H ev ⟨d,.call ⟨.builtin .append,#[x,y],#[s,t]⟩,ty,p,af,gd⟩):=by
 rcases h with⟨U,_⟩|⟨f,Z,a0,a5,l,own,z,hg,a1,a3⟩
 .omega
 .refine⟨f,_,a0,hg,?_⟩;intro H ev d ty p af gd x y s t a off hx hy;unfold apV;split
  .rename_i size bytes l0 ow zz U h2;split
   .rename_i h;obtain⟨hH,rfl,h4,h5,h6⟩:=h;obtain⟨k,rfl⟩:∃k,len=k+1:=⟨len-1,by omega⟩;show opV P H ev _=_;have A:∃c,sv=.sl f Z (k+1) c\/sv=.slq f Z (k+1) c:=by
     grind
    obtain⟨c,A⟩:=A;have hn:lenOf sv=some (k+1):=by rcases A with rfl|rfl<;>rfl
    rw[Hk hx hy U,b0p (n:=k) hn h4 (Rl A hH a3 a1 D) D h2 (by omega) (by omega) (by omega) h5];simp
   .rfl
  .rfl
abbrev Yr:=@Af.ap0
theorem Af.ap00{P:Program}{g:Gb}{b:Nat}{sv:AV}{cs:List AV}(h:Af g b sv 0 cs):
  ∀{H:Mem}{ev:Ev}{d:Option Tmp}{ty:TypeId}{p:String} {af:Array Edge} {gd:Option (Nat×Bool)} {x y:Operand} {s t:TypeId} {a off:Nat} {hx:ev x=some (.sl a off 0 0)} {hy:ev y=some sv},(apI P s t).isSome=true ->
   ex2 P H ev ⟨d,.call ⟨.builtin .append,#[x,y],#[s,t]⟩,ty,p,af,gd⟩ x y (some (.sl a off 0 0)) (some sv) hx hy=.val (.sl a off 0 0) H:=by
 intro H ev d ty p af gd x y s t a off hx hy hp;have f:lenOf sv=some 0:=by
  rcases h with⟨_,_,rfl|rfl⟩|⟨a,off,_,⟨c,rfl⟩|⟨c,rfl⟩,_⟩<;>rfl
 cases A:apI P s t with
 | none=>grind
 | some q =>
  obtain⟨D,U⟩:=q;show opV P H ev _=_;rw[Hk hx hy A];unfold D9;rw[f];rfl
def Am(l:List AV)(off:Nat)(new:List AV):List AV:=l.take off++new++l.drop (off+new.length)
theorem C7{l new:List AV}{off:Nat}(h:off+new.length<=l.length):(Am l off new).length=l.length:=by
 grind[Am]
theorem Eg{l new:List AV}{off:Nat}(h:off+new.length<=l.length):(Am l off new).take (off+new.length)=l.take off++new:=by
 grind[Am,List.length_take,List.length_append]
section
variable {P:Program}{H:Mem}{ev:Ev}{d:Option Tmp}{ty:TypeId}{p:String}{af:Array Edge}{g:Option (Nat×Bool)}{x y:Operand}{s t:TypeId}{size bytes:Nat}
variable {k off a c:Nat}
theorem Pa{t e:TypeId}{size bytes:Nat}{z:List AV}{a b:Int}(f:Fp P t=some (e,size,bytes))(hs:0<size)(hb:bytes<=1048576)(U:Br P e=some z)(A:0<=a)(Z:a<=b)(h2:b<=1048576):
  Ec P H t (some (.li a)) (some (.li b))=.val (.sl H.next 0 a.toNat b.toNat) (H.add (.cells (rep z b.toNat) true 0)):=by
 unfold Ec;rw[f];simp only[Option.bind_some,Ik A,Ik (show (0:Int)<=b by omega)];have D:(Nat.ble a.toNat b.toNat&&Nat.ble b.toNat 1048576&&Nat.ble bytes 1048576)=true:=by
  grind[Nat.ble_eq_true_of_le]
 rw[D];by_cases h:b.toNat=0
 .have e1:Ea P e (b.toNat*size)=some []:=by unfold Ea;simp[*]
  grind[C9,rep,Mem.newK_eq]
 grind[Mem.newK_eq,C9,Nat.mul_eq_zero,Nat.eq_of_beq_eq_true,Ea]
theorem b1l{n:Nat}{x:AV}{new l:List AV}{z:Nat}(f:lenOf x=some (n+1))(hs:0<size)(h:Ci H size (n+1) x=some new)(A:new.length=(n+1)*size)
  (D:H.get a=some (.cells l true z)) (U:k+(n+1)<=c) (Z:off+k*size+new.length<=l.length) (h4:allOne new=true) :
  D9 H size bytes (.sl a off k c) x=some (.sl a off (k+(n+1)) c,H.upd a (.cells (Am l (off+k*size) new) true z)):=by
 unfold D9;rw[f];show (match Nat.beq size 0,Ci H size (n+1) x with|false,some new=>Dx H size bytes (n+1) (.sl a off k c) new|_,_=>none)=_;have hb:Nat.beq size 0=false:=by
  grind[Nat.eq_of_beq_eq_true]
 rw[hb,h];dsimp only;unfold Dx;rw[C3,A,e8c];dsimp only;unfold P5;rw[e6q U];dsimp only;rw[D];dsimp only;unfold J7;rw[h4];dsimp only;rw[Lh,if_pos Z,X8];rfl
noncomputable def apR(q:Option (Nat×Nat))(k c off a:Nat)(ga gb:Option Blk)(H:Mem)(els:R):R:=match q,ga,gb with
 | some (size,bytes),some (.cells r true z),some (.cells l _ _)=>if 0<size/\l.length=size/\off+k*size+size<=r.length/\k<c/\allOne l=true then .val (.sl a off (k+1) c) (H.upd a (.cells (Am r (off+k*size) l) true z)) else els
 | _,_,_=>els
theorem d4b{b f:Nat}{hx:ev x=some (.sl a off k c)}{hy:ev y=some (.sl b 0 1 f)}(a0:k<c):
  ex2 P H ev ⟨d,.call ⟨.builtin .append,#[x,y],#[s,t]⟩,ty,p,af,g⟩ x y (some (.sl a off k c)) (some (.sl b 0 1 f)) hx hy=apR (apI P s t) k c off a (H.get a) (H.get b) H (opV P H ev ⟨d,.call ⟨.builtin .append,#[x,y],#[s,t]⟩,ty,p,af,g⟩):=by
 unfold apR;split
 .rename_i size bytes r z l own w A D U;split
  .rename_i h;obtain⟨Z,h5,h6,h7,h8⟩:=h;show opV P H ev _=_;rw[Hk hx hy A,b1l (n:=0) rfl Z (Uu U (by omega)) (by omega) D (by omega) (by omega) h8]
  .rfl
 .rfl
theorem d4c{Z:Nat}(a0:tick=Z){q f:Option (Nat×Nat)}{k c off a:Nat}{h A D U:Option Blk}{H:Mem}{els:R}(h1:q=f)(h2:h=A)(h3:D=U):apR q k c off a h D H els=apR f k c off a A U H els:=by grind
attribute [congr] d4c
theorem d4d{r l:List AV}{own:Bool}{z w n:Nat}{G:Gb}{els:R}(f:0<size)(h:l.length=size)(A:off+k*size+size<=r.length)(D:k<c)(U:allOne l=true):
  apR (some (size,bytes)) k c off a (some (.cells r true z)) (some (.cells l own w)) ⟨.fn G,n⟩ els=.val (.sl a off (k+1) c) ⟨.fn (Ak G a (some (.cells (Am r (off+k*size) l) true z))),n⟩:=if_pos ⟨f,h,A,D,U⟩
attribute [simp] d4b d4d
end
section
variable {P:Program}{H:Mem}{ev:Ev}{d:Option Tmp}{ty:TypeId}{p:String}{af:Array Edge}{g:Option (Nat×Bool)}
theorem d4e{t:TypeId}{x hi f:Operand}{a off c:Nat}{k:IntKind}{hx:ev x=some (.sl a off 0 c)}{hh:ev hi=some (.lit (.int k 0))}{A:ev f=some (.lit (.int k 0))}(U:(Bp P t).map (·.1)=some none):
  ex3 P H ev ⟨d,.slice t x none (some hi) (some f),ty,p,af,g⟩ x hi f (some (.sl a off 0 c)) (some (.lit (.int k 0))) (some (.lit (.int k 0))) hx hh A=.val (.sl a off 0 0) H:=by
 show opV P H ev _=_;show Cw P H ev _ t (ev x) none (some hi) (some f)=_;unfold Cw;rw[Jm (x:=x) (by simp[Op.operands]) (λv' h=>by rw[hx] at h;cases h;rfl),hx];obtain⟨q,Z,D⟩:=Xq.1 U;obtain⟨q1,q2⟩:=q;dsimp only at D;subst D;obtain⟨e,i',h3,h4,h5⟩:=Jn Z;dsimp only;unfold Gg Er;dsimp only;rw[hh,A];dsimp only;rw[L4 h3 h4];rfl
attribute [simp] d4e
end
section
variable {P:Program}{H:Mem}{ev:Ev}{d:Option Tmp}{ty:TypeId}{p:String}{af:Array Edge}{g:Option (Nat×Bool)}
variable {t rt:TypeId}{x y:Operand}
def Jr(P:Program)(t:TypeId):Bool:=match P.underlying t with|some (.slice _)=>true|_=>false
theorem d4f(h:Jr P t=true):∃e,P.underlying t=some (.slice e):=by
 grind[Jr]
theorem a2y{v:AV}(hx:ev x=some v)(f:(∃a o n c,v=.sl a o n c)\/(∃a o n c,v=.slq a o n c)\/v=.es)(A:Jr P t=true):
  Fx P H ev ⟨d,.binOp .eql t x y rt,ty,p,af,g⟩ .eql t (some v) (some (.nl))=.val (.lit (.bool false)) H:=by
 obtain⟨e,A⟩:=d4f A;have D:A3 P ev ⟨d,.binOp .eql t x y rt,ty,p,af,g⟩=none:=
  Jm (x:=x) (by simp[Op.operands]) λZ h=>by rw[hx] at h;cases h;rcases f with⟨a,o,n,c,rfl⟩|⟨a,o,n,c,rfl⟩|rfl<;>rfl
 have hb:Fx P H ev ⟨d,.binOp .eql t x y rt,ty,p,af,g⟩ .eql t (some v) (some (.nl))=Bc P H ev ⟨d,.binOp .eql t x y rt,ty,p,af,g⟩ .eql t (some v) (some (.nl)):=by
  rcases f with⟨a,o,n,c,rfl⟩|⟨a,o,n,c,rfl⟩|rfl<;>rfl
 rw[hb];unfold Bc;have U:Qb .eql (some v) (some (.nl))=none:=by
  rcases f with⟨a,o,n,c,rfl⟩|⟨a,o,n,c,rfl⟩|rfl<;>rfl
 rw[U,D];dsimp only;unfold Oh;rw[A];rcases f with⟨a,o,n,c,rfl⟩|⟨a,o,n,c,rfl⟩|rfl<;>rfl
theorem d4g{a o n c:Nat}(hx:ev x=some (.sl a o n c))(f:Jr P t=true):
  Fx P H ev ⟨d,.binOp .eql t x y rt,ty,p,af,g⟩ .eql t (some (.sl a o n c)) (some (.nl))=.val (.lit (.bool false)) H:=a2y hx (.inl ⟨a,o,n,c,rfl⟩) f
theorem d4h{a o n c:Nat}(hx:ev x=some (.slq a o n c))(f:Jr P t=true):
  Fx P H ev ⟨d,.binOp .eql t x y rt,ty,p,af,g⟩ .eql t (some (.slq a o n c)) (some (.nl))=.val (.lit (.bool false)) H:=a2y hx (.inr (.inl ⟨a,o,n,c,rfl⟩)) f
theorem d4i(hx:ev x=some .es)(f:Jr P t=true):
  Fx P H ev ⟨d,.binOp .eql t x y rt,ty,p,af,g⟩ .eql t (some .es) (some (.nl))=.val (.lit (.bool false)) H:=a2y hx (.inr (.inr rfl)) f
attribute [simp] d4g d4h d4i
end
theorem Fj(z:List AV):∀n,(rep z n).length=n*z.length
 | 0=>by simp
 | n+1=>by rw[Ug,W1,Fj z n,e8o];omega
section
variable {P:Program}{H:Mem}{ev:Ev}{d:Option Tmp}{ty:TypeId}{p:String}{af:Array Edge}{g:Option (Nat×Bool)}
theorem b1m{t:TypeId}{x hi:Operand}{hx:ev x=some (.nl)}{hh:ev hi=some (.li 0)}(h:(Bp P t).map (·.1)=some none):
  ex2 P H ev ⟨d,.slice t x none (some hi) none,ty,p,af,g⟩ x hi (some (.nl)) (some (.li 0)) hx hh=.val (.nl) H:=by
 show opV P H ev _=_;show Cw P H ev _ t (ev x) none (some hi) none=_;unfold Cw;rw[L3 (r:=.slice none 0 0) (x:=x) (y:=hi) (by rfl) hx hh λρ A e2=>?_];show Ap P (do pure (Next.value (<- Instr.sliceAt t (ρ x) none (some (ρ hi)) none)))=_;rw[A,e2];obtain⟨q,D,f⟩:=Xq.1 h;obtain⟨q1,q2⟩:=q;dsimp only at f;subst f;obtain⟨e,i,U,hi',h5⟩:=Jn D;have key:Ap P (Instr.slice t (.slice none 0 0) none (some (.int .i64 0)) none)=some (.slice none 0 0):=by
  unfold Instr.slice;refine(Bi (m:=underlying t) (a:=TypeDesc.slice e) (Hj U)).trans ?_;dsimp only;refine(Bi (a:=(0,0,0)) ?_).trans ?_
  .rfl
  .refine(Bi (m:=sizeOf e) (a:=i.size) ?_).trans ?_
   .exact(Bi (b1d hi')).trans rfl
   .rfl
 have Z:Ap P (Instr.sliceAt t (.slice none 0 0) none (some (.int .i64 0)) none)=some (.slice none 0 0):=by
  grind[Instr.sliceAt,Hj,Bi]
 rw[Bi Z];rfl
theorem a2z{t:TypeId}{x hi:Operand}{v r:AV}{k:IntKind}{i:Int}{hx:ev x=some v}{hh:ev hi=some (.lit (.int k i))}(U:toLit v=none)(A:(Bp P t).map (·.1)=some none)(Z:∀size,I1 size none (some (.lit (.int k i))) none v=some r):
  ex2 P H ev ⟨d,.slice t x none (some hi) none,ty,p,af,g⟩ x hi (some v) (some (.lit (.int k i))) hx hh=.val r H:=by
 show opV P H ev _=_;show Cw P H ev _ t (ev x) none (some hi) none=_;unfold Cw;rw[Jm (x:=x) (by simp[Op.operands]) (λv' h=>by grind),hx];obtain⟨q,D,f⟩:=Xq.1 A;obtain⟨q1,q2⟩:=q;dsimp only at f;subst f;obtain⟨e,i',h3,h4,h5⟩:=Jn D;simp_all[Er,Gg,L4]
end
section
variable {H:Mem}
variable {l:List AV}{off:Nat}{u:AV}
theorem d4j{z:Nat}{a:Nat}{v:AV}(h:off+2<=l.length)(f:oneC u=true)(A:oneC v=true):
  stS (some (true,2)) (some (.cells l true z)) H a off [u,v]=.skip (H.upd a (.cells (Am l off [u,v]) true z)):=
 (Uf (size:=2) rfl (by simp_all) h).trans rfl
attribute [simp] d4j d4a
theorem a3a{v:AV}(h:off+2<=l.length):(Am l off [u,v])[off]?=some u:=by
 (simp_all[Am];grind)
theorem a3b{v:AV}(h:off+2<=l.length):(Am l off [u,v])[off+1]?=some v:=by
 (simp_all[Am];grind)
theorem Pb{new:List AV}{j:Nat}(h:off+new.length<=l.length)(f:j<off\/off+new.length<=j):(Am l off new)[j]?=l[j]?:=by
 unfold Am;rcases f with f|f
 .grind
 .rw[Xm (by grind),W1,Xa,e6i (by omega),List.getElem?_drop,show off+new.length+(j-(off+new.length))=j by omega]
end
def Kr(c:Nat)(g:Gb):Gb:=λa=>if a=c then none else g a
theorem a3c{c a:Nat}{g:Gb}(h:a≠c):Kr c g a=g a:=if_neg h
theorem d4k{c a:Nat}{g:Gb}{x:Blk}(h:Kr c g a=some x):g a=some x:=by
 grind[Kr]
theorem d4l{c a:Nat}{g:Gb}{x:Blk}{y:Option Blk}(h:Kr c g a=some x):Ak g c y a=some x:=by
 grind[Kr,Ae]
theorem d4m{c a:Nat}{g g': Gb}(h:a≠c->g' a=g a):Kr c g' a=Kr c g a:=by
 grind[Kr]
def Av(sv:AV):Prop:=∀a o n c,sv=.sl a o n c->n<=c
theorem Row.takes{g:Gb}{a off:Nat}{cs:List AV}(h:Row g a off cs)(m:Nat):Row g a off (cs.take m):=by
 obtain⟨l,own,z,f,A,D⟩:=h;refine⟨l,own,z,f,?_,?_⟩
 all_goals grind
theorem Af.cutP{g:Gb}{b len:Nat}{sv:AV}{cs:List AV}(h:Af g b sv len cs)(hc:Av sv){t:TypeId}(f:(Bp P t).map (·.1)=some none){k sz:Nat}(hk:k<=len):
  ∃A,(∀{H:Mem}{ev:Ev}{d:Option Tmp}{ty:TypeId}{p:String} {af:Array Edge} {gd:Option (Nat×Bool)} {x hi:Operand} {hx:ev x=some sv} {hh:ev hi=some (.li (k:Int))},
   ex2 P H ev ⟨d,.slice t x none (some hi) none,ty,p,af,gd⟩ x hi (some sv) (some (.li (k:Int))) hx hh=.val A H)/\Af g b A k (cs.take (k*sz))/\Av A:=by
 rcases h with⟨h1,h2,rfl|rfl⟩|⟨a,off,D,⟨c,rfl⟩|⟨c,rfl⟩,U⟩
 .obtain rfl:k=0:=by omega
  refine⟨.nl,?_,.inl ⟨rfl,by simp,.inl rfl⟩,λ_ _ _ _ e=>by cases e⟩;grind[b1m]
 .obtain rfl:k=0:=by omega
  refine⟨.es,?_,.inl ⟨rfl,by simp,.inr rfl⟩,λ_ _ _ _ e=>by cases e⟩;intro H ev d ty p af gd x hi hx hh;exact a2z (hx:=hx) (hh:=hh) rfl f λsize=>rfl
 .have a0:=hc _ _ _ _ rfl;by_cases Z:c=0
  .obtain rfl:k=0:=by omega
   subst Z;refine⟨.sl a off 0 0,?_,.inr ⟨a,off,D,.inl ⟨0,rfl⟩,U.takes _⟩,λ_ _ _ _ e=>by grind⟩;intro H ev d ty p af gd x hi hx hh;refine a2z (hx:=hx) (hh:=hh) rfl f λsize=>?_;rfl
  .refine⟨.sl a off k c,?_,.inr ⟨a,off,D,.inl ⟨c,rfl⟩,U.takes _⟩,λ_ _ _ _ e=>by grind⟩;grind[Ui]
 .by_cases Z:len=0
  .obtain rfl:k=0:=by omega
   subst Z;refine⟨.es,?_,.inl ⟨rfl,by simp,.inr rfl⟩,λ_ _ _ _ e=>by cases e⟩;intro H ev d ty p af gd x hi hx hh;refine a2z (hx:=hx) (hh:=hh) rfl f λsize=>?_;rfl
  .refine⟨.slq a off k c,?_,.inr ⟨a,off,D,.inr ⟨c,rfl⟩,U.takes _⟩,λ_ _ _ _ e=>by cases e⟩;grind[Uj]
def Cy(O:Int)(next:Nat)(e:Int×Int):Option Nat:=
 if e.1 = -1/\(e.2 = -1\/e.2 = -2) then some next
 else if e.1=(next:Int)/\0<=e.2/\e.2<O then some (next+1) else none
def goE(O:Int):List (Int×Int)->Nat->Option Nat
 | [],next=>some next
 | e::l,next=>match Cy O next e with
  | none=>none
  | some nx=>goE O l nx
def goT(I O:Int):Tq->Nat->Nat->Option Nat
 | [],_,next=>some next
 | r::l,n,next=>if (r.length:Int)=I/\n<next then
   (match goE O r next with
    | none=>none
    | some nx=>goT I O l (n+1) nx)
   else none
def D5(I O:Int)(T:Tq):Int:=
 if I > 16\/O > 16\/T.length > 65537 then 3 else if I<1\/O<1\/T.length<1 then 1 else if goT I O T 0 1=some T.length then 0 else 1
def okE(len:Nat)(O:Int)(e:Int×Int):Bool:=
 decide (1<=e.1/\e.1<len/\0<=e.2/\e.2<O)||decide (e.1 = -1/\(e.2 = -1\/e.2 = -2))
structure WSt where
 out:Wq
 seen:List Bool
 many:Nat
def wI(r n:Nat):List (Int×Int)->Nat->WSt->Option WSt
  | [],_,st=>some st
  | e::l,i,st =>
    if st.seen.getD n false=true/\(st.out.getD n []).length=r then
      (if e.1 = -1 then wI r n l (i+1) st
       else if st.seen.getD e.1.toNat false=true then none
       else wI r n l (i+1) ⟨st.out.set e.1.toNat (st.out.getD n []++[(i:Int)]),st.seen.set e.1.toNat true,st.many+1⟩)
    else some st
def wN(r:Nat):Tq->Nat->WSt->Option WSt
 | [],_,st=>some st
 | row::l,n,st=>match wI r n row 0 st with
  | none=>none
  | some s=>wN r l (n+1) s
def wR(T:Tq):Nat->Nat->WSt->Option WSt
 | 0,_,st=>some st
 | k+1,r,st=>match wN r T 0 st with
  | none=>none
  | some s=>if s.many=st.many then some s else wR T k (r+1) s
def Fz(len:Nat):WSt:=⟨List.replicate len [],(List.replicate len false).set 0 true,1⟩
def Bk(T:Tq):Wq:=
 match wR T T.length 0 (Fz T.length) with
 | none=>[]
 | some s=>if s.many<T.length then [] else s.out
def lexC:Wd->Wd->Int
 | x::a,y::b=>if x<y then -1 else if y<x then 1 else lexC a b
 | _,_=>0
def Bx(a b:Wd):Int:=if a.length<b.length then -1 else if b.length<a.length then 1 else lexC a b
def Rm(w:Wq):Bool:=(List.range (w.length-1)).all λn=>decide (Bx (w.getD n []) (w.getD (n+1) [])<0)
def a3d(I O:Int)(T:Tq):Int:=
 if I > 16\/O > 16\/T.length > 65537 then 3 else if I<1\/O<1\/T.length<1 then 1
 else if ((T.all λr=>decide ((r.length:Int)=I)&&r.all (okE T.length O))&&decide ((Bk T).length=T.length)&&Rm (Bk T))=true then 0 else 1
def LL:Wd->Wd->Prop
 | x::a,y::b=>x<y\/x=y/\LL a b
 | _,_=>False
def SL(a b:Wd):Prop:=a.length<b.length\/a.length=b.length/\LL a b
theorem lexC_LL:∀{a b:Wd},lexC a b<0↔LL a b
 | [],[]=>by simp[lexC,LL]
 | [],_::_=>by simp[lexC,LL]
 | _::_,[]=>by simp[lexC,LL]
 | x::a,y::b=>by
  unfold lexC LL;by_cases f:x<y
  .grind
  .rw[if_neg f];by_cases h:y<x
   all_goals (simp_all[lexC_LL,if_neg];grind)
theorem Ho{a b:Wd}:Bx a b<0↔SL a b:=by
 unfold Bx SL;by_cases f:a.length<b.length
 .grind
 .rw[if_neg f];by_cases h:b.length<a.length
  all_goals (simp_all[lexC_LL,if_neg];grind)
theorem LL.irrefl:∀{a:Wd},¬ LL a a
 | [],h=>h
 | x::a,h=>by
  rcases h with h|⟨-,h⟩
  .omega
  .exact LL.irrefl h
theorem LL.trans:∀{a b c:Wd},LL a b->LL b c->LL a c
 | [],_,_,h,_=>by assumption
 | _::_,[],_,h,_=>h.elim
 | _::_,_::_,[],_,h=>h.elim
 | x::a,y::b,z::c,A,f=>by
  rcases A with A|⟨A,D⟩
  .rcases f with f|⟨f,-⟩
   .exact .inl (by omega)
   .exact .inl (by omega)
  .rcases f with f|⟨f,U⟩
   .exact .inl (by omega)
   .exact .inr ⟨by omega,D.trans U⟩
theorem SL.irrefl{a:Wd}:¬ SL a a:=by
 rintro (h|⟨-,h⟩)
 all_goals grind[LL.irrefl]
abbrev X7:=@SL.irrefl
theorem SL.trans{a b c:Wd}(h:SL a b)(f:SL b c):SL a c:=by
 rcases h with h|⟨h,A⟩
 .rcases f with f|⟨f,-⟩
  .exact .inl (by omega)
  .exact .inl (by omega)
 .rcases f with f|⟨f,D⟩
  .exact .inl (by omega)
  .exact .inr ⟨by omega,A.trans D⟩
theorem SL.le{a b:Wd}(h:SL a b):a.length<=b.length:=by
 rcases h with h|⟨h,-⟩<;>omega
theorem LL.app:∀{a b:Wd},LL a b->∀i j,LL (a++[i]) (b++[j])
 | [],b,h,_,_=>by cases b<;>exact h.elim
 | _::_,[],h,_,_=>h.elim
 | x::a,y::b,h,i,j=>by
  rcases h with h|⟨h,f⟩
  .exact .inl h
  .exact .inr ⟨h,f.app i j⟩
theorem LL.last:∀(a:Wd){i j:Int},i<j->LL (a++[i]) (a++[j])
 | [],_,_,h=>.inl h
 | _::a,_,_,h=>.inr ⟨rfl,LL.last a h⟩
theorem SL.app{a b:Wd}(h:SL a b)(i j:Int):SL (a++[i]) (b++[j]):=by
 rcases h with h|⟨h,f⟩
 .exact .inl (by grind)
 .exact .inr ⟨by grind,f.app i j⟩
theorem SL.last(a:Wd){i j:Int}(h:i<j):SL (a++[i]) (a++[j]):=.inr ⟨by simp,LL.last a h⟩
abbrev Y0:=@SL.last
theorem SL.nil(a:Wd)(i:Int):SL [] (a++[i]):=.inl (by simp)
theorem b1n{w:Wq}(h:Rm w=true):∀a b,a<b->b<w.length->SL (w.getD a []) (w.getD b []):=by
 have step:∀n,n+1<w.length->SL (w.getD n []) (w.getD (n+1) []):=λn A=>by
  have:=W7.1 h n (by grind);simp_all[Ho]
 intro a b D
 induction b with
 | zero=>omega
 | succ b f =>
  intro hb;by_cases e:a=b
  .grind
  .exact(f (by omega) (by omega)).trans (step b hb)
theorem d4n{w:Wq}(h:∀n,n+1<w.length->SL (w.getD n []) (w.getD (n+1) [])):Rm w=true:=by
 grind[Rm,Ho]
theorem Ro{f:Type}(l:List f)(i j:Nat)(a d:f):(l.set i a).getD j d=if i=j/\i<l.length then a else l.getD j d:=by
 grind
section
variable {P:Program}{H:Mem}{ev:Ev}{d:Option Tmp}{ty:TypeId}{p:String}{af:Array Edge}{g:Option (Nat×Bool)}{x y:Operand}{s t:TypeId}{size bytes:Nat}
variable {n k a tk sz off c z:Nat}{r cs:List AV}{G:Gb}{els:R}{b:Option Blk}
theorem d4o{x:AV}{new l:List AV}{own:Bool}(h:lenOf x=some (n+1))(hs:0<size)(A:Ci H size (n+1) x=some new)(D:new.length=(n+1)*size)
  (U:H.get a=some (.cells l own z)) (Z:off+k*size<=l.length) (hc:c<k+(n+1)) (h1:k+(n+1)<=1048576) (h3:c<=1048576) (h2:bytes<=1048576) :
  D9 H size bytes (.sl a off k c) x=some (.slq H.next 0 (k+(n+1)) 0,H.add (.cells ((l.drop off).take (k*size)++new) true size)):=by
 unfold D9;rw[h];show (match Nat.beq size 0,Ci H size (n+1) x with|false,some new=>Dx H size bytes (n+1) (.sl a off k c) new|_,_=>none)=_;have hb:Nat.beq size 0=false:=by
  grind[Nat.eq_of_beq_eq_true]
 rw[hb,A];dsimp only;unfold Dx;rw[C3,D,e8c];dsimp only;unfold P5;have f:Nat.ble (k+(n+1)) c=false:=by
  cases f:Nat.ble (k+(n+1)) c with
  | false=>rfl
  | true=>have:=Wz f;omega
 simp_all[Q4,Ql,Ja,Q5]
open Classical in
noncomputable def Rp(q:Option (Nat×Nat))(sz k len a:Nat)(cs:List AV)(ga gb blk:Option Blk)(H:Mem)(els:R):R:=match q,ga with
 | some (size,bytes),some (.cells r true z)=>if gb=blk/\size=sz/\z=sz/\0<size/\bytes<=1048576/\r.length=k*sz/\k<=40000/\allOne cs=true then .val (.slq H.next 0 (k+len) 0) ((H.rm a).add (.cells (r++cs) true sz)) else els
 | _,_=>els
theorem d4p(Z:tick=tk){q f:Option (Nat×Nat)}{sz k len a:Nat}{cs:List AV}{h A D U blk:Option Blk}{H:Mem}{els:R}(h1:q=f)(h2:h=A)(h3:D=U):Rp q sz k len a cs h D blk H els=Rp f sz k len a cs A U blk H els:=by grind
attribute [congr] d4p
theorem d4q{len:Nat}(f:0<sz)(h:bytes<=1048576)(A:r.length=k*sz)(D:k<=40000)(U:allOne cs=true):Rp (some (sz,bytes)) sz k len a cs (some (.cells r true sz)) b b ⟨.fn G,n⟩ els=.val (.slq n 0 (k+len) 0) ⟨.fn (Ak (Ak G a none) n (some (.cells (r++cs) true sz))),n+1⟩:=if_pos ⟨rfl,rfl,rfl,f,h,A,D,U⟩
open Classical in
noncomputable def Rr(q:Option (Nat×Nat))(sz k len c off a:Nat)(cs:List AV)(ga gb blk:Option Blk)(H:Mem)(els:R):R:=match q,ga with
 | some (size,_),some (.cells r true z)=>if gb=blk/\size=sz/\0<size/\off+k*sz+cs.length<=r.length/\k+len<=c/\allOne cs=true then .val (.sl a off (k+len) c) (H.upd a (.cells (Am r (off+k*sz) cs) true z)) else els
 | _,_=>els
theorem d4r(Z:tick=tk){q f:Option (Nat×Nat)}{sz k len c off a:Nat}{cs:List AV}{h A D U blk:Option Blk}{H:Mem}{els:R}(h1:q=f)(h2:h=A)(h3:D=U):Rr q sz k len c off a cs h D blk H els=Rr f sz k len c off a cs A U blk H els:=by grind
attribute [congr] d4r
theorem d4s{len:Nat}(f:0<sz)(h:off+k*sz+cs.length<=r.length)(A:k+len<=c)(D:allOne cs=true):Rr (some (sz,bytes)) sz k len c off a cs (some (.cells r true z)) b b ⟨.fn G,n⟩ els=.val (.sl a off (k+len) c) ⟨.fn (Ak G a (some (.cells (Am r (off+k*sz) cs) true z))),n⟩:=if_pos ⟨rfl,rfl,f,h,A,D⟩
open Classical in
noncomputable def Rs(q:Option (Nat×Nat))(sz k len c off:Nat)(cs:List AV)(ga gb blk:Option Blk)(H:Mem)(els:R):R:=match q,ga with
 | some (size,bytes),some (.cells r _ _)=>if gb=blk/\size=sz/\0<size/\bytes<=1048576/\off+k*sz<=r.length/\c<k+len/\k<=40000/\c<=1048576 then .val (.slq H.next 0 (k+len) 0) (H.add (.cells ((r.drop off).take (k*sz)++cs) true sz)) else els
 | _,_=>els
theorem d4t(Z:tick=tk){q f:Option (Nat×Nat)}{sz k len c off:Nat}{cs:List AV}{h A D U blk:Option Blk}{H:Mem}{els:R}(h1:q=f)(h2:h=A)(h3:D=U):Rs q sz k len c off cs h D blk H els=Rs f sz k len c off cs A U blk H els:=by grind
attribute [congr] d4t
theorem d4u{own:Bool}{len:Nat}(f:0<sz)(h:bytes<=1048576)(A:off+k*sz<=r.length)(D:c<k+len)(U:k<=40000)(Z:c<=1048576):Rs (some (sz,bytes)) sz k len c off cs (some (.cells r own z)) b b ⟨.fn G,n⟩ els=.val (.slq n 0 (k+len) 0) ⟨.fn (Ak G n (some (.cells ((r.drop off).take (k*sz)++cs) true sz))),n+1⟩:=if_pos ⟨rfl,rfl,f,h,A,D,U,Z⟩
theorem d4v{x:AV}{new l:List AV}(f:lenOf x=some (n+1))(hs:0<size)(h:Ci H size (n+1) x=some new)(A:new.length=(n+1)*size)
  (D:H.get a=some (.cells l true size)) (a1:(k+(n+1))*size<=l.length) (U:allOne new=true) :
  D9 H size bytes (.slq a 0 k 0) x=some (.slq a 0 (k+(n+1)) 0,H.upd a (.cells (Am l (k*size) new) true size)):=by
 unfold D9;rw[f];show (match Nat.beq size 0,Ci H size (n+1) x with|false,some new=>Dx H size bytes (n+1) (.slq a 0 k 0) new|_,_=>none)=_;have hb:Nat.beq size 0=false:=by
  grind[Nat.eq_of_beq_eq_true]
 rw[hb,h];dsimp only;unfold Dx;rw[C3,A,e8c];dsimp only;unfold S7;rw[D];dsimp only;have Z:(Nat.beq size size&&Nat.beq 0 (0*size))=true:=by simp
 have e2:Nat.ble (0+(k+(n+1))*size) (len l)=true:=by simp_all[C3]
 rw[Z,e2];dsimp only;unfold J7;rw[U];dsimp only;have a0:0+k*size+new.length<=l.length:=by grind
 rw[Lh,if_pos a0,X8,e6s];rfl
open Classical in
noncomputable def Rt(q:Option (Nat×Nat))(sz k len a:Nat)(cs:List AV)(ga gb blk:Option Blk)(H:Mem)(els:R):R:=match q,ga with
 | some (size,_),some (.cells r true z)=>if gb=blk/\size=sz/\z=sz/\0<size/\(k+len)*sz<=r.length/\allOne cs=true then .val (.slq a 0 (k+len) 0) (H.upd a (.cells (Am r (k*sz) cs) true sz)) else els
 | _,_=>els
theorem d4w(Z:tick=tk){q f:Option (Nat×Nat)}{sz k len a:Nat}{cs:List AV}{h A D U blk:Option Blk}{H:Mem}{els:R}(h1:q=f)(h2:h=A)(h3:D=U):Rt q sz k len a cs h D blk H els=Rt f sz k len a cs A U blk H els:=by grind
theorem d4x{len:Nat}(f:0<sz)(h:(k+len)*sz<=r.length)(A:allOne cs=true):Rt (some (sz,bytes)) sz k len a cs (some (.cells r true sz)) b b ⟨.fn G,n⟩ els=.val (.slq a 0 (k+len) 0) ⟨.fn (Ak G a (some (.cells (Am r (k*sz) cs) true sz))),n⟩:=if_pos ⟨rfl,rfl,rfl,f,h,A⟩
attribute [congr] d4w
attribute [simp] d4x
attribute [simp] d4q d4s d4u
end
theorem Af.lenOf'{g:Gb}{b len:Nat}{sv:AV}{cs:List AV}(h:Af g b sv len cs)(D:0<len):∃f A c l own z,f<b/\(sv=.sl f A len c\/sv=.slq f A len c)/\g f=some (.cells l own z)/\A+cs.length<=l.length/\(l.drop A).take cs.length=cs:=by
 rcases h with⟨U,_⟩|⟨f,A,Z,a0,l,own,z,hg,a1,a3⟩
 all_goals grind
theorem Af.apq{g:Gb}{b len:Nat}{sv:AV}{cs:List AV}(h:Af g b sv len cs)(U:0<len)(a3:len<=1000000)(A:cs.length=len*sz):
  ∃f blk,f<b/\g f=some blk/\∀{H:Mem}{ev:Ev}{d:Option Tmp}{ty:TypeId}{p:String} {af:Array Edge} {gd:Option (Nat×Bool)} {x y:Operand} {s t:TypeId} {a k:Nat} {hx:ev x=some (.slq a 0 k 0)} {hy:ev y=some sv},
   ex2 P H ev ⟨d,.call ⟨.builtin .append,#[x,y],#[s,t]⟩,ty,p,af,gd⟩ x y (some (.slq a 0 k 0)) (some sv) hx hy=Rp (apI P s t) sz k len a cs (H.get a) (H.get f) (some blk) H (opV P H ev ⟨d,.call ⟨.builtin .append,#[x,y],#[s,t]⟩,ty,p,af,gd⟩):=by
 obtain⟨f,o2,c,l,own,z,Z,D,hg,a0,a1⟩:=h.lenOf' U;refine⟨f,_,Z,hg,?_⟩;intro H ev d ty p af gd x y s t a k hx hy;unfold Rp;split
 .rename_i size bytes r zz h1 h2;split
  .rename_i h;obtain⟨hH,rfl,rfl,h4,h5,h6,h7,h8⟩:=h;obtain⟨j,rfl⟩:∃j,len=j+1:=⟨len-1,by omega⟩;show opV P H ev _=_;have hn:lenOf sv=some (j+1):=by rcases D with rfl|rfl<;>rfl
   rw[Hk hx hy h1,b0q (n:=j) hn h4 (Rl D hH a1 a0 A) A h2 h6 (by omega) h5 h8];rfl
  .rfl
 .rfl
theorem Af.apr{g:Gb}{b len:Nat}{sv:AV}{cs:List AV}(h:Af g b sv len cs)(U:0<len)(A:cs.length=len*sz):
  ∃f blk,f<b/\g f=some blk/\∀{H:Mem}{ev:Ev}{d:Option Tmp}{ty:TypeId}{p:String} {af:Array Edge} {gd:Option (Nat×Bool)} {x y:Operand} {s t:TypeId} {a off k c:Nat} {hx:ev x=some (.sl a off k c)} {hy:ev y=some sv},k+len<=c ->
   ex2 P H ev ⟨d,.call ⟨.builtin .append,#[x,y],#[s,t]⟩,ty,p,af,gd⟩ x y (some (.sl a off k c)) (some sv) hx hy=Rr (apI P s t) sz k len c off a cs (H.get a) (H.get f) (some blk) H (opV P H ev ⟨d,.call ⟨.builtin .append,#[x,y],#[s,t]⟩,ty,p,af,gd⟩):=by
 obtain⟨f,o2,c2,l,own,z,Z,D,hg,a0,a1⟩:=h.lenOf' U;refine⟨f,_,Z,hg,?_⟩;intro H ev d ty p af gd x y s t a off k c hx hy a3;unfold Rr;split
 .rename_i size bytes r zz h1 h2;split
  .rename_i h;obtain⟨hH,rfl,h4,h5,h6,h7⟩:=h;obtain⟨j,rfl⟩:∃j,len=j+1:=⟨len-1,by omega⟩;show opV P H ev _=_;have hn:lenOf sv=some (j+1):=by rcases D with rfl|rfl<;>rfl
   rw[Hk hx hy h1,b1l (n:=j) hn h4 (Rl D hH a1 a0 A) A h2 h6 h5 h7]
  .rfl
 .rfl
theorem Af.apo{g:Gb}{b len:Nat}{sv:AV}{cs:List AV}(h:Af g b sv len cs)(U:0<len)(a4:len<=1000000)(A:cs.length=len*sz):
  ∃f blk,f<b/\g f=some blk/\∀{H:Mem}{ev:Ev}{d:Option Tmp}{ty:TypeId}{p:String} {af:Array Edge} {gd:Option (Nat×Bool)} {x y:Operand} {s t:TypeId} {a off k c:Nat} {hx:ev x=some (.sl a off k c)} {hy:ev y=some sv},c<k+len ->
   ex2 P H ev ⟨d,.call ⟨.builtin .append,#[x,y],#[s,t]⟩,ty,p,af,gd⟩ x y (some (.sl a off k c)) (some sv) hx hy=Rs (apI P s t) sz k len c off cs (H.get a) (H.get f) (some blk) H (opV P H ev ⟨d,.call ⟨.builtin .append,#[x,y],#[s,t]⟩,ty,p,af,gd⟩):=by
 obtain⟨f,o2,c2,l,own,z,Z,D,hg,a0,a1⟩:=h.lenOf' U;refine⟨f,_,Z,hg,?_⟩;intro H ev d ty p af gd x y s t a off k c hx hy a3;unfold Rs;split
 .rename_i size bytes r ow zz h1 h2;split
  .rename_i h;obtain⟨hH,rfl,h4,h5,h6,h7,h8,h9⟩:=h;obtain⟨j,rfl⟩:∃j,len=j+1:=⟨len-1,by omega⟩;show opV P H ev _=_;have hn:lenOf sv=some (j+1):=by rcases D with rfl|rfl<;>rfl
   rw[Hk hx hy h1,d4o (n:=j) hn h4 (Rl D hH a1 a0 A) A h2 h6 a3 (by omega) h9 h5]
  .rfl
 .rfl
theorem Af.aps{g:Gb}{b len:Nat}{sv:AV}{cs:List AV}(h:Af g b sv len cs)(U:0<len)(A:cs.length=len*sz):
  ∃f blk,f<b/\g f=some blk/\∀{H:Mem}{ev:Ev}{d:Option Tmp}{ty:TypeId}{p:String} {af:Array Edge} {gd:Option (Nat×Bool)} {x y:Operand} {s t:TypeId} {a k:Nat} {hx:ev x=some (.slq a 0 k 0)} {hy:ev y=some sv},
   ex2 P H ev ⟨d,.call ⟨.builtin .append,#[x,y],#[s,t]⟩,ty,p,af,gd⟩ x y (some (.slq a 0 k 0)) (some sv) hx hy=Rt (apI P s t) sz k len a cs (H.get a) (H.get f) (some blk) H (opV P H ev ⟨d,.call ⟨.builtin .append,#[x,y],#[s,t]⟩,ty,p,af,gd⟩):=by
 obtain⟨f,o2,c,l,own,z,Z,D,hg,a0,a1⟩:=h.lenOf' U;refine⟨f,_,Z,hg,?_⟩;intro H ev d ty p af gd x y s t a k hx hy;unfold Rt;split
 .rename_i size bytes r zz h1 h2;split
  .rename_i h;obtain⟨hH,rfl,rfl,h4,h6,h8⟩:=h;obtain⟨j,rfl⟩:∃j,len=j+1:=⟨len-1,by omega⟩;show opV P H ev _=_;have hn:lenOf sv=some (j+1):=by rcases D with rfl|rfl<;>rfl
   rw[Hk hx hy h1,d4v (n:=j) hn h4 (Rl D hH a1 a0 A) A h2 h6 h8]
  .rfl
 .rfl
def EdT(T:Tq)(p j t:Nat):Prop:=∃e,(T.getD p [])[j]?=some e/\e.1=(t:Int)
theorem Ru{T:Tq}{n i:Nat}(h:i<(T.getD n []).length):n<T.length:=by
 grind
theorem EdT.lt{T:Tq}{p j t:Nat}(h:EdT T p j t):p<T.length:=by
 obtain⟨e,h,-⟩:=h;grind
theorem EdT.fun {T:Tq} {p j t u:Nat} (h:EdT T p j t) (h2:EdT T p j u) : t=u:=by
 obtain⟨e,h,h'⟩:=h;obtain⟨f,h2,h2'⟩:=h2;grind
def Sn(st:WSt)(m:Nat):Prop:=st.seen.getD m false=true
structure Js (T:Tq) (st:WSt):Prop where
 lo:st.out.length=T.length
 ls:st.seen.length=T.length
 s0:Sn st 0
 o0:st.out.getD 0 []=[]
 cnt:st.many=st.seen.count true
 src:∀m,Sn st m->m≠0->∃p j,EdT T p j m
def Jt(T:Tq)(st:WSt)(n i:Nat):Prop:=
 ∀j,j<i->∀t,EdT T n j t->Sn st t/\st.out.getD t []=st.out.getD n []++[(j:Int)]
structure Ju (st st' : WSt):Prop where
 keep:∀m,Sn st m->Sn st' m/\st'.out.getD m []=st.out.getD m []
 le:st.many<=st'.many
 eq:st'.many=st.many->st'=st
theorem Ju.refl(st:WSt):Ju st st:=⟨λ_ h=>⟨h,rfl⟩,Wy _,λ_=>rfl⟩
theorem Ju.trans{a b c:WSt}(f:Ju a b)(A:Ju b c):Ju a c:=
 ⟨λm h=>⟨(A.keep m (f.keep m h).1).1,((A.keep m (f.keep m h).1).2).trans (f.keep m h).2⟩,W6 f.le A.le,λe=>by
  have D:=f.le;have e2:=A.le;rw[A.eq (by omega),f.eq (by omega)]⟩
theorem Jt.mono{T:Tq}{st f:WSt}{n i:Nat}(h:Jt T st n i)(A:Sn st n)(hx:Ju st f):Jt T f n i:=λj D t U=>by
 obtain⟨Z,h2⟩:=h j D t U;obtain⟨h3,h4⟩:=hx.keep t Z;exact⟨h3,by rw[h4,h2,(hx.keep n A).2]⟩
theorem count_set:∀(l:List Bool)(i:Nat),i<l.length->l.getD i false=false->(l.set i true).count true=l.count true+1
 | [],_,h,_=>by grind
 | b::l,0,_,h=>by
  grind
 | b::l,i+1,h,f=>by
  grind
theorem b1o{f:Type}{T:List f}{n:Nat}{d:f}(h:n<T.length):T.getD n d∈T:=by
 grind
theorem b1p{T:Tq}(f:∀r∈T,∀e∈r,okE T.length O e=true){n i:Nat}{e:Int×Int}(h:(T.getD n [])[i]?=some e):
  (1<=e.1/\e.1<T.length)\/e.1 = -1:=by
 obtain⟨hi,h⟩:=W8.1 h;have:=f _ (b1o (d:=[]) (Ru hi)) e (h ▸ W2 hi);unfold okE at this;grind
theorem a3e {T:Tq} (hok:∀ r∈T,∀ e∈r,okE T.length O e=true) (r n:Nat) :
  ∀ (es:List (Int×Int)) (i:Nat) (st st' : WSt),es=(T.getD n []).drop i->Js T st->Jt T st n i->wI r n es i st=some st' ->
  Js T st'/\Ju st st'/\(Sn st n->(st.out.getD n []).length=r->Jt T st' n (T.getD n []).length)/\(∀ m,Sn st' m->Sn st m\/(st'.out.getD m []).length=r+1)
 | [],i,st,st',he,hinv,hd,h=>by
  unfold wI at h;cases h;refine⟨hinv,.refl _,fun _ _=>?_,fun m hm=>.inl hm⟩;have:(T.getD n []).length<=i:=e7c.1 he.symm;intro j hj;exact hd j (by omega)
 | e :: es,i,st,st',he,hinv,hd,h=>by
  unfold wI at h;have hi:i<(T.getD n []).length:=by
   grind[List.drop_eq_nil_iff]
  have hcons:=Xh hi;rw[hcons] at he;injection he with he1 he2;have hei:(T.getD n [])[i]?=some e:=by grind
  have hnT:n<T.length:=Ru hi;by_cases hc:st.seen.getD n false=true/\(st.out.getD n []).length=r
  ·rw[if_pos hc] at h;by_cases h1:e.1 = -1
   ·rw[if_pos h1] at h;refine a3e hok r n es (i+1) st st' he2 hinv (fun j hj t ht=>?_) h;by_cases hji:j=i
    ·subst hji;obtain⟨f,hf,hf2⟩:=ht;grind
    ·exact hd j (by omega) t ht
   ·rw[if_neg h1] at h;have hb:=(b1p hok hei).resolve_right h1;obtain⟨t,ht⟩ : ∃ t:Nat,e.1=(t:Int):=⟨e.1.toNat,by omega⟩;have htn:e.1.toNat=t:=by omega
    have hEd:EdT T n i t:=⟨e,hei,ht⟩;rw[htn] at h;by_cases hs:st.seen.getD t false=true
    ·grind
    rw[if_neg hs] at h;have hs' : st.seen.getD t false=false:=by grind
    have ht0:t≠0:=by omega
    have htT:t<T.length:=by omega
    have hso:∀ m,(st.seen.set t true).getD m false=if t=m then true else st.seen.getD m false:=fun m=>by
     rw[Ro];by_cases hm:t=m
     ·rw[if_pos ⟨hm,by rw[hinv.ls];grind⟩,if_pos hm]
     grind
    have hoo:∀ m,(st.out.set t (st.out.getD n []++[(i:Int)])).getD m []=if t=m then st.out.getD n []++[(i:Int)] else st.out.getD m []:=fun m=>by
     rw[Ro];by_cases hm:t=m
     ·rw[if_pos ⟨hm,by rw[hinv.lo];grind⟩,if_pos hm]
     grind
    have hinv1:Js T ⟨st.out.set t (st.out.getD n []++[(i:Int)]),st.seen.set t true,st.many+1⟩:=by
     refine⟨by rw[Xe,hinv.lo],by rw[Xe,hinv.ls],?_,?_,?_,?_⟩
     ·show (st.seen.set t true).getD 0 false=true;rw[hso,if_neg ht0];exact hinv.s0
     ·show (st.out.set t _).getD 0 []=[];rw[hoo,if_neg ht0];exact hinv.o0
     ·show st.many+1=(st.seen.set t true).count true;rw[count_set _ _ (by grind) hs',hinv.cnt]
     ·intro m hm hm0;by_cases e1:t=m
      ·grind
      ·refine hinv.src m ?_ hm0;have h2:(st.seen.set t true).getD m false=true:=hm;rw[hso,if_neg e1] at h2;exact h2
    have hx1:Ju st ⟨st.out.set t (st.out.getD n []++[(i:Int)]),st.seen.set t true,st.many+1⟩:=by
     refine⟨fun m hm=>?_,W4 _,fun h=>by grind⟩;have hne:t≠m:=fun e=>by subst e;exact hs hm
     refine⟨?_,?_⟩
     ·show (st.seen.set t true).getD m false=true;rw[hso,if_neg hne];exact hm
     grind
    have hnt:t≠n:=fun e=>by grind
    have hd1:Jt T ⟨st.out.set t (st.out.getD n []++[(i:Int)]),st.seen.set t true,st.many+1⟩ n (i+1):=by
     intro j hj u hu;by_cases hji:j=i
     ·subst hji;have:u=t:=hu.fun hEd;subst this;refine⟨?_,?_⟩
      ·show (st.seen.set u true).getD u false=true;grind
      grind
     ·exact hd.mono hc.1 hx1 j (by omega) u hu
    obtain⟨a1,a2,a3,a4⟩:=a3e hok r n es (i+1) _ st' he2 hinv1 hd1 h;have hsn1:Sn ⟨st.out.set t (st.out.getD n []++[(i:Int)]),st.seen.set t true,st.many+1⟩ n:=(hx1.keep n hc.1).1;refine⟨a1,hx1.trans a2,fun _ _=>a3 hsn1 ?_,fun m hm=>?_⟩
    ·grind
    ·rcases a4 m hm with h2|h2
     ·by_cases e1:t=m
      ·subst e1;right;rw[(a2.keep t h2).2];grind
      ·left;have h3:(st.seen.set t true).getD m false=true:=h2;rw[hso,if_neg e1] at h3;exact h3
     grind
  ·rw[if_neg hc] at h;cases h;exact⟨hinv,.refl _,fun h1 h2=>absurd ⟨h1,h2⟩ hc,fun m hm=>.inl hm⟩
structure WQ (T:Tq) (r:Nat) (st:WSt) (n:Nat):Prop where
 le:∀m,Sn st m->(st.out.getD m []).length<=r+1
 old:∀m,Sn st m->(st.out.getD m []).length<r->Jt T st m (T.getD m []).length
 now:∀m,Sn st m->(st.out.getD m []).length=r->m<n->Jt T st m (T.getD m []).length
theorem b1q{T:Tq}(a5:∀r∈T,∀e∈r,okE T.length O e=true)(r:Nat):
  ∀(rows:Tq)(n:Nat)(st A:WSt),rows=T.drop n->Js T st->WQ T r st n->wN r rows n st=some A ->
  Js T A/\Ju st A/\WQ T r A T.length
 | [],n,st,A,he,a0,D,h=>by
  unfold wN at h;cases h;have:T.length<=n:=e7c.1 he.symm;exact⟨a0,.refl _,D.le,D.old,λm U hl a6=>D.now m U hl (by omega)⟩
 | row::rows,n,st,A,he,a0,D,h=>by
  unfold wN at h;have hi:n<T.length:=by
   grind[List.drop_eq_nil_iff]
  rw[Xh hi] at he;injection he with b0 a7;have b4:T.getD n []=row:=by grind
  cases hs:wI r n row 0 st with
  | none=>grind
  | some s =>
   rw[hs] at h;obtain⟨a1,Z,a3,a4⟩:=a3e a5 r n row 0 st s (by grind) a0 (λj hj=>by omega) hs;have a8:WQ T r s (n+1):=by
    refine⟨λm U=>?_,λm U hl=>?_,λm U hl a6=>?_⟩
    .rcases a4 m U with f|f
     .rw[(Z.keep m f).2];exact D.le m f
     grind
    .rcases a4 m U with f|f
     .exact(D.old m f (by rw[(Z.keep m f).2] at hl;grind)).mono f Z
     grind
    .rcases a4 m U with f|f
     .have a9:(st.out.getD m []).length=r:=by rw[(Z.keep m f).2] at hl;grind
      by_cases e:m=n
      .grind
      .exact(D.now m f a9 (by omega)).mono f Z
     grind
   obtain⟨b1,b2,b3⟩:=b1q a5 r rows (n+1) s A a7 a1 a8 h;exact⟨b1,Z.trans b2,b3⟩
theorem b1r(st:WSt){T:Tq}(h:Js T st):st.many<=T.length:=by
 rw[h.cnt,<- h.ls];grind
theorem a3f{T:Tq}(a4:∀r∈T,∀e∈r,okE T.length O e=true):
  ∀(k r:Nat)(st A:WSt),k+r=T.length->Js T st->(∀m,Sn st m->(st.out.getD m []).length<=r) ->
  (∀m,Sn st m->(st.out.getD m []).length<r->Jt T st m (T.getD m []).length)->r+1<=st.many->wR T k r st=some A ->
  Js T A/\∀m,Sn A m->Jt T A m (T.getD m []).length
 | 0,r,st,A,hk,Z,_,_,f,_=>by
  have:=b1r st Z;omega
 | k+1,r,st,A,hk,Z,a5,a6,f,h=>by
  unfold wR at h
  cases hs:wN r T 0 st with
  | none=>grind
  | some s =>
   rw[hs] at h;obtain⟨a1,a2,U⟩:=b1q a4 r T 0 st s rfl Z ⟨λm f=>by grind,a6,λm _ _ a0=>by omega⟩ hs;have a0:∀m,Sn s m->m<T.length:=λm f=>by
    by_cases hh:m<T.length
    .grind
    .have h2:s.seen.getD m false=true:=f;rw[Xo,e7a (by rw[a1.ls];omega)] at h2;grind
   by_cases he:s.many=st.many
   .have D:(if s.many=st.many then some s else wR T k (r+1) s)=some A:=h;rw[if_pos he] at D;injection D with D;have e:=a2.eq he;rw[<- D,e];rw[e] at U a0;refine⟨Z,λm f=>?_⟩;have h4:=a5 m f;by_cases h5:(st.out.getD m []).length=r
    .exact U.now m f h5 (a0 m f)
    grind
   .have D:(if s.many=st.many then some s else wR T k (r+1) s)=some A:=h;rw[if_neg he] at D;have:=a2.le;refine a3f a4 k (r+1) s A (by omega) a1 U.le (λm f hl=>?_) (by omega) D;by_cases h5:(s.out.getD m []).length=r
    .exact U.now m f h5 (a0 m f)
    .exact U.old m f (by omega)
theorem all_of_count:∀{l:List Bool},l.count true=l.length->∀m,m<l.length->l.getD m false=true
 | [],_,m,h=>by grind
 | b::l,f,m,h=>by
  have A:l.count true<=l.length:=List.count_le_length;rw[List.count_cons] at f
  cases b with
  | false=>simp at f;omega
  | true =>
   cases m with
   | zero=>rfl
   | succ m =>
    have:=all_of_count (l:=l) (by simpa using f) m (by simpa using h);simpa using this
theorem b1s{T:Tq}(U:∀r∈T,∀e∈r,okE T.length O e=true)(h1:1<=T.length)(hl:(Bk T).length=T.length):
  (∀p j t,EdT T p j t->t<T.length/\1<=t/\(Bk T).getD t []=(Bk T).getD p []++[(j:Int)])/\(∀t,1<=t->t<T.length->∃p j,EdT T p j t):=by
 cases hs:wR T T.length 0 (Fz T.length) with
 | none =>
  grind[Bk]
 | some s =>
  have a6:Bk T=if s.many<T.length then [] else s.out:=by grind[Bk]
  by_cases f:s.many<T.length
  .grind
  have hr:Bk T=s.out:=by grind
  rw[hr];have a0:∀m,Sn (Fz T.length) m->m=0:=λm f=>by
   have h2:((List.replicate T.length false).set 0 true).getD m false=true:=f;grind
  have a3:∀m,(Fz T.length).out.getD m []=[]:=λm=>by
   show (List.replicate T.length ([]:Wd)).getD m []=[];grind
  have a4:Js T (Fz T.length):=by
   refine⟨by simp[Fz],by simp[Fz],?_,a3 0,?_,λm f h=>absurd (a0 m f) h⟩
   .show ((List.replicate T.length false).set 0 true).getD 0 false=true;grind
   .show 1=((List.replicate T.length false).set 0 true).count true;grind
  obtain⟨A,a2⟩:=a3f U T.length 0 _ s rfl a4 (λm f=>by grind) (λm f h=>by omega) (by show 0+1<=1;omega) hs;have Z:∀m,m<T.length->Sn s m:=λm a7=>by
   have h4:=b1r s A;exact all_of_count (by rw[<- A.cnt,A.ls];omega) m (by rw[A.ls];grind)
  refine⟨λp j t hE=>?_,λt a8 ht=>A.src t (Z t ht) (by omega)⟩;obtain⟨e,D,a5⟩:=hE;have hb:=b1p U D;have hj:j<(T.getD p []).length:=(W8.1 D).1;exact⟨by omega,by omega,(a2 p (Z p (Ru hj)) j hj t ⟨e,D,a5⟩).2⟩
end Go.Ai
