/- Parts of an interpreter and of a proof. No condition. -/
import Derived.Test.YtpimmmnkcgnjjaaGreatA04
set_option linter.all false
set_option maxRecDepth 10000
open Go.RowKit (Below)
namespace Go.Ai
class Spl (P:Prop) (A B:outParam Prop):Prop where
 of:A→B→P
instance {p x y:Prop}:Spl (Qw p x y) (p→x) (¬p→y):=⟨Ab⟩
instance {b:Bool} {x y:Prop}:Spl (E8 b x y) (b=true→x) (b=false→y):=⟨Ac⟩
theorem spl {P A B:Prop} [h:Spl P A B] (a:A) (b:B):P:=h.of a b
section
variable {P:Program}{W:WF}{ops:Array Oper}{g:Nat→Option AV}{ds:List Dfr}{Q:Out→Prop}{S:Nat}{res:ResF}{H:Mem}{held:List Nat}{als:Als}{alsP:AlP}{i:Nat}{o:Oper}{s:Hs}{K:Hs→List It}
theorem a2r{A:List Nat}{fr:Fr}:∀{held:List Nat},(∀i∈held,∃o v,ops[i]?=some o/\res i=some v/\quiet P H (Cc ops A fr res i) o=some v)->Ki P ops A fr res H held
 | [],_=>trivial
 | i::l,h=>by
  obtain⟨o,v,D,U,Z⟩:=h i (by simp);refine⟨?_,a2r λj hj=>h j (by simp[hj])⟩;rw[D];exact⟨v,U,Z⟩
theorem stays_of:∀{als:Als},(∀x∈als,H.get x.2.1=some x.2.2)->Kj H als
 | [],_=>trivial
 | (a,b,c)::l,h=>⟨h (a,b,c) (by simp),stays_of λy hy=>h y (by grind)⟩
theorem a2s{A:List Nat}{c i:Nat}:∀{held:List Nat},i∈Hl A c held->i∈held/\A3 A c i=false
 | [],h=>by cases h
 | j::held,h=>by
  unfold Hl at h;split at h
  .obtain⟨a,b⟩:=a2s h;exact⟨by simp[a],b⟩
  .rename_i hb;rcases Xb.1 h with rfl|h
   .exact⟨by simp,hb⟩
   .obtain⟨a,b⟩:=a2s h;exact⟨by simp[a],b⟩
theorem a2t{A:List Nat}{c:Nat}:∀{als:Als}{x:Nat×Nat×Blk},x∈Gf A c als->x∈als/\A3 A c x.1=false
 | [],_,h=>by cases h
 | y::als,x,h=>by
  unfold Gf at h;split at h
  .obtain⟨a,b⟩:=a2t h;exact⟨by simp[a],b⟩
  .rename_i hb;rcases Xb.1 h with rfl|h
   .exact⟨by simp,hb⟩
   .obtain⟨a,b⟩:=a2t h;exact⟨by simp[a],b⟩
theorem b0v{fr:Fr}:∀{hs:List Nat},Ht P W ops fr H hs->∀i∈hs,∃o,ops[i]?=some o/\Dm P W ops o fr H (λD _=>Eh D o.dst=Eh fr o.dst) (λ_=>False)
 | j::hs,h,i,hi=>by
  rcases Xb.1 hi with rfl|hi
  .have A:=h.1;split at A
   .rename_i o U;exact⟨o,U,A⟩
   .exact A.elim
  .exact b0v h.2 i hi
theorem b0w{as:List Nat}:∀{l:AlP},Kp H as l->∀x∈l,x.1∈as->H.get x.2.1=x.2.2
 | (i,a,b)::l,h,x,hx,A=>by
  rcases Xb.1 hx with rfl|hx
  .exact h.1 A
  .exact b0w h.2 x hx A
theorem d1e(a2:fit ops.toList ops.toList 0=true)(a6:Ko P (ancs [] ops.toList) ops.toList ops.toList 0=true)(hp:PI ops S res)(hi:S.testBit i=true)(hr:Ran ops res i)
  (U:a2k (ancs [] ops.toList) ops.toList i=true) (A:ops[i]?=some o) (h:Dm P W ops o (.f (Gs ops g S res) ds) H (λa0 _=>Eh a0 o.dst=Eh (.f (Gs ops g S res) ds) o.dst) (λ_=>False)) :
  Rq P ops g ds H res i:=by
 obtain⟨o',a3,b1,hg⟩:=hr;rw[A] at a3;cases a3;have Z:=Uh a6 i o (Co.2 A);rw[e6u] at Z;unfold Q6 at Z;simp only[W1] at Z;obtain⟨⟨_,a4⟩,a7⟩:=Z;unfold a2k at U;rw[Co.2 A] at U;simp only[W1] at U;obtain⟨a8,a9⟩:=U;obtain⟨d,hd⟩:=Option.isSome_iff_exists.1 a8;have a5:cls o.op≠.no:=by grind
 have key:Fx W o (.f (Gs ops g S res) ds) (λa0 _=>Eh a0 o.dst=Eh (.f (Gs ops g S res) ds) o.dst) (λ_=>False) (opV P H (Fr.f (Gs ops g S res) ds).ev o)->Rq P ops g ds H res i:=by
  intro h;rw[Uf (P:=P) (H:=H) (a2l a5) (d1c (g:=g) (ds:=ds) hp hi a9)] at h;rcases b0s (P:=P) (H:=H) (ev:=Cc ops (ancs [] ops.toList) (.f g ds) res i) (o:=o) (by grind) a5 (by grind) a7 with hb|⟨v,hv,hq⟩
  .rw[hb] at h;exact h.elim
  .rw[hv] at h;have h' : Eh ((Fr.f (Gs ops g S res) ds).put o.dst v) o.dst=Eh (.f (Gs ops g S res) ds) o.dst:=h;rw[hd] at h';have D:some v=Gs ops g S res d:=by
    rw[show Eh ((Fr.f (Gs ops g S res) ds).put (some d) v) (some d)=some v from if_pos rfl] at h';exact h'
   unfold Gs at D;rw[a2n a2 A hd] at D;dsimp only at D;rw[hi] at D;exact⟨o,v,A,D.symm,hq⟩
 unfold Dm at h;split at h
 .grind
 .rename_i gd a1;rw[a1] at a4;have b0:A3 (ancs [] ops.toList) i gd.1=true:=a4;rw[a2p a2 A a1 (hp.down _ _ hi b0),hg gd a1] at h;exact key (h.1 rfl)
theorem b0x(U:fit ops.toList ops.toList 0=true)(Z:Ko P (ancs [] ops.toList) ops.toList ops.toList 0=true)(h:PS P ops g ds s S res H held als alsP)
  (D:Eg (ancs [] ops.toList) ops.toList S (Q4 s K)=true) (hp:Bt P W ops Q (Q4 s K) (.f (Gs ops g S res) ds) H alsP) :
  Ki P ops (ancs [] ops.toList) (.f g ds) res H held/\Kj H als/\∃A,A.di=[]/\A.adi=[]/\PS P ops g ds A S res H held als alsP /\
   Eg (ancs [] ops.toList) ops.toList S (K A)=true/\Bt P W ops Q (K A) (.f (Gs ops g S res) ds) H alsP:=by
 have done:s.di=[]->s.adi=[]->Eg (ancs [] ops.toList) ops.toList S (K s)=true->Bt P W ops Q (K s) (.f (Gs ops g S res) ds) H alsP->Ki P ops (ancs [] ops.toList) (.f g ds) res H held/\Kj H als/\∃A,A.di=[]/\A.adi=[]/\PS P ops g ds A S res H held als alsP /\
   Eg (ancs [] ops.toList) ops.toList S (K A)=true/\Bt P W ops Q (K A) (.f (Gs ops g S res) ds) H alsP:=by
  intro e1 e2 D hp;refine⟨a2r λi hi=>?_,stays_of λx hx=>?_,s,e1,e2,h,D,hp⟩
  .obtain⟨_,_,c⟩:=h.hd i hi;rcases c with c|⟨_,c⟩
   .grind
   .exact c
  .obtain⟨_,c⟩:=h.al x hx;grind
 have go:Eg (ancs [] ops.toList) ops.toList S (.gate s.di s.adi::K ⟨s.di++s.cl,[],s.adi++s.acl,[]⟩)=true ->
   Bt P W ops Q (.gate s.di s.adi::K ⟨s.di++s.cl,[],s.adi++s.acl,[]⟩) (.f (Gs ops g S res) ds) H alsP->Ki P ops (ancs [] ops.toList) (.f g ds) res H held/\Kj H als/\∃A,A.di=[]/\A.adi=[]/\PS P ops g ds A S res H held als alsP /\
   Eg (ancs [] ops.toList) ops.toList S (K A)=true/\Bt P W ops Q (K A) (.f (Gs ops g S res) ds) H alsP:=by
  intro D hp;simp only[Eg,W1] at D;obtain⟨a0,D⟩:=D;obtain⟨h1,h2,h3⟩:=hp;have hR:∀i∈held,Rq P ops g ds H res i:=by
   intro i hi;obtain⟨a,b,c⟩:=h.hd i hi;rcases c with c|⟨_,c⟩
   .obtain⟨o,ho,a1⟩:=b0v h1 i c;exact d1e U Z h.pi a b (W7.1 a0 i c) ho a1
   grind
  have hA:∀x∈als,H.get x.2.1=some x.2.2:=by
   intro x hx;obtain⟨a,c⟩:=h.al x hx;rcases c with c|⟨_,c⟩
   .exact b0w h2 _ a c
   grind
  refine⟨a2r hR,stays_of hA,_,rfl,rfl,⟨h.pi,λi hi=>?_,λx hx=>?_⟩,D,h3⟩
  .obtain⟨a,b,c⟩:=h.hd i hi;grind
  .obtain⟨a,c⟩:=h.al x hx;grind
 grind[Q4]
def Ir(W:WF):Prop:=∀(f:FuncId)(args:List AV)(H:Mem)(K K' : A1->Prop),(∀r,K r->K' r)->W f args H K->W f args H K'
theorem Ui(G:Nat)(P:Program):Ir (WC G P):=λ_ _ _ _ _ A h=>h.mono A
theorem Uj{O:CallF}(h:Ir W):Ir (orW O W):=by
 intro f args H K U D A;unfold orW at A |-;split
 .rename_i e;rw[e] at A;exact h _ _ _ _ _ D A
 grind
theorem d1f(hW:Ir W)(a3:fit ops.toList ops.toList 0=true)(a4:Ko P (ancs [] ops.toList) ops.toList ops.toList 0=true)(hp:PI ops S res)(U:ops[i]?=some o)(hc:cls o.op=.chain)
  (hi:S.testBit i=false) (ha:∀j,A3 (ancs [] ops.toList) i j=true->S.testBit j=true) {k:Fr->Mem->Prop} {K' : ResF->Mem->Prop}
  (h:Dm P W ops o (.f (Gs ops g S res) ds) H k (Iq Q)) (Z:∀v H',k (.f (Gs ops g (S ||| 2 ^ i) (C9 res i v)) ds) H'->K' (C9 res i v) H') :
  Qu P W ops (ancs [] ops.toList) (.f g ds) i res H K' Q:=by
 have a0:=Uh a4 i o (Co.2 U);rw[e6u] at a0;unfold Q6 at a0;simp only[W1] at a0;obtain⟨⟨a5,a1⟩,a8⟩:=a0;have a6:cls o.op≠.no:=by grind
 have a7:=Uf (P:=P) (H:=H) (a2l a6) (b0t (g:=g) (ds:=ds) hp hi ha a5);have a2:=λv=>Q8 (g:=g) (ds:=ds) (S:=S) (res:=res) a3 U v;have act:Fx W o (.f (Gs ops g S res) ds) k (Iq Q) (opV P H (Cc ops (ancs [] ops.toList) (.f g ds) res i) o) ->
   Tw W (.f g ds) i res K' Q (opV P H (Cc ops (ancs [] ops.toList) (.f g ds) res i) o):=by
  intro h;have D:=d1b (P:=P) (H:=H) (ev:=Cc ops (ancs [] ops.toList) (.f g ds) res i) hc
  cases A:opV P H (Cc ops (ancs [] ops.toList) (.f g ds) res i) o with
  | val v H' =>
   rw[A] at h;refine⟨hp.un i hi,Z v H' ?_⟩;rw[<- a2];exact h
  | skip H' =>
   rw[A] at h;refine⟨hp.un i hi,Z _ H' ?_⟩;rw[<- a2];exact h
  | enter f args H' =>
   rw[A] at h;refine hW _ _ _ _ _ ?_ h;intro r hr
   cases r with
   | ret v H2 =>
    refine⟨hp.un i hi,Z v H2 ?_⟩;grind
   | panic v H2=>exact hr
   | bad=>grind
  | bad=>rw[A] at h;assumption
  | dfr _ _ _ _=>rw[A] at D;cases D
  | recover=>rw[A] at D;cases D
  | panic _ _=>rw[A] at D;cases D
 unfold Qu;rw[U];dsimp only;unfold Dm at h;unfold Np;split at h
 .grind
 .rename_i gd hg;rw[hg] at a1;dsimp only at a1;rw[a2p a3 U hg (ha _ a1),a2,a7] at h;exact⟨a1,b0u h (λ_=>act) λh=>⟨hp.un i hi,Z _ _ h⟩⟩
theorem d1g{S': Nat}(h:∀j,j<ops.size->S.testBit j=S'.testBit j):Gs ops g S res=Gs ops g S' res:=by
 funext t;unfold Gs;split
 .rename_i j A;obtain⟨_,o,D,_⟩:=Lu A;grind
 .rfl
theorem b0y(A:fit ops.toList ops.toList 0=true){KF:Fr->Prop}(D:∀j,j<ops.size->∃v,res j=some v):∀(l:List Oper)(k:Nat),ops.toList.drop k=l->k+l.length=ops.size ->
  KF (.f (Gs ops g (2 ^ ops.size-1) res) ds)->Kk res KF l k (.f (Gs ops g (2 ^ k-1) res) ds)
 | [],k,_,U,h=>by
  have:k=ops.size:=by grind
  subst this;exact h
 | o::l,k,Z,U,h=>by
  have a0:k<ops.size:=by grind
  obtain⟨v,hv⟩:=D k a0;have a1:ops.toList[k]?=some o:=by
   have:(ops.toList.drop k)[0]?=some o:=by grind
   grind
  unfold Kk;rw[hv];dsimp only;rw[Q8 A (Co.1 a1)];have e1:C9 res k v=res:=by
   funext j;unfold C9;grind
  rw[e1,d1g (S':=2 ^ (k+1)-1) (λj _=>by
   grind)]
  refine b0y A D l (k+1) ?_ (by grind) h;have:=congrArg List.tail Z;simpa using this
theorem d1h(hW:Ir W)(A:fit ops.toList ops.toList 0=true)(Z:Ko P (ancs [] ops.toList) ops.toList ops.toList 0=true)(a1:List Nat):
  ∀(cs:List Nat)(k:Nat)(s:Hs)(S:Nat)(res:ResF) (H:Mem) (held:List Nat) (als:Als) (alsP:AlP),(∀c∈cs,∃o,ops[c]?=some o/\Cw o.op=true) ->
   PS P ops g ds s S res H held als alsP->Eg (ancs [] ops.toList) ops.toList S (O7 (ancs [] ops.toList) a1 ops.toList k cs s)=true ->
   Bt P W ops (Iq Q) (O7 (ancs [] ops.toList) a1 ops.toList k cs s) (.f (Gs ops g S res) ds) H alsP ->
   O1 P W ops (ancs [] ops.toList) (.f g ds) a1 Q k cs res H held als:=by
 intro cs
 induction cs with
 | nil =>
  intro k s S res H held als alsP _ ps h hp;rw[T1];unfold O7 at h hp;refine Jp A Z ?_ _ _ _ _ _ _ _ _ (λj hj=>?_) ps h hp
  .intro s S res H held als alsP ps h hp;obtain⟨h1,h2,s',_,_,a0,D,U⟩:=b0x A Z ps h hp;refine⟨h1,h2,?_⟩;have hS:S+1=2 ^ ops.toList.length:=Xe D;have a3:S=2 ^ ops.size-1:=by grind
   have hq:Q (.norm (.f (Gs ops g S res) ds) H):=U;subst a3;have hz:Fr.f g ds=.f (Gs ops g (2 ^ 0-1) res) ds:=by
    congr 1;funext t;unfold Gs;grind
   show Kk res (λfr=>Q (.norm fr H)) ops.toList 0 (.f g ds);rw[hz];refine b0y A (λj hj=>a0.pi.dn j ?_) ops.toList 0 rfl (by simp) hq;grind
  grind[Lz,Il]
 | cons c cs ih =>
  intro k s S res H held als alsP a2 ps h hp;rw[T1];unfold O7 at h hp;refine Jp A Z ?_ _ _ _ _ _ _ _ _ (λj hj=>?_) ps h hp
  .intro s S res H held als alsP ps h hp;obtain⟨h1,h2,s',e1,e2,a0,D,U⟩:=b0x A Z ps h hp;refine⟨h1,h2,?_⟩;simp only[Eg,W1] at D;obtain⟨⟨t1,t2⟩,D⟩:=D;have hi:S.testBit c=false:=by grind
   have ha:=Q9 t2;obtain⟨o,ho,a5⟩:=a2 c (by simp);have a4:cls o.op=.chain:=by
    grind[Cw]
   unfold Bt at U;rw[ho] at U;dsimp only at U;refine d1f hW A Z a0.pi ho a4 hi ha U ?_;intro v H' hk;refine ih _ _ _ _ _ _ _ _ (λc hc=>a2 c (by grind)) ?_ D hk;have p1:=a0.step hi ha v;refine⟨p1.pi,λj hj=>?_,λx hx=>?_⟩
   .have hm:j∈held/\A3 (ancs [] ops.toList) c j=false:=a2s hj;obtain⟨a,b,d⟩:=p1.hd j hm.1;grind
   .have hm:x∈als/\A3 (ancs [] ops.toList) c x.1=false:=a2t hx;obtain⟨a,d⟩:=p1.al x hm.1;grind
  grind[Lz,Il]
theorem a2u(U:Ir W)(A:Q7 P ops.toList=true)(h:Bt P W ops (Iq Q) (Nt ops.toList) (.f g ds) H []):Tx P W ops (.f g ds) H Q:=by
 unfold Q7 at A;simp only[W1] at A;obtain⟨⟨⟨Z,h2⟩,h3⟩,D⟩:=A;have a0:fit ops.toList ops.toList 0=true:=by
  simp_all[On]
 have hz:Fr.f g ds=.f (Gs ops g 0 (λ_=>none)) ds:=by
  congr 1;grind[Gs]
 refine⟨Z,h2,?_⟩;unfold Nt at h D;rw[hz] at h;refine d1h U a0 h3 _ _ _ _ 0 _ _ _ _ [] (λc hc=>?_) ⟨⟨λ_ _=>rfl,λj hj=>?_,λj k hj=>?_⟩,λ_ h=>(by cases h),λ_ h=>(by cases h)⟩ D h
 all_goals grind[mem_chainOf]
end
section
def planAt:List (Nat×List It)->Nat->List It
 | [],_=>[]
 | (k,l)::r,i=>if k=i then l else planAt r i
def Hu(P:Program)(plan:List (Nat×List It)):Code->Bool
 | .region id ops true=>Q7 P ops.toList&&decide (Nt ops.toList=planAt plan id)
 | .seq a b=>Hu P plan a&&Hu P plan b
 | .cond _ a b=>Hu P plan a&&Hu P plan b
 | .block _ b=>Hu P plan b
 | .loop b=>Hu P plan b
 | _=>true
noncomputable def Md(P:Program)(W:WF)(ops:Array Oper)(Q:Out->Prop)(l:List It)(fr:Fr)(H:Mem):Prop:=match fr with
 | .f g ds=>Bt P W ops (Iq Q) l (.f g ds) H []
 | _=>False
noncomputable def C4(P:Program)(W:WF)(L:LF)(plan:List (Nat×List It)):Code->Fr->Mem->(Out->Prop)->Prop
 | .skip,fr,H,Q=>Q (.norm fr H)
 | .region _ ops false,fr,H,Q=>Fy P W ops Q ops.toList fr H
 | .region id ops true,fr,H,Q=>Md P W ops Q (planAt plan id) fr H
 | .seq a b,fr,H,Q=>C4 P W L plan a fr H (Gi (λfr H=>C4 P W L plan b fr H Q) Q)
 | .cond c a b,fr,H,Q=>Gj (fr.ev c) (C4 P W L plan a fr H Q) (C4 P W L plan b fr H Q)
 | .block id b,fr,H,Q=>C4 P W L plan b fr H (Jj id Q)
 | .loop b,fr,H,Q=>L b fr H Q
 | .exit id,fr,H,Q=>Q (.exit id fr H)
 | .label _,fr,H,Q=>Q (.norm fr H)
 | .ret,fr,H,Q=>Q (.ret fr H)
 | _,_,_,_=>False
variable {B G:Nat}{P:Program}{n n0:Nat}{ρ0 ρ:Rn}{w0 w:World}{fr:Fr}{H:Mem}{a:Act}{W:WF}{Q:Out→Prop}{plan:List (Nat×List It)}
theorem b0z(hW:WOK G P W)(hM:Ir W)(hG:G=P.globals.size):∀(c:Code)(fr:Fr)(H:Mem)(Q:Out->Prop),Az n c=true->Hu P plan c=true->C4 P W (LX G P n) plan c fr H Q->XW G P n c fr H Q:=by
 intro c
 induction c with
 | skip=>intro fr H Q _ _ h B n0 ρ0 w0 ρ a w s;exact wp_skip ⟨_,h,ρ,s⟩
 | region id ops a6 =>
  intro fr H Q D A h B n0 ρ0 w0 ρ a w s
  cases a6 with
  | false=>exact wp_region_list (Ty hW hG ops.toList fr H ρ a w (λo U=>W7.1 D o U) s h)
  | true =>
   simp only[Hu,W1,decide_eq_true_eq] at A;have h' : Md P W ops Q (planAt plan id) fr H:=h;rw[<- A.2] at h'
   cases fr with
   | f g ds=>exact b0a hW hG s D (a2u hM A.1 h')
   | _=>exact h'.elim
 | seq x y a1 a2 =>
  intro fr H Q D A h B n0 ρ0 w0 ρ a w s;simp only[Az,W1] at D;simp only[Hu,W1] at A;refine wp_seq (Code.wp_mono ?_ (a1 fr H _ D.1 A.1 h B n0 ρ0 w0 ρ a w s));rintro e a' w' ⟨a4,Z,U⟩
  cases a4 with
  | norm a0 H' =>
   cases e with
   | normal=>obtain⟨ρ',s'⟩:=U;exact a2 a0 H' Q D.2 A.2 Z B n0 ρ0 w0 ρ' a' w' s'
   | _=>exact U.elim
  | exit id a0 H'=>cases e<;>first|exact U.elim|exact⟨_,Z,U⟩
  | ret a0 H'=>cases e<;>first|exact U.elim|exact⟨_,Z,U⟩
  | panic v a0 H'=>cases e<;>first|exact U.elim|exact⟨_,Z,U⟩
  | bad=>exact Z.elim
 | cond a7 x y a1 a2 =>
  intro fr H Q D A h B n0 ρ0 w0 ρ a w s;simp only[Az,W1] at D;simp only[Hu,W1] at A;have h' : Gj (fr.ev a7) (C4 P W (LX G P n) plan x fr H Q) (C4 P W (LX G P n) plan y fr H Q):=h;unfold Gj at h';split at h'
  .rename_i b a8;have:=s.ev _ _ a8
   cases b with
   | true=>exact wp_cond_true this (a1 fr H Q D.1 A.1 (h'.1 rfl) B n0 ρ0 w0 ρ a w s)
   | false=>exact wp_cond_false this (a2 fr H Q D.2 A.2 (h'.2 rfl) B n0 ρ0 w0 ρ a w s)
  grind
 | block id b ih =>
  intro fr H Q D A h B n0 ρ0 w0 ρ a w s;refine wp_block (Code.wp_mono ?_ (ih fr H _ D A h B n0 ρ0 w0 ρ a w s));rintro e a' w' ⟨a4,Z,U⟩
  cases a4 with
  | norm a0 H'=>cases e<;>first|exact U.elim|exact⟨_,Z,U⟩
  | exit a9 a0 H' =>
   cases e with
   | exit a5 =>
    obtain⟨rfl,ρ',s'⟩:=U;have a3:if a5=id then Q (.norm a0 H') else Q (.exit a5 a0 H'):=Z;by_cases e:a5=id
    .subst e;rw[if_pos rfl] at a3;simp only[Exit.inBlock,if_true];exact⟨_,a3,ρ',s'⟩
    .rw[if_neg e] at a3;simp only[Exit.inBlock,e,if_false];exact⟨_,a3,rfl,ρ',s'⟩
   | _=>exact U.elim
  | ret a0 H'=>cases e<;>first|exact U.elim|exact⟨_,Z,U⟩
  | panic v a0 H'=>cases e<;>first|exact U.elim|exact⟨_,Z,U⟩
  | bad=>exact Z.elim
 | loop b ih =>
  intro fr H Q D A h B n0 ρ0 w0 ρ a w s;exact LW.wp (h B n0 ρ0 w0 ρ a w s)
 | rangeFunc f ps x y a1 a2=>intro fr H Q D A h;exact h.elim
 | exit id=>intro fr H Q D A h B n0 ρ0 w0 ρ a w s;exact wp_exit ⟨_,h,rfl,ρ,s⟩
 | scope b ih=>intro fr H Q D A h;exact h.elim
 | label l=>intro fr H Q D A h B n0 ρ0 w0 ρ a w s;exact wp_label ⟨_,h,ρ,s⟩
 | goto l=>intro fr H Q D A h;exact h.elim
 | ret=>intro fr H Q D A h B n0 ρ0 w0 ρ a w s;exact wp_ret ⟨_,h,ρ,s⟩
 | refuse b0=>intro fr H Q D A h;exact h.elim
theorem LX.roundP{O:CallF}(hO:∀B,A8 B G P O)(hG:G=P.globals.size)(plan:List (Nat×List It)){b:Code}(U:(Az n b&&Hu P plan b)=true)
  (h:C4 P (orW O (WC G P)) (LX G P n) plan b fr H (Gi (λfr H=>LX G P n b fr H Q) Q)):LX G P n b fr H Q:=by
 rw[W1] at U;intro B n0 ρ0 w0 ρ a w s;refine Y2 (Code.wp_mono ?_ (b0z (Tz hO) (Uj (Ui G P)) hG b fr H _ U.1 U.2 h B n0 ρ0 w0 ρ a w s));rintro e a' w' ⟨a0,D,A⟩
 cases a0 with
 | norm Z H' =>
  cases e with
  | normal=>obtain⟨ρ',s'⟩:=A;exact D B n0 ρ0 w0 ρ' a' w' s'
  | _=>exact A.elim
 | exit id Z H'=>cases e<;>first|exact A.elim|exact⟨_,D,A⟩
 | ret Z H'=>cases e<;>first|exact A.elim|exact⟨_,D,A⟩
 | panic v Z H'=>cases e<;>first|exact A.elim|exact⟨_,D,A⟩
 | bad=>exact D.elim
abbrev Xx:=@LX.roundP
theorem WC.enterP{f:FuncId}{fn:Func}{c:Code}{args:List AV}{K:A1->Prop}{O:CallF}(hO:∀B,A8 B G P O)(hG:G=P.globals.size)(plan:List (Nat×List It))(hf:P.funcs[f]?=some fn)(hb:fn.body=some c)
  (hd:(Az fn.ntmps c&&Hu P plan c)=true) (hl:args.length<=fn.ntmps) (h:C4 P (orW O (WC G P)) (LX G P fn.ntmps) plan c (Hn args) H (G7 P O fn K)):WC G P f args H K:=by
 rw[W1] at hd;intro B ρ us w s hv;have s1:St B G fn.ntmps H.next ρ w ρ (Hn args) H { tmps:=us++Array.replicate (fn.ntmps-us.size) undef,defers:=[] } w:=⟨Ya _ _ _ _,s,T5 hv hl,Wy _⟩;refine calls_of_wp_defers hf hb (Code.wp_mono ?_ (b0z (Tz hO) (Uj (Ui G P)) hG c _ H _ hd.1 hd.2 h B H.next ρ w ρ _ w s1));rintro e Z w' ⟨a0,hq,U⟩;have fin:∀{A:Fr}{u:Mode}{H' : Mem}{ρ' : Rn}{m:FrameMode},(match C3 P O (λ_ _ _=>.bad) fn A A.defers u H' with|.bad=>False|r=>K r)->St B G fn.ntmps H.next ρ w ρ' A H' Z w'->MR ρ' u m ->
   Leaves P fn Z.tmps (λe w'=>∃r,K r/\Jg B G H.next ρ w r e w') Z.defers m w':=by
  intro A u H' ρ' m hm D a1;have key:∀r,C3 P O (λ_ _ _=>.bad) fn A A.defers u H'=r->r≠.bad->K r->Leaves P fn Z.tmps (λe w'=>∃r,K r/\Jg B G H.next ρ w r e w') Z.defers m w':=by
   intro r hr a2 hk;refine T6 (λe w' hc=>⟨r,hk,hc⟩) ?_;exact L4 (hO B) (b0c B G P) hG a2 _ _ u H' ρ' m w' D.frel.dfr D a1 hr
  grind
 cases a0 with
 | norm A H' =>
  cases e with
  | normal=>obtain⟨ρ',D⟩:=U;exact fin (u:=.returning) (m:=.returning) hq D rfl
  | _=>exact U.elim
 | ret A H' =>
  cases e with
  | ret=>obtain⟨ρ',D⟩:=U;exact fin (u:=.returning) (m:=.returning) hq D rfl
  | _=>exact U.elim
 | panic v A H' =>
  cases e with
  | panic a3=>obtain⟨ρ',x,rfl,hx,D⟩:=U;exact fin (u:=.panicking v) hq D ⟨x,rfl,hx⟩
  | _=>exact U.elim
 | exit id A H'=>exact hq.elim
 | bad=>exact hq.elim
abbrev Xw:=@WC.enterP
end
section
variable {P:Program}{W:WF}{L:LF}{Q:Out→Prop}{fr:Fr}{H:Mem}{plan:List (Nat×List It)}{ops:Array Oper}{al:AlP}
variable {tk id i:Nat}{l:List Oper}{b:Code}{r:List It}{as:List Nat}
theorem d1i(A:tick=tk){c:Code}{fr h:Fr}{H H' : Mem}(D:fr=h)(U:H=H'):C4 P W L plan c fr H Q=C4 P W L plan c h H' Q:=by grind
theorem d1j(A:tick=tk){l:List It}{fr h:Fr}{H H' : Mem}(D:fr=h)(U:H=H'):Bt P W ops Q l fr H al=Bt P W ops Q l h H' al:=by grind
theorem d1k(A:tick=tk){l:List Nat}{fr h:Fr}{H H' : Mem}(D:fr=h)(U:H=H'):Ht P W ops fr H l=Ht P W ops h H' l:=by grind
theorem d1l(D:tick=tk){l h:List It}{fr A:Fr}{H H' : Mem}(U:l=h)(Z:fr=A)(h2:H=H'):Md P W ops Q l fr H=Md P W ops Q h A H':=by grind
theorem d1m(D:tick=tk){o A:Out}(h:o=A):Iq Q o=Iq Q A:=by rw[h]
def atW(l:List Oper)(i:Nat)(k:Oper->Prop):Prop:=match l[i]? with|some o=>k o|none=>False
theorem d1n{o:Oper}{k:Oper->Prop}:atW (o::l) 0 k=k o:=(rfl)
theorem d1o{o:Oper}{n:Nat}{k:Oper->Prop}:atW (o::l) (n+1) k=atW l n k:=(rfl)
theorem d1p(h:tick=tk){l:List Oper}{i:Nat}{k:Oper->Prop}:atW l i k=atW l i k:=rfl
attribute [congr] d1i d1j d1k d1l d1m d1p
theorem execP_skip:C4 P W L plan .skip fr H Q=Q (.norm fr H):=(rfl)
theorem d1q:C4 P W L plan (.region id l.toArray false) fr H Q=Fy P W l.toArray Q l fr H:=(rfl)
theorem d1r:C4 P W L plan (.region id ops true) fr H Q=Md P W ops Q (planAt plan id) fr H:=(rfl)
theorem d1s{a:Code}:C4 P W L plan (.seq a b) fr H Q=C4 P W L plan a fr H (Gi (λfr H=>C4 P W L plan b fr H Q) Q):=(rfl)
theorem d1t{x:Operand}{a:Code}:C4 P W L plan (.cond x a b) fr H Q=Gj (fr.ev x) (C4 P W L plan a fr H Q) (C4 P W L plan b fr H Q):=(rfl)
theorem d1u:C4 P W L plan (.block id b) fr H Q=C4 P W L plan b fr H (Jj id Q):=(rfl)
theorem d1v:C4 P W L plan (.loop b) fr H Q=L b fr H Q:=(rfl)
theorem d1w:C4 P W L plan (.exit id) fr H Q=Q (.exit id fr H):=(rfl)
theorem execP_ret:C4 P W L plan .ret fr H Q=Q (.ret fr H):=(rfl)
theorem d1x{g:Nat->Option AV}{ds:List Dfr}{l:List It}:Md P W ops Q l (.f g ds) H=Bt P W ops (Iq Q) l (.f g ds) H []:=(rfl)
theorem clearQ_norm:Iq Q (.norm fr H)=Q (.norm fr H):=(rfl)
theorem planW_nil:Bt P W ops Q [] fr H al=Q (.norm fr H):=(rfl)
theorem d1y:Bt P W l.toArray Q (.run i::r) fr H al=atW l i λo=>Dm P W l.toArray o fr H (λfr H=>Bt P W l.toArray Q r fr H al) Q:=by
 rw[Bt,List.getElem?_toArray];rfl
theorem d1z:Bt P W l.toArray Q (.mk i::r) fr H al=atW l i λo=>Dm P W l.toArray o fr H (λfr H'=>Bt P W l.toArray Q r fr H' ((i,H.next,H'.get H.next)::al)) Q:=by
 rw[Bt,List.getElem?_toArray];rfl
theorem d2a{hs:List Nat}:Bt P W ops Q (.gate hs as::r) fr H al=(Ht P W ops fr H hs/\Kp H as al/\Bt P W ops Q r fr H al):=(rfl)
theorem againW_nil:Ht P W ops fr H []=True:=(rfl)
theorem d2b{hs:List Nat}:Ht P W l.toArray fr H (i::hs)=((atW l i λo=>Dm P W l.toArray o fr H (λh _=>Eh h o.dst=Eh fr o.dst) λ_=>False)/\Ht P W l.toArray fr H hs):=by
 rw[Ht,List.getElem?_toArray];rfl
theorem d2c{d:Tmp}:Eh fr (some d)=fr.get d:=(rfl)
theorem d2d:Kp H as []=True:=(rfl)
theorem d2e{a:Nat}{b:Option Blk}{l:AlP}:Kp H as ((i,a,b)::l)=((i∈as->H.get a=b)/\Kp H as l):=(rfl)
attribute [simp] execP_skip d1q d1r d1s d1t d1u d1v d1w execP_ret d1x clearQ_norm
 planW_nil d1y d1z d2a againW_nil d2b d2c d2d d2e d1n d1o
end
section
variable {P:Program}{H:Mem}
section
variable {ev:Ev}{d:Option Tmp}{ty:TypeId}{p:String}{af:Array Edge}{g:Option (Nat×Bool)}
theorem b1a{t:TypeId}{i:TypeInfo}(h:P.info? t=some i):Ar P (typeInfo t)=some i:=by
 unfold typeInfo;show Ar P (match P.info? t with|some d=>pure d|none=>stuck "no such type")=_;rw[h];rfl
theorem d2f{t:TypeId}{a b:Bool}(h:P.underlying t=some .bool):Ar P (Op.equal t (.bool a) (.bool b))=some (a==b):=by
 unfold Op.equal;show Ar P (Op.equalIn (9999+1) t (.bool a) (.bool b))=_;unfold Op.equalIn;exact(Bo (m:=underlying t) (Hr h)).trans rfl
theorem d2g{t h:TypeId}{x y:Operand}{a b:Bool}(hx:ev x=some (.lit (.bool a)))(hy:ev y=some (.lit (.bool b)))(A:P.underlying t=some .bool):
  Fz P H ev ⟨d,.binOp .neq t x y h,ty,p,af,g⟩ .neq t (some (.lit (.bool a))) (some (.lit (.bool b)))=.val (.lit (.bool (!(a==b)))) H:=by
 unfold Fz;dsimp only;rw[Nr (v:=.lit (.bool (!(a==b)))) rfl];refine L9 (r:=.bool (!(a==b))) rfl hx hy λρ D U=>Ns D U rfl ?_;show Ar P (do pure (Value.bool (!(<- Op.equal t (.bool a) (.bool b)))))=_;exact(Bo (d2f A)).trans rfl
attribute [simp] d2g
end
end
variable {n' sz n2 B n0:Nat}{P:Program}
structure Nu where
 n:Nat
 succ:Nat->List Nat
abbrev SetS:=Nat->Bool
def Nu.ok(G:Nu):Prop:=∀s,s<G.n->∀t∈G.succ s,t<G.n
def leS(n:Nat)(X Y:SetS):Prop:=∀s,s<n->X s=true->Y s=true
def eqS(n:Nat)(X Y:SetS):Prop:=∀s,s<n->X s=Y s
theorem eqS.le{n:Nat}{X Y:SetS}(h:eqS n X Y):leS n X Y:=λs hs hx=>by rw[<- h s hs];grind
theorem eqS.symm{n:Nat}{X Y:SetS}(h:eqS n X Y):eqS n Y X:=λs hs=>(h s hs).symm
theorem eqS.trans{n:Nat}{X Y Z:SetS}(h:eqS n X Y)(A:eqS n Y Z):eqS n X Z:=λs hs=>(h s hs).trans (A s hs)
theorem leS.antisymm{n:Nat}{X Y:SetS}(h:leS n X Y)(A:leS n Y X):eqS n X Y:=λs hs=>by
 cases hx:X s with
 | true=>exact(h s hs hx).symm
 | false =>
  cases hy:Y s with
  | false=>rfl
  | true=>rw[A s hs hy] at hx;grind
def Nu.pre(G:Nu)(X:SetS):SetS:=λs=>(G.succ s).any X
def Nu.post(G:Nu)(X:SetS):SetS:=λs=>(G.succ s).all X
structure IsL (n:Nat) (F:SetS->SetS) (L:SetS):Prop where
 fix:eqS n (F L) L
 least:∀Z,leS n (F Z) Z->leS n L Z
theorem IsL.uniq{n:Nat}{F:SetS->SetS}{L M:SetS}(h:IsL n F L)(A:IsL n F M):eqS n L M:=(h.least M A.fix.le).antisymm (A.least L h.fix.le)
def cnt(X:SetS):Nat->Nat
 | 0=>0
 | k+1=>cnt X k+(if X k then 1 else 0)
section
variable {B G:Nat}{P:Program}{ρ:Rn}{H:Mem}{w:World}
noncomputable def orR(x:A1)(y:A1):A1:=A1.rec (motive:=λ_=>A1) (λv H=>.ret v H) (λv H=>.panic v H) y x
noncomputable def orC(O c:CallF):CallF:=λf a H=>orR (O f a H) (c f a H)
theorem d2h{O c:CallF}(U:A8 B G P O)(Z:A8 B G P c):A8 B G P (orC O c):=by
 intro f args H h ρ us w s A;unfold orC at h |-
 cases D:O f args H with
 | bad=>rw[D] at h;exact Z f args H h ρ us w s A
 | ret v H'=>have:=U f args H (by grind) ρ us w s A;rw[D] at this;exact this
 | panic v H'=>have:=U f args H (by grind) ρ us w s A;rw[D] at this;exact this
noncomputable def Mem.fn(H:Mem):Mem:=⟨.fn H.get,H.next⟩
theorem Sim.toFn(s:Sim B G ρ H w):Sim B G ρ H.fn w:=⟨s.blk,s.inj,s.fresh,s.glob,s.names,s.base⟩
theorem Sim.ofFn(s:Sim B G ρ H.fn w):Sim B G ρ H w:=⟨s.blk,s.inj,s.fresh,s.glob,s.names,s.base⟩
theorem WC.ofFn{f:FuncId}{args:List AV}{v:AV}(h:WC G P f args H.fn λr=>r=.ret v H.fn):WC G P f args H λr=>r=.ret v H:=by
 intro B ρ us w s A;refine(h B ρ us w s.toFn A).mono ?_;rintro e w' ⟨r,rfl,D⟩;refine⟨_,rfl,?_⟩
 cases e with
 | returned u =>
  obtain⟨ρ',U,Z,h3,h4⟩:=D;exact⟨ρ',U,Z.ofFn,h3,Wy _⟩
 | panicked a0=>assumption
 | outgrown=>assumption
abbrev Y4:=@WC.ofFn
mutual
def Ei(n:Nat):AV->Bool
 | .lit _=>true
 | .es=>true
 | .ptr a _=>Nat.blt a n
 | .sl a _ _ _=>Nat.blt a n
 | .slq a _ _ _=>Nat.blt a n
 | .map a=>Nat.blt a n
 | .func _ x y=>belowL n x&&belowL n y
 | .iface _ v=>Ei n v
 | .agg l=>belowL n l
 | .tup l=>belowL n l
def belowL (n:Nat):List AV->Bool
 | []=>true
 | v::l=>Ei n v&&belowL n l
end
def O9(n:Nat)(ρ:Rn):Rn:=λa=>if a<n then ρ a else none
theorem Uk{n a:Nat}{ρ:Rn}(h:Nat.blt a n=true):O9 n ρ a=ρ a:=if_pos (Wz h)
mutual
theorem a2v{n:Nat}{ρ:Rn}:∀{v:AV}{u:Value},Ei n v=true->VR ρ v u->VR (O9 n ρ) v u
 | .lit _,_,_,r=>r
 | .es,_,_,r=>r
 | .ptr a _,_,hb,⟨b,o,k,e,r⟩=>⟨b,o,k,(Uk (by simpa[Ei] using hb)).trans e,r⟩
 | .sl a _ _ _,_,hb,⟨b,o,k,e,r⟩=>⟨b,o,k,(Uk (by simpa[Ei] using hb)).trans e,r⟩
 | .slq a _ _ _,_,hb,⟨b,o,k,e,r⟩=>⟨b,o,k,(Uk (by simpa[Ei] using hb)).trans e,r⟩
 | .map a,_,hb,⟨b,o,k,e,r⟩=>⟨b,o,k,(Uk (by simpa[Ei] using hb)).trans e,r⟩
 | .func _ _ _,_,hb,⟨h,A,e,r,q⟩=>by
  simp only[Ei,W1] at hb;exact⟨h,A,e,below_VRs hb.1 r,below_VRs hb.2 q⟩
 | .iface _ _,_,hb,⟨u',e,r⟩=>⟨u',e,a2v (by simpa[Ei] using hb) r⟩
 | .agg _,_,hb,⟨cs,e,r⟩=>⟨cs,e,below_VRs (by simpa[Ei] using hb) r⟩
 | .tup _,_,hb,⟨cs,e,r⟩=>⟨cs,e,below_VRs (by simpa[Ei] using hb) r⟩
theorem below_VRs {n:Nat} {ρ:Rn}:∀{l:List AV}{us:List Value},belowL n l=true->VRs ρ l us->VRs (O9 n ρ) l us
 | [],_,_,r=>r
 | _::_,_,hb,⟨u,D,e,r,q⟩=>by
  simp only[belowL,W1] at hb;exact⟨u,D,e,a2v hb.1 r,below_VRs hb.2 q⟩
end
def Ul(n:Nat):Option Blk->Bool
 | none=>true
 | some (.cells l own _)=>!own&&belowL n l
 | _=>false
def b1b(v:AV):A1->Bool
 | .ret u _=>eqAV u v
 | _=>false
theorem Sim.small{H0:Mem}(s:Sim B G ρ H w)(hG:G<=H0.next)(D:∀a,Ul H0.next (H0.get a)=true)(U:∀a x,H0.get a=some x->H.get a=some x)(Z:∀a x,H0.get a=some x->a<H0.next):
  Sim w.heap.size G (O9 H0.next ρ) H0 w:=by
 refine⟨λa x h=>?_,λa a' x x' b o k o' k' h _ _ a0=>?_,λa h=>if_neg (Nat.not_lt.2 h),λa x a1 h=>?_,hG,Wy _⟩
 .have A:O9 H0.next ρ a=ρ a:=if_pos (Z a x h);rcases s.blk a x (U a x h) with hn|⟨b,o,k,h1,h2⟩
  .grind
  .refine .inr ⟨b,o,k,A.trans h1,?_⟩;have hs:=D a;rw[h] at hs
   cases x with
   | cells l own z =>
    simp only[Ul,W1,e9a] at hs;obtain⟨c,e,fz,h3,h4,h5⟩:=h2;refine⟨c,e,fz,h3,λi v hi=>?_,λa0=>by grind⟩;obtain⟨u,hu,hv⟩:=h4 i v hi;refine⟨u,hu,a2v ?_ hv⟩;have key:∀(l:List AV)(i:Nat),belowL H0.next l=true->l[i]?=some v->Ei H0.next v=true:=by
     intro l
     induction l with
     | nil=>grind
     | cons y l ih =>
      (simp_all[belowL];grind)
    grind
   | map _ _=>cases hs
   | siter _ _=>cases hs
   | typ _ _ _=>cases hs
 .have hs:=D a;rw[h] at hs
  cases x with
  | cells l own z =>
   simp only[Ul,W1,e9a] at hs;have:own=true:=a0;grind
  | map _ _=>cases hs
  | siter _ _=>cases hs
  | typ _ _ _=>cases hs
 .have A:O9 H0.next ρ a=ρ a:=if_pos (Z a x h);exact A.trans (s.glob a x a1 (U a x h))
theorem WC.local{H0:Mem}{O:CallF}{f:FuncId}{args:List AV}{v:AV}(hO:∀B,A8 B G P O)(h:b1b v (O f args H0)=true)(hv:plainV v=true)(a0:belowL 0 args=true)
  (hG:G<=H0.next) (a1:∀a,Ul H0.next (H0.get a)=true) (a2:∀a x,H0.get a=some x->H.get a=some x) (a3:∀a x,H0.get a=some x->a<H0.next) :
  WC G P f args H λr=>r=.ret v H:=by
 intro B ρ us w s a4;have a5:∀(n:Nat),(∀v,Ei 0 v=true->Ei n v=true)/\(∀l,belowL 0 l=true->belowL n l=true):=by
  intro n;have hV:∀v,Ei 0 v=true->Ei n v=true:=by
   intro v;refine AV.rec (motive_1:=λv=>Ei 0 v=true->Ei n v=true) (motive_2:=λl=>belowL 0 l=true->belowL n l=true) ?_ ?_ ?_ ?_ ?_ ?_ ?_ ?_ ?_ ?_ ?_ ?_ v
   all_goals intros
   all_goals simp_all[Ei,belowL]
  have hL:∀l,belowL 0 l=true->belowL n l=true:=by
   intro l
   induction l with
   | nil=>intro _;rfl
   | cons x l ih =>
    simp_all[belowL]
  grind
 have s0:=s.small hG a1 a2 a3;have a6:∃u A,O f args H0=.ret u A/\u=v:=by
  cases D:O f args H0 with
  | ret u A=>rw[D] at h;exact⟨u,A,rfl,eqAV_sound _ _ h⟩
  | panic u A=>rw[D] at h;cases h
  | bad=>rw[D] at h;cases h
 obtain⟨u,A,D,rfl⟩:=a6;refine(hO _ f args H0 (by grind) _ us w s0 (below_VRs ((a5 H0.next).2 args a0) a4)).mono ?_;intro e w' Z;rw[D] at Z;refine⟨_,rfl,?_⟩
 cases e with
 | returned x =>
  obtain⟨ρ',h1,h2,h3,h4⟩:=Z;have hb:=h1.below;have a7:Go.RowKit.Below B w w':=⟨hb.os,hb.tape,hb.output,hb.size,λa U=>hb.block a (Xm U s.base)⟩;refine⟨ρ,⟨λ_ _=>rfl,h1.keeps,a7⟩,?_,Jo hv h3,Wy _⟩;refine s.other hb.size λa x b o k U a8=>?_;exact hb.block b (s.at U a8).lt
 | panicked a9=>assumption
 | outgrown=>assumption
end
section
variable {G:Nat}{P:Program}{W:WF}{Q:Out→Prop}{fr:Fr}{H:Mem}{ev:Ev}{d:Option Tmp}{ty:TypeId}{p:String}{af:Array Edge}{g:Option (Nat×Bool)}
noncomputable def Ra(P:Program)(H:Mem)(ev:Ev)(o:Oper)(x y:Option AV):R:=match x,y with
 | some (.lit (.int k a)),some (.lit (.int _ b))=>.val (.lit (.int k (if b > a then b else a))) H
 | _,_=>opV P H ev o
theorem d2i{x y:Operand}{s t:TypeId}:opV P H ev ⟨d,.call ⟨.builtin .max,#[x,y],#[s,t]⟩,ty,p,af,g⟩=Ra P H ev ⟨d,.call ⟨.builtin .max,#[x,y],#[s,t]⟩,ty,p,af,g⟩ (ev x) (ev y):=by
 unfold Ra;split
 .rename_i k a h b hx hy;have hg:A7 P ev ⟨d,.call ⟨.builtin .max,#[x,y],#[s,t]⟩,ty,p,af,g⟩=some (.lit (.int k (if b > a then b else a))):=by
   refine L9 (u:=.int k a) (u':=.int h b) (by rfl) hx hy λρ A D=>?_;rw[Jf (b:=.max) (c:=⟨.builtin .max,#[x,y],#[s,t]⟩) rfl rfl];have U:(#[x,y]:Array Operand).map ρ=#[ρ x,ρ y]:=by simp
   have Z:Ar P (Builtin.max_ #[s,t] ty #[ρ x,ρ y])=some (.int k (if b > a then b else a)):=by
    rw[A,D];rfl
   show Ar P (builtin .max #[s,t] ty _ ((#[x,y]:Array Operand).map ρ))=_;rw[U];show Ar P (do pure (Next.value (<- Builtin.max_ #[s,t] ty #[ρ x,ρ y])))=_;exact(Bo Z).trans rfl
  show Br P H ev _ ⟨.builtin .max,#[x,y],#[s,t]⟩=_;unfold Br;rw[show (#[x,y]:Array Operand).toList=[x,y] from rfl];simp_all[Fg]
 .rfl
theorem d2j{D:Nat}(U:tick=D){o:Oper}{x h y A:Option AV}{H H' : Mem}(Z:H=H')(h2:x=h)(h3:y=A):Ra P H ev o x y=Ra P H' ev o h A:=by grind
attribute [congr] d2j
theorem d2k{o:Oper}{k h:IntKind}{a b:Int}:Ra P H ev o (some (.lit (.int k a))) (some (.lit (.int h b)))=.val (.lit (.int k (if b > a then b else a))) H:=(rfl)
noncomputable def Rb(P:Program)(H:Mem)(ev:Ev)(o:Oper)(x y:Option AV):R:=match x,y with
 | some (.lit (.int k a)),some (.lit (.int _ b))=>.val (.lit (.int k (if b<a then b else a))) H
 | _,_=>opV P H ev o
theorem d2l{x y:Operand}{s t:TypeId}:opV P H ev ⟨d,.call ⟨.builtin .min,#[x,y],#[s,t]⟩,ty,p,af,g⟩=Rb P H ev ⟨d,.call ⟨.builtin .min,#[x,y],#[s,t]⟩,ty,p,af,g⟩ (ev x) (ev y):=by
 unfold Rb;split
 .rename_i k a h b hx hy;have hg:A7 P ev ⟨d,.call ⟨.builtin .min,#[x,y],#[s,t]⟩,ty,p,af,g⟩=some (.lit (.int k (if b<a then b else a))):=by
   refine L9 (u:=.int k a) (u':=.int h b) (by rfl) hx hy λρ A D=>?_;rw[Jf (b:=.min) (c:=⟨.builtin .min,#[x,y],#[s,t]⟩) rfl rfl];have U:(#[x,y]:Array Operand).map ρ=#[ρ x,ρ y]:=by simp
   have Z:Ar P (Builtin.min_ #[s,t] ty #[ρ x,ρ y])=some (.int k (if b<a then b else a)):=by
    rw[A,D];rfl
   show Ar P (builtin .min #[s,t] ty _ ((#[x,y]:Array Operand).map ρ))=_;rw[U];show Ar P (do pure (Next.value (<- Builtin.min_ #[s,t] ty #[ρ x,ρ y])))=_;exact(Bo Z).trans rfl
  show Br P H ev _ ⟨.builtin .min,#[x,y],#[s,t]⟩=_;unfold Br;rw[show (#[x,y]:Array Operand).toList=[x,y] from rfl];simp_all[Fg]
 .rfl
theorem d2m{D:Nat}(U:tick=D){o:Oper}{x h y A:Option AV}{H H' : Mem}(Z:H=H')(h2:x=h)(h3:y=A):Rb P H ev o x y=Rb P H' ev o h A:=by grind
attribute [congr] d2m
theorem d2n{o:Oper}{k h:IntKind}{a b:Int}:Rb P H ev o (some (.lit (.int k a))) (some (.lit (.int h b)))=.val (.lit (.int k (if b<a then b else a))) H:=(rfl)
attribute [simp] d2l d2n
attribute [simp] d2i d2k
end
section
variable {P:Program}{H:Mem}{ev:Ev}{d:Option Tmp}{ty:TypeId}{p:String}{af:Array Edge}{g:Option (Nat×Bool)}{x y:Operand}{s t:TypeId}{size bytes:Nat}
variable {c b tk:Nat}{hy:ev y=some (.sl b 0 1 c)}
theorem Rc{a n:Nat}{l:List AV}{own:Bool}{z:Nat}(h:H.get a=some (.cells l own z))(A:l.length=n*size):Cv H size n (.sl a 0 n c)=some l:=by
 rw[a2d h (by omega),e7r,Xi (by omega)]
variable {hp:apI P s t=some (size,bytes)}{hs:0<size}{hb:bytes≤1048576}
theorem d2o{l:List AV}{own:Bool}{z:Nat}{hx:ev x=some (.nl)}(hp:apI P s t=some (size,bytes))(hs:(decide (0<size)&&decide (bytes<=1048576))=true)
  (h:H.get b=some (.cells l own z)) (A:l.length=size) :
  ex2 P H ev ⟨d,.call ⟨.builtin .append,#[x,y],#[s,t]⟩,ty,p,af,g⟩ x y (some (.nl)) (some (.sl b 0 1 c)) hx hy=.val (.slq H.next 0 1 0) (H.add (.cells l true size)):=by
 simp only[W1,decide_eq_true_eq] at hs;show opV P H ev _=_;rw[G9 hx hy hp,b0m (n:=0) rfl hs.1 (Rc h (by omega)) (by omega) (by omega) hs.2]
theorem d2p{a off:Nat}{l l0:List AV}{own own0:Bool}{z h:Nat}{hx:ev x=some (.sl a off 0 0)}(hp:apI P s t=some (size,bytes))(hs:(decide (0<size)&&decide (bytes<=1048576))=true)
  (A:H.get b=some (.cells l own z)) (D:H.get a=some (.cells l0 own0 h)) (U:l.length=size) (Z:off<=l0.length) :
  ex2 P H ev ⟨d,.call ⟨.builtin .append,#[x,y],#[s,t]⟩,ty,p,af,g⟩ x y (some (.sl a off 0 0)) (some (.sl b 0 1 c)) hx hy=.val (.slq H.next 0 1 0) (H.add (.cells l true size)):=by
 simp only[W1,decide_eq_true_eq] at hs;show opV P H ev _=_;rw[G9 hx hy hp,a2e (n:=0) rfl hs.1 (Rc A (by omega)) (by omega) D (by omega) (by omega) (by omega) hs.2];simp
theorem d2q{a k:Nat}{l r:List AV}{own:Bool}{z:Nat}{hx:ev x=some (.slq a 0 k 0)}(hp:apI P s t=some (size,bytes))(hs:(decide (0<size)&&decide (bytes<=1048576))=true)
  (h:H.get b=some (.cells l own z)) (A:H.get a=some (.cells r true size)) (Z:l.length=size) (D:r.length=k*size) (hk:k<=1000000) (U:allOne l=true) :
  ex2 P H ev ⟨d,.call ⟨.builtin .append,#[x,y],#[s,t]⟩,ty,p,af,g⟩ x y (some (.slq a 0 k 0)) (some (.sl b 0 1 c)) hx hy=.val (.slq H.next 0 (k+1) 0) ((H.rm a).add (.cells (r++l) true size)):=by
 simp only[W1,decide_eq_true_eq] at hs;show opV P H ev _=_;rw[G9 hx hy hp,b0n (n:=0) rfl hs.1 (Rc h (by omega)) (by omega) A D (by omega) hs.2 U];rfl
/- The same,by what the blocks hold. -/
noncomputable def apN(q:Option (Nat×Nat))(gb:Option Blk)(H:Mem)(els:R):R:=match q,gb with
 | some (size,bytes),some (.cells l _ _)=>if 0<size/\bytes<=1048576/\l.length=size then .val (.slq H.next 0 1 0) (H.add (.cells l true size)) else els
 | _,_=>els
noncomputable def apZ(q:Option (Nat×Nat))(off:Nat)(ga gb:Option Blk)(H:Mem)(els:R):R:=match q,ga,gb with
 | some (size,bytes),some (.cells l0 _ _),some (.cells l _ _)=>if 0<size/\bytes<=1048576/\l.length=size/\off<=l0.length then .val (.slq H.next 0 1 0) (H.add (.cells l true size)) else els
 | _,_,_=>els
noncomputable def apQ(q:Option (Nat×Nat))(k a:Nat)(ga gb:Option Blk)(H:Mem)(els:R):R:=match q,ga,gb with
 | some (size,bytes),some (.cells r true z),some (.cells l _ _)=>if z=size/\0<size/\bytes<=1048576/\l.length=size/\r.length=k*size/\k<=1000000/\allOne l=true then .val (.slq H.next 0 (k+1) 0) ((H.rm a).add (.cells (r++l) true size)) else els
 | _,_,_=>els
theorem d2r{hx:ev x=some (.nl)}:
  ex2 P H ev ⟨d,.call ⟨.builtin .append,#[x,y],#[s,t]⟩,ty,p,af,g⟩ x y (some (.nl)) (some (.sl b 0 1 c)) hx hy=apN (apI P s t) (H.get b) H (opV P H ev ⟨d,.call ⟨.builtin .append,#[x,y],#[s,t]⟩,ty,p,af,g⟩):=by
 unfold apN;split
 .rename_i size bytes l own z h A;split
  .grind[d2o]
  .rfl
 .rfl
theorem d2s{a off:Nat}{hx:ev x=some (.sl a off 0 0)}:
  ex2 P H ev ⟨d,.call ⟨.builtin .append,#[x,y],#[s,t]⟩,ty,p,af,g⟩ x y (some (.sl a off 0 0)) (some (.sl b 0 1 c)) hx hy=apZ (apI P s t) off (H.get a) (H.get b) H (opV P H ev ⟨d,.call ⟨.builtin .append,#[x,y],#[s,t]⟩,ty,p,af,g⟩):=by
 unfold apZ;split
 .rename_i size bytes l0 h A l own z D U Z;split
  .grind[d2p]
  .rfl
 .rfl
theorem d2t{a k:Nat}{hx:ev x=some (.slq a 0 k 0)}:
  ex2 P H ev ⟨d,.call ⟨.builtin .append,#[x,y],#[s,t]⟩,ty,p,af,g⟩ x y (some (.slq a 0 k 0)) (some (.sl b 0 1 c)) hx hy=apQ (apI P s t) k a (H.get a) (H.get b) H (opV P H ev ⟨d,.call ⟨.builtin .append,#[x,y],#[s,t]⟩,ty,p,af,g⟩):=by
 unfold apQ;split
 .rename_i size bytes r z l own w A D U;split
  .rename_i h;obtain⟨rfl,e2,e3,e4,Z,e6,e7⟩:=h;grind[d2q]
  .rfl
 .rfl
theorem d2u(U:tick=tk){q h:Option (Nat×Nat)}{A D:Option Blk}{H:Mem}{els:R}(Z:q=h)(h2:A=D):apN q A H els=apN h D H els:=by grind
theorem d2v(a0:tick=tk){q h:Option (Nat×Nat)}{off:Nat}{A D U Z:Option Blk}{H:Mem}{els:R}(h1:q=h)(h2:A=D)(h3:U=Z):apZ q off A U H els=apZ h off D Z H els:=by grind
theorem d2w(a0:tick=tk){q h:Option (Nat×Nat)}{k a:Nat}{A D U Z:Option Blk}{H:Mem}{els:R}(h1:q=h)(h2:A=D)(h3:U=Z):apQ q k a A U H els=apQ h k a D Z H els:=by grind
attribute [congr] d2u d2v d2w
variable {els:R}{z w:Nat}{l r l0:List AV}{own own0:Bool}{k a n off:Nat}{G:Gb}
theorem d2x(h:0<size)(A:bytes<=1048576)(D:l.length=size):apN (some (size,bytes)) (some (.cells l own z)) ⟨.fn G,n⟩ els=.val (.slq n 0 1 0) ⟨.fn (Ak G n (some (.cells l true size))),n+1⟩:=if_pos ⟨h,A,D⟩
theorem d2y(h:0<size)(A:bytes<=1048576)(D:l.length=size)(U:off<=l0.length):apZ (some (size,bytes)) off (some (.cells l0 own0 w)) (some (.cells l own z)) ⟨.fn G,n⟩ els=.val (.slq n 0 1 0) ⟨.fn (Ak G n (some (.cells l true size))),n+1⟩:=if_pos ⟨h,A,D,U⟩
theorem d2z(h:0<size)(A:bytes<=1048576)(D:l.length=size)(U:r.length=k*size)(Z:k<=1000000)(h6:allOne l=true):
  apQ (some (size,bytes)) k a (some (.cells r true size)) (some (.cells l own w)) ⟨.fn G,n⟩ els=.val (.slq n 0 (k+1) 0) ⟨.fn (Ak (Ak G a none) n (some (.cells (r++l) true size))),n+1⟩:=if_pos ⟨rfl,h,A,D,U,Z,h6⟩
attribute [simp] d2r d2s d2t d2x d2y d2z
end
def rOf:R->Option AV
 | .val v _=>some v
 | _=>none
theorem d3a{g:Nat->Option AV}{ds:List Dfr}{H:Mem}{a:Tmp}{t:TypeId}:Jc P (.f g ds) H (.cell a t)=rOf (Fv P H t (g a)):=by
 show (match g a with|some p=>load P H t p|none=>none)=_;unfold Fv
 cases g a with
 | none=>rfl
 | some p =>
  dsimp only;cases load P H t p<;>rfl
theorem d3b{v:AV}{H:Mem}:rOf (.val v H)=some v:=(rfl)
attribute [simp] d3a d3b
theorem d3c{t:TypeId}{z:List AV}{size n:Nat}{g:Gb}(h:bsI P t=some (z,size)):
  bsS P ⟨.fn g,n⟩ t 0 (some (z,size)) (some [])=.val (.sl n 0 0 0) ⟨.fn (Ak g n (some (.cells [] true 0))),n+1⟩:=by
 unfold bsS;dsimp only;rw[if_neg (by omega)];exact c9t h
attribute [simp] d3c
section
variable {P:Program}{H:Mem}{ev:Ev}{d:Option Tmp}{ty:TypeId}{p:String}{af:Array Edge}{g:Option (Nat×Bool)}{x y:Operand}{s t:TypeId}{size bytes:Nat}
noncomputable def apF(q:Option (Nat×Nat))(k off:Nat)(ga gb:Option Blk)(H:Mem)(els:R):R:=match q,ga,gb with
 | some (size,bytes),some (.cells l0 _ _),some (.cells l _ _)=>if 0<size/\bytes<=1048576/\l.length=size/\off+(k+1)*size<=l0.length/\k<=1000000 then .val (.slq H.next 0 (k+1+1) 0) (H.add (.cells ((l0.drop off).take ((k+1)*size)++l) true size)) else els
 | _,_,_=>els
theorem d3d{a b c off k:Nat}{hx:ev x=some (.sl a off (k+1) (k+1))}{hy:ev y=some (.sl b 0 1 c)}:
  ex2 P H ev ⟨d,.call ⟨.builtin .append,#[x,y],#[s,t]⟩,ty,p,af,g⟩ x y (some (.sl a off (k+1) (k+1))) (some (.sl b 0 1 c)) hx hy=apF (apI P s t) k off (H.get a) (H.get b) H (opV P H ev ⟨d,.call ⟨.builtin .append,#[x,y],#[s,t]⟩,ty,p,af,g⟩):=by
 unfold apF;split
 .rename_i size bytes l0 o0 z0 l own z A D U;split
  .rename_i h;obtain⟨Z,e2,e3,e4,e5⟩:=h;show opV P H ev _=_;rw[G9 hx hy A,a2e (n:=0) rfl Z (Rc U (by omega)) (by omega) D e4 (by omega) (by omega) e2]
  .rfl
 .rfl
theorem d3e{tk:Nat}(a0:tick=tk){q h:Option (Nat×Nat)}{k off:Nat}{A D U Z:Option Blk}{H:Mem}{els:R}(h1:q=h)(h2:A=D)(h3:U=Z):apF q k off A U H els=apF h k off D Z H els:=by grind
attribute [congr] d3e
variable {els:R}{z w:Nat}{l l0:List AV}{own own0:Bool}{k n off:Nat}{G:Gb}
theorem d3f(h:0<size)(A:bytes<=1048576)(D:l.length=size)(U:off+(k+1)*size<=l0.length)(Z:k<=1000000):
  apF (some (size,bytes)) k off (some (.cells l0 own0 w)) (some (.cells l own z)) ⟨.fn G,n⟩ els=.val (.slq n 0 (k+1+1) 0) ⟨.fn (Ak G n (some (.cells ((l0.drop off).take ((k+1)*size)++l) true size))),n+1⟩:=if_pos ⟨h,A,D,U,Z⟩
attribute [simp] d3d d3f
end
section
variable {P:Program}{W:WF}{Q:Out→Prop}{fr:Fr}{H:Mem}{ev:Ev}{d:Option Tmp}{ty:TypeId}{p:String}{af:Array Edge}{g:Option (Nat×Bool)}
theorem d3g{o:Oper}{x y z:Operand}{u u' h r:Value}(A:o.op.operands=#[x,y,z])(hx:ev x=some (.lit u))(hy:ev y=some (.lit u'))(D:ev z=some (.lit h))
  (U:∀ρ:Operand->Value,ρ x=u->ρ y=u'->ρ z=h->Ar P (execOp ρ o)=some (.value r)):A7 P ev o=some (.lit r):=by
 simp_all[A7,toLit]
end
section
variable {P:Program}{W:WF}{Q:Out→Prop}{fr:Fr}{H:Mem}{ev:Ev}{d:Option Tmp}{ty:TypeId}{p:String}{af:Array Edge}{g:Option (Nat×Bool)}
noncomputable def Pa(P:Program)(H:Mem)(ev:Ev)(o:Oper)(s t:TypeId)(ed:Option TypeDesc)(x:AV)(off n:Nat)(b:Option Blk):R:=match ed,b with
 | some (.int .u8),some (.cells l _ _)=>if off+n<=l.length then (match bytesOf ((l.drop off).take n) with|some bs=>.val (.lit (.string ⟨bs.toArray⟩)) H|none=>Ep P H ev o s t (some x)) else Ep P H ev o s t (some x)
 | _,_=>Ep P H ev o s t (some x)
theorem d3h{s t:TypeId}{x:Operand}{e:TypeId}{a off n c:Nat}(hx:ev x=some (.sl a off n c))(hs:P.underlying s=some (.slice e))(A:P.underlying t=some .string):
  cvS P H ev ⟨d,.convert s t x,ty,p,af,g⟩ s t (some (.slice e)) (some .string) (some (.sl a off n c))=Pa P H ev ⟨d,.convert s t x,ty,p,af,g⟩ s t (P.underlying e) (.sl a off n c) off n (H.get a):=by
 show Ep P H ev _ s t (some (.sl a off n c))=_;unfold Pa;split
 .rename_i l own z D U;split
  .rename_i Z;split
   .rename_i bs a0;unfold Ep;rw[Ma (x:=x) (by simp[Op.operands]) (λv' h=>by rw[hx] at h;cases h;rfl)];dsimp only;unfold Go.Ai.convert;rw[hs,A];dsimp only;rw[D];dsimp only[lenOf];have hf:Cv H 1 n (.sl a off n c)=some ((l.drop off).take n):=by
     have:=a2d (size:=1) (n:=n) (c:=c) U (by rw[Xj];omega);grind
    grind
   .rfl
  .rfl
 .rfl
theorem d3i{U:Nat}(Z:tick=U){o:Oper}{s t:TypeId}{h A:Option TypeDesc}{x:AV}{off n:Nat}{b D:Option Blk}(h1:h=A)(h2:b=D):Pa P H ev o s t h x off n b=Pa P H ev o s t A x off n D:=by grind
attribute [congr] d3i
noncomputable def Re(H:Mem)(els:R)(x:Option (List UInt8)):R:=match x with|some bs=>.val (.lit (.string ⟨bs.toArray⟩)) H|none=>els
theorem d3j{D:Nat}(U:tick=D){H:Mem}{els:R}{x A:Option (List UInt8)}(h:x=A):Re H els x=Re H els A:=by rw[h]
attribute [congr] d3j
theorem d3k{els:R}{h:List UInt8}:Re H els (some h)=.val (.lit (.string ⟨h.toArray⟩)) H:=(rfl)
theorem d3l{o:Oper}{s t:TypeId}{x:AV}{off n:Nat}{l:List AV}{own:Bool}{z:Nat}(h:off+n<=l.length):Pa P H ev o s t (some (.int .u8)) x off n (some (.cells l own z))=Re H (Ep P H ev o s t (some x)) (bytesOf ((l.drop off).take n)):=by
 simp_all[Re,Pa]
def b1c(x:UInt8)(l:Option (List UInt8)):Option (List UInt8):=match l with|some r=>some (x::r)|none=>none
theorem b1d{n:Int}{l:List AV}:bytesOf (.lit (.int .u8 n)::l)=b1c (UInt8.ofNat n.toNat) (bytesOf l):=by
 rfl
theorem b1e{x:UInt8}{r:List UInt8}:b1c x (some r)=some (x::r):=(rfl)
attribute [simp] d3h d3l d3k b1d b1e
end
theorem Ae{g:Gb}{a j:Nat}{x:Option Blk}(h:j≠a):Ak g a x j=g j:=if_neg h
theorem Ag{g:Gb}{a:Nat}{x:Option Blk}:Ak g a x a=x:=if_pos rfl
theorem ba_lawful:LawfulBEq ByteArray where
 eq_of_beq:=λ{a b} h=>by grind[a2f]
 rfl:=λ{a}=>by grind[a2f]
def Af(g:Gb)(b:Nat)(sv:AV)(len:Nat)(cs:List AV):Prop:=
 (len=0/\cs=[]/\(sv=.nl\/sv=.es))\/∃a off,a<b/\((∃c,sv=.sl a off len c)\/∃c,sv=.slq a off len c)/\Row g a off cs
theorem Af.mono{g g': Gb}{b A len:Nat}{sv:AV}{cs:List AV}(hb:b<=A)(h:∀a,a<b->g' a=g a):Af g b sv len cs->Af g' A sv len cs:=
 λhs=>hs.imp id λ⟨a,off,D,U,Z⟩=>⟨a,off,by omega,U,Z.mono (h a D)⟩
abbrev X0:=@Af.mono
theorem Gm{g:Gb}{a n len c:Nat}{cs:List AV}{own:Bool}{z:Nat}(h:g a=some (.cells cs own z))(A:a<n):Af g n (.sl a 0 len c) len cs:=
 .inr ⟨a,0,A,.inl ⟨c,rfl⟩,⟨cs,own,z,h,by simp[*]⟩⟩
inductive D5 where
 | mk (op:Nat) (a b:Int) (subs:List D5)
def D5.op:D5->Nat
 | .mk op _ _ _=>op
mutual
def Me(g:Gb)(b:Nat):D5->List AV->Prop
  | .mk op k q subs,cs=>op<256/\∃sv,cs=[.lit (.int .u8 op),.li k,.li q,sv] /\
    ((subs=[]/\(sv=.nl\/sv=.es)) \/
     ∃a off r,a<b/\((∃c,sv=.sl a off subs.length c)\/(∃c,sv=.slq a off subs.length c))/\Row g a off r/\repL g b subs r)
def repL (g:Gb) (b:Nat):List D5->List AV->Prop
 | [],cs=>cs=[]
 | x::l,cs=>∃c r,cs=c++r/\Me g b x c/\repL g b l r
end
mutual
theorem Kq{g g' : Gb}{b A:Nat}(hb:b<=A)(h:∀a x,a<b->g a=some x->g' a=some x):∀{x:D5}{cs:List AV},Me g b x cs->Me g' A x cs
 | .mk op k q a0,cs,⟨D,sv,U,Z⟩=>⟨D,sv,U,Z.imp id λ⟨a,off,r,h3,h4,⟨l,own,z,h5,h6⟩,h7⟩=>⟨a,off,r,by omega,h4,⟨l,own,z,h a _ h3 h5,h6⟩,repL_ext hb h h7⟩⟩
theorem repL_ext {g g' : Gb} {b A:Nat} (hb:b<=A) (h:∀a x,a<b->g a=some x->g' a=some x):∀{l:List D5}{cs:List AV},repL g b l cs->repL g' A l cs
 | [],_,D=>D
 | _::_,_,⟨c,r,U,Z,h3⟩=>⟨c,r,U,Kq hb h Z,repL_ext hb h h3⟩
end
theorem b1f{g:Gb}{b:Nat}{x:D5}{cs:List AV}(h:Me g b x cs):repL g b [x] cs:=⟨cs,[],by simp,h,rfl⟩
def Jq(g:Gb)(n n' : Nat)(x:D5)(cs:List AV):Prop:=∃gk:Gb,(∀a z,gk a=some z->g a=some z/\n<=a/\a<n')/\Me gk n' x cs
theorem Jq.keep{g g': Gb}{n:Nat}{x:D5}{cs:List AV}(h:Jq g n n' x cs)(h0:n0<=n)(D:n'<=n2)(hg:∀a,n<=a->a<n'->g' a=g a):Jq g' n0 n2 x cs:=by
 obtain⟨U,h1,Z⟩:=h;refine⟨U,λa z A=>?_,Kq D (λa z _ A=>A) Z⟩;grind
theorem Jq.rep{g:Gb}{n:Nat}{x:D5}{cs:List AV}(h:Jq g n n' x cs):Me g n' x cs:=by
 obtain⟨Z,A,D⟩:=h;exact Kq (Wy _) (λa z _ U=>(A a z U).1) D
def Um(g:Gb)(n n' : Nat)(l:List D5)(cs:List AV):Prop:=∃gk:Gb,(∀a z,gk a=some z->g a=some z/\n<=a/\a<n')/\repL gk n' l cs
theorem Um.one{g:Gb}{n:Nat}{x:D5}{cs:List AV}(h:Jq g n n' x cs):Um g n n' [x] cs:=by
 obtain⟨A,D,U⟩:=h;exact⟨A,D,b1f U⟩
theorem Um.two{g:Gb}{n:Nat}{x y:D5}{cs ds:List AV}(h:Jq g n n' x cs)(D:Jq g n n' y ds):Um g n n' [x,y] (cs++ds):=by
 obtain⟨gk,h1,U⟩:=h;obtain⟨gl,h4,Z⟩:=D;refine⟨λa=>if n<=a/\a<n' then g a else none,λa z A=>?_,cs,ds,rfl,Kq (Wy _) (λa z _ A=>?_) U,b1f (Kq (Wy _) (λa z _ A=>?_) Z)⟩
 all_goals grind
def Kr(g:Gb)(n q n' : Nat)(x:D5)(cs:List AV):Prop:=∃gk:Gb,(∀a z,gk a=some z->g a=some z/\n<=a/\a<n'/\a≠q)/\Me gk n' x cs
theorem Kr.rep{g:Gb}{n q:Nat}{x:D5}{cs:List AV}(h:Kr g n q n' x cs):Me g n' x cs:=by
 obtain⟨Z,A,D⟩:=h;exact Kq (Wy _) (λa z _ U=>(A a z U).1) D
theorem Kr.of{g g': Gb}{n q:Nat}{x:D5}{cs:List AV}(h:Jq g n n' x cs)(h1:n'<=q)(D:n'<=n2)(hg:∀a,n<=a->a<n'->g' a=g a):Kr g' n q n2 x cs:=by
 obtain⟨U,h3,Z⟩:=h;refine⟨U,λa z A=>?_,Kq D (λa z _ A=>A) Z⟩;grind
theorem Kr.fresh{g g': Gb}{n q:Nat}{x:D5}{cs:List AV}(h:Kr g n q n' x cs)(h0:n0<=n)(D:n'<=n2)(hg:∀a,n<=a->a<n'->a≠q->g' a=g a):Jq g' n0 n2 x cs:=by
 obtain⟨U,h1,Z⟩:=h;refine⟨U,λa z A=>?_,Kq D (λa z _ A=>A) Z⟩;grind
theorem Kr.keep{g g': Gb}{n q:Nat}{x:D5}{cs:List AV}(h:Kr g n q n' x cs)(D:n'<=n2)(hg:∀a,n<=a->a<n'->a≠q->g' a=g a):Kr g' n q n2 x cs:=by
 obtain⟨U,h1,Z⟩:=h;refine⟨U,λa z A=>?_,Kq D (λa z _ A=>A) Z⟩;grind
inductive e5s where
 | ok (x:D5) (k:Nat)
 | err (k:Nat)
structure Aw where
 inp:Int
 out:Int
 rows:Tq
def Aw.edge(M:Aw)(s:Nat)(i:Nat):Int×Int:=((M.rows.getD s []).getD i (-1,-1))
def succL:List (Int×Int)->List Nat
 | []=>[]
 | e::l=>if e.1<0 then succL l else e.1.toNat::succL l
def Aw.gr(M:Aw):Nu:=⟨M.rows.length,λs=>succL (M.rows.getD s [])⟩
def Db(n:Nat)(out:Int)(e:Int×Int):Bool:=decide (e=(-1,-1))||(decide (0<=e.1)&&(decide (e.1<n)&&(decide (0<=e.2)&&decide (e.2<out))))
def Aw.ok(M:Aw):Prop:=1<=M.inp/\M.inp<=16/\1<=M.out/\M.out<=16/\1<=M.rows.length/\M.rows.length<=64/\∀r∈M.rows,(r.length:Int)=M.inp/\∀e∈r,Db M.rows.length M.out e=true
theorem eqS.refl(n:Nat)(X:SetS):eqS n X X:=λ_ _=>rfl
theorem Row.ext{g g': Gb}{a off:Nat}{cs:List AV}(A:Row g a off cs)(h:∀x,g a=some x->g' a=some x):Row g' a off cs:=
 let ⟨l,own,z,D,U,Z⟩:=A;⟨l,own,z,h _ D,U,Z⟩
theorem Af.ext{g g': Gb}{b A len:Nat}{sv:AV}{cs:List AV}(hb:b<=A)(h:∀a x,a<b->g a=some x->g' a=some x):Af g b sv len cs->Af g' A sv len cs:=
 λhs=>hs.imp id λ⟨a,off,D,U,Z⟩=>⟨a,off,by omega,U,Z.ext λx hx=>h a x D hx⟩
abbrev Xz:=@Af.ext
theorem Af.one{g:Gb}{b len:Nat}{sv:AV}{cs:List AV}:Af g b sv len cs->oneC sv=true:=by
 rintro (⟨_,_,rfl|rfl⟩|⟨a,off,_,⟨c,rfl⟩|⟨c,rfl⟩,_⟩)<;>rfl
def Ks(g:Gb)(b:Nat)(sv:AV)(len:Nat)(cs:List AV):Prop:=
 (len=0/\(sv=.nl\/sv=.es))\/∃a off c,a<b/\sv=.sl a off len c/\Row g a off cs
theorem Ks.mono{g g': Gb}{b A len:Nat}{sv:AV}{cs:List AV}(hb:b<=A)(h:∀a,a<b->g' a=g a):Ks g b sv len cs->Ks g' A sv len cs:=
 λhs=>hs.imp id λ⟨a,off,c,D,U,Z⟩=>⟨a,off,c,by omega,U,Z.mono (h a D)⟩
theorem Ks.one{g:Gb}{b len:Nat}{sv:AV}{cs:List AV}:Ks g b sv len cs->oneC sv=true:=by
 rintro (⟨_,rfl|rfl⟩|⟨a,off,c,_,rfl,_⟩)<;>rfl
def Au(r:List (Int×Int)):List AV:=r.flatMap λe=>[.li e.1,.li e.2]
theorem rowC_len:∀(r:List (Int×Int)),(Au r).length=r.length*2
 | []=>rfl
 | e::r=>by
  have:=rowC_len r;unfold Au at this |-;rw[e7f,W0,this,Xk];simp;omega
theorem a2w(r:List (Int×Int))(e:Int×Int):Au (r++[e])=Au r++[.li e.1,.li e.2]:=by
 grind[Au]
theorem rowC_at:∀(r:List (Int×Int)) (k:Nat) (h:k<r.length),((Au r).drop (k*2)).take 2=[.lit (.int .i64 r[k].1),.lit (.int .i64 r[k].2)]
 | e::r,0,_=>rfl
 | e::r,k+1,h=>by
  have:=rowC_at r k (by grind);have A:Au (e::r)=[.li e.1,.li e.2]++Au r:=rfl;grind
theorem Pb(A:List (Int×Int))(k:Nat)(h:k<A.length):(Au A)[k*2]?=some (.lit (.int .i64 A[k].1))/\(Au A)[k*2+1]?=some (.lit (.int .i64 A[k].2)):=by
 have D:=rowC_at A k h;have U:(((Au A).drop (k*2)).take 2)[0]?=some (.lit (.int .i64 A[k].1)):=by grind
 have Z:(((Au A).drop (k*2)).take 2)[1]?=some (.lit (.int .i64 A[k].2)):=by grind
 grind
def RowsE(g:Gb)(b:Nat):Tq->List AV->Prop
 | [],cs=>cs=[]
 | r::l,cs=>∃c t,cs=c::t/\Af g b c r.length (Au r)/\RowsE g b l t
theorem RowsE.ext{g g': Gb}{b A:Nat}(hb:b<=A)(h:∀a x,a<b->g a=some x->g' a=some x):∀{l:Tq}{cs:List AV},RowsE g b l cs->RowsE g' A l cs
 | [],_,D=>D
 | _::_,_,⟨c,t,U,Z,h3⟩=>⟨c,t,U,Z.ext hb h,h3.ext hb h⟩
theorem RowsE.len{g:Gb}{b:Nat}:∀{l:Tq}{cs:List AV},RowsE g b l cs->cs.length=l.length
 | [],cs,h=>by have U:cs=[]:=h;grind
 | r::l,cs,⟨c,t,A,Z,D⟩=>by rw[A,Xk,Xk,D.len]
theorem RowsE.at{g:Gb}{b:Nat}:∀{l:Tq}{cs:List AV},RowsE g b l cs->∀(k:Nat)(h:k<l.length)(A:k<cs.length),Af g b cs[k] l[k].length (Au l[k])
 | r::l,cs,⟨c,t,D,Z,U⟩,0,h,A=>by grind
 | r::l,cs,⟨c,t,D,Z,U⟩,k+1,h,A=>by subst D;exact U.at k (by grind) (by grind)
theorem RowsE.snoc{g:Gb}{b:Nat}{r:List (Int×Int)}{c:AV}(A:Af g b c r.length (Au r)):∀{l:Tq}{cs:List AV},RowsE g b l cs->RowsE g b (l++[r]) (cs++[c])
 | [],cs,h=>by have D:cs=[]:=h;subst D;exact⟨c,[],rfl,A,rfl⟩
 | _::_,_,⟨d,t,h1,U,Z⟩=>⟨d,t++[c],by grind,U,Z.snoc A⟩
def Cy(g:Gb)(b:Nat)(M:Aw)(cs:List AV):Prop:=
 ∃sv svs,cs=[.li M.inp,.li M.out,sv]/\RowsE g b M.rows svs/\Af g b sv M.rows.length svs
theorem Cy.ext{g g': Gb}{b A:Nat}(hb:b<=A)(h:∀a x,a<b->g a=some x->g' a=some x){M:Aw}{cs:List AV}:Cy g b M cs->Cy g' A M cs:=
 λ⟨sv,svs,D,U,Z⟩=>⟨sv,svs,D,U.ext hb h,Z.ext hb h⟩
theorem Cy.mono{g g': Gb}{b A:Nat}(hb:b<=A)(h:∀a,a<b->g' a=g a){M:Aw}{cs:List AV}(D:Cy g b M cs):Cy g' A M cs:=D.ext hb λa x U hx=>(h a U).trans hx
theorem Cy.one{g:Gb}{b:Nat}{M:Aw}{cs:List AV}(h:Cy g b M cs):∃sv,cs=[.li M.inp,.li M.out,sv]/\oneC sv=true:=
 let ⟨sv,_,A,_,D⟩:=h;⟨sv,A,D.one⟩
def Pc(g:Gb)(n n' : Nat)(M:Aw)(cs:List AV):Prop:=∃gk:Gb,(∀a z,gk a=some z->g a=some z/\n<=a/\a<n')/\Cy gk n' M cs
theorem Pc.keep{g g': Gb}{n:Nat}{M:Aw}{cs:List AV}(h:Pc g n n' M cs)(h0:n0<=n)(D:n'<=n2)(hg:∀a,n<=a->a<n'->g' a=g a):Pc g' n0 n2 M cs:=by
 obtain⟨U,h1,Z⟩:=h;refine⟨U,λa z A=>?_,Z.ext D λa z _ A=>A⟩;grind
theorem Pc.rep{g:Gb}{n:Nat}{M:Aw}{cs:List AV}(h:Pc g n n' M cs):Cy g n' M cs:=
 let ⟨_,A,D⟩:=h;D.ext (Wy _) λa z _ U=>(A a z U).1
def A6(g:Gb)(lo n' B:Nat)(sv:AV)(len sz:Nat)(cs:List AV):Prop:=
 (len=0/\cs=[]/\sv=.nl)\/(0<len/\sv=.slq B 0 len 0/\lo<=B/\B<n'/\g B=some (.cells cs true sz)/\cs.length=len*sz)
theorem A6.keep{g g': Gb}{lo len:Nat}{sv:AV}{cs:List AV}(h:A6 g lo n' B sv len sz cs)(hn:n'<=n2)(D:lo<=B->B<n'->g' B=g B):A6 g' lo n2 B sv len sz cs:=
 h.imp id λ⟨U,Z,A,h3,h4,h5⟩=>⟨U,Z,A,by omega,(D A h3).trans h4,h5⟩
theorem A6.mk{g:Gb}{lo len:Nat}{cs:List AV}(h:g B=some (.cells cs true sz))(A:lo<=B)(D:B<n')(U:cs.length=(len+1)*sz):A6 g lo n' B (.slq B 0 (len+1) 0) (len+1) sz cs:=
 .inr ⟨by omega,rfl,A,D,h,U⟩
theorem A6.one{g:Gb}{lo len:Nat}{sv:AV}{cs:List AV}:A6 g lo n' B sv len sz cs->oneC sv=true:=by
 rintro (⟨_,_,rfl⟩|⟨_,rfl,_⟩)<;>rfl
theorem A6.slice {g:Gb} {lo n' B len sz:Nat} {sv:AV} {cs:List AV} (h:A6 g lo n' B sv len sz cs) : Af (fun a=>if a=B/\lo<=B/\B<n' then g a else none) n' sv len cs:=by
 rcases h with⟨h1,h2,h3⟩|⟨h0,h1,h2,h3,h4,h5⟩
 ·exact .inl ⟨h1,h2,.inl h3⟩
 ·exact .inr ⟨B,0,h3,.inr ⟨0,h1⟩,cs,true,sz,(if_pos ⟨rfl,h2,h3⟩).trans h4,by simp,by simp⟩
def Nv(part:Bool)(n O v:Nat):Int×Int:=if part=true/\v % 4=3 then (-1,-1) else (((v / 4 % n:Nat):Int),((v / 4 / n % O:Nat):Int))
def Kt(part:Bool)(es:List Nat)(n I O s:Nat):List (Int×Int):=(List.range I).map λi=>Nv part n O (es.getD (s*I+i) 0)
def Bz(st inp out:Nat)(part:Bool)(es:List Nat):Aw:=
 ⟨1+((inp % 3:Nat):Int),1+((out % 3:Nat):Int),(List.range (1+st % 6)).map (Kt part es (1+st % 6) (1+inp % 3) (1+out % 3))⟩
theorem Un(st h A:Nat)(part:Bool)(es:List Nat):(Bz st h A part es).ok:=by
 have h1:=Xp h (show 0<3 by omega);have h2:=Xp A (show 0<3 by omega);have h3:=Xp st (show 0<6 by omega);refine⟨?_,?_,?_,?_,?_,?_,?_⟩
 .show (1:Int)<=1+((h % 3:Nat):Int);omega
 .show 1+((h % 3:Nat):Int)<=16;omega
 .show (1:Int)<=1+((A % 3:Nat):Int);omega
 .show 1+((A % 3:Nat):Int)<=16;omega
 .show 1<=((List.range (1+st % 6)).map _).length;simp
 .show ((List.range (1+st % 6)).map _).length<=64;grind
 .intro r D;have U:r∈(List.range (1+st % 6)).map (Kt part es (1+st % 6) (1+h % 3) (1+A % 3)):=D;obtain⟨s,hs,rfl⟩:=Xc.1 U;refine⟨?_,λe Z=>?_⟩
  .show ((((List.range (1+h % 3)).map _).length:Nat):Int)=1+((h % 3:Nat):Int);grind
  .obtain⟨i,hi,rfl⟩:=Xc.1 Z;have hl:(Bz st h A part es).rows.length=1+st % 6:=by show ((List.range (1+st % 6)).map _).length=_;simp
   rw[hl];show Db (1+st % 6) (1+((A % 3:Nat):Int)) _=true;generalize es.getD (s*(1+h % 3)+i) 0=v;unfold Nv;split
   .rfl
   .have e1:=Xp (v / 4) (show 0<1+st % 6 by omega);have e2:=Xp (v / 4 / (1+st % 6)) (show 0<1+A % 3 by omega)
    (simp_all[Db];grind)
def wdC(w:Wd):List AV:=w.map λi=>.li i
theorem A9(w:Wd):(wdC w).length=w.length:=by simp[wdC]
theorem Hv(w:Wd)(k:Nat)(h:k<w.length):(wdC w)[k]?=some (.lit (.int .i64 w[k])):=by grind[wdC]
theorem wdC_one:∀(w:Wd),allOne (wdC w)=true
 | []=>rfl
 | i::w=>wdC_one w
def Al(g:Gb)(n:Nat)(w:Wd)(sv:AV):Prop:=Af g n sv w.length (wdC w)
theorem Ap{P:Program}{g:Gb}{b len:Nat}{sv:AV}{cs:List AV}(h:Af g b sv len cs):∀{H:Mem}{ev:Ev}{o:Oper}{c:Call}{e:TypeId},Km P H ev o c (some (.slice e)) (some [sv])=.val (.li len) H:=by
 intro H ev o c e;rcases h with⟨rfl,_,rfl|rfl⟩|⟨a,off,_,⟨A,rfl⟩|⟨A,rfl⟩,_⟩<;>rfl
theorem Af.ia{g:Gb}{b len:Nat}{sv:AV}{cs:List AV}(h:Af g b sv len cs){k:Nat}(A:k<len)(sz:Nat):
  ∃a off,a<b/\Row g a off cs/\∀{H:Mem}{ev:Ev}{o:Oper}{t:TypeId},iaS P H ev o t (some (none,sz)) (some sv) (some (.li (k:Int)))=.val (.ptr a (off+k*sz)) H:=by
 rcases h with⟨D,_⟩|⟨a,off,U,⟨c,rfl⟩|⟨c,rfl⟩,Z⟩
 all_goals grind[b0j,a1y]
abbrev X4:=@Af.ia
def RowsW(g:Gb)(n:Nat)(l:Wq)(svs:List AV):Prop:=svs.length=l.length/\∀(k:Nat)(h:k<l.length),∃sv,svs[k]?=some sv/\Al g n l[k] sv
theorem RowsW.ext{g g': Gb}{b A:Nat}{l:Wq}{svs:List AV}(h:RowsW g b l svs)(hb:b<=A)(D:∀a x,a<b->g a=some x->g' a=some x):RowsW g' A l svs:=
 ⟨h.1,λk U=>let ⟨sv,Z,h2⟩:=h.2 k U;⟨sv,Z,Xz hb D h2⟩⟩
def longM:Wq->Nat
 | []=>0
 | w::l=>max w.length (longM l)
theorem longM_snoc:∀(l:Wq)(w:Wd),longM (l++[w])=max (longM l) w.length
 | [],w=>by simp[longM]
 | x::l,w=>by simp only[e8y,longM,longM_snoc l w,Nat.max_assoc]
theorem le_longM:∀{l:Wq}{w:Wd},w∈l->w.length<=longM l
 | x::l,w,h=>by
  unfold longM;rcases Xb.1 h with rfl|h
  .omega
  .have:=le_longM h;omega
theorem Rf{l:Wq}{m:Nat}(h:∀w∈l,w.length<=m):longM l<=m:=by
 induction l with
 | nil=>exact W3 _
 | cons x l A =>
  grind[longM]
section
variable {P:Program}{H:Mem}{ev:Ev}{d:Option Tmp}{ty:TypeId}{p:String}{af:Array Edge}{g:Option (Nat×Bool)}
noncomputable def mkI(P:Program)(t:TypeId):Option AV:=match Ft P t with
 | some (e,size,bytes)=>if size=1/\bytes<=1048576 then (match Cb P e with|some [v]=>some v|_=>none) else none
 | none=>none
noncomputable def F0(P:Program)(H:Mem)(t:TypeId)(q:Option AV)(x y:Option AV):R:=match q,x,y with
 | some v,some (.li a),some (.li b)=>if a=b/\0<=a/\a<=1048576 then .val (.sl H.next 0 a.toNat a.toNat) (H.add (.cells (List.replicate a.toNat v) true 0)) else Er P H t x y
 | _,_,_=>Er P H t x y
theorem Rg(v:AV):∀n,rep [v] n=List.replicate n v
 | 0=>rfl
 | n+1=>by rw[Ua,Rg v n];rfl
theorem d3m{t:TypeId}{v:AV}(h:mkI P t=some v):∃e bytes,Ft P t=some (e,1,bytes)/\bytes<=1048576/\Cb P e=some [v]:=by
 unfold mkI at h;grind
theorem d3n{t:TypeId}{l c:Operand}:opV P H ev ⟨d,.makeSlice t l c,ty,p,af,g⟩=F0 P H t (mkI P t) (ev l) (ev c):=by
 show Er P H t (ev l) (ev c)=_;unfold F0;split
 .rename_i v a b A hx hy;split
  .rename_i h;obtain⟨rfl,D,h1⟩:=h;obtain⟨e,bytes,U,h3,h4⟩:=d3m A;rw[hx,hy];unfold Er;rw[U];simp only[Option.bind_some,Io D];have Z:(Nat.ble a.toNat a.toNat&&Nat.ble a.toNat 1048576&&Nat.ble bytes 1048576)=true:=by
    simp_all
   rw[Z];by_cases hz:a.toNat=0
   .have e1:Eo P e (a.toNat*1)=some []:=by unfold Eo;simp[*]
    rw[e1];dsimp only;rw[hz];simp[Dq,X1]
   grind[Mem.newK_eq,Dq,Rg,Nat.eq_of_beq_eq_true,Eo]
  rfl
 .rfl
theorem d3o{U:Nat}(Z:tick=U){t:TypeId}{q h:Option AV}{x A y D:Option AV}{H H' : Mem}(h0:q=h)(h1:H=H')(h2:x=A)(h3:y=D):F0 P H t q x y=F0 P H' t h A D:=by grind
attribute [congr] d3o
theorem d3p{t:TypeId}{v:AV}{a:Int}(h:0<=a)(A:a<=1048576):F0 P H t (some v) (some (.li a)) (some (.li a))=.val (.sl H.next 0 a.toNat a.toNat) (H.add (.cells (List.replicate a.toNat v) true 0)):=if_pos ⟨rfl,h,A⟩
attribute [simp] d3n d3p
end
section
variable {H:Mem}
theorem d3q{l:List AV}{z:Nat}{A:Bool}{a off:Nat}{k:IntKind}{v:Int}(h:off<l.length):
  stS (some (A,1)) (some (.cells l true z)) H a off [.lit (.int k v)]=.skip (H.upd a (.cells (l.set off (.lit (.int k v))) true z)):=by
 refine(T9 (size:=1) rfl rfl h).trans ?_;simp_all[e8m]
attribute [simp] d3q
end
section
variable {P:Program}{H:Mem}{ev:Ev}{d:Option Tmp}{ty:TypeId}{p:String}{af:Array Edge}{g:Option (Nat×Bool)}
noncomputable def Nw(P:Program)(H:Mem)(ev:Ev)(o:Oper)(q:Option TypeDesc)(x:Option AV):R:=match x,q with
 | some (.sl _ _ _ n),some (.slice _)=>.val (.li n) H
 | some (.lit (.slice none _ n)),some (.slice _)=>.val (.li n) H
 | _,_=>opV P H ev o
theorem d3r{x:Operand}{t:TypeId}:opV P H ev ⟨d,.call ⟨.builtin .cap,#[x],#[t]⟩,ty,p,af,g⟩=Nw P H ev ⟨d,.call ⟨.builtin .cap,#[x],#[t]⟩,ty,p,af,g⟩ (P.underlying t) (ev x):=by
 unfold Nw;split
 .rename_i a off n k e hx h;show Br P H ev ⟨d,.call ⟨.builtin .cap,#[x],#[t]⟩,ty,p,af,g⟩ ⟨.builtin .cap,#[x],#[t]⟩=_;have A:Bj ev [x]=some [.sl a off n k]:=by simp_all
  have D:A7 P ev ⟨d,.call ⟨.builtin .cap,#[x],#[t]⟩,ty,p,af,g⟩=none:=by
   unfold A7;have U:(Op.operands (.call ⟨.builtin .cap,#[x],#[t]⟩)).toList=[x]:=by rfl
   dsimp only;rw[U];have l1:toLit (.sl a off n k)=none:=rfl;grind
  unfold Br;rw[show (#[x]:Array Operand).toList=[x] from rfl,A];dsimp only;unfold Fg Ld;dsimp only;rw[D];have e2:((⟨.builtin .cap,#[x],#[t]⟩:Call).argTypes[0]?).bind P.underlying=P.underlying t:=rfl;dsimp only;rw[e2,h];rfl
 .rename_i m n e hx h;show Br P H ev ⟨d,.call ⟨.builtin .cap,#[x],#[t]⟩,ty,p,af,g⟩ ⟨.builtin .cap,#[x],#[t]⟩=_;have A:Bj ev [x]=some [.lit (.slice none m n)]:=by simp_all
  have D:A7 P ev ⟨d,.call ⟨.builtin .cap,#[x],#[t]⟩,ty,p,af,g⟩=some (.li n):=by
   refine T8 (u:=.slice none m n) (r:=.int .i64 n) (by rfl) hx λρ Z=>?_;rw[Jf (b:=.cap) (c:=⟨.builtin .cap,#[x],#[t]⟩) rfl rfl];have ea:(#[x]:Array Operand).map ρ=#[ρ x]:=by simp
   rw[ea];have a0:Ar P (Builtin.cap_ #[t] ty #[ρ x])=some (goInt n):=by
    rw[Z];refine(Bo (m:=underlying t) (a:=TypeDesc.slice e) (Hr h)).trans ?_;rfl
   show Ar P (do pure (Next.value (<- Builtin.cap_ #[t] ty #[ρ x])))=_;exact(Bo a0).trans rfl
  unfold Br;rw[show (#[x]:Array Operand).toList=[x] from rfl,A];simp_all[Ld,Fg]
 .rfl
theorem d3s{D:Nat}(U:tick=D){o:Oper}{q h:Option TypeDesc}{x A:Option AV}{H H' : Mem}(Z:H=H')(h2:q=h)(h3:x=A):Nw P H ev o q x=Nw P H' ev o h A:=by grind
attribute [congr] d3s
theorem b1g{o:Oper}{e:TypeId}{a off n k:Nat}:Nw P H ev o (some (.slice e)) (some (.sl a off n k))=.val (.li k) H:=(rfl)
theorem a2x{o:Oper}{e:TypeId}{n k:Nat}:Nw P H ev o (some (.slice e)) (some (.lit (.slice none n k)))=.val (.li k) H:=(rfl)
attribute [simp] d3r b1g a2x
end
section
variable {P:Program}{H:Mem}{ev:Ev}{d:Option Tmp}{ty:TypeId}{p:String}{af:Array Edge}{g:Option (Nat×Bool)}
variable {t:TypeId}{x hi mx:Operand}{i:Int}{n c:Nat}{k:IntKind}
theorem d3t:opV P H ev ⟨d,.slice t x none (some hi) (some mx),ty,p,af,g⟩=ex3 P H ev ⟨d,.slice t x none (some hi) (some mx),ty,p,af,g⟩ x hi mx (ev x) (ev hi) (ev mx) rfl rfl rfl:=(rfl)
theorem d3u(h:i=n):Dh none (some (.lit (.int k i))) (some (.lit (.int k i))) n n=some (0,n,n):=by
 unfold Dh I3;simp_all[Io,e6s,Oi]
theorem d3v(h:i=n)(A:n<=c):Dh none (some (.lit (.int k i))) (some (.lit (.int k i))) n c=some (0,n,n):=by
 unfold Dh I3;simp_all[Io,e6s,Oi]
theorem d3w{a off:Nat}{hx:ev x=some (.slq a off n c)}{hh:ev hi=some (.lit (.int k i))}{A:ev mx=some (.lit (.int k i))}(U:(Bu P t).map (·.1)=some none)(h1:i=n)(h2:0<n):
  ex3 P H ev ⟨d,.slice t x none (some hi) (some mx),ty,p,af,g⟩ x hi mx (some (.slq a off n c)) (some (.lit (.int k i))) (some (.lit (.int k i))) hx hh A=.val (.sl a off n n) H:=by
 show opV P H ev _=_;show Da P H ev _ t (ev x) none (some hi) (some mx)=_;unfold Da;rw[Ma (x:=x) (by simp[Op.operands]) (λv' h=>by rw[hx] at h;cases h;rfl),hx];obtain⟨q,Z,D⟩:=e6a.1 U;obtain⟨q1,q2⟩:=q;dsimp only at D;subst D;obtain⟨e,i',h3,h4,h5⟩:=Jn Z;dsimp only;unfold Gc E3;dsimp only;rw[hh,A];dsimp only;rw[Mb h3 h4];grind[I5,d3u,I4,Nat.eq_of_beq_eq_true,ofOpt,Ee]
theorem d3x{a off:Nat}{hx:ev x=some (.sl a off n c)}{hh:ev hi=some (.lit (.int k i))}{A:ev mx=some (.lit (.int k i))}(Z:(Bu P t).map (·.1)=some none)(h1:i=n)(h2:0<n)(D:n<=c):
  ex3 P H ev ⟨d,.slice t x none (some hi) (some mx),ty,p,af,g⟩ x hi mx (some (.sl a off n c)) (some (.lit (.int k i))) (some (.lit (.int k i))) hx hh A=.val (.sl a off n n) H:=by
 show opV P H ev _=_;show Da P H ev _ t (ev x) none (some hi) (some mx)=_;unfold Da;rw[Ma (x:=x) (by simp[Op.operands]) (λv' h=>by rw[hx] at h;cases h;rfl),hx];obtain⟨q,hq,U⟩:=e6a.1 Z;obtain⟨q1,q2⟩:=q;dsimp only at U;subst U;obtain⟨e,i',D,h4,h5⟩:=Jn hq;dsimp only;unfold Gc E3;dsimp only;rw[hh,A];dsimp only;rw[Mb D h4];grind[I5,d3v,I4,Nat.eq_of_beq_eq_true,ofOpt,Ee]
theorem d3y{hx:ev x=some (.nl)}{hh:ev hi=some (.li 0)}{h:ev mx=some (.li 0)}(D:(Bu P t).map (·.1)=some none):
  ex3 P H ev ⟨d,.slice t x none (some hi) (some mx),ty,p,af,g⟩ x hi mx (some (.nl)) (some (.li 0)) (some (.li 0)) hx hh h=.val (.nl) H:=by
 show opV P H ev _=_;show Da P H ev _ t (ev x) none (some hi) (some mx)=_;unfold Da;rw[d3g (r:=.slice none 0 0) (x:=x) (y:=hi) (z:=mx) (by rfl) hx hh h λρ U e2 e3=>?_];show Ar P (do pure (Next.value (<- Instr.sliceAt t (ρ x) none (some (ρ hi)) (some (ρ mx)))))=_;rw[U,e2,e3];obtain⟨q,Z,A⟩:=e6a.1 D;obtain⟨q1,q2⟩:=q;dsimp only at A;subst A;obtain⟨e,i,ht,hi',h5⟩:=Jn Z;have key:Ar P (Instr.slice t (.slice none 0 0) none (some (.int .i64 0)) (some (.int .i64 0)))=some (.slice none 0 0):=by
  unfold Instr.slice;refine(Bo (m:=underlying t) (a:=TypeDesc.slice e) (Hr ht)).trans ?_;dsimp only;refine(Bo (a:=(0,0,0)) ?_).trans ?_
  .rfl
  .refine(Bo (m:=sizeOf e) (a:=i.size) ?_).trans ?_
   .exact(Bo (b1a hi')).trans rfl
   .rfl
 have a0:Ar P (Instr.sliceAt t (.slice none 0 0) none (some (.int .i64 0)) (some (.int .i64 0)))=some (.slice none 0 0):=by
  grind[Instr.sliceAt,Hr,Bo]
 rw[Bo a0];rfl
attribute [simp] d3t d3w d3x d3y
end
section
variable {P:Program}{H:Mem}{ev:Ev}{d:Option Tmp}{ty:TypeId}{p:String}{af:Array Edge}{g:Option (Nat×Bool)}{x y:Operand}{s t:TypeId}{size bytes:Nat}
open Classical in
noncomputable def apV(q:Option (Nat×Nat))(sz off len:Nat)(cs:List AV)(ga gb blk:Option Blk)(H:Mem)(els:R):R:=match q,ga with
 | some (size,bytes),some (.cells l0 _ _)=>if gb=blk/\size=sz/\0<size/\bytes<=1048576/\off<=l0.length then .val (.slq H.next 0 len 0) (H.add (.cells cs true size)) else els
 | _,_=>els
theorem d3z{tk:Nat}(a0:tick=tk){q h:Option (Nat×Nat)}{sz off len:Nat}{cs:List AV}{A D U Z blk:Option Blk}{H:Mem}{els:R}(h1:q=h)(h2:A=D)(h3:U=Z):apV q sz off len cs A U blk H els=apV h sz off len cs D Z blk H els:=by grind
attribute [congr] d3z
theorem d4a{l0 cs:List AV}{own:Bool}{z len off n:Nat}{G:Gb}{els:R}{b:Option Blk}(h:0<size)(A:bytes<=1048576)(D:off<=l0.length):apV (some (size,bytes)) size off len cs (some (.cells l0 own z)) b b ⟨.fn G,n⟩ els=.val (.slq n 0 len 0) ⟨.fn (Ak G n (some (.cells cs true size))),n+1⟩:=if_pos ⟨rfl,rfl,h,A,D⟩
attribute [simp] d4a
theorem Rh{a off n c size:Nat}{cs:List AV}{l:List AV}{own:Bool}{z:Nat}{v:AV}(A:v=.sl a off n c\/v=.slq a off n c)(h:H.get a=some (.cells l own z))(D:(l.drop off).take (cs.length)=cs)(U:off+cs.length<=l.length)(Z:cs.length=n*size):Cv H size n v=some cs:=by
 rcases A with rfl|rfl
 all_goals grind[a2d,d0g]
end
section
variable {H:Mem}
theorem d4b{l:List AV}{z:Nat}{A:Bool}{a off:Nat}{v:AV}(h:off<l.length)(D:oneC v=true):
  stS (some (A,1)) (some (.cells l true z)) H a off [v]=.skip (H.upd a (.cells (l.set off v) true z)):=by
 refine(T9 (size:=1) rfl (by simp[D]) h).trans ?_;simp_all[e8m]
end
theorem Af.ap0{g:Gb}{b len:Nat}{sv:AV}{cs:List AV}(h:Af g b sv len cs)(hl:0<len)(a4:len<=1000000)(U:cs.length=len*sz):
  ∃A blk,A<b/\g A=some blk/\∀{H:Mem}{ev:Ev}{d:Option Tmp}{ty:TypeId}{p:String} {af:Array Edge} {gd:Option (Nat×Bool)} {x y:Operand} {s t:TypeId} {a off:Nat} {hx:ev x=some (.sl a off 0 0)} {hy:ev y=some sv},
   ex2 P H ev ⟨d,.call ⟨.builtin .append,#[x,y],#[s,t]⟩,ty,p,af,gd⟩ x y (some (.sl a off 0 0)) (some sv) hx hy=apV (apI P s t) sz off len cs (H.get a) (H.get A) (some blk) H (opV P H ev ⟨d,.call ⟨.builtin .append,#[x,y],#[s,t]⟩,ty,p,af,gd⟩):=by
 rcases h with⟨Z,_⟩|⟨A,o2,a0,a5,l,own,z,hg,a1,a3⟩
 .omega
 .refine⟨A,_,a0,hg,?_⟩;intro H ev d ty p af gd x y s t a off hx hy;unfold apV;split
  .rename_i size bytes l0 ow zz Z h2;split
   .rename_i h;obtain⟨hH,rfl,h4,h5,h6⟩:=h;obtain⟨k,rfl⟩:∃k,len=k+1:=⟨len-1,by omega⟩;show opV P H ev _=_;have D:∃c,sv=.sl A o2 (k+1) c\/sv=.slq A o2 (k+1) c:=by
     grind
    obtain⟨c,D⟩:=D;have hn:lenOf sv=some (k+1):=by rcases D with rfl|rfl<;>rfl
    rw[G9 hx hy Z,a2e (n:=k) hn h4 (Rh D hH a3 a1 U) U h2 (by omega) (by omega) (by omega) h5];simp
   .rfl
  .rfl
abbrev Yc:=@Af.ap0
theorem Af.ap00{P:Program}{g:Gb}{b:Nat}{sv:AV}{cs:List AV}(h:Af g b sv 0 cs):
  ∀{H:Mem}{ev:Ev}{d:Option Tmp}{ty:TypeId}{p:String} {af:Array Edge} {gd:Option (Nat×Bool)} {x y:Operand} {s t:TypeId} {a off:Nat} {hx:ev x=some (.sl a off 0 0)} {hy:ev y=some sv},(apI P s t).isSome=true ->
   ex2 P H ev ⟨d,.call ⟨.builtin .append,#[x,y],#[s,t]⟩,ty,p,af,gd⟩ x y (some (.sl a off 0 0)) (some sv) hx hy=.val (.sl a off 0 0) H:=by
 intro H ev d ty p af gd x y s t a off hx hy hp;have A:lenOf sv=some 0:=by
  rcases h with⟨_,_,rfl|rfl⟩|⟨a,off,_,⟨c,rfl⟩|⟨c,rfl⟩,_⟩<;>rfl
 cases D:apI P s t with
 | none=>grind
 | some q =>
  obtain⟨U,Z⟩:=q;show opV P H ev _=_;rw[G9 hx hy D];unfold En;rw[A];rfl
abbrev Yp:=@Af.ap00
def Aq(l:List AV)(off:Nat)(new:List AV):List AV:=l.take off++new++l.drop (off+new.length)
theorem D1{l new:List AV}{off:Nat}(h:off+new.length<=l.length):(Aq l off new).length=l.length:=by
 grind[Aq]
theorem Fq{l new:List AV}{off:Nat}(h:off+new.length<=l.length):(Aq l off new).take (off+new.length)=l.take off++new:=by
 grind[Aq,List.length_take,List.length_append]
section
variable {P:Program}{H:Mem}{ev:Ev}{d:Option Tmp}{ty:TypeId}{p:String}{af:Array Edge}{g:Option (Nat×Bool)}{x y:Operand}{s t:TypeId}{size bytes:Nat}
variable {k off a c:Nat}
theorem Pd{t e:TypeId}{size bytes:Nat}{z:List AV}{a b:Int}(A:Ft P t=some (e,size,bytes))(hs:0<size)(hb:bytes<=1048576)(Z:Cb P e=some z)(D:0<=a)(h1:a<=b)(h2:b<=1048576):
  Er P H t (some (.li a)) (some (.li b))=.val (.sl H.next 0 a.toNat b.toNat) (H.add (.cells (rep z b.toNat) true 0)):=by
 unfold Er;rw[A];simp only[Option.bind_some,Io D,Io (show (0:Int)<=b by omega)];have U:(Nat.ble a.toNat b.toNat&&Nat.ble b.toNat 1048576&&Nat.ble bytes 1048576)=true:=by
  grind[Nat.ble_eq_true_of_le]
 rw[U];by_cases h:b.toNat=0
 .have e1:Eo P e (b.toNat*size)=some []:=by unfold Eo;simp[*]
  grind[Dq,rep,Mem.newK_eq]
 grind[Mem.newK_eq,Dq,Nat.mul_eq_zero,Nat.eq_of_beq_eq_true,Eo]
theorem d4c{n:Nat}{x:AV}{new l:List AV}{z:Nat}(h:lenOf x=some (n+1))(hs:0<size)(A:Cv H size (n+1) x=some new)(D:new.length=(n+1)*size)
  (U:H.get a=some (.cells l true z)) (Z:k+(n+1)<=c) (a0:off+k*size+new.length<=l.length) (h4:allOne new=true) :
  En H size bytes (.sl a off k c) x=some (.sl a off (k+(n+1)) c,H.upd a (.cells (Aq l (off+k*size) new) true z)):=by
 unfold En;rw[h];show (match Nat.beq size 0,Cv H size (n+1) x with|false,some new=>Ed H size bytes (n+1) (.sl a off k c) new|_,_=>none)=_;have hb:Nat.beq size 0=false:=by
  grind[Nat.eq_of_beq_eq_true]
 rw[hb,A];dsimp only;unfold Ed;rw[Di,D,e8g];dsimp only;unfold P4;rw[e6s Z];dsimp only;rw[U];dsimp only;unfold J8;rw[h4];dsimp only;rw[Ll,if_pos a0,Yd];rfl
noncomputable def apR(q:Option (Nat×Nat))(k c off a:Nat)(ga gb:Option Blk)(H:Mem)(els:R):R:=match q,ga,gb with
 | some (size,bytes),some (.cells r true z),some (.cells l _ _)=>if 0<size/\l.length=size/\off+k*size+size<=r.length/\k<c/\allOne l=true then .val (.sl a off (k+1) c) (H.upd a (.cells (Aq r (off+k*size) l) true z)) else els
 | _,_,_=>els
theorem d4d{b A:Nat}{hx:ev x=some (.sl a off k c)}{hy:ev y=some (.sl b 0 1 A)}(a0:k<c):
  ex2 P H ev ⟨d,.call ⟨.builtin .append,#[x,y],#[s,t]⟩,ty,p,af,g⟩ x y (some (.sl a off k c)) (some (.sl b 0 1 A)) hx hy=apR (apI P s t) k c off a (H.get a) (H.get b) H (opV P H ev ⟨d,.call ⟨.builtin .append,#[x,y],#[s,t]⟩,ty,p,af,g⟩):=by
 unfold apR;split
 .rename_i size bytes r z l own w D U Z;split
  .rename_i h;obtain⟨h4,h5,h6,h7,h8⟩:=h;show opV P H ev _=_;rw[G9 hx hy D,d4c (n:=0) rfl h4 (Rc Z (by omega)) (by omega) U (by omega) (by omega) h8]
  .rfl
 .rfl
theorem d4e{tk:Nat}(a0:tick=tk){q h:Option (Nat×Nat)}{k c off a:Nat}{A D U Z:Option Blk}{H:Mem}{els:R}(h1:q=h)(h2:A=D)(h3:U=Z):apR q k c off a A U H els=apR h k c off a D Z H els:=by grind
attribute [congr] d4e
theorem d4f{r l:List AV}{own:Bool}{z w n:Nat}{G:Gb}{els:R}(h:0<size)(A:l.length=size)(D:off+k*size+size<=r.length)(U:k<c)(Z:allOne l=true):
  apR (some (size,bytes)) k c off a (some (.cells r true z)) (some (.cells l own w)) ⟨.fn G,n⟩ els=.val (.sl a off (k+1) c) ⟨.fn (Ak G a (some (.cells (Aq r (off+k*size) l) true z))),n⟩:=if_pos ⟨h,A,D,U,Z⟩
attribute [simp] d4d d4f
end
section
variable {P:Program}{H:Mem}{ev:Ev}{d:Option Tmp}{ty:TypeId}{p:String}{af:Array Edge}{g:Option (Nat×Bool)}
theorem d4g{t:TypeId}{x hi A:Operand}{a off c:Nat}{k:IntKind}{hx:ev x=some (.sl a off 0 c)}{hh:ev hi=some (.lit (.int k 0))}{D:ev A=some (.lit (.int k 0))}(Z:(Bu P t).map (·.1)=some none):
  ex3 P H ev ⟨d,.slice t x none (some hi) (some A),ty,p,af,g⟩ x hi A (some (.sl a off 0 c)) (some (.lit (.int k 0))) (some (.lit (.int k 0))) hx hh D=.val (.sl a off 0 0) H:=by
 show opV P H ev _=_;show Da P H ev _ t (ev x) none (some hi) (some A)=_;unfold Da;rw[Ma (x:=x) (by simp[Op.operands]) (λv' h=>by rw[hx] at h;cases h;rfl),hx];obtain⟨q,hq,U⟩:=e6a.1 Z;obtain⟨q1,q2⟩:=q;dsimp only at U;subst U;obtain⟨e,i',h3,h4,h5⟩:=Jn hq;dsimp only;unfold Gc E3;dsimp only;rw[hh,D];dsimp only;rw[Mb h3 h4];rfl
attribute [simp] d4g
end
section
variable {P:Program}{H:Mem}{ev:Ev}{d:Option Tmp}{ty:TypeId}{p:String}{af:Array Edge}{g:Option (Nat×Bool)}
variable {t rt:TypeId}{x y:Operand}
def Jr(P:Program)(t:TypeId):Bool:=match P.underlying t with|some (.slice _)=>true|_=>false
theorem d4h(h:Jr P t=true):∃e,P.underlying t=some (.slice e):=by
 grind[Jr]
theorem a2y{v:AV}(hx:ev x=some v)(A:(∃a o n c,v=.sl a o n c)\/(∃a o n c,v=.slq a o n c)\/v=.es)(D:Jr P t=true):
  Fz P H ev ⟨d,.binOp .eql t x y rt,ty,p,af,g⟩ .eql t (some v) (some (.nl))=.val (.lit (.bool false)) H:=by
 obtain⟨e,D⟩:=d4h D;have U:A7 P ev ⟨d,.binOp .eql t x y rt,ty,p,af,g⟩=none:=
  Ma (x:=x) (by simp[Op.operands]) λv' h=>by rw[hx] at h;cases h;rcases A with⟨a,o,n,c,rfl⟩|⟨a,o,n,c,rfl⟩|rfl<;>rfl
 have hb:Fz P H ev ⟨d,.binOp .eql t x y rt,ty,p,af,g⟩ .eql t (some v) (some (.nl))=Bh P H ev ⟨d,.binOp .eql t x y rt,ty,p,af,g⟩ .eql t (some v) (some (.nl)):=by
  rcases A with⟨a,o,n,c,rfl⟩|⟨a,o,n,c,rfl⟩|rfl<;>rfl
 rw[hb];unfold Bh;have Z:P8 .eql (some v) (some (.nl))=none:=by
  rcases A with⟨a,o,n,c,rfl⟩|⟨a,o,n,c,rfl⟩|rfl<;>rfl
 rw[Z,U];dsimp only;unfold Om;rw[D];rcases A with⟨a,o,n,c,rfl⟩|⟨a,o,n,c,rfl⟩|rfl<;>rfl
theorem d4i{a o n c:Nat}(hx:ev x=some (.sl a o n c))(h:Jr P t=true):
  Fz P H ev ⟨d,.binOp .eql t x y rt,ty,p,af,g⟩ .eql t (some (.sl a o n c)) (some (.nl))=.val (.lit (.bool false)) H:=a2y hx (.inl ⟨a,o,n,c,rfl⟩) h
theorem d4j{a o n c:Nat}(hx:ev x=some (.slq a o n c))(h:Jr P t=true):
  Fz P H ev ⟨d,.binOp .eql t x y rt,ty,p,af,g⟩ .eql t (some (.slq a o n c)) (some (.nl))=.val (.lit (.bool false)) H:=a2y hx (.inr (.inl ⟨a,o,n,c,rfl⟩)) h
theorem d4k(hx:ev x=some .es)(h:Jr P t=true):
  Fz P H ev ⟨d,.binOp .eql t x y rt,ty,p,af,g⟩ .eql t (some .es) (some (.nl))=.val (.lit (.bool false)) H:=a2y hx (.inr (.inr rfl)) h
attribute [simp] d4i d4j d4k
end
theorem Gn(z:List AV):∀n,(rep z n).length=n*z.length
 | 0=>by simp
 | n+1=>by rw[Ua,W0,Gn z n,e8c];omega
section
variable {P:Program}{H:Mem}{ev:Ev}{d:Option Tmp}{ty:TypeId}{p:String}{af:Array Edge}{g:Option (Nat×Bool)}
theorem b1h{t:TypeId}{x hi:Operand}{hx:ev x=some (.nl)}{hh:ev hi=some (.li 0)}(A:(Bu P t).map (·.1)=some none):
  ex2 P H ev ⟨d,.slice t x none (some hi) none,ty,p,af,g⟩ x hi (some (.nl)) (some (.li 0)) hx hh=.val (.nl) H:=by
 show opV P H ev _=_;show Da P H ev _ t (ev x) none (some hi) none=_;unfold Da;rw[L9 (r:=.slice none 0 0) (x:=x) (y:=hi) (by rfl) hx hh λρ D e2=>?_];show Ar P (do pure (Next.value (<- Instr.sliceAt t (ρ x) none (some (ρ hi)) none)))=_;rw[D,e2];obtain⟨q,U,h⟩:=e6a.1 A;obtain⟨q1,q2⟩:=q;dsimp only at h;subst h;obtain⟨e,i,Z,hi',h5⟩:=Jn U;have key:Ar P (Instr.slice t (.slice none 0 0) none (some (.int .i64 0)) none)=some (.slice none 0 0):=by
  unfold Instr.slice;refine(Bo (m:=underlying t) (a:=TypeDesc.slice e) (Hr Z)).trans ?_;dsimp only;refine(Bo (a:=(0,0,0)) ?_).trans ?_
  .rfl
  .refine(Bo (m:=sizeOf e) (a:=i.size) ?_).trans ?_
   .exact(Bo (b1a hi')).trans rfl
   .rfl
 have a0:Ar P (Instr.sliceAt t (.slice none 0 0) none (some (.int .i64 0)) none)=some (.slice none 0 0):=by
  grind[Instr.sliceAt,Hr,Bo]
 rw[Bo a0];rfl
theorem a2z{t:TypeId}{x hi:Operand}{v r:AV}{k:IntKind}{i:Int}{hx:ev x=some v}{hh:ev hi=some (.lit (.int k i))}(Z:toLit v=none)(D:(Bu P t).map (·.1)=some none)(hr:∀size,I5 size none (some (.lit (.int k i))) none v=some r):
  ex2 P H ev ⟨d,.slice t x none (some hi) none,ty,p,af,g⟩ x hi (some v) (some (.lit (.int k i))) hx hh=.val r H:=by
 show opV P H ev _=_;show Da P H ev _ t (ev x) none (some hi) none=_;unfold Da;rw[Ma (x:=x) (by simp[Op.operands]) (λv' h=>by grind),hx];obtain⟨q,U,A⟩:=e6a.1 D;obtain⟨q1,q2⟩:=q;dsimp only at A;subst A;obtain⟨e,i',h3,h4,h5⟩:=Jn U;simp_all[E3,Gc,Mb]
end
section
variable {H:Mem}
variable {l:List AV}{off:Nat}{u:AV}
theorem d4l{z:Nat}{a:Nat}{v:AV}(h:off+2<=l.length)(A:oneC u=true)(D:oneC v=true):
  stS (some (true,2)) (some (.cells l true z)) H a off [u,v]=.skip (H.upd a (.cells (Aq l off [u,v]) true z)):=
 (T9 (size:=2) rfl (by simp_all) h).trans rfl
attribute [simp] d4l d4b
theorem a3a{v:AV}(h:off+2<=l.length):(Aq l off [u,v])[off]?=some u:=by
 (simp_all[Aq];grind)
theorem a3b{v:AV}(h:off+2<=l.length):(Aq l off [u,v])[off+1]?=some v:=by
 (simp_all[Aq];grind)
theorem Pe{new:List AV}{j:Nat}(h:off+new.length<=l.length)(A:j<off\/off+new.length<=j):(Aq l off new)[j]?=l[j]?:=by
 unfold Aq;rcases A with A|A
 .grind
 .rw[Xq (by grind),W0,W4,e5z (by omega),e8u,show off+new.length+(j-(off+new.length))=j by omega]
end
def Dc(c:Nat)(g:Gb):Gb:=λa=>if a=c then none else g a
theorem Ew{c a:Nat}{g:Gb}(h:a≠c):Dc c g a=g a:=if_neg h
theorem Js{c a:Nat}{g:Gb}{x:Blk}(h:Dc c g a=some x):g a=some x:=by
 grind[Dc]
theorem d4m{c a:Nat}{g:Gb}{x:Blk}{y:Option Blk}(h:Dc c g a=some x):Ak g c y a=some x:=by
 grind[Dc,Ae]
theorem d4n{c a:Nat}{g g': Gb}(h:a≠c->g' a=g a):Dc c g' a=Dc c g a:=by
 grind[Dc]
def Ay(sv:AV):Prop:=∀a o n c,sv=.sl a o n c->n<=c
theorem Row.takes{g:Gb}{a off:Nat}{cs:List AV}(h:Row g a off cs)(m:Nat):Row g a off (cs.take m):=by
 obtain⟨l,own,z,A,D,U⟩:=h;refine⟨l,own,z,A,?_,?_⟩
 all_goals grind
theorem Af.cutP{g:Gb}{b len:Nat}{sv:AV}{cs:List AV}(h:Af g b sv len cs)(hc:Ay sv){t:TypeId}(A:(Bu P t).map (·.1)=some none){k sz:Nat}(hk:k<=len):
  ∃D,(∀{H:Mem}{ev:Ev}{d:Option Tmp}{ty:TypeId}{p:String} {af:Array Edge} {gd:Option (Nat×Bool)} {x hi:Operand} {hx:ev x=some sv} {hh:ev hi=some (.li (k:Int))},
   ex2 P H ev ⟨d,.slice t x none (some hi) none,ty,p,af,gd⟩ x hi (some sv) (some (.li (k:Int))) hx hh=.val D H)/\Af g b D k (cs.take (k*sz))/\Ay D:=by
 rcases h with⟨h1,h2,rfl|rfl⟩|⟨a,off,U,⟨c,rfl⟩|⟨c,rfl⟩,Z⟩
 .obtain rfl:k=0:=by omega
  refine⟨.nl,?_,.inl ⟨rfl,by simp,.inl rfl⟩,λ_ _ _ _ e=>by cases e⟩;grind[b1h]
 .obtain rfl:k=0:=by omega
  refine⟨.es,?_,.inl ⟨rfl,by simp,.inr rfl⟩,λ_ _ _ _ e=>by cases e⟩;intro H ev d ty p af gd x hi hx hh;exact a2z (hx:=hx) (hh:=hh) rfl A λsize=>rfl
 .have a0:=hc _ _ _ _ rfl;by_cases h0:c=0
  .obtain rfl:k=0:=by omega
   subst h0;refine⟨.sl a off 0 0,?_,.inr ⟨a,off,U,.inl ⟨0,rfl⟩,Z.takes _⟩,λ_ _ _ _ e=>by grind⟩;intro H ev d ty p af gd x hi hx hh;refine a2z (hx:=hx) (hh:=hh) rfl A λsize=>?_;rfl
  .refine⟨.sl a off k c,?_,.inr ⟨a,off,U,.inl ⟨c,rfl⟩,Z.takes _⟩,λ_ _ _ _ e=>by grind⟩;grind[a2b]
 .by_cases h0:len=0
  .obtain rfl:k=0:=by omega
   subst h0;refine⟨.es,?_,.inl ⟨rfl,by simp,.inr rfl⟩,λ_ _ _ _ e=>by cases e⟩;intro H ev d ty p af gd x hi hx hh;refine a2z (hx:=hx) (hh:=hh) rfl A λsize=>?_;rfl
  .refine⟨.slq a off k c,?_,.inr ⟨a,off,U,.inr ⟨c,rfl⟩,Z.takes _⟩,λ_ _ _ _ e=>by cases e⟩;grind[a2c]
def Dd(O:Int)(next:Nat)(e:Int×Int):Option Nat:=
 if e.1 = -1/\(e.2 = -1\/e.2 = -2) then some next
 else if e.1=(next:Int)/\0<=e.2/\e.2<O then some (next+1) else none
def goE(O:Int):List (Int×Int)->Nat->Option Nat
 | [],next=>some next
 | e::l,next=>match Dd O next e with
  | none=>none
  | some nx=>goE O l nx
def goT(I O:Int):Tq->Nat->Nat->Option Nat
 | [],_,next=>some next
 | r::l,n,next=>if (r.length:Int)=I/\n<next then
   (match goE O r next with
    | none=>none
    | some nx=>goT I O l (n+1) nx)
   else none
def Ej(I O:Int)(T:Tq):Int:=
 if I > 16\/O > 16\/T.length > 65537 then 3 else if I<1\/O<1\/T.length<1 then 1 else if goT I O T 0 1=some T.length then 0 else 1
def okE(len:Nat)(O:Int)(e:Int×Int):Bool:=
 decide (1<=e.1/\e.1<len/\0<=e.2/\e.2<O)||decide (e.1 = -1/\(e.2 = -1\/e.2 = -2))
structure WSt where
 out:Wq
 seen:List Bool
 many:Nat
def wI(r n:Nat):List (Int×Int)->Nat->WSt->Option WSt
  | [],_,st=>some st
  | e::l,i,st =>
    if st.seen.getD n false=true/\(st.out.getD n []).length=r then
      (if e.1 = -1 then wI r n l (i+1) st
       else if st.seen.getD e.1.toNat false=true then none
       else wI r n l (i+1) ⟨st.out.set e.1.toNat (st.out.getD n []++[(i:Int)]),st.seen.set e.1.toNat true,st.many+1⟩)
    else some st
def wN(r:Nat):Tq->Nat->WSt->Option WSt
 | [],_,st=>some st
 | row::l,n,st=>match wI r n row 0 st with
  | none=>none
  | some s=>wN r l (n+1) s
def wR(T:Tq):Nat->Nat->WSt->Option WSt
 | 0,_,st=>some st
 | k+1,r,st=>match wN r T 0 st with
  | none=>none
  | some s=>if s.many=st.many then some s else wR T k (r+1) s
def F1(len:Nat):WSt:=⟨List.replicate len [],(List.replicate len false).set 0 true,1⟩
def Bd(T:Tq):Wq:=
 match wR T T.length 0 (F1 T.length) with
 | none=>[]
 | some s=>if s.many<T.length then [] else s.out
def lexC:Wd->Wd->Int
 | x::a,y::b=>if x<y then -1 else if y<x then 1 else lexC a b
 | _,_=>0
def A4(a b:Wd):Int:=if a.length<b.length then -1 else if b.length<a.length then 1 else lexC a b
def Ri(w:Wq):Bool:=(List.range (w.length-1)).all λn=>decide (A4 (w.getD n []) (w.getD (n+1) [])<0)
def a3c(I O:Int)(T:Tq):Int:=
 if I > 16\/O > 16\/T.length > 65537 then 3 else if I<1\/O<1\/T.length<1 then 1
 else if ((T.all λr=>decide ((r.length:Int)=I)&&r.all (okE T.length O))&&decide ((Bd T).length=T.length)&&Ri (Bd T))=true then 0 else 1
def LL:Wd->Wd->Prop
 | x::a,y::b=>x<y\/x=y/\LL a b
 | _,_=>False
def SL(a b:Wd):Prop:=a.length<b.length\/a.length=b.length/\LL a b
theorem lexC_LL:∀{a b:Wd},lexC a b<0↔LL a b
 | [],[]=>by simp[lexC,LL]
 | [],_::_=>by simp[lexC,LL]
 | _::_,[]=>by simp[lexC,LL]
 | x::a,y::b=>by
  unfold lexC LL;by_cases h:x<y
  .grind
  .rw[if_neg h];by_cases A:y<x
   all_goals (simp_all[lexC_LL,if_neg];grind)
theorem Fa{a b:Wd}:A4 a b<0↔SL a b:=by
 unfold A4 SL;by_cases h:a.length<b.length
 .grind
 .rw[if_neg h];by_cases A:b.length<a.length
  all_goals (simp_all[lexC_LL,if_neg];grind)
theorem LL.irrefl:∀{a:Wd},¬ LL a a
 | [],h=>h
 | x::a,h=>by
  rcases h with h|⟨-,h⟩
  .omega
  .exact LL.irrefl h
theorem LL.trans:∀{a b c:Wd},LL a b->LL b c->LL a c
 | [],_,_,h,_=>by assumption
 | _::_,[],_,h,_=>h.elim
 | _::_,_::_,[],_,h=>h.elim
 | x::a,y::b,z::c,D,A=>by
  rcases D with D|⟨D,U⟩
  .rcases A with A|⟨A,-⟩
   .exact .inl (by omega)
   .exact .inl (by omega)
  .rcases A with A|⟨A,Z⟩
   .exact .inl (by omega)
   .exact .inr ⟨by omega,U.trans Z⟩
theorem SL.irrefl{a:Wd}:¬ SL a a:=by
 rintro (h|⟨-,h⟩)
 all_goals grind[LL.irrefl]
abbrev X9:=@SL.irrefl
theorem SL.trans{a b c:Wd}(A:SL a b)(h:SL b c):SL a c:=by
 rcases A with A|⟨A,D⟩
 .rcases h with h|⟨h,-⟩
  .exact .inl (by omega)
  .exact .inl (by omega)
 .rcases h with h|⟨h,U⟩
  .exact .inl (by omega)
  .exact .inr ⟨by omega,D.trans U⟩
theorem SL.le{a b:Wd}(h:SL a b):a.length<=b.length:=by
 rcases h with h|⟨h,-⟩<;>omega
theorem LL.app:∀{a b:Wd},LL a b->∀i j,LL (a++[i]) (b++[j])
 | [],b,h,_,_=>by cases b<;>exact h.elim
 | _::_,[],h,_,_=>h.elim
 | x::a,y::b,h,i,j=>by
  rcases h with h|⟨h,A⟩
  .exact .inl h
  .exact .inr ⟨h,A.app i j⟩
theorem LL.last:∀(a:Wd){i j:Int},i<j->LL (a++[i]) (a++[j])
 | [],_,_,h=>.inl h
 | _::a,_,_,h=>.inr ⟨rfl,LL.last a h⟩
theorem SL.app{a b:Wd}(h:SL a b)(i j:Int):SL (a++[i]) (b++[j]):=by
 rcases h with h|⟨h,A⟩
 .exact .inl (by grind)
 .exact .inr ⟨by grind,A.app i j⟩
theorem SL.last(a:Wd){i j:Int}(h:i<j):SL (a++[i]) (a++[j]):=.inr ⟨by simp,LL.last a h⟩
abbrev Y5:=@SL.last
theorem SL.nil(a:Wd)(i:Int):SL [] (a++[i]):=.inl (by simp)
theorem b1i{w:Wq}(h:Ri w=true):∀a b,a<b->b<w.length->SL (w.getD a []) (w.getD b []):=by
 have step:∀n,n+1<w.length->SL (w.getD n []) (w.getD (n+1) []):=λn D=>by
  have:=W7.1 h n (by grind);simp_all[Fa]
 intro a b U
 induction b with
 | zero=>omega
 | succ b A =>
  intro hb;by_cases e:a=b
  .grind
  .exact(A (by omega) (by omega)).trans (step b hb)
theorem d4o{w:Wq}(h:∀n,n+1<w.length->SL (w.getD n []) (w.getD (n+1) [])):Ri w=true:=by
 grind[Ri,Fa]
theorem Rj{h:Type}(l:List h)(i j:Nat)(a d:h):(l.set i a).getD j d=if i=j/\i<l.length then a else l.getD j d:=by
 grind
section
variable {P:Program}{H:Mem}{ev:Ev}{d:Option Tmp}{ty:TypeId}{p:String}{af:Array Edge}{g:Option (Nat×Bool)}{x y:Operand}{s t:TypeId}{size bytes:Nat}
variable {n k a tk sz:Nat}{cs r:List AV}{G:Gb}{els:R}{b:Option Blk}
theorem d4p{off c:Nat}{x:AV}{new l:List AV}{own:Bool}{z:Nat}(A:lenOf x=some (n+1))(hs:0<size)(D:Cv H size (n+1) x=some new)(U:new.length=(n+1)*size)
  (Z:H.get a=some (.cells l own z)) (a0:off+k*size<=l.length) (hc:c<k+(n+1)) (h1:k+(n+1)<=1048576) (h3:c<=1048576) (h2:bytes<=1048576) :
  En H size bytes (.sl a off k c) x=some (.slq H.next 0 (k+(n+1)) 0,H.add (.cells ((l.drop off).take (k*size)++new) true size)):=by
 unfold En;rw[A];show (match Nat.beq size 0,Cv H size (n+1) x with|false,some new=>Ed H size bytes (n+1) (.sl a off k c) new|_,_=>none)=_;have hb:Nat.beq size 0=false:=by
  grind[Nat.eq_of_beq_eq_true]
 rw[hb,D];dsimp only;unfold Ed;rw[Di,U,e8g];dsimp only;unfold P4;have h:Nat.ble (k+(n+1)) c=false:=by
  cases h:Nat.ble (k+(n+1)) c with
  | false=>rfl
  | true=>have:=Wz h;omega
 simp_all[Q0,Qi,Jd,Q1]
open Classical in
noncomputable def Rk(q:Option (Nat×Nat))(sz k len a:Nat)(cs:List AV)(ga gb blk:Option Blk)(H:Mem)(els:R):R:=match q,ga with
 | some (size,bytes),some (.cells r true z)=>if gb=blk/\size=sz/\z=sz/\0<size/\bytes<=1048576/\r.length=k*sz/\k<=40000/\allOne cs=true then .val (.slq H.next 0 (k+len) 0) ((H.rm a).add (.cells (r++cs) true sz)) else els
 | _,_=>els
theorem d4q(a0:tick=tk){q h:Option (Nat×Nat)}{sz k len a:Nat}{cs:List AV}{A D U Z blk:Option Blk}{H:Mem}{els:R}(h1:q=h)(h2:A=D)(h3:U=Z):Rk q sz k len a cs A U blk H els=Rk h sz k len a cs D Z blk H els:=by grind
attribute [congr] d4q
theorem d4r{len:Nat}(h:0<sz)(A:bytes<=1048576)(D:r.length=k*sz)(U:k<=40000)(Z:allOne cs=true):Rk (some (sz,bytes)) sz k len a cs (some (.cells r true sz)) b b ⟨.fn G,n⟩ els=.val (.slq n 0 (k+len) 0) ⟨.fn (Ak (Ak G a none) n (some (.cells (r++cs) true sz))),n+1⟩:=if_pos ⟨rfl,rfl,rfl,h,A,D,U,Z⟩
open Classical in
noncomputable def Rl(q:Option (Nat×Nat))(sz k len c off:Nat)(cs:List AV)(ga gb blk:Option Blk)(H:Mem)(els:R):R:=match q,ga with
 | some (size,bytes),some (.cells r _ _)=>if gb=blk/\size=sz/\0<size/\bytes<=1048576/\off+k*sz<=r.length/\c<k+len/\k<=40000/\c<=1048576 then .val (.slq H.next 0 (k+len) 0) (H.add (.cells ((r.drop off).take (k*sz)++cs) true sz)) else els
 | _,_=>els
theorem d4s(a0:tick=tk){q h:Option (Nat×Nat)}{sz k len c off:Nat}{cs:List AV}{A D U Z blk:Option Blk}{H:Mem}{els:R}(h1:q=h)(h2:A=D)(h3:U=Z):Rl q sz k len c off cs A U blk H els=Rl h sz k len c off cs D Z blk H els:=by grind
attribute [congr] d4s
theorem d4t{own:Bool}{z len c off:Nat}(h:0<sz)(A:bytes<=1048576)(D:off+k*sz<=r.length)(U:c<k+len)(Z:k<=40000)(h6:c<=1048576):Rl (some (sz,bytes)) sz k len c off cs (some (.cells r own z)) b b ⟨.fn G,n⟩ els=.val (.slq n 0 (k+len) 0) ⟨.fn (Ak G n (some (.cells ((r.drop off).take (k*sz)++cs) true sz))),n+1⟩:=if_pos ⟨rfl,rfl,h,A,D,U,Z,h6⟩
theorem d4u{x:AV}{new l:List AV}(h:lenOf x=some (n+1))(hs:0<size)(A:Cv H size (n+1) x=some new)(D:new.length=(n+1)*size)
  (U:H.get a=some (.cells l true size)) (a1:(k+(n+1))*size<=l.length) (Z:allOne new=true) :
  En H size bytes (.slq a 0 k 0) x=some (.slq a 0 (k+(n+1)) 0,H.upd a (.cells (Aq l (k*size) new) true size)):=by
 unfold En;rw[h];show (match Nat.beq size 0,Cv H size (n+1) x with|false,some new=>Ed H size bytes (n+1) (.slq a 0 k 0) new|_,_=>none)=_;have hb:Nat.beq size 0=false:=by
  grind[Nat.eq_of_beq_eq_true]
 rw[hb,A];dsimp only;unfold Ed;rw[Di,D,e8g];dsimp only;unfold Sz;rw[U];dsimp only;have e1:(Nat.beq size size&&Nat.beq 0 (0*size))=true:=by simp
 have e2:Nat.ble (0+(k+(n+1))*size) (len l)=true:=by simp_all[Di]
 rw[e1,e2];dsimp only;unfold J8;rw[Z];dsimp only;have a0:0+k*size+new.length<=l.length:=by grind
 rw[Ll,if_pos a0,Yd,e6u];rfl
open Classical in
noncomputable def Rm(q:Option (Nat×Nat))(sz k len a:Nat)(cs:List AV)(ga gb blk:Option Blk)(H:Mem)(els:R):R:=match q,ga with
 | some (size,_),some (.cells r true z)=>if gb=blk/\size=sz/\z=sz/\0<size/\(k+len)*sz<=r.length/\allOne cs=true then .val (.slq a 0 (k+len) 0) (H.upd a (.cells (Aq r (k*sz) cs) true sz)) else els
 | _,_=>els
theorem d4v(a0:tick=tk){q h:Option (Nat×Nat)}{sz k len a:Nat}{cs:List AV}{A D U Z blk:Option Blk}{H:Mem}{els:R}(h1:q=h)(h2:A=D)(h3:U=Z):Rm q sz k len a cs A U blk H els=Rm h sz k len a cs D Z blk H els:=by grind
theorem d4w{len:Nat}(h:0<sz)(A:(k+len)*sz<=r.length)(D:allOne cs=true):Rm (some (sz,bytes)) sz k len a cs (some (.cells r true sz)) b b ⟨.fn G,n⟩ els=.val (.slq a 0 (k+len) 0) ⟨.fn (Ak G a (some (.cells (Aq r (k*sz) cs) true sz))),n⟩:=if_pos ⟨rfl,rfl,rfl,h,A,D⟩
open Classical in
noncomputable def Ro(q:Option (Nat×Nat))(sz len:Nat)(cs:List AV)(gb blk:Option Blk)(H:Mem)(els:R):R:=match q with
 | some (size,bytes)=>if gb=blk/\size=sz/\0<size/\bytes<=1048576 then .val (.slq H.next 0 len 0) (H.add (.cells cs true sz)) else els
 | _=>els
theorem d4x(U:tick=tk){q h:Option (Nat×Nat)}{sz len:Nat}{cs:List AV}{A D blk:Option Blk}{H:Mem}{els:R}(Z:q=h)(h3:A=D):Ro q sz len cs A blk H els=Ro h sz len cs D blk H els:=by grind
theorem d4y{len:Nat}(h:0<sz)(A:bytes<=1048576):Ro (some (sz,bytes)) sz len cs b b ⟨.fn G,n⟩ els=.val (.slq n 0 len 0) ⟨.fn (Ak G n (some (.cells cs true sz))),n+1⟩:=if_pos ⟨rfl,rfl,h,A⟩
attribute [congr] d4x
attribute [simp] d4y
attribute [congr] d4v
attribute [simp] d4w
attribute [simp] d4r d4t
end
theorem Af.lenOf'{g:Gb}{b len:Nat}{sv:AV}{cs:List AV}(h:Af g b sv len cs)(U:0<len):∃A D c l own z,A<b/\(sv=.sl A D len c\/sv=.slq A D len c)/\g A=some (.cells l own z)/\D+cs.length<=l.length/\(l.drop D).take cs.length=cs:=by
 rcases h with⟨Z,_⟩|⟨A,D,a0,a1,l,own,z,hg,a3,a4⟩
 all_goals grind
theorem Af.apq{g:Gb}{b len:Nat}{sv:AV}{cs:List AV}(h:Af g b sv len cs)(Z:0<len)(a4:len<=1000000)(D:cs.length=len*sz):
  ∃A blk,A<b/\g A=some blk/\∀{H:Mem}{ev:Ev}{d:Option Tmp}{ty:TypeId}{p:String} {af:Array Edge} {gd:Option (Nat×Bool)} {x y:Operand} {s t:TypeId} {a k:Nat} {hx:ev x=some (.slq a 0 k 0)} {hy:ev y=some sv},
   ex2 P H ev ⟨d,.call ⟨.builtin .append,#[x,y],#[s,t]⟩,ty,p,af,gd⟩ x y (some (.slq a 0 k 0)) (some sv) hx hy=Rk (apI P s t) sz k len a cs (H.get a) (H.get A) (some blk) H (opV P H ev ⟨d,.call ⟨.builtin .append,#[x,y],#[s,t]⟩,ty,p,af,gd⟩):=by
 obtain⟨A,o2,c,l,own,z,a0,U,hg,a1,a3⟩:=h.lenOf' Z;refine⟨A,_,a0,hg,?_⟩;intro H ev d ty p af gd x y s t a k hx hy;unfold Rk;split
 .rename_i size bytes r zz h1 h2;split
  .rename_i h;obtain⟨hH,rfl,rfl,h4,h5,h6,h7,h8⟩:=h;obtain⟨j,rfl⟩:∃j,len=j+1:=⟨len-1,by omega⟩;show opV P H ev _=_;have hn:lenOf sv=some (j+1):=by rcases U with rfl|rfl<;>rfl
   rw[G9 hx hy h1,b0n (n:=j) hn h4 (Rh U hH a3 a1 D) D h2 h6 (by omega) h5 h8];rfl
  .rfl
 .rfl
theorem Af.apo{g:Gb}{b len:Nat}{sv:AV}{cs:List AV}(h:Af g b sv len cs)(Z:0<len)(a5:len<=1000000)(D:cs.length=len*sz):
  ∃A blk,A<b/\g A=some blk/\∀{H:Mem}{ev:Ev}{d:Option Tmp}{ty:TypeId}{p:String} {af:Array Edge} {gd:Option (Nat×Bool)} {x y:Operand} {s t:TypeId} {a off k c:Nat} {hx:ev x=some (.sl a off k c)} {hy:ev y=some sv},c<k+len ->
   ex2 P H ev ⟨d,.call ⟨.builtin .append,#[x,y],#[s,t]⟩,ty,p,af,gd⟩ x y (some (.sl a off k c)) (some sv) hx hy=Rl (apI P s t) sz k len c off cs (H.get a) (H.get A) (some blk) H (opV P H ev ⟨d,.call ⟨.builtin .append,#[x,y],#[s,t]⟩,ty,p,af,gd⟩):=by
 obtain⟨A,o2,c2,l,own,z,a0,U,hg,a1,a3⟩:=h.lenOf' Z;refine⟨A,_,a0,hg,?_⟩;intro H ev d ty p af gd x y s t a off k c hx hy a4;unfold Rl;split
 .rename_i size bytes r ow zz h1 h2;split
  .rename_i h;obtain⟨hH,rfl,h4,h5,h6,h7,h8,h9⟩:=h;obtain⟨j,rfl⟩:∃j,len=j+1:=⟨len-1,by omega⟩;show opV P H ev _=_;have hn:lenOf sv=some (j+1):=by rcases U with rfl|rfl<;>rfl
   rw[G9 hx hy h1,d4p (n:=j) hn h4 (Rh U hH a3 a1 D) D h2 h6 a4 (by omega) h9 h5]
  .rfl
 .rfl
theorem Af.aps{g:Gb}{b len:Nat}{sv:AV}{cs:List AV}(h:Af g b sv len cs)(Z:0<len)(D:cs.length=len*sz):
  ∃A blk,A<b/\g A=some blk/\∀{H:Mem}{ev:Ev}{d:Option Tmp}{ty:TypeId}{p:String} {af:Array Edge} {gd:Option (Nat×Bool)} {x y:Operand} {s t:TypeId} {a k:Nat} {hx:ev x=some (.slq a 0 k 0)} {hy:ev y=some sv},
   ex2 P H ev ⟨d,.call ⟨.builtin .append,#[x,y],#[s,t]⟩,ty,p,af,gd⟩ x y (some (.slq a 0 k 0)) (some sv) hx hy=Rm (apI P s t) sz k len a cs (H.get a) (H.get A) (some blk) H (opV P H ev ⟨d,.call ⟨.builtin .append,#[x,y],#[s,t]⟩,ty,p,af,gd⟩):=by
 obtain⟨A,o2,c,l,own,z,a0,U,hg,a1,a3⟩:=h.lenOf' Z;refine⟨A,_,a0,hg,?_⟩;intro H ev d ty p af gd x y s t a k hx hy;unfold Rm;split
 .rename_i size bytes r zz h1 h2;split
  .rename_i h;obtain⟨hH,rfl,rfl,h4,h6,h8⟩:=h;obtain⟨j,rfl⟩:∃j,len=j+1:=⟨len-1,by omega⟩;show opV P H ev _=_;have hn:lenOf sv=some (j+1):=by rcases U with rfl|rfl<;>rfl
   rw[G9 hx hy h1,d4u (n:=j) hn h4 (Rh U hH a3 a1 D) D h2 h6 h8]
  .rfl
 .rfl
theorem Af.apn{g:Gb}{b len:Nat}{sv:AV}{cs:List AV}(h:Af g b sv len cs)(Z:0<len)(a4:len<=1000000)(D:cs.length=len*sz):
  ∃A blk,A<b/\g A=some blk/\∀{H:Mem}{ev:Ev}{d:Option Tmp}{ty:TypeId}{p:String} {af:Array Edge} {gd:Option (Nat×Bool)} {x y:Operand} {s t:TypeId} {hx:ev x=some (.nl)} {hy:ev y=some sv},
   ex2 P H ev ⟨d,.call ⟨.builtin .append,#[x,y],#[s,t]⟩,ty,p,af,gd⟩ x y (some (.nl)) (some sv) hx hy=Ro (apI P s t) sz len cs (H.get A) (some blk) H (opV P H ev ⟨d,.call ⟨.builtin .append,#[x,y],#[s,t]⟩,ty,p,af,gd⟩):=by
 obtain⟨A,o2,c,l,own,z,a0,U,hg,a1,a3⟩:=h.lenOf' Z;refine⟨A,_,a0,hg,?_⟩;intro H ev d ty p af gd x y s t hx hy;unfold Ro;split
 .rename_i size bytes h1;split
  .rename_i h;obtain⟨hH,rfl,h4,h5⟩:=h;obtain⟨j,rfl⟩:∃j,len=j+1:=⟨len-1,by omega⟩;show opV P H ev _=_;have hn:lenOf sv=some (j+1):=by rcases U with rfl|rfl<;>rfl
   rw[G9 hx hy h1,b0m (n:=j) hn h4 (Rh U hH a3 a1 D) D (by omega) h5]
  .rfl
 .rfl
end Go.Ai
