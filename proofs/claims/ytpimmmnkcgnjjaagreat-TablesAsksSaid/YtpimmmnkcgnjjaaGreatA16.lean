/- Parts of an interpreter and of a proof. No condition. -/
import Derived.Test.YtpimmmnkcgnjjaaGreatA15
import Derived.Test.YtpimmmnkcgnjjaaGreatA10
set_option linter.all false
set_option maxHeartbeats 40000000
set_option maxRecDepth 10000
open Go.Proofs Go.Proofs.Tryz
namespace Go.Ai
theorem slT22:Jr prog 22=true:=by kernel_rfl
theorem slT23:Jr prog 23=true:=by kernel_rfl
attribute [simp] slT22 slT23
theorem a5k{len:Nat}{cs:List AV}(A:0<len)(U:len<=100000)(D:cs.length=len*1)(g:Gb)(n:Nat)(sv:AV)(h:Af g n sv len cs):
  WC 0 prog 54 [sv] ⟨.fn g,n⟩ λr=>∃g',r=.ret (.slq (n+1) 0 len 0) ⟨.fn g',n+1+1⟩/\(∀x,x<n->g' x=g x)/\g' (n+1)=some (.cells cs true 1):=by
 obtain⟨Z,blk,a0,a1,a3⟩:=Yc (P:=prog) (sz:=1) h A (by omega) D;rcases h with⟨h1,_⟩|⟨a,off,ha,⟨c,rfl⟩|⟨c,rfl⟩,Q⟩
 .omega
 all_goals
  clear Q;refine ent [] func54 ?_;simp (disch:=first|omega|simp) [*];intro x hx;simp (disch:=omega) only[Ad]
theorem e2n{len:Nat}{cs:List AV}(A:0<len)(U:len<=100000)(D:cs.length=len*1)(g:Gb)(n:Nat)(sv:AV)(h:Af g n sv len cs):
  WC 0 prog 120 [sv] ⟨.fn g,n⟩ λr=>∃g',r=.ret (.slq (n+1) 0 len 0) ⟨.fn g',n+1+1⟩/\(∀x,x<n->g' x=g x)/\g' (n+1)=some (.cells cs true 1):=by
 obtain⟨Z,blk,a0,a1,a3⟩:=Yc (P:=prog) (sz:=1) h A (by omega) D;rcases h with⟨h1,_⟩|⟨a,off,ha,⟨c,rfl⟩|⟨c,rfl⟩,Q⟩
 .omega
 all_goals
  clear Q;refine ent [] func120 ?_;simp (disch:=first|omega|simp) [*];intro x hx;simp (disch:=omega) only[Ad]
theorem e2o{len:Nat}{cs:List AV}(A:0<len)(U:len<=100000)(D:cs.length=len*2)(g:Gb)(n:Nat)(sv:AV)(h:Af g n sv len cs):
  WC 0 prog 122 [sv] ⟨.fn g,n⟩ λr=>∃g',r=.ret (.slq (n+1) 0 len 0) ⟨.fn g',n+1+1⟩/\(∀x,x<n->g' x=g x)/\g' (n+1)=some (.cells cs true 2):=by
 obtain⟨Z,blk,a0,a1,a3⟩:=Yc (P:=prog) (sz:=2) h A (by omega) D;rcases h with⟨h1,_⟩|⟨a,off,ha,⟨c,rfl⟩|⟨c,rfl⟩,Q⟩
 .omega
 all_goals
  clear Q;refine ent [] func122 ?_;simp (disch:=first|omega|simp) [*];intro x hx;simp (disch:=omega) only[Ad]
theorem a5l{len a:Nat}(h:0<len)(H:Mem):WC 0 prog 53 [.slq a 0 len 0] H λr=>r=.ret (.sl a 0 len len) H:=by
 refine Y4 ?_;refine ent [] func53 ?_;simp (disch:=first|omega|simp) [*]
theorem e2p{len a:Nat}(h:0<len)(H:Mem):WC 0 prog 123 [.slq a 0 len 0] H λr=>r=.ret (.sl a 0 len len) H:=by
 refine Y4 ?_;refine ent [] func123 ?_;simp (disch:=first|omega|simp) [*]
structure CpK {β:Type} (R:(Gb)->Nat->β->AV->Prop) (g:Gb) (lo n:Nat) (l:List β) (k:Nat) (cs svs:List AV):Prop where
 len:cs.length=l.length
 new:∀(j:Nat)(h:j<l.length),j<k->∃q,cs[j]?=some q/\R (B9 lo g) n l[j] q
 old:∀j,k<=j->cs[j]?=svs[j]?
theorem CpK.step{A:Type}{R:(Gb)->Nat->A->AV->Prop}(U:∀{g g' : Gb}{n n' : Nat}{x:A}{q:AV},R g n x q->n<=n'->(∀a z,a<n->g a=some z->g' a=some z)->R g' n' x q)
  {g g' : Gb} {lo n n' : Nat} {l:List A} {k:Nat} {cs svs:List AV} (h:CpK R g lo n l k cs svs) (Z:n<=n') (hg:∀a,lo<=a->a<n->g' a=g a) (hk:k<l.length) {q:AV} (hq:R (B9 lo g') n' l[k] q):CpK R g' lo n' l (k+1) (cs.set k q) svs:=by
 have hl:=h.len;refine⟨by rw[Xf];exact hl,λj D a0=>?_,λj D=>?_⟩
 .by_cases e:j=k
  .subst e;exact⟨q,by rw[e7p (by omega)],hq⟩
  .obtain⟨q',e1,e2⟩:=h.new j D (by omega);refine⟨q',by rw[e6t (by omega)];exact e1,U e2 Z λa z ha hz=>?_⟩;obtain⟨Q,h2⟩:=Gy hz;rw[De Q,hg a Q ha];exact h2
 .rw[e6t (by omega)];exact h.old j (by omega)
theorem CpK.keep{A:Type}{R:(Gb)->Nat->A->AV->Prop}(Q:∀{g g' : Gb}{n n' : Nat}{x:A}{q:AV},R g n x q->n<=n'->(∀a z,a<n->g a=some z->g' a=some z)->R g' n' x q)
  {g g' : Gb} {lo n n' : Nat} {l:List A} {k:Nat} {cs svs:List AV} (h:CpK R g lo n l k cs svs) (U:n<=n') (Z:∀a,lo<=a->a<n->g' a=g a):CpK R g' lo n' l k cs svs:=
 ⟨h.len,λj hj a0=>let ⟨q,e1,e2⟩:=h.new j hj a0;⟨q,e1,Q e2 U λa z ha hz=>by
  obtain⟨D,h2⟩:=Gy hz;rw[De D,Z a D ha];exact h2⟩,h.old⟩
def WCR(g:Gb)(n:Nat)(w:Wd)(q:AV):Prop:=Al g n w q/\Ay q
theorem WCR.m{g g': Gb}{n n': Nat}{x:Wd}{q:AV}(h:WCR g n x q)(A:n<=n')(D:∀a z,a<n->g a=some z->g' a=some z):WCR g' n' x q:=⟨Xz A D h.1,h.2⟩
def ERR(g:Gb)(n:Nat)(r:List (Int×Int))(q:AV):Prop:=Af g n q r.length (Au r)
theorem ERR.m{g g': Gb}{n n': Nat}{x:List (Int×Int)}{q:AV}(h:ERR g n x q)(A:n<=n')(D:∀a z,a<n->g a=some z->g' a=some z):ERR g' n' x q:=Xz A D h
theorem CpK.rowsW{g:Gb}{lo n k:Nat}{l:Wq}{cs svs:List AV}(h:CpK WCR g lo n l k cs svs)(U:l.length<=k):RowsW (B9 lo g) n l cs/\∀q∈cs,Ay q:=by
 refine⟨⟨h.len,λj A=>?_⟩,λq Q=>?_⟩
 .obtain⟨q,D,e2⟩:=h.new j A (by omega);exact⟨q,D,e2.1⟩
 .obtain⟨j,A,rfl⟩:=e5y.1 Q;obtain⟨q,D,e2⟩:=h.new j (by rw[<- h.len];exact A) (by have:=h.len;omega);rw[W6 A] at D;rw[Option.some.inj D];exact e2.2
theorem CpK.rowsG{g:Gb}{lo n k:Nat}{l:Tq}{cs svs:List AV}(h:CpK ERR g lo n l k cs svs)(Q:l.length<=k):RowsG (B9 lo g) n l cs:=
 ⟨h.len,λj A=>let ⟨q,D,e2⟩:=h.new j A (by omega);⟨q,D,e2⟩⟩
theorem K6.cap{len:Nat}{A:AV}(h:K6 len A):Ay A:=by
 intro a o n c e;rcases h with⟨_,rfl⟩|⟨D,Q,rfl⟩
 .cases e
 .cases e;exact Wy _
theorem e2q{I:Nat}{S E:Wq}{T:Tq}(hI1:1<=I)(hI:I<=16)(hS0:0<S.length)(hSl:S.length<=1000)(hSw:∀w∈S,w.length<=1000)(hE0:0<E.length)(hEl:E.length<=1000)(hEw:∀w∈E,w.length<=1000)(hT0:0<T.length)(hTl:T.length<=100000)(hTr:∀r∈T,r.length=I)(c0 c1 c4 c5:AV)(hc:allOne [c0,c1,c4,c5]=true)(g:Gb)(n:Nat)(sv ev tv:AV)(h:D3 g n S E T sv ev tv):
  WC 0 prog 69 [.agg [c0,c1,sv,ev,c4,c5,tv]] ⟨.fn g,n⟩ λr=>∃b1 b2 b3 g' n',r=.ret (.agg [c0,c1,.sl b1 0 S.length S.length,.sl b2 0 E.length E.length,c4,c5,.sl b3 0 T.length T.length]) ⟨.fn g',n'⟩/\n<=n'/\(∀b,b<n->g' b=g b)/\D3 (B9 n g') n' S E T (.sl b1 0 S.length S.length) (.sl b2 0 E.length E.length) (.sl b3 0 T.length T.length):=by
 have h1s:=h.s.one;have h1e:=h.e.one;have h1t:=h.t.choose_spec.1.one;have hone:allOne [c0,c1,sv,ev,c4,c5,tv]=true:=by
  simp only[O5,W1] at hc |-;simp[hc,h1s,h1e,h1t]
 obtain⟨ss,hs1,hs2,hs3⟩:=h.s;obtain⟨es,he1,he2,he3⟩:=h.e;obtain⟨ts,ht1,ht2⟩:=h.t;have hsl:ss.length=S.length*1:=by rw[hs2.1];omega
 have hel:es.length=E.length*1:=by rw[he2.1];omega
 have htl:ts.length=T.length*1:=by rw[ht2.1];omega
 have HCS:=Xu λ(gX:Gb)(n2:Nat)(hn:n<=n2)(hX:∀b,b<n->gX b=g b)=>a5k hS0 (by omega) hsl gX n2 sv (hs1.mono hn hX);have HCE:=Xu λ(gX:Gb)(n2:Nat)(hn:n<=n2)(hX:∀b,b<n->gX b=g b)=>a5k hE0 (by omega) hel gX n2 ev (he1.mono hn hX);have HCT:=Xu λ(gX:Gb)(n2:Nat)(hn:n<=n2)(hX:∀b,b<n->gX b=g b)=>e2n hT0 (by omega) htl gX n2 tv (ht1.mono hn hX);have HS2:=Xu hs2;have HE2:=Xu he2;have HT2:=Xu ht2;clear h hs1 hs2 hs3 he1 he2 he3 ht1 ht2;simp only[O5,W1] at hc;have HC:=Xu hc;have h1c0:oneC c0=true:=hc.1;clear hc;refine ent pl69 func69 ?_;simp (disch:=first|omega|simp) [*];refine Xv (HCS.out _ _ (by omega) λb hb=>?_) ?_
 .simp (disch:=omega) only[Ad]
 rintro _ ⟨g1,rfl,hg1,hb1⟩;have HG1:Aa (∀b,b<n->g1 b=g b):=⟨λb hb=>(hg1 b (by omega)).trans (by simp (disch:=omega) only[Ad])⟩;have hn1:g1 n=some (.cells [c0,c1,sv,ev,c4,c5,tv] true 0):=(hg1 n (by omega)).trans (by simp (disch:=omega) only[Ad,Ag]);have HZ1:=Xu ((hg1 (n+1) (by omega)).trans Ag);clear hg1 HCS;simp (disch:=first|omega|simp) [*];refine Xv (HCE.out _ _ (by omega) HG1.out) ?_;rintro _ ⟨g2,rfl,hg2,hb2⟩;have HG2:Aa (∀b,b<n->g2 b=g b):=⟨λb hb=>(hg2 b (by omega)).trans (HG1.out b hb)⟩;have hn2:=(hg2 n (by omega)).trans hn1;have HZ2:=Xu ((hg2 (n+1) (by omega)).trans HZ1.out);have hb12:=(hg2 (n+1+1+1) (by omega)).trans hb1;clear hg2 HCE hn1 hb1 HZ1;simp (disch:=first|omega|simp) [*];refine Xv (HCT.out _ _ (by omega) HG2.out) ?_;rintro _ ⟨g3,rfl,hg3,hb3⟩;have HG3:Aa (∀b,b<n->g3 b=g b):=⟨λb hb=>(hg3 b (by omega)).trans (HG2.out b hb)⟩;have hn3:=(hg3 n (by omega)).trans hn2;have HZ3:=Xu ((hg3 (n+1) (by omega)).trans HZ2.out);have hb13:=(hg3 (n+1+1+1) (by omega)).trans hb12;have hb23:=(hg3 (n+1+1+1+1+1) (by omega)).trans hb2;clear hg3 HCT hn2 hb12 hb2 HZ2 HG1 HG2;simp (disch:=first|omega|simp) [*];have hnc:(n+1+1+1+1+1+1+1+1)<=n+1+1+1+1+1+1+1+1:=Wy _;have HG:Aa (∀b,b<n->Ak g3 n (some (.cells [c0,c1,.slq (n+1+1+1) 0 S.length 0,.slq (n+1+1+1+1+1) 0 E.length 0,c4,c5,.slq (n+1+1+1+1+1+1+1) 0 T.length 0] true 0)) b=g b):=⟨λb hb=>(Ad hb).trans (HG3.out b hb)⟩;have hbx:Ak g3 n (some (.cells [c0,c1,.slq (n+1+1+1) 0 S.length 0,.slq (n+1+1+1+1+1) 0 E.length 0,c4,c5,.slq (n+1+1+1+1+1+1+1) 0 T.length 0] true 0)) n=_:=Ag;have HZ:Aa (Ak g3 n (some (.cells [c0,c1,.slq (n+1+1+1) 0 S.length 0,.slq (n+1+1+1+1+1) 0 E.length 0,c4,c5,.slq (n+1+1+1+1+1+1+1) 0 T.length 0] true 0)) (n+1)=some (.cells [.li 0,.li 0,.nl,.nl,.li 0,.li 0,.nl] true 0)):=⟨(Ae (by omega)).trans HZ3.out⟩;have hb1:Ak g3 n (some (.cells [c0,c1,.slq (n+1+1+1) 0 S.length 0,.slq (n+1+1+1+1+1) 0 E.length 0,c4,c5,.slq (n+1+1+1+1+1+1+1) 0 T.length 0] true 0)) (n+1+1+1)=some (.cells ss true 1):=(Ae (by omega)).trans hb13;have hb2:Ak g3 n (some (.cells [c0,c1,.slq (n+1+1+1) 0 S.length 0,.slq (n+1+1+1+1+1) 0 E.length 0,c4,c5,.slq (n+1+1+1+1+1+1+1) 0 T.length 0] true 0)) (n+1+1+1+1+1)=some (.cells es true 1):=(Ae (by omega)).trans hb23;have hb3' : Ak g3 n (some (.cells [c0,c1,.slq (n+1+1+1) 0 S.length 0,.slq (n+1+1+1+1+1) 0 E.length 0,c4,c5,.slq (n+1+1+1+1+1+1+1) 0 T.length 0] true 0)) (n+1+1+1+1+1+1+1)=some (.cells ts true 1):=(Ae (by omega)).trans hb3;replace hb3:=hb3';clear hb3' hn3 HZ3 hb13 hb23 HG3;refine Yn (K:=Jw 0 λgf gN nc=>∃cs,(n+1+1+1+1+1+1+1+1)<=nc/\Aa (∀b,b<n->gN b=g b)/\gN n=some (.cells [c0,c1,.slq (n+1+1+1) 0 S.length 0,.slq (n+1+1+1+1+1) 0 E.length 0,c4,c5,.slq (n+1+1+1+1+1+1+1) 0 T.length 0] true 0)/\Aa (gN (n+1)=some (.cells [.li 0,.li 0,.nl,.nl,.li 0,.li 0,.nl] true 0))/\gN (n+1+1+1)=some (.cells cs true 1)/\gN (n+1+1+1+1+1)=some (.cells es true 1)/\gN (n+1+1+1+1+1+1+1)=some (.cells ts true 1)/\Aa (CpK WCR gN (n+1+1+1+1+1+1+1+1) nc S S.length cs ss)/\gf 1=some (.ptr n 0)/\gf 2=some (.ptr (n+1) 0)) ?_ ?_
 rotate_left
 .skip
  rintro _ ⟨gf,gN,nc,rfl,cs,hnc,HG,hbx,HZ,hb1,hb2,hb3,HC0,w1,w2⟩;simp (disch:=first|omega|simp) [*];refine Yn (K:=Jw 2 λgf gN nc=>∃cs ces,(n+1+1+1+1+1+1+1+1)<=nc/\Aa (∀b,b<n->gN b=g b)/\gN n=some (.cells [c0,c1,.slq (n+1+1+1) 0 S.length 0,.slq (n+1+1+1+1+1) 0 E.length 0,c4,c5,.slq (n+1+1+1+1+1+1+1) 0 T.length 0] true 0)/\Aa (gN (n+1)=some (.cells [.li 0,.li 0,.nl,.nl,.li 0,.li 0,.nl] true 0))/\gN (n+1+1+1)=some (.cells cs true 1)/\gN (n+1+1+1+1+1)=some (.cells ces true 1)/\gN (n+1+1+1+1+1+1+1)=some (.cells ts true 1)/\Aa (CpK WCR gN (n+1+1+1+1+1+1+1+1) nc S S.length cs ss)/\Aa (CpK WCR gN (n+1+1+1+1+1+1+1+1) nc E E.length ces es)/\gf 1=some (.ptr n 0)/\gf 2=some (.ptr (n+1) 0)) ?_ ?_
  rotate_left
  .skip
   rintro _ ⟨gf,gN,nc,rfl,cs,ces,hnc,HG,hbx,HZ,hb1,hb2,hb3,HC0,HC1,w1,w2⟩;simp (disch:=first|omega|simp) [*];refine Yn (K:=Jw 4 λgf gN nc=>∃cs ces cts,(n+1+1+1+1+1+1+1+1)<=nc/\Aa (∀b,b<n->gN b=g b)/\gN n=some (.cells [c0,c1,.slq (n+1+1+1) 0 S.length 0,.slq (n+1+1+1+1+1) 0 E.length 0,c4,c5,.slq (n+1+1+1+1+1+1+1) 0 T.length 0] true 0)/\Aa (gN (n+1)=some (.cells [.li 0,.li 0,.nl,.nl,.li 0,.li 0,.nl] true 0))/\gN (n+1+1+1)=some (.cells cs true 1)/\gN (n+1+1+1+1+1)=some (.cells ces true 1)/\gN (n+1+1+1+1+1+1+1)=some (.cells cts true 1)/\Aa (CpK WCR gN (n+1+1+1+1+1+1+1+1) nc S S.length cs ss)/\Aa (CpK WCR gN (n+1+1+1+1+1+1+1+1) nc E E.length ces es)/\Aa (CpK ERR gN (n+1+1+1+1+1+1+1+1) nc T T.length cts ts)/\gf 1=some (.ptr n 0)/\gf 2=some (.ptr (n+1) 0)) ?_ ?_
   rotate_left
   .skip
    rintro _ ⟨gf,gN,nc,rfl,cs,ces,cts,hnc,HG,hbx,HZ,hb1,hb2,hb3,HC0,HC1,HC2,w1,w2⟩;simp (disch:=first|omega|simp) [*];refine Xv (a5l hS0 _) ?_;rintro _ rfl;simp (disch:=first|omega|simp) [*];refine Xv (a5l hE0 _) ?_;rintro _ rfl;simp (disch:=first|omega|simp) [*];refine Xv (e2p hT0 _) ?_;rintro _ rfl;have hz:=HZ.out;clear HZ;have hof:allOne [c0,c1,.sl (n+1+1+1) 0 S.length S.length,.sl (n+1+1+1+1+1) 0 E.length E.length,c4,c5,.sl (n+1+1+1+1+1+1+1) 0 T.length T.length]=true:=by
     have h:=HC.out;simp[h.1,h.2.1,h.2.2.1,h.2.2.2]
    have HOF:=Xu hof;simp (disch:=first|omega|simp) [*];have hr0:=HC0.out.rowsW (Wy _);have hr1:=HC1.out.rowsW (Wy _);have hr2:=HC2.out.rowsG (Wy _);have hGF:∀(A B:Option Blk)(a:Nat)(z:Blk),B9 (n+1+1+1+1+1+1+1+1) gN a=some z->B9 n (Ak (Ak gN n A) (n+1) B) a=some z:=λA B a z hz=>by
     obtain⟨e1,e2⟩:=Gy hz;rw[De (by omega),Ae (by omega),Ae (by omega)];exact e2
    refine⟨_,_,_,_,_,⟨⟨rfl,rfl,rfl⟩,rfl,rfl⟩,by omega,λb hb=>?_,⟨⟨_,Gm (own:=true) (z:=1) ?_ (by omega),hr0.1.ext (Wy _) λa z _ hz=>hGF _ _ a z hz,hr0.2⟩,⟨_,Gm (own:=true) (z:=1) ?_ (by omega),hr1.1.ext (Wy _) λa z _ hz=>hGF _ _ a z hz,hr1.2⟩,⟨_,Gm (own:=true) (z:=1) ?_ (by omega),hr2.ext (Wy _) λa z _ hz=>hGF _ _ a z hz⟩⟩⟩
    .rw[Ae (by omega),Ae (by omega)];exact HG.out b hb
    .rw[De (by omega),Ae (by omega),Ae (by omega)];exact hb1
    .rw[De (by omega),Ae (by omega),Ae (by omega)];exact hb2
    .rw[De (by omega),Ae (by omega),Ae (by omega)];exact hb3
   refine Xy (λm gf H'=>∃(k nc:Nat)(gN:Gb)(cc:List AV),k<=T.length/\m=T.length-k/\H'=⟨.fn gN,nc⟩/\(n+1+1+1+1+1+1+1+1)<=nc/\Aa (∀b,b<n->gN b=g b)/\gN n=some (.cells [c0,c1,.slq (n+1+1+1) 0 S.length 0,.slq (n+1+1+1+1+1) 0 E.length 0,c4,c5,.slq (n+1+1+1+1+1+1+1) 0 T.length 0] true 0)/\Aa (gN (n+1)=some (.cells [.li 0,.li 0,.nl,.nl,.li 0,.li 0,.nl] true 0))/\gN (n+1+1+1)=some (.cells cs true 1)/\gN (n+1+1+1+1+1)=some (.cells ces true 1)/\gN (n+1+1+1+1+1+1+1)=some (.cells cc true 1)/\Aa (CpK WCR gN (n+1+1+1+1+1+1+1+1) nc S S.length cs ss)/\Aa (CpK WCR gN (n+1+1+1+1+1+1+1+1) nc E E.length ces es)/\Aa (CpK ERR gN (n+1+1+1+1+1+1+1+1) nc T k cc ts)/\gf 1=some (.ptr n 0)/\gf 2=some (.ptr (n+1) 0)/\gf 57=some (.slq (n+1+1+1+1+1+1+1) 0 T.length 0)/\gf 58=some (.li T.length)/\gf 59=some (.li k)) (m0:=T.length) ?_ ?_
   .exact⟨0,nc,gN,ts,W3 _,rfl,rfl,hnc,HG,hbx,HZ,hb1,hb2,hb3,HC0,HC1,⟨⟨HT2.out.1,λq h hq=>by omega,λ_ _=>rfl⟩⟩,by simp[*]⟩
   clear hnc HG hbx HZ hb1 hb2 hb3 w1 w2 HC0 HC1;rintro m gf H' ⟨k,nc,gN,cc,hk,rfl,rfl,hnc,HG,hbx,HZ,hb1,hb2,hb3,HC0,HC1,HCK,w1,w2,wa,wb,wc⟩ ih;refine rnd pl69 ?_;by_cases hlt:k<T.length
   .have hltI:(k:Int)<(T.length:Int):=by omega
    obtain⟨qv,hq1,hq2⟩:=HT2.out.2 k hlt;have hkc:k<cc.length:=by rw[HCK.out.len];exact hlt
    have hcv:cc[k]'hkc=qv:=by
     have h5:=HCK.out.old k (Wy _);rw[hq1,W6 hkc] at h5;exact Option.some.inj h5
    have HST:=Xu λ(gF:Gb)(nF:Nat)(q:AV)(h1:nc<=nF)(h2:∀a,(n+1+1+1+1+1+1+1+1)<=a->a<nc->gF a=gN a) (h3:ERR (B9 (n+1+1+1+1+1+1+1+1) gF) nF T[k] q)=>HCK.out.step (R:=ERR) (λa b c=>ERR.m a b c) h1 h2 hlt h3;have hxI:=hTr _ (W2 hlt);have HCL:=Xu (e2o (len:=T[k].length) (by omega) (by omega) (by rw[rowC_len]) gN nc qv (X0 (by omega) HG.out hq2));clear hq1 hq2 HCK;generalize T[k]=x at *;simp (disch:=first|omega|simp) [*];refine Xv HCL.out ?_;rintro _ ⟨g5,rfl,hg5,hcl⟩;have hbx5:=(hg5 n (by omega)).trans hbx;have hb15:=(hg5 (n+1+1+1) (by omega)).trans hb1;have hb25:=(hg5 (n+1+1+1+1+1) (by omega)).trans hb2;have hb35:=(hg5 (n+1+1+1+1+1+1+1) (by omega)).trans hb3;have HZ5:=Xu ((hg5 (n+1) (by omega)).trans HZ.out);have HG5:=Xu hg5;have HC5:=Xu hcl;clear hg5 hcl hbx hb1 hb2 hb3 HCL;simp (disch:=first|omega|simp) [*];refine Xv (b4j (by omega) _) ?_;rintro _ rfl;simp (disch:=first|omega|simp) [*];refine ih.out (T.length-(k+1)) _ _ (by omega) ⟨k+1,nc+1+1,_,cc.set k (.sl (nc+1) 0 I I),by omega,rfl,rfl,by omega,⟨λb hb=>?_⟩,?_,⟨?_⟩,?_,?_,Ag,⟨HC0.out.keep (R:=WCR) (λa b c=>WCR.m a b c) (by omega) λa h1 h2=>(Ae (by omega)).trans (HG5.out a h2)⟩,⟨HC1.out.keep (R:=WCR) (λa b c=>WCR.m a b c) (by omega) λa h1 h2=>(Ae (by omega)).trans (HG5.out a h2)⟩,⟨HST.out _ _ _ (by omega) (λa h1 h2=>(Ae (by omega)).trans (HG5.out a h2)) (by
     have h9:ERR (B9 (n+1+1+1+1+1+1+1+1) (Ak g5 (n+1+1+1+1+1+1+1) (some (.cells (cc.set k (.sl (nc+1) 0 I I)) true 1)))) (nc+1+1) x (.sl (nc+1) 0 x.length x.length):=Gm ((De (by omega)).trans ((Ae (by omega)).trans HC5.out)) (by omega);rw[hxI] at h9;exact h9)⟩,by simp[*]⟩
    .rw[Ae (by omega)];exact(HG5.out b (by omega)).trans (HG.out b hb)
    .rw[Ae (by omega)];exact hbx5
    .rw[Ae (by omega)];exact HZ5.out
    .rw[Ae (by omega)];exact hb15
    .rw[Ae (by omega)];exact hb25
   .have hltI:¬(k:Int)<(T.length:Int):=by omega
    have hke:k=T.length:=by omega
    have HCF:Aa (CpK ERR gN (n+1+1+1+1+1+1+1+1) nc T T.length cc ts):=⟨by have:=HCK.out;rw[hke] at this;exact this⟩;clear HCK hke;simp (disch:=first|omega|simp) [*]
  refine Xy (λm gf H'=>∃(k nc:Nat)(gN:Gb)(cc:List AV),k<=E.length/\m=E.length-k/\H'=⟨.fn gN,nc⟩/\(n+1+1+1+1+1+1+1+1)<=nc/\Aa (∀b,b<n->gN b=g b)/\gN n=some (.cells [c0,c1,.slq (n+1+1+1) 0 S.length 0,.slq (n+1+1+1+1+1) 0 E.length 0,c4,c5,.slq (n+1+1+1+1+1+1+1) 0 T.length 0] true 0)/\Aa (gN (n+1)=some (.cells [.li 0,.li 0,.nl,.nl,.li 0,.li 0,.nl] true 0))/\gN (n+1+1+1)=some (.cells cs true 1)/\gN (n+1+1+1+1+1)=some (.cells cc true 1)/\gN (n+1+1+1+1+1+1+1)=some (.cells ts true 1)/\Aa (CpK WCR gN (n+1+1+1+1+1+1+1+1) nc S S.length cs ss)/\Aa (CpK WCR gN (n+1+1+1+1+1+1+1+1) nc E k cc es)/\gf 1=some (.ptr n 0)/\gf 2=some (.ptr (n+1) 0)/\gf 40=some (.slq (n+1+1+1+1+1) 0 E.length 0)/\gf 41=some (.li E.length)/\gf 42=some (.li k)) (m0:=E.length) ?_ ?_
  .exact⟨0,nc,gN,es,W3 _,rfl,rfl,hnc,HG,hbx,HZ,hb1,hb2,hb3,HC0,⟨⟨HE2.out.1,λq h hq=>by omega,λ_ _=>rfl⟩⟩,by simp[*]⟩
  clear hnc HG hbx HZ hb1 hb2 hb3 w1 w2 HC0;rintro m gf H' ⟨k,nc,gN,cc,hk,rfl,rfl,hnc,HG,hbx,HZ,hb1,hb2,hb3,HC0,HCK,w1,w2,wa,wb,wc⟩ ih;refine rnd pl69 ?_;by_cases hlt:k<E.length
  .have hltI:(k:Int)<(E.length:Int):=by omega
   obtain⟨qv,hq1,hq2⟩:=HE2.out.2 k hlt;have hkc:k<cc.length:=by rw[HCK.out.len];exact hlt
   have hcv:cc[k]'hkc=qv:=by
    have h5:=HCK.out.old k (Wy _);rw[hq1,W6 hkc] at h5;exact Option.some.inj h5
   have HST:=Xu λ(gF:Gb)(nF:Nat)(q:AV)(h1:nc<=nF)(h2:∀a,(n+1+1+1+1+1+1+1+1)<=a->a<nc->gF a=gN a) (h3:WCR (B9 (n+1+1+1+1+1+1+1+1) gF) nF E[k] q)=>HCK.out.step (R:=WCR) (λa b c=>WCR.m a b c) h1 h2 hlt h3;have HCL:=Xu (a4m E[k] (by have:=hEw _ (W2 hlt);omega) gN nc qv (X0 (by omega) HG.out hq2));clear hq1 hq2 HCK;generalize E[k]=x at *;simp (disch:=first|omega|simp) [*];refine Xv HCL.out ?_;rintro _ ⟨sv1,g5,n5,rfl,hn5,hg5,hcl⟩;have hbx5:=(hg5 n (by omega)).trans hbx;have hb15:=(hg5 (n+1+1+1) (by omega)).trans hb1;have hb25:=(hg5 (n+1+1+1+1+1) (by omega)).trans hb2;have hb35:=(hg5 (n+1+1+1+1+1+1+1) (by omega)).trans hb3;have HZ5:=Xu ((hg5 (n+1) (by omega)).trans HZ.out);have HG5:=Xu hg5;have HC5:=Xu hcl;clear hg5 hcl hbx hb1 hb2 hb3 HCL;simp (disch:=first|omega|simp) [*];refine Xv (a5j x g5 nc n5 sv1 HC5.out) ?_;rintro _ ⟨sv3,rfl,hf3,ht3⟩;have h1z:=hf3.rep.one;have hcz:=hf3.rep.cell;have HF3:=Xu hf3;have HT3:=Xu ht3;clear hf3 ht3;simp (disch:=first|omega|simp) [*];refine ih.out (E.length-(k+1)) _ _ (by omega) ⟨k+1,n5,_,cc.set k sv3,by omega,rfl,rfl,by omega,⟨λb hb=>?_⟩,?_,⟨?_⟩,?_,Ag,?_,⟨HC0.out.keep (R:=WCR) (λa b c=>WCR.m a b c) (by omega) λa h1 h2=>(Ae (by omega)).trans (HG5.out a h2)⟩,⟨HST.out _ _ _ (by omega) (λa h1 h2=>(Ae (by omega)).trans (HG5.out a h2)) (by
    obtain⟨gk,q1,q2⟩:=HF3.out;refine⟨Xz (Wy _) (λa z _ hz=>?_) q2,HT3.out.cap⟩;obtain⟨e1,e2,e3⟩:=q1 a z hz;rw[De (by omega),Ae (by omega)];exact e1)⟩,by simp[*]⟩
   .rw[Ae (by omega)];exact(HG5.out b (by omega)).trans (HG.out b hb)
   .rw[Ae (by omega)];exact hbx5
   .rw[Ae (by omega)];exact HZ5.out
   .rw[Ae (by omega)];exact hb15
   .rw[Ae (by omega)];exact hb35
  .have hltI:¬(k:Int)<(E.length:Int):=by omega
   have hke:k=E.length:=by omega
   have HCF:Aa (CpK WCR gN (n+1+1+1+1+1+1+1+1) nc E E.length cc es):=⟨by have:=HCK.out;rw[hke] at this;exact this⟩;clear HCK hke;simp (disch:=first|omega|simp) [*]
 refine Xy (λm gf H'=>∃(k nc:Nat)(gN:Gb)(cc:List AV),k<=S.length/\m=S.length-k/\H'=⟨.fn gN,nc⟩/\(n+1+1+1+1+1+1+1+1)<=nc/\Aa (∀b,b<n->gN b=g b)/\gN n=some (.cells [c0,c1,.slq (n+1+1+1) 0 S.length 0,.slq (n+1+1+1+1+1) 0 E.length 0,c4,c5,.slq (n+1+1+1+1+1+1+1) 0 T.length 0] true 0)/\Aa (gN (n+1)=some (.cells [.li 0,.li 0,.nl,.nl,.li 0,.li 0,.nl] true 0))/\gN (n+1+1+1)=some (.cells cc true 1)/\gN (n+1+1+1+1+1)=some (.cells es true 1)/\gN (n+1+1+1+1+1+1+1)=some (.cells ts true 1)/\Aa (CpK WCR gN (n+1+1+1+1+1+1+1+1) nc S k cc ss)/\gf 1=some (.ptr n 0)/\gf 2=some (.ptr (n+1) 0)/\gf 24=some (.slq (n+1+1+1) 0 S.length 0)/\gf 25=some (.li S.length)/\gf 26=some (.li k)) (m0:=S.length) ?_ ?_
 .exact⟨0,_,_,ss,W3 _,rfl,rfl,hnc,HG,hbx,HZ,hb1,hb2,hb3,⟨⟨HS2.out.1,λq h hq=>by omega,λ_ _=>rfl⟩⟩,by simp[*]⟩
 clear hnc HG hbx HZ hb1 hb2 hb3;rintro m gf H' ⟨k,nc,gN,cc,hk,rfl,rfl,hnc,HG,hbx,HZ,hb1,hb2,hb3,HCK,w1,w2,wa,wb,wc⟩ ih;refine rnd pl69 ?_;by_cases hlt:k<S.length
 .have hltI:(k:Int)<(S.length:Int):=by omega
  obtain⟨qv,hq1,hq2⟩:=HS2.out.2 k hlt;have hkc:k<cc.length:=by rw[HCK.out.len];exact hlt
  have hcv:cc[k]'hkc=qv:=by
   have h5:=HCK.out.old k (Wy _);rw[hq1,W6 hkc] at h5;exact Option.some.inj h5
  have HST:=Xu λ(gF:Gb)(nF:Nat)(q:AV)(h1:nc<=nF)(h2:∀a,(n+1+1+1+1+1+1+1+1)<=a->a<nc->gF a=gN a) (h3:WCR (B9 (n+1+1+1+1+1+1+1+1) gF) nF S[k] q)=>HCK.out.step (R:=WCR) (λa b c=>WCR.m a b c) h1 h2 hlt h3;have HCL:=Xu (a4m S[k] (by have:=hSw _ (W2 hlt);omega) gN nc qv (X0 (by omega) HG.out hq2));clear hq1 hq2 HCK;generalize S[k]=x at *;simp (disch:=first|omega|simp) [*];refine Xv HCL.out ?_;rintro _ ⟨sv1,g5,n5,rfl,hn5,hg5,hcl⟩;have hbx5:=(hg5 n (by omega)).trans hbx;have hb15:=(hg5 (n+1+1+1) (by omega)).trans hb1;have hb25:=(hg5 (n+1+1+1+1+1) (by omega)).trans hb2;have hb35:=(hg5 (n+1+1+1+1+1+1+1) (by omega)).trans hb3;have HZ5:=Xu ((hg5 (n+1) (by omega)).trans HZ.out);have HG5:=Xu hg5;have HC5:=Xu hcl;clear hg5 hcl hbx hb1 hb2 hb3 HCL;simp (disch:=first|omega|simp) [*];refine Xv (a5j x g5 nc n5 sv1 HC5.out) ?_;rintro _ ⟨sv3,rfl,hf3,ht3⟩;have h1z:=hf3.rep.one;have hcz:=hf3.rep.cell;have HF3:=Xu hf3;have HT3:=Xu ht3;clear hf3 ht3;simp (disch:=first|omega|simp) [*];refine ih.out (S.length-(k+1)) _ _ (by omega) ⟨k+1,n5,_,cc.set k sv3,by omega,rfl,rfl,by omega,⟨λb hb=>?_⟩,?_,⟨?_⟩,Ag,?_,?_,⟨HST.out _ _ _ (by omega) (λa h1 h2=>(Ae (by omega)).trans (HG5.out a h2)) (by
   obtain⟨gk,q1,q2⟩:=HF3.out;refine⟨Xz (Wy _) (λa z _ hz=>?_) q2,HT3.out.cap⟩;obtain⟨e1,e2,e3⟩:=q1 a z hz;rw[De (by omega),Ae (by omega)];exact e1)⟩,by simp[*]⟩
  .rw[Ae (by omega)];exact(HG5.out b (by omega)).trans (HG.out b hb)
  .rw[Ae (by omega)];exact hbx5
  .rw[Ae (by omega)];exact HZ5.out
  .rw[Ae (by omega)];exact hb25
  .rw[Ae (by omega)];exact hb35
 .have hltI:¬(k:Int)<(S.length:Int):=by omega
  have hke:k=S.length:=by omega
  have HCF:Aa (CpK WCR gN (n+1+1+1+1+1+1+1+1) nc S S.length cc ss):=⟨by have:=HCK.out;rw[hke] at this;exact this⟩;clear HCK hke;simp (disch:=first|omega|simp) [*]
end Go.Ai
