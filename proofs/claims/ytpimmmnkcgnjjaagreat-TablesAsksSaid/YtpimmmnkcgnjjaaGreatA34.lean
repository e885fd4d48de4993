/- Parts of an interpreter and of a proof. No condition. -/
import Derived.Test.YtpimmmnkcgnjjaaGreatA30
import Derived.Test.YtpimmmnkcgnjjaaGreatA16
import Derived.Test.YtpimmmnkcgnjjaaGreatA33
import Derived.Test.YtpimmmnkcgnjjaaGreatA28
import Derived.Test.YtpimmmnkcgnjjaaGreatA15
import Derived.Test.YtpimmmnkcgnjjaaGreatA27
import Derived.Test.YtpimmmnkcgnjjaaGreatA17
set_option linter.all false
set_option maxHeartbeats 40000000
set_option maxRecDepth 10000
open Go.Proofs Go.Proofs.Tryz
namespace Go.Ai
variable {l:Wq}{g:Gb}{n I B:Nat}{M:Aw}{O:Int}{ts L:Lq}{cs:List AV}
def RowsR(R:Wd->AV->Prop)(l:Wq)(svs:List AV):Prop:=svs.length=l.length/\∀(k:Nat)(h:k<l.length),∃q,svs[k]?=some q/\R l[k] q
theorem RowsR.snoc{R:Wd->AV->Prop}{svs:List AV}(h:RowsR R l svs){x:Wd}{q:AV}(Q:R x q):RowsR R (l++[x]) (svs++[q]):=by
 have A:=h.1;refine⟨by simp[A],λk U=>?_⟩;rw[W0,Xg] at U;by_cases D:k<l.length
 .obtain⟨Z,e1,e2⟩:=h.2 k D;refine⟨Z,?_,?_⟩
  .rw[Xs (by omega)];exact e1
  .rw[e6f D];exact e2
 .have a0:k=l.length:=by omega
  subst a0;refine⟨q,?_,?_⟩
  .rw[Xq (by omega),A,e6h];rfl
  .simpa using Q
theorem RowsR.mono{R A:Wd->AV->Prop}{svs:List AV}(h:RowsR R l svs)(D:∀x q,R x q->A x q):RowsR A l svs:=⟨h.1,λk Q=>let ⟨q,U,e2⟩:=h.2 k Q;⟨q,U,D _ _ e2⟩⟩
def b6x(g:Gb)(n:Nat)(l:Wq)(v:AV):Prop:=∃svs,Af g n v l.length svs/\RowsR (WCR g n) l svs
theorem b6x.two{c d:Nat}{v:AV}(h:b6x (M7 c d g) n l v):∃svs,Af g n v l.length svs/\RowsR (WCR (M7 c d g) n) l svs:=
 let ⟨svs,A,D⟩:=h;⟨svs,Xz (Wy _) (λa x _ hx=>b6v a x hx) A,D⟩
def RowsP(R:Wd->AV->Prop)(lo:Nat)(g:Gb)(n B:Nat)(ts:Lq)(cs:List AV):Prop:=
 cs.length=ts.length*2/\∀(k:Nat)(h:k<ts.length),∃s1 s2,cs[k*2]?=some s1/\cs[k*2+1]?=some s2/\R ts[k].1 s1/\Ba g lo n B ts[k].2 s2/\Ay s2
theorem RowsP.keep{R:Wd->AV->Prop}{g': Gb}{lo n' B': Nat}(h:RowsP R lo g n B ts cs)(A:n<=n')(D:n<=B'\/B'=B\/B' < lo)(Q:∀a,lo<=a->a<n->a≠B->g' a=g a):RowsP R lo g' n' B' ts cs:=
 ⟨h.1,λk U=>let ⟨s1,s2,Z,h3,h4,h5,h6⟩:=h.2 k U;⟨s1,s2,Z,h3,h4,h5.keep (Wy _) A D Q,h6⟩⟩
theorem RowsP.snoc{R:Wd->AV->Prop}{lo:Nat}(h:RowsP R lo g n B ts cs){t:List Int×Wd}{s1 s2:AV}(Q:R t.1 s1)(U:Ba g lo n B t.2 s2)(Z:Ay s2):RowsP R lo g n B (ts++[t]) (cs++[s1,s2]):=by
 have A:=h.1;refine⟨by simp[A];omega,λk hk=>?_⟩;rw[W0,Xg] at hk;by_cases D:k<ts.length
 .obtain⟨t1,t2,e1,e2,e3,e4,e5⟩:=h.2 k D;refine⟨t1,t2,?_,?_,?_,?_,e5⟩
  .rw[Xs (by omega)];exact e1
  .rw[Xs (by omega)];exact e2
  .rw[e6f D];exact e3
  .rw[e6f D];exact e4
 .have a0:k=ts.length:=by omega
  subst a0;refine⟨s1,s2,?_,?_,?_,?_,Z⟩
  .rw[Xq (by omega),A,e6h];rfl
  .rw[Xq (by omega),A,show ts.length*2+1-ts.length*2=1 by omega];rfl
  .simpa using Q
  .simpa using U
def noB(B:Nat)(g:Gb):Gb:=λa=>if a=B then none else g a
theorem RowsP.rows{c d:Nat}{A g': Gb}{lo:Nat}(h:RowsP (WCR (M7 c d A) lo) lo g n B ts cs)(U:lo<=n)(hB:lo<=B)(Z:∀a,a<lo->c<a->a≠d->g' a=A a)(a0:∀a,lo<=a->a<n->g' a=g a):RowsT (noB B g') n ts cs:=
 ⟨h.1,λk hk=>let ⟨s1,s2,h1,h3,h4,⟨gk,h5,h6⟩,_⟩:=h.2 k hk;⟨s1,s2,h1,h3,Xz U (λa x D hx=>by
  unfold M7 at hx;split at hx
  .rename_i Q;unfold noB;rw[if_neg (by omega),Z a D Q.1 Q.2];exact hx
  .cases hx) h4.1,Xz (Wy _) (λa x D hx=>by
  obtain⟨e1,e2,e3,e4⟩:=h5 a x hx;unfold noB;rw[if_neg e4,a0 a e2 e3];exact e1) h6⟩⟩
theorem e4j(hL:Cg I O L)(hC:Eb L)(hgo:goT I O (Aj I L) 0 1=some (Aj I L).length)(hLl:L.length<=156)(hok:∀r∈Aj I L,∀e∈r,e.1 = -1\/(0<=e.1/\e.1<(Aj I L).length)):
  Cg I O (Cl I L)/\(Cl I L).length<=156/\0<(Cl I L).length/\(rbk (Bd (Aj I L)) [] (endsM (Aj I L) 0)).length=(Cl I L).length:=by
 have hBF:=BF.of hL hC hgo;have hcnt:(endsM (Aj I L) 0).length<=156:=by
  have h1:=TL.count hL.o1 hBF.tl (X:=(bkM (Aj I L) (Bd (Aj I L))).map λu=>u.1) (λx hx=>by
   obtain⟨u,hu,rfl⟩:=Xc.1 hx;exact((bkM_of u).1 hu).1) hBF.lab.nodup
  grind[bkM]
 have hne:0<(endsM (Aj I L) 0).length:=a5r (I:=I) (O:=O) hBF.lab hBF.ne hok;have hlen:(rbk (Bd (Aj I L)) [] (endsM (Aj I L) 0)).length=(Cl I L).length:=by grind[Cl]
 have hle:=b6u (W:=Bd (Aj I L)) (endsM (Aj I L) 0) [];have hmem:∀x,x∈rbk (Bd (Aj I L)) [] (endsM (Aj I L) 0)↔∃s∈endsM (Aj I L) 0,x=eW (Bd (Aj I L)) s:=λx=>by
  grind[V9]
 have hU:Ga (Aj I L) (Bd (Aj I L)) (Cl I L):=λu=>by
  unfold Cl;rw[Xc];constructor
  .rintro⟨w,hw,rfl⟩;exact⟨(hmem w).1 hw,rfl⟩
  .rintro⟨h1,h2⟩;exact⟨u.1,(hmem _).2 h1,by grind⟩
 refine⟨⟨?_,hL.i1,hL.i2,hL.o1,hL.o2,λu hu=>?_,hBF.tl.valid hL.o1 hU⟩,?_,?_,hlen⟩
 .grind
 .obtain⟨s,hs2,he⟩:=((hU u).1 hu).1;rw[he];exact hBF.el s hs2
 .grind
 .rw[<- hlen];refine e6y ((hmem (eW (Bd (Aj I L)) ((endsM (Aj I L) 0)[0]'hne))).2 ⟨_,W2 hne,rfl⟩)
theorem b6y{V D:Wd->Option Int}(h:∀p o,V p=some o->D p=some o):∀(w p:Wd)(d:Bool)(r:Wd),knM V d p w=some r->knM D d p w=some r
 | [],p,d,r,A=>by assumption
 | i::w,p,true,r,A=>by grind[Sg]
 | i::w,p,false,r,A=>by
  unfold knM at A |-
  cases Q:V (p++[i]) with
  | none=>grind
  | some o =>
   rw[Q] at A;rw[h _ _ Q];obtain⟨q,U,rfl⟩:=e6a.1 A;show Option.map _ _=_;rw[b6y h w _ _ q U];rfl
theorem b6z{V:Wd->Option Int}:∀(a b p:Wd)(d:Bool)(r:Wd),knM V d p (a++b)=some r->(knM V d p a).isSome=true
 | [],b,p,d,r,_=>by rfl
 | i::a,b,p,true,r,h=>by grind[Sg]
 | i::a,b,p,false,r,h=>by
  rw[e8y] at h;unfold knM at h |-
  cases A:V (p++[i]) with
  | none=>grind
  | some o =>
   rw[A] at h;obtain⟨q,D,rfl⟩:=e6a.1 h;have:=b6z a b _ _ q D;show (Option.map _ _).isSome=true;rw[Option.isSome_map];exact this
theorem e4k{a b:Lq}{p:Wd}{o:Int}:valT a p=some o->valT (a++b) p=some o:=by
 induction a with
 | nil=>intro h;cases h
 | cons t a A =>
  (simp_all[valT];grind)
theorem a5w{O:Int}:Ga (Aj I L) (Bd (Aj I L)) (Cl I L):=by
 have h:∀x,x∈rbk (Bd (Aj I L)) [] (endsM (Aj I L) 0)↔∃s∈endsM (Aj I L) 0,x=eW (Bd (Aj I L)) s:=λx=>by
  grind[V9]
 intro u;unfold Cl;rw[Xc];constructor
 .rintro⟨w,A,rfl⟩;exact⟨(h w).1 A,rfl⟩
 .rintro⟨D,Q⟩;exact⟨u.1,(h _).2 D,by grind⟩
theorem b7a(h:Cg I O L)(hC:Eb L)(A:goT I O (Aj I L) 0 1=some (Aj I L).length):Aj I (Cl I L)=Aj I L:=
 (BF.of h hC A).tl.rowsU h.o1 (a5w (O:=O))
theorem e4l(Z:M.ok){I:Nat}{O:Int}(hI:M.inp=I){L:Lq}(A:Cg I O L)(hR:E0 M L)(a0:goT I O (Aj I L) 0 1=some (Aj I L).length):E0 M (Cl I L):=by
 have hC:=hR.cons;have D:=BF.of A hC a0;have Q:=a5w (I:=I) (O:=O) (L:=L);have hv:=D.tl.valid A.o1 Q;have hc:=D.tl.cons A.o1 Q;intro u U;obtain⟨h1,h2⟩:=(Q u).1 U;obtain⟨_,_,_,h6⟩:=D.tl.endr A.o1 h1;have h7:=a5c hc U (hv u U);rw[<- Si hv hc h6,b7a A hC a0,Si A.ok hC h6] at h7;have h8:inW u.1 M.inp=true:=by grind
 refine⟨?_,h8⟩;have hr:=Z.2.2.2.2.1;exact b4r Z (λt ht=>(hR t ht).1) u.1 [] u.2 false (.inr ⟨0,rfl,by omega⟩) h8 (λh=>by cases h) h7
theorem long_ex2:∀ {l:Wq},0 < l.length→∃ w∈l,∀ v∈l,v.length≤w.length
 | [],h=>by cases h
 | [x],_=>⟨x,by simp,fun v hv=>by grind⟩
 | x :: y :: l,_=>by
  obtain ⟨w,hw,h⟩:=long_ex2 (l:=y :: l) (by simp);grind
theorem e4m{w:Wd}(h:w∈l):∃v∈C6 l,w.length<=v.length/\v.take w.length=w:=by
 have A:0<(l.filter λv=>decide (w.length<=v.length/\v.take w.length=w)).length:=e6y (e6q.2 ⟨h,decide_eq_true ⟨Wy _,Xn⟩⟩);obtain⟨v,D,hm⟩:=long_ex2 A;obtain⟨Q,U⟩:=e6q.1 D;obtain⟨Z,a0⟩:=of_decide_eq_true U;refine⟨v,e6q.2 ⟨Q,?_⟩,Z,a0⟩
 cases hf:Cp l v with
 | false=>rfl
 | true =>
  unfold Cp at hf;grind
def C8(M:Aw)(l:Wq):Lq:=(C6 (Bp l)).map (runT M)
theorem P1{T:Tq}{E W:Wq}{x:Wd}:x∈Av T E W↔∃w∈W,∃e∈E,x=w++e/\Cj T 0 x=none:=by
 unfold Av Ct;rw[e6x];constructor
 .rintro⟨w,A,h⟩;obtain⟨D,U⟩:=e6q.1 h;obtain⟨e,Q,rfl⟩:=Xc.1 D;exact⟨w,A,e,Q,rfl,by simp_all⟩
 grind
theorem b7b(h:M.inp=I){S E:Wq}{T:Tq}(A:∀w∈Am I S,inW w I=true)(D:∀e∈E,inW e I=true):E0 M (C8 M (Av T E (Am I S))):=by
 intro t Q;obtain⟨x,hx,rfl⟩:=Xc.1 Q;obtain⟨w,U,e,Z,rfl,_⟩:=P1.1 (J5.1 (e6q.1 hx).1);exact⟨rfl,by rw[h];exact Iy (A w U) (D e Z)⟩
theorem b7c(D:M.ok){I:Nat}{O:Int}(A:M.inp=I){S E:Wq}{L:Lq}(hL:Cg I O L)(hR:E0 M L)(a0:goT I O (Aj I L) 0 1=some (Aj I L).length)(hw:∀w∈Am I S,inW w I=true)(he:∀e∈E,inW e I=true):
  E0 M (Cl I L++C8 M (Av (Aj I L) E (Am I S)))/\Av (Aj I (Cl I L++C8 M (Av (Aj I L) E (Am I S)))) E (Am I S)=[]:=by
 have Q:=e4l D A hL hR a0;have hT:=b7b A (S:=S) (E:=E) (T:=Aj I L) hw he;have U:E0 M (Cl I L++C8 M (Av (Aj I L) E (Am I S))):=λt ht=>by
  rcases W9.1 ht with h|h
  .exact Q t h
  .exact hT t h
 refine⟨U,?_⟩;have Z:=U.valid D;rw[A] at Z;have a1:=Q.valid D;rw[A] at a1;have hc:=U.cons;rw[List.eq_nil_iff_forall_not_mem];intro x hx;obtain⟨w,h1,e,h2,rfl,h3⟩:=P1.1 hx;have a2:inW (w++e) I=true:=Iy (hw w h1) (he e h2);rw[Si Z hc a2] at h3
 cases hk:Cj (Aj I L) 0 (w++e) with
 | some r =>
  rw[<- b7a hL hR.cons a0,Si a1 Q.cons a2] at hk;grind[e4k,b6y]
 | none =>
  obtain⟨v,a3,a4,a5⟩:=e4m (J5.2 (P1.2 ⟨w,h1,e,h2,rfl,hk⟩));have hm:runT M v∈Cl I L++C8 M (Av (Aj I L) E (Am I S)):=List.mem_append_right _ (Xc.2 ⟨v,a3,rfl⟩);have h4:=a5c hc hm (Z _ hm);grind[List.take_append_drop,runT,b6z]
theorem e4n(hM:M.ok){I:Nat}(A:M.inp=I){ws:List (List Nat)}{S E:Wq}(D:E0 M (qLx M ws true S E))(hw:∀w∈Am I S,inW w I=true)(he:∀e∈E,inW e I=true):Av (Aj I (qLx M ws true S E)) E (Am I S)=[]:=by
 have h:=D.valid hM;rw[A] at h;have Q:=D.cons;rw[List.eq_nil_iff_forall_not_mem];intro x hx;obtain⟨w,U,e,Z,rfl,h3⟩:=P1.1 hx;have a0:inW (w++e) I=true:=Iy (hw w U) (he e Z);rw[Si h Q a0] at h3;have hm:runT M (w++e)∈qLx M ws true S E:=by
  unfold qLx;rw[if_pos rfl,A,e6i];exact List.mem_append_right _ (Xc.2 ⟨w++e,e6x.2 ⟨w,U,Xc.2 ⟨e,Z,rfl⟩⟩,rfl⟩)
 have h4:=a5c Q hm (h _ hm);rw[show (runT M (w++e)).1=w++e from rfl,h3] at h4;grind
theorem M4.listC {g:Gb} {lo n:Nat} {l:Wq} {rv:AV} (h:M4 g lo n l rv) : Bb g n l rv:=by
 obtain⟨B,cs,rfl,h1,h2,⟨z,h3⟩,h4,h5⟩:=h
 have hl:=h4.1
 exact⟨cs,.inr ⟨B,0,h2,.inl ⟨_,rfl⟩,cs,true,z,h3,by simp,by simp⟩,h4.ext (Nat.le_refl _) fun a x _ hx=>(Gy hx).2,h5⟩
theorem M4.capQ{lo:Nat}{A:AV}(h:M4 g lo n l A):∃B,A=.sl B 0 l.length l.length:=by
 obtain⟨B,cs,rfl,_⟩:=h;exact⟨B,rfl⟩
theorem a5x{S E:Wq}{T:Tq}(A:G0 I O S E T)(a0:∀w∈S,w.length<=100)(a1:∀e∈E,e.length<=100)(g:Gb)(n:Nat)(sv ev tv:AV)(h:D3 g n S E T sv ev tv):
  WC 0 prog 14 [.agg [.li I,.li O,sv,ev,.li I,.li O,tv]] ⟨.fn g,n⟩ λr=>∃rv g' n',r=.ret (.tup [rv,.li 0]) ⟨.fn g',n'⟩/\n<=n'/\(∀b,b<n->g' b=g b)/\M4 g' n n' (C6 (Bp (Av T E (Am I S)))) rv:=by
 have a2:=h.s.one;have a3:=h.e.one;have a4:=h.t.choose_spec.1.one;have a5:=A.i2;have hU:∀w∈Av T E (Am I S),w.length<=300/\Px w:=λw U=>by
  obtain⟨u,hu,U⟩:=e6x.1 U;obtain⟨e,he,rfl⟩:=Xc.1 (e6q.1 U).1;obtain⟨k,hk⟩:=e8k hu;have Q:=Of A.sw hk;have D:=A.ew e he;have h3:=a1 e he;have h4:u.length<=101:=by
   unfold Am at hu;rcases W9.1 hu with h|h
   .have:=a0 u h;omega
   .obtain⟨s,hs,h⟩:=e6x.1 h;obtain⟨i,_,rfl⟩:=Xc.1 h;have:=a0 s hs;rw[W0,Xg];omega
  refine⟨by rw[W0];omega,λi hi=>?_⟩;have h5:inW (u++e) I=true:=Iy Q.2 D.2.2;have h6:0<=i/\i<(I:Int):=by simpa using W7.1 h5 i hi
  omega
 have hb:(Av T E (Am I S)).length<=1600:=by
  have Q:=Pv (T:=T) (E:=E) (ws:=Am I S);have D:(Am I S).length<=80:=by
   rw[Pu];have:=e5x A.sl A.i2;have:=A.sl;omega
  have:=e5x D A.el;omega
 refine Xv (e3k _ _ _ _ _ _ _ (by simp[a2,a3,a4]) (λl=>Bf l=Bf l/\l=Bp (Av T E (Am I S))) (λl hl=>?_) g n (λgX n2 Z hX=>A.check (h.mono Z hX)) (λgX n2 Z hX=>Xv (e3n A.i1 (by omega) A.sl A.sw A.el A.ew A.t0 A.ok (.li O) (.li I) (.li O) rfl gX n2 sv ev tv (h.mono Z hX).s.listV (h.mono Z hX).e.listV (h.mono Z hX).t) ?_)) ?_
 .obtain⟨_,rfl⟩:=hl;exact⟨by have:=Sp (Av T E (Am I S));omega,λw U=>hU w (J5.1 U)⟩
 .rintro _ ⟨l',ov,g',n',rfl,Q,D,h3,h4,h5⟩;exact⟨Bf l',ov,g',n',rfl,⟨rfl,e3r h3 h4⟩,Q,D,h5⟩
 .rintro _ ⟨l,rv,g',n',rfl,⟨_,rfl⟩,Q,D,h3⟩;exact⟨rv,g',n',rfl,Q,D,h3⟩
theorem e4o(hM:M.ok){I:Nat}{O:Int}(Z:M.inp=I)(hO:M.out=O){S E:Wq}{L:Lq}(hp:G0 I O S E (Aj I L))(hL:Cg I O L)(hR:E0 M L)(a3:∀w∈S,w.length<=100)(b1:∀e∈E,e.length<=100)(A:L.length+(C8 M (Av (Aj I L) E (Am I S))).length<=196)(g:Gb)(n:Nat)(sv ev tv:AV)(h:D3 g n S E (Aj I L) sv ev tv)(ms:List AV)(hr:Cy g n M ms):
  WC 0 prog 19 [.agg [.li I,.li O,sv,ev,.li I,.li O,tv],.agg ms] ⟨.fn g,n⟩ λr=>∃a4 a5 a6 g' n',r=.ret (.agg [.li I,.li O,a4,a5,.li I,.li O,a6]) ⟨.fn g',n'⟩/\n<=n'/\(∀b,b<n->g' b=g b)/\D3 g' n' S E (Aj I (Cl I L++C8 M (Av (Aj I L) E (Am I S)))) a4 a5 a6:=by
 have e9:=h.s.one;have g0:=h.e.one;have g4:=h.t.choose_spec.1.one;have i4:allOne [.li I,.li O,sv,ev,.li I,.li O,tv]=true:=by simp[e9,g0,g4]
 have a7:∀w∈Am I S,inW w I=true:=λw D=>by
  obtain⟨k,hk⟩:=e8k D;exact(Of hp.sw hk).2
 have a8:∀e∈E,inW e I=true:=λe he=>(hp.ew e he).2.2;obtain⟨b2,_⟩:=b7c hM Z hL hR hp.go a7 a8;have b8:=b7b (M:=M) Z (S:=S) (E:=E) (T:=Aj I L) a7 a8;have a0:∀w∈C6 (Bp (Av (Aj I L) E (Am I S))),w.length<=201/\inW w I=true:=λw D=>by
  obtain⟨u,hu,e,he,rfl,_⟩:=P1.1 (J5.1 (e6q.1 D).1);have h3:=b1 e he;have h4:u.length<=101:=by
   unfold Am at hu;rcases W9.1 hu with h|h
   .have:=a3 u h;omega
   .obtain⟨s,hs,h⟩:=e6x.1 h;obtain⟨i,_,rfl⟩:=Xc.1 h;have:=a3 s hs;rw[W0,Xg];omega
  exact⟨by rw[W0];omega,Iy (a7 u hu) (a8 e he)⟩
 have i5:(C6 (Bp (Av (Aj I L) E (Am I S)))).length<=196:=by
  have:(C8 M (Av (Aj I L) E (Am I S))).length=(C6 (Bp (Av (Aj I L) E (Am I S)))).length:=by unfold C8;simp
  omega
 have b9:K2 M.inp (C6 (Bp (Av (Aj I L) E (Am I S))))=0:=by
  unfold K2;rw[if_pos (W7.2 λw D=>decide_eq_true (by have:=(a0 w D).1;omega)),if_pos (W7.2 λw D=>by rw[Z];exact(a0 w D).2)]
 have c0:Cg I O (C8 M (Av (Aj I L) E (Am I S))):=by
  have hv:=b8.valid hM;rw[Z,hO] at hv;refine⟨by omega,hL.i1,hL.i2,hL.o1,hL.o2,λt ht=>?_,hv⟩;obtain⟨w,D,rfl⟩:=Xc.1 ht;have:=(a0 w D).1;show w.length<=256;omega
 have c1:Ea (Cl I L++C8 M (Av (Aj I L) E (Am I S))) (Cl I L++C8 M (Av (Aj I L) E (Am I S))) 0=none:=(Sc λt ht=>by rw[(b2 t ht).1];exact K1 _ _).2 b2.cons;have c2:M8 I O I O (Cl I L++C8 M (Av (Aj I L) E (Am I S)))=0:=by
  unfold M8;rw[if_pos ⟨rfl,rfl⟩,if_pos c1]
 have c6:=Xu λ(Q:Gb)(n2:Nat)(hn:n<=n2)(hX:∀b,b<n->Q b=g b)=>a5x hp a3 b1 Q n2 sv ev tv (h.mono hn hX);have b3:=Xu λ(Q:Gb)(n2:Nat)(U:AV)(hn:n<=n2)(hX:∀b,b<n->Q b=g b) (hl:Bb Q n2 (C6 (Bp (Av (Aj I L) E (Am I S)))) U) (hc:Ay U)=>e2r hM (C6 (Bp (Av (Aj I L) E (Am I S)))) (by omega) (λw D=>by have:=(a0 w D).1;omega) Q n2 ms U (hr.mono hn hX) hl.listV hc;rw[b9] at b3;have b4:=Xu λ(Q:Gb)(n2:Nat)(U:AV)(hn:n<=n2)(hX:∀b,b<n->Q b=g b) (hl:F6 Q n2 (C8 M (Av (Aj I L) E (Am I S))) U) (hc:Ay U)=>e4i hp hL hR.cons (I2:=I) (O2:=O) c0 A Q n2 sv ev tv U (h.mono hn hX) hl hc;rw[c2] at b4;have g5:Aa ((C6 (Bp (Av (Aj I L) E (Am I S)))).map (λw=>(w,Bc M 0 w))=C8 M (Av (Aj I L) E (Am I S))):=⟨rfl⟩;obtain⟨mv,rfl,g6⟩:=hr.one;have i6:allOne [.li M.inp,.li M.out,mv]=true:=by simp[g6]
 have HI:=Xu (And.intro Z hO);clear h hr hp hL hR a3 b1 b2 b8 a0 b9 c0 c1 c2 a7 a8 hM Z hO;generalize C6 (Bp (Av (Aj I L) E (Am I S)))=l at *;generalize C8 M (Av (Aj I L) E (Am I S))=ts at *;refine ent [] func19 ?_;simp (disch:=first|omega|simp) [*];refine Xv (c6.out _ _ (by omega) λb A=>by simp (disch:=omega) only[Ad]) ?_;rintro _ ⟨U,g1,n1,rfl,i7,a1,b5⟩;have c7:Aa (∀b,b<n->g1 b=g b):=⟨λb A=>by rw[a1 b (by omega)];simp (disch:=omega) only[Ad]⟩;have c8:g1 n=some (.cells [.li I,.li O,sv,ev,.li I,.li O,tv] true 0):=by rw[a1 n (by omega)];simp (disch:=omega) only[Ad,Ag]
 have g7:g1 (n+1)=some (.cells [.li M.inp,.li M.out,mv] true 0):=by rw[a1 (n+1) (by omega)];simp (disch:=omega) only[Ad,Ag]
 have c9:g1 (n+1+1)=some (.cells [.li 0,.li 0,.nl,.nl,.li 0,.li 0,.nl] true 0):=by rw[a1 (n+1+1) (by omega)];simp (disch:=omega) only[Ad,Ag]
 have b6:=b5.listC;obtain⟨B1,e0⟩:=b5.capQ;have i8:=b6.one;have e1:=Xu b6;have e5:Aa (Ay U):=⟨by rw[e0];intro a o m c e;cases e;exact Wy _⟩;clear a1 b5 b6 e0 c6;simp (disch:=first|omega|simp) [*];refine Xv (b3.out _ _ U (by omega) c7.out e1.out e5.out) ?_;rintro _ ⟨cs,g2,n2,rfl,i9,a9,g8⟩;rcases g8 with⟨h0,_⟩|⟨_,B,rfl,b0⟩
 .exact absurd rfl h0
 have e6:Aa (∀b,b<n->g2 b=g b):=⟨λb A=>(a9 b (by omega)).trans (c7.out b A)⟩;have g9:=(a9 n (by omega)).trans c8;have e7:=(a9 (n+1+1) (by omega)).trans c9;rw[g5.out] at b0;have h5:oneC (.sl B 0 l.length l.length)=true:=b0.choose_spec.1.one;have e8:=Xu b0;clear a9 b0 b3 e1 e5 c8 g7 c9;obtain⟨Z,hO⟩:=HI.out;rw[Z,hO];have j0:allOne [.li I,.li O,.sl B 0 l.length l.length]=true:=by simp[h5]
 clear Z hO;simp (disch:=first|omega|simp) [*];refine Xv (b4.out _ _ (.sl B 0 l.length l.length) (by omega) (λb A=>(Ad (by omega)).trans (e6.out b A)) (e8.out.mono (by omega) λb A=>Ad A) (λa o m c e=>by cases e;exact Wy _)) ?_;rintro _ ⟨rv,g3,n3,rfl,j1,b7,h6⟩;rcases h6 with⟨h0,_⟩|⟨_,a4,a5,a6,rfl,a2,_,_⟩
 .exact absurd rfl h0
 have j2:=(b7 (n+1+1) (by omega)).trans ((Ad (by omega)).trans e7);have h7:Aa (∀b,b<n->g3 b=g b):=⟨λb A=>(b7 b (by omega)).trans ((Ad (by omega)).trans (e6.out b A))⟩;have h8:=a2.s.one;have h9:=a2.e.one;have i0:=a2.t.choose_spec.1.one;have j3:allOne [.li I,.li O,a4,a5,.li I,.li O,a6]=true:=by simp[h8,h9,i0]
 have i3:=Xu a2;clear b7 a2 b4 e8 g9 e7;simp (disch:=first|omega|simp) [*];refine⟨_,_,_,_,_,⟨⟨rfl,rfl,rfl⟩,rfl,rfl⟩,by omega,λb A=>?_,i3.out.from' (by omega) λa h1 h2=>?_⟩
 .simp (disch:=omega) only[Ad,Ae];exact h7.out b A
 .simp (disch:=omega) only[Ad,Ae]
theorem e4p{a b:Wd}(a7:a.length<=10000)(a8:b.length<=10000)(g:Gb)(n:Nat)(U Z:AV)(D:Al g n a U)(Q:Al g n b Z)(a3:Ay Z):
  WC 0 prog 113 [U,Z] ⟨.fn g,n⟩ λr=>r=.ret (.lit (.bool (decide (a.length<b.length/\b.take a.length=a)))) ⟨.fn g,n⟩:=by
 have a9:=@Ap prog _ _ _ _ _ D;have b0:=@Ap prog _ _ _ _ _ Q;obtain⟨a0,A⟩:∃c,c=decide (a.length<b.length/\b.take a.length=a):=⟨_,rfl⟩;rw[<- A];by_cases a4:a.length<b.length
 .have a5:(a.length:Int)<(b.length:Int):=by omega
  obtain⟨pv,b1,a1,a6⟩:=Af.cutP (P:=prog) Q a3 (t:=65) (by kernel_rfl) (k:=a.length) (sz:=1) (by omega);have a2:Al g n (b.take a.length) pv:=by
   have h:Af g n pv a.length ((wdC b).take (a.length*1)):=a1;have e:(wdC b).take (a.length*1)=wdC (b.take a.length):=by simp[wdC,List.map_take]
   have e2:(b.take a.length).length=a.length:=by rw[W4];omega
   rw[e] at h;unfold Al;rw[e2];exact h
  have HC:=Xu (V5 a (b.take a.length) (by omega) (by rw[W4];omega) g n U pv D a2);have hr:a0=decide (A4 a (b.take a.length)=0):=by
   rw[A,decide_eq_decide];constructor
   .rintro⟨_,h⟩;rw[h];exact V6 a
   .intro h;exact⟨a4,(K4 h).symm⟩
  clear A a1 a2 a6 D Q;generalize A4 a (b.take a.length)=c at *;refine ent [] func113 ?_
  iterate 8 all_goals try first|apply spl<;>intro h|simp (disch:=first|assumption|omega|simp) [*]
  refine Xv HC.out ?_;rintro _ rfl
  iterate 8 all_goals try first|apply spl<;>intro h|simp (disch:=first|assumption|omega|simp) [*]
 .have a5:¬(a.length:Int)<(b.length:Int):=by omega
  have hr:a0=false:=by rw[A,decide_eq_false];omega
  clear A D Q;refine ent [] func113 ?_
  iterate 8 all_goals try first|apply spl<;>intro h|simp (disch:=first|assumption|omega|simp) [*]
theorem Bb.at{D:AV}(h:Bb g n l D){k:Nat}(Q:k<l.length):∃a off q,a<n/\(∀{H:Mem}{ev:Ev}{o:Oper}{t:TypeId},iaS prog H ev o t (some (none,1)) (some D) (some (.li (k:Int)))=.val (.ptr a (off+k)) H)/\A5 (some (false,1)) (g a) (off+k)=some q/\Al g n l[k] q/\Ay q:=by
 obtain⟨svs,h1,h2,h3⟩:=h;obtain⟨q,A,e2⟩:=h2.2 k Q;obtain⟨a,off,ha,a0,U⟩:=h1.ia (P:=prog) Q 1;simp only[Xj] at U;have a1:k<svs.length:=(W8.1 A).1;have Z:=a0.one (k:=k) (s:=1) a1;rw[(W8.1 A).2] at Z;exact⟨a,off,q,ha,U,Z,e2,h3 q (e6e A)⟩
theorem e4q{w:Wd}{k:Nat}(h:k<l.length):Cp (l.take (k+1)) w=(Cp (l.take k) w||decide (w.length<(l[k]).length/\(l[k]).take w.length=w)):=by
 unfold Cp;rw[e6w h,List.any_append];simp
theorem e4r(c9:l.length<=10000)(b1:∀w∈l,w.length<=10000)(g:Gb)(n:Nat)(lv:AV)(hl:Bb g n l lv):
  WC 0 prog 64 [lv] ⟨.fn g,n⟩ λr=>∃Q g' n' B cs,r=.ret Q ⟨.fn g',n'⟩/\n<=n'/\(∀b,b<n->g' b=g b)/\A6 g' n n' B Q (C6 l).length 1 cs/\RowsW g n (C6 l) cs/\∀q∈cs,Ay q:=by
 have e0:=@Ap prog _ _ _ _ _ hl.choose_spec.1;have HL:=Xu hl;have HW:=Xu b1;clear hl b1;refine ent pl64 func64 ?_
 iterate 8 all_goals try first|apply spl<;>intro h|simp (disch:=first|assumption|omega|simp) [*]
 refine Xy (λm D H'=>∃(k n2 B:Nat)(gL:Gb)(Q:AV)(cs:List AV)(A:Wq),k<=l.length/\m=l.length-k/\H'=⟨.fn gL,n2⟩/\n<=n2/\Aa (∀b,b<n->gL b=g b)/\A.length<=k/\Aa (A=(l.take k).filter λw=>!Cp l w)/\Aa (A6 gL n n2 B Q A.length 1 cs)/\Aa (RowsW g n A cs/\∀q∈cs,Ay q) /\
  D 0=some lv/\D 3=some Q/\D 4=some (.li k)) (m0:=l.length) ?_ ?_
 .exact⟨0,n,0,g,.nl,[],[],W3 _,rfl,rfl,Wy _,⟨λ_ _=>rfl⟩,Wy _,⟨by simp⟩,⟨.inl ⟨rfl,rfl,rfl⟩⟩,⟨⟨rfl,λk h=>by cases h⟩,by simp⟩,by simp[*]⟩
 rintro m D H' ⟨k,n2,B,gL,Q,cs,A,hk,rfl,rfl,a1,U,e1,Z,a6,HR,w0,w3,w4⟩ ih;refine rnd pl64 ?_;by_cases a7:k<l.length
 .have b6:(k:Int)<(l.length:Int):=by omega
  obtain⟨a2,o2,qv,b7,e5,b8,hq,b2⟩:=HL.out.at a7;rw[<- U.out a2 b7] at b8;have b9:=hq.one;have e6:=hq.cell;have e7:allOne [qv]=true:=by simp[b9]
  have c0:=HW.out _ (W2 a7);have HQ:=Xu hq;have c1:=Xu b2;have a0:Aa ((l.take (k+1)).filter (λw=>!Cp l w)=(l.take k).filter (λw=>!Cp l w)++(if Cp l l[k] then [] else [l[k]])):=⟨by
   rw[e6w a7,List.filter_append];cases h:Cp l l[k]<;>simp[h]⟩
  clear hq b2;generalize l[k]=w at *
  iterate 8 all_goals try first|apply spl<;>intro h|simp (disch:=first|assumption|omega|simp) [*]
  refine Xy (λm D H'=>∃(j:Nat),j<=l.length/\m=l.length-j/\H'=⟨.fn gL,n2⟩/\D 0=some lv/\D 3=some Q/\D 4=some (.li k)/\D 5=some (.lit (.bool (Cp (l.take j) w)))/\D 6=some (.li j)) (m0:=l.length) ?_ ?_
  .exact⟨0,W3 _,rfl,rfl,by simp[*],by simp[*],by simp[*],by simp[Cp],by simp⟩
  clear w0 w3 w4;rintro m2 e8 H2 ⟨j,hj,rfl,rfl,w0,w3,w4,w5,w6⟩ a8;refine rnd pl64 ?_;by_cases a9:j<l.length
  .have c2:(j:Int)<(l.length:Int):=by omega
   obtain⟨a3,o3,pv,c6,e9,c7,hp,b3⟩:=HL.out.at a9;rw[<- U.out a3 c6] at c7;have c8:=HW.out _ (W2 a9);have HC:=Xu (e4p (a:=w) (b:=l[j]) c0 c8 gL n2 qv pv (X0 a1 U.out HQ.out) (X0 a1 U.out hp) b3);have a4:=Xu (e4q (w:=w) a9);clear hp b3;generalize decide (w.length<(l[j]).length/\(l[j]).take w.length=w)=d at *;generalize g0:Cp (l.take j) w=p at *
   cases p with
   | true =>
    rw[e8o] at a4;clear HC
    iterate 8 all_goals try first|apply spl<;>intro h|simp (disch:=first|assumption|omega|simp) [*]
    exact a8.out (l.length-(j+1)) _ _ (by omega) ⟨j+1,by omega,rfl,rfl,by simp[*],by simp[*],by simp[*],by simp[a4.out],by simp⟩
   | false =>
    rw[e8v] at a4
    iterate 8 all_goals try first|apply spl<;>intro h|simp (disch:=first|assumption|omega|simp) [*]
    refine Xv HC.out ?_;rintro _ rfl
    iterate 8 all_goals try first|apply spl<;>intro h|simp (disch:=first|assumption|omega|simp) [*]
    all_goals
     exact a8.out (l.length-(j+1)) _ _ (by omega) ⟨j+1,by omega,rfl,rfl,by simp[*],by simp[*],by simp[*],by simp[a4.out,h],by simp⟩
  .have c2:¬(j:Int)<(l.length:Int):=by omega
   rw[Xi (by omega)] at w5;clear a8
   cases hf:Cp l w with
   | true =>
    rw[hf] at w5 a0;have a5:Aa (A=(l.take (k+1)).filter λw=>!Cp l w):=⟨by rw[a0.out,Z.out];simp⟩;clear Z a0 hf
    iterate 8 all_goals try first|apply spl<;>intro h|simp (disch:=first|assumption|omega|simp) [*]
    exact ih.out (l.length-(k+1)) _ _ (by omega) ⟨k+1,n2,B,gL,Q,cs,A,by omega,rfl,rfl,a1,U,by omega,a5,a6,HR,by simp[*]⟩
   | false =>
    rw[hf] at w5 a0;have a5:Aa (A++[w]=(l.take (k+1)).filter λw=>!Cp l w):=⟨by rw[a0.out,Z.out];simp⟩;have b4:Aa (RowsW g n (A++[w]) (cs++[qv])/\∀q∈cs++[qv],Ay q):=⟨HR.out.1.snoc HQ.out,λq hq=>by
     rcases W9.1 hq with h|h
     .exact HR.out.2 q h
     .rw[Xh.1 h];exact c1.out⟩
    have g1:cs.length=A.length:=HR.out.1.1;have g2:cs.length=A.length*1:=by omega
    clear Z a0 hf;rcases a6.out with⟨h6,b5,b0⟩|⟨h6,b0,g3,g4,g5,g6⟩
    .subst b0;have HZ:=Xu (And.intro h6 b5);clear h6 b5
     iterate 8 all_goals try first|apply spl<;>intro h|simp (disch:=first|assumption|omega|simp) [*]
     refine ih.out (l.length-(k+1)) _ _ (by omega) ⟨k+1,n2+1+1,n2+1,_,.slq (n2+1) 0 (A.length+1) 0,cs++[qv],A++[w],by omega,rfl,rfl,by omega,⟨λb hb=>?_⟩,by simp;omega,a5,⟨?_⟩,b4,by simp[*],by simp[HZ.out.1],by simp⟩
     .simp (disch:=omega) only[Ad,Ae];exact U.out b hb
     .rw[W0,Xg];refine .mk ?_ (by omega) (by omega) (by simp;omega);rw[HZ.out.2];simp (disch:=omega) only[Ad,Ae,Ag];rfl
    .subst b0
     iterate 8 all_goals try first|apply spl<;>intro h|simp (disch:=first|assumption|omega|simp) [*]
     refine ih.out (l.length-(k+1)) _ _ (by omega) ⟨k+1,n2+1+1,n2+1,_,.slq (n2+1) 0 (A.length+1) 0,cs++[qv],A++[w],by omega,rfl,rfl,by omega,⟨λb hb=>?_⟩,by simp;omega,a5,⟨?_⟩,b4,by simp[*]⟩
     .simp (disch:=omega) only[Ad,Ae];exact U.out b hb
     .rw[W0,Xg];refine .mk ?_ (by omega) (by omega) (by simp;omega);simp (disch:=omega) only[Ad,Ae,Ag]
 .have b6:¬(k:Int)<(l.length:Int):=by omega
  have hr:A=C6 l:=by rw[Z.out,Xi (by omega)];rfl
  clear Z ih;subst hr
  iterate 8 all_goals try first|apply spl<;>intro h|simp (disch:=first|assumption|omega|simp) [*]
  exact⟨_,_,_,⟨rfl,rfl,rfl⟩,a1,U.out,_,_,a6.out,HR.out.1,HR.out.2⟩
end Go.Ai
