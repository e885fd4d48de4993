/- Parts of an interpreter and of a proof. No condition. -/
import Derived.Test.YtpimmmnkcgnjjaaGreatK25
set_option linter.all false
set_option maxHeartbeats 40000000
set_option maxRecDepth 10000
open Go.Proofs Go.Proofs.Tryz
namespace Go.Ai
structure Oc (I:Nat) (O:Int) (S E:Wq) (T:Tq):Prop where
 i1:1<=I
 i2:I<=16
 o1:1<=O
 o2:O<=16
 sl:S.length<=300
 s0:0<S.length
 sw:∀w∈S,w.length<=300/\inW w I=true
 e0:0<E.length
 el:E.length<=300
 ew:∀e∈E,0<e.length/\e.length<=300/\inW e I=true
 t0:0<T.length
 tl:T.length<=65537
 go:goT I O T 0 1=some T.length
 ok:∀r∈T,r.length=I/\∀e∈r,e.1 = -1\/(0<=e.1/\e.1<T.length)
 err:N4 I O S E I O T=0
theorem Oc.check{I:Nat}{O:Int}{S E:Wq}{T:Tq}(f:Oc I O S E T){g:Gb}{n:Nat}{sv ev A:AV}(h:A7 g n S E T sv ev A):
  WC 0 prog 37 [.agg [.li I,.li O,sv,ev,.li I,.li O,A]] ⟨.fn g,n⟩ λr=>r=.ret (.li 0) ⟨.fn g,n⟩:=by
 have Q:=b5g I O I O S E T g n sv ev A (h.s.listT (by have:=f.sl;omega) λw D=>by have:=(f.sw w D).1;omega) (h.e.listT (by have:=f.el;omega) λw D=>by have:=(f.ew w D).2.1;omega) ⟨by have:=f.tl;omega,λr U=>by have:=(f.ok r U).1;have:=f.i2;omega,h.t⟩;rw[f.err] at Q;exact Q
theorem b7d{I:Nat}{O:Int}{S E:Wq}{T:Tq}(D:Oc I O S E T){w:Wd}(h6:w.length<=300)(g:Gb)(n:Nat)(sv ev tv wv:AV)(Z:A7 g n S E T sv ev tv)(hw:Al g n w wv)(e9:Av wv):
  WC 0 prog 38 [.agg [.li I,.li O,sv,ev,.li I,.li O,tv],wv] ⟨.fn g,n⟩ λr=>∃rv g' n',r=.ret (.tup [rv,.li (Ms I S E w)]) ⟨.fn g',n'⟩/\n<=n'/\(∀b,b<n->g' b=g b)/\a5o I O (Ms I S E w) (S++[w]) E T (A9 n g') n' rv:=by
 have h7:=Z.s.one;have h8:=Z.e.one;have h9:=Z.t.choose_spec.1.one;have k6:allOne [.li I,.li O,sv,ev,.li I,.li O,tv]=true:=by simp[h7,h8,h9]
 have k7:=@Au prog _ _ _ _ _ hw;have i0:=D.i1;have k8:=D.i2;have a1:=Xr λ(gX:Gb)(n2:Nat)(hn:n<=n2)(hX:∀b,b<n->gX b=g b)=>D.check (Z.mono hn hX);have c1:=Xr λ(x:Wd)(hx:x.length<=300)(xv:AV)(i3:Al g n x xv)(gX:Gb) (n2:Nat) (hn:n<=n2) (hX:∀b,b<n->gX b=g b)=>b5z (l:=S) (by have:=D.sl;omega) (w:=x) (by omega) (λy hy=>by have:=(D.sw y hy).1;omega) gX n2 sv xv (Z.mono hn hX).s.listV (Xw hn hX i3);have i4:=Xr λ(gX:Gb)(n2:Nat)(hn:n<=n2)(hX:∀b,b<n->gX b=g b)=>a5n (I:=I) i0 (by omega) D.s0 (by have:=D.sl;omega) (λy hy=>by have:=(D.sw y hy).1;omega) (E:=E) (T:=T) D.e0 (by have:=D.el;omega) (λy hy=>by have:=(D.ew y hy).2.1;omega) D.t0 (by have:=D.tl;omega) (λr hr=>(D.ok r hr).1) (.li I) (.li O) (.li I) (.li O) (by simp) gX n2 sv ev tv (Z.mono hn hX);have HW:=Xr hw;have HP:=Xr D;obtain⟨er,c2⟩:∃x,x=Ms I S E w:=⟨_,rfl⟩;rw[<- c2];have a7:=Xr c2;clear c2;by_cases i5:w.length=0
 .have he:er=1:=by rw[a7.out];unfold Ms;rw[if_neg (by rintro⟨h,_⟩;omega)]
  subst he;clear Z hw D;refine ent pl38 func38 ?_;simp (disch:=first|omega|simp) [*];refine Xs (a1.out _ _ (by omega) λb A=>?_) ?_
  .simp (disch:=omega) only[Ad]
  rintro _ rfl;simp (disch:=first|omega|simp) [*];exact⟨_,_,_,⟨rfl,rfl,rfl⟩,by omega,λb A=>by simp (disch:=omega) only[Ad],.inl ⟨by decide,rfl⟩⟩
 obtain⟨m,hm⟩:∃m,w.length=m+1:=⟨w.length-1,by omega⟩;obtain⟨a2,o2,k9,l1,l2⟩:=X5 hw (k:=m) (by omega);obtain⟨pv,l3,g0,i6⟩:=Af.cutP (P:=prog) hw e9 (t:=65) (by kernel_rfl) (k:=m) (sz:=1) (by omega);have g1:Al g n (w.take m) pv:=by
  have h:Af g n pv m ((wdC w).take (m*1)):=g0;have e:(wdC w).take (m*1)=wdC (w.take m):=by simp[wdC,List.map_take]
  have e2:(w.take m).length=m:=by rw[Xa];omega
  rw[e] at h;unfold Al;rw[e2];exact h
 have c6:w[m]'(by omega)=w[w.length-1]'(by omega):=by congr 1;omega
 have a3:=Xr (c1.out (w.take m) (by rw[Xa];omega) pv g1);have a8:=Xr (c1.out w h6 wv hw);have c7:Aa (w.take m=w.take (w.length-1)):=⟨by congr 1;omega⟩;have a4:Aa ((0<=w[m]'(by omega)/\w[m]'(by omega)<(I:Int))/\w.take m∈S->er=if w∈S then 8 else F8 (S++[w]) E):=⟨λh=>by
  rw[a7.out];unfold Ms;rw[if_pos ⟨by omega,by rw[<- c6,<- c7.out];exact h⟩]⟩
 have a9:Aa (¬((0<=w[m]'(by omega)/\w[m]'(by omega)<(I:Int))/\w.take m∈S)->er=1):=⟨λh=>by
  rw[a7.out];unfold Ms;rw[if_neg];rintro⟨h1,h2⟩;rw[<- c6,<- c7.out] at h2;exact h h2⟩
 clear g0 i6 c6 a7 c7 i5 hw e9 D c1 g1;have HM:=Xr hm;have l4:¬((m:Int)+1=0):=by omega
 have l5:(m:Int)<=300:=by omega
 generalize hx:w[m]'(by omega)=x at *;clear hx;generalize w.take m=w0 at *;by_cases l6:x<0
 .have he:er=1:=a9.out (by omega);subst he;clear Z;refine ent pl38 func38 ?_;simp (disch:=first|omega|simp) [*];refine Xs (a1.out _ _ (by omega) λb A=>?_) ?_
  .simp (disch:=omega) only[Ad]
  rintro _ rfl;simp (disch:=first|omega|simp) [*];exact⟨_,_,_,⟨rfl,rfl,rfl⟩,by omega,λb A=>by simp (disch:=omega) only[Ad],.inl ⟨by decide,rfl⟩⟩
 by_cases l7:(I:Int)<=x
 .have he:er=1:=a9.out (by omega);subst he;clear Z;refine ent pl38 func38 ?_;simp (disch:=first|omega|simp) [*];refine Xs (a1.out _ _ (by omega) λb A=>?_) ?_
  .simp (disch:=omega) only[Ad]
  rintro _ rfl;simp (disch:=first|omega|simp) [*];exact⟨_,_,_,⟨rfl,rfl,rfl⟩,by omega,λb A=>by simp (disch:=omega) only[Ad],.inl ⟨by decide,rfl⟩⟩
 by_cases a5:w0∈S
 rotate_left
 .have he:er=1:=a9.out λh=>a5 h.2;subst he;clear Z;simp only[a5,decide_false] at a3;refine ent pl38 func38 ?_;simp (disch:=first|omega|simp) [*];refine Xs (a1.out _ _ (by omega) λb A=>?_) ?_
  .simp (disch:=omega) only[Ad]
  rintro _ rfl;simp (disch:=first|omega|simp) [*];refine Xs (a3.out _ _ (by omega) λb A=>?_) ?_
  .simp (disch:=omega) only[Ad]
  rintro _ rfl;simp (disch:=first|omega|simp) [*];exact⟨_,_,_,⟨rfl,rfl,rfl⟩,by omega,λb A=>by simp (disch:=omega) only[Ad],.inl ⟨by decide,rfl⟩⟩
 replace a4:=Xr (a4.out ⟨by omega,a5⟩);simp only[a5,decide_true] at a3;clear a5 a9;by_cases a6:w∈S
 .have he:er=8:=by rw[a4.out,if_pos a6]
  subst he;clear Z;simp only[a6,decide_true] at a8;refine ent pl38 func38 ?_;simp (disch:=first|omega|simp) [*];refine Xs (a1.out _ _ (by omega) λb A=>?_) ?_
  .simp (disch:=omega) only[Ad]
  rintro _ rfl;simp (disch:=first|omega|simp) [*];refine Xs (a3.out _ _ (by omega) λb A=>?_) ?_
  .simp (disch:=omega) only[Ad]
  rintro _ rfl;simp (disch:=first|omega|simp) [*];refine Xs (a8.out _ _ (by omega) λb A=>?_) ?_
  .simp (disch:=omega) only[Ad]
  rintro _ rfl;simp (disch:=first|omega|simp) [*];exact⟨_,_,_,⟨rfl,rfl,rfl⟩,by omega,λb A=>by simp (disch:=omega) only[Ad],.inl ⟨by decide,rfl⟩⟩
 rw[if_neg a6] at a4;simp only[a6,decide_false] at a8;clear a6;refine ent pl38 func38 ?_;simp (disch:=first|omega|simp) [*];refine Xs (a1.out _ _ (by omega) λb A=>?_) ?_
 .simp (disch:=omega) only[Ad]
 rintro _ rfl;simp (disch:=first|omega|simp) [*];refine Xs (a3.out _ _ (by omega) λb A=>?_) ?_
 .simp (disch:=omega) only[Ad]
 rintro _ rfl;simp (disch:=first|omega|simp) [*];refine Xs (a8.out _ _ (by omega) λb A=>?_) ?_
 .simp (disch:=omega) only[Ad]
 rintro _ rfl;simp (disch:=first|omega|simp) [*];refine Xs (i4.out _ _ (by omega) λb A=>?_) ?_
 .simp (disch:=omega) only[Ad]
 rintro _ ⟨b1,b2,b3,g5,n5,rfl,l8,b0,b4⟩;obtain⟨g2,c8,c9,g3⟩:=b4.s;have i7:=Xr b4.e;have i8:=Xr b4.t;have i9:=Xr c9;have j0:=Xr g3;have g4:g2.length=S.length:=c9.1;obtain⟨l0,ow,z0,j1,j2,g7⟩:∃l0 ow z0,g5 b1=some (.cells l0 ow z0)/\S.length<=l0.length/\l0.take S.length=g2:=by
  rcases c8 with⟨h1,_⟩|⟨a,off,ha,⟨c,e⟩|⟨c,e⟩,l0,ow,z0,h1,h2,h3⟩
  .have:=HP.out.s0;omega
  .cases e;refine⟨l0,ow,z0,(B8 h1).2,by omega,?_⟩;rw[g4] at h3;simpa using h3
  .cases e
 have j3:n+1+1<=b1/\b1<n5:=by
  rcases c8 with⟨h1,_⟩|⟨a,off,ha,⟨c,e⟩|⟨c,e⟩,l0,ow,z0,h1,h2,h3⟩
  .have:=HP.out.s0;omega
  .cases e;exact⟨(B8 h1).1,ha⟩
  .cases e
 have j4:=Xr g7;have l9:=Xr b0;have j5:Aa (g5 (n+1)=some (.cells [.li 0,.li 0,.nl,.nl,.li 0,.li 0,.nl] true 0)):=⟨(b0 (n+1) (by omega)).trans Ah⟩;have g8:Aa (∀b,b<n->g5 b=g b):=⟨λb A=>(b0 b (by omega)).trans (by simp (disch:=omega) only[Ad])⟩;have m1:allOne [.li I,.li O,.sl b1 0 S.length S.length,.sl b2 0 E.length E.length,.li I,.li O,.sl b3 0 T.length T.length]=true:=by simp
 obtain⟨Q,j6⟩:∃Q,S.length=Q+1:=⟨S.length-1,by have:=HP.out.s0;omega⟩;have b5:=Xr j6;have m2:Q<=300:=by have:=HP.out.sl;omega
 have m3:0+(Q+1)*1<=l0.length:=by omega
 clear c8 c9 g3 g7 b0 b4 g4 Z j2;simp (disch:=first|omega|simp) [*];refine Xs (Pm w (by omega) _ _ wv (Xw (by omega) (λb A=>?_) HW.out)) ?_
 .simp (disch:=omega) only[Ad];exact g8.out b A
 rintro _ ⟨j7,g6,U,rfl,m4,b6,g9⟩;have hb16:=(b6 b1 (by omega)).trans ((Ad j3.2).trans j1);have e5:Aa (∀b,b<n5->g6 b=g5 b):=⟨λb A=>(b6 b (by omega)).trans (by simp (disch:=omega) only[Ad])⟩;have j8:=b6 n5 (by omega);simp (disch:=omega) only[Ah] at j8;have j9:=Xr g9;clear b6 g9;simp (disch:=first|omega|simp) [*];refine Xs (Pv w g6 _ U j7 j9.out) ?_;rintro _ ⟨b7,rfl,b8,h0⟩;have k0:=b8.rep.one;have m5:allOne [b7]=true:=by simp[k0]
 have m6:=b8.rep.cell;have k1:=Xr b8;have k2:=Xr h0;clear b8 h0;simp (disch:=first|omega|simp) [*];refine Xs (Sx (by omega) _) ?_;rintro _ rfl;obtain⟨gF,a0⟩:∃gF,gF=Ak (Ak (Ak g6 U (some (.cells [b7] true 0))) (U+1) (some (.cells (l0.take (Q+1)++[b7]) true 1))) n5 (some (.cells [.li I,.li O,.sl (U+1) 0 (Q+1+1) (Q+1+1),.sl b2 0 E.length E.length,.li I,.li O,.sl b3 0 T.length T.length] true 0)):=⟨_,rfl⟩;have b9:Aa (∀a z,a<n5->A9 (n+1+1) g5 a=some z->A9 (n+1+1) gF a=some z):=⟨λa z ha f=>by
  obtain⟨e1,e2⟩:=B8 f;rw[Cq e1,a0,Ae (by omega),Ad (by omega),Ad (by omega),e5.out a ha];exact e2⟩
 have e6:Aa (Cu (A9 (n+1+1) gF) (U+1+1) (S++[w]) (.sl (U+1) 0 (Q+1+1) (Q+1+1))):=⟨by
  refine Cu.snocF (z:=1) (i9.out.ext (by omega) λa z ha f=>b9.out a z ha f) j0.out (w:=w) (q:=b7) ?_ k2.out.cap ?_ (by omega) (by rw[b5.out])
  .obtain⟨gk,q1,q2⟩:=k1.out;refine Xx (by omega) (λa z _ f=>?_) q2;obtain⟨e1,e2,e3⟩:=q1 a z f;rw[Cq (by omega),a0,Ae (by omega),Ad (by omega),Ad (by omega)];exact e1
  .rw[Cq (by omega),a0,Ae (by omega),Ah,<- b5.out,j4.out]⟩
 have e7:Aa (Cu (A9 (n+1+1) gF) (U+1+1) E (.sl b2 0 E.length E.length)):=⟨i7.out.ext (by omega) λa z ha f=>b9.out a z ha f⟩;have k3:Aa (Cf (A9 (n+1+1) gF) (U+1+1) T (.sl b3 0 T.length T.length)):=⟨by
  obtain⟨ts,q1,q2⟩:=i8.out;exact⟨ts,Xx (by omega) (λa z ha f=>b9.out a z ha f) q1,q2.ext (by omega) λa z ha f=>b9.out a z ha f⟩⟩
 have h4:Aa (gF (n+1)=some (.cells [.li 0,.li 0,.nl,.nl,.li 0,.li 0,.nl] true 0)):=⟨by
  rw[a0,Ae (by omega),Ad (by omega),Ad (by omega),e5.out _ (by omega)];exact j5.out⟩
 have e8:Aa (∀b,b<n->gF b=g b):=⟨λb A=>by
  rw[a0,Ae (by omega),Ad (by omega),Ad (by omega),e5.out _ (by omega)];exact g8.out b A⟩
 have h5:=Xr (a5g I O I O (.sl b3 0 T.length T.length) rfl (S++[w]) E (by rw[W1,b5.out,Xj];omega) (λx hx=>by
   rcases W9.1 hx with h|h
   .have:=(HP.out.sw x h).1;omega
   .rw[Xf.1 h];omega) (by have:=HP.out.el;omega) (λx hx=>by have:=(HP.out.ew x hx).2.1;omega) gF (U+1+1) (.sl (U+1) 0 (Q+1+1) (Q+1+1)) (.sl b2 0 E.length E.length) _ _ (Xx (Wy _) (λa z _ f=>(B8 f).2) e6.out.choose_spec.1) (e6.out.choose_spec.2.1.ext (Wy _) λa z _ f=>(B8 f).2) (Xx (Wy _) (λa z _ f=>(B8 f).2) e7.out.choose_spec.1) (e7.out.choose_spec.2.1.ext (Wy _) λa z _ f=>(B8 f).2))
 rw[<- a4.out] at h5;have m7:allOne [.li I,.li O,.sl (U+1) 0 (Q+1+1) (Q+1+1),.sl b2 0 E.length E.length,.li I,.li O,.sl b3 0 T.length T.length]=true:=by simp
 have m8:gF n5=some (.cells [.li I,.li O,.sl (U+1) 0 (Q+1+1) (Q+1+1),.sl b2 0 E.length E.length,.li I,.li O,.sl b3 0 T.length T.length] true 0):=by rw[a0,Ah]
 have k4:=Xr a0;clear a0;simp (disch:=first|omega|simp) [*];rw[<- k4.out];refine Xs h5.out ?_;rintro _ rfl;have f:=h4.out;clear h4;by_cases he:er=0
 .subst he;have c0:Aa (∀(B:Option Blk)(a:Nat)(z:Blk),A9 (n+1+1) gF a=some z->A9 n (Ak gF (n+1) B) a=some z):=⟨λB a z f=>by
   obtain⟨e1,e2⟩:=B8 f;rw[Cq (by omega),Ae (by omega)];exact e2⟩
  simp (disch:=first|omega|simp) [*];refine⟨_,_,_,⟨rfl,rfl,rfl⟩,by omega,λb A=>?_,.inr ⟨rfl,_,_,_,rfl,⟨e6.out.ext (Wy _) λa z _ f=>c0.out _ a z f,e7.out.ext (Wy _) λa z _ f=>c0.out _ a z f,?_⟩,?_,.inr ⟨_,_,rfl⟩⟩⟩
  .rw[Ae (by omega)];exact e8.out b A
  .obtain⟨ts,q1,q2⟩:=k3.out;exact⟨ts,Xx (Wy _) (λa z _ f=>c0.out _ a z f) q1,q2.ext (Wy _) λa z _ f=>c0.out _ a z f⟩
  .refine .inr ⟨U+1,0,?_⟩;rw[W1,b5.out];rfl
 .have k5:=Xr he;simp (disch:=first|omega|simp) [*];refine⟨_,_,_,⟨rfl,rfl,rfl⟩,by omega,λb A=>?_,.inl ⟨k5.out,rfl⟩⟩
  first|exact e8.out b A|(rw[Ae (by omega)];exact e8.out b A)
end Go.Ai
