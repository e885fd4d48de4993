/- Parts of an interpreter and of a proof. No condition. -/
import Derived.Test.YtpimmmnkcgnjjaaGreatK35
set_option linter.all false
set_option maxHeartbeats 40000000
set_option maxRecDepth 10000
open Go.Proofs Go.Proofs.Tryz
namespace Go.Ai
theorem We{I:Nat}{O:Int}{S E:Wq}{T:Tq}(D:Oc I O S E T){w:Wd}(g4:w.length<=300)(g:Gb)(n:Nat)(sv ev tv wv:AV)(hT:A7 g n S E T sv ev tv)(hw:Al g n w wv)(g7:Av wv):
  WC 0 prog 39 [.agg [.li I,.li O,sv,ev,.li I,.li O,tv],wv] ⟨.fn g,n⟩ λr=>∃rv g' n',r=.ret (.tup [rv,.li (J3 I S E w)]) ⟨.fn g',n'⟩/\n<=n'/\(∀b,b<n->g' b=g b)/\a5o I O (J3 I S E w) S (E++[w]) T (A9 n g') n' rv:=by
 have g8:=hT.s.one;have g9:=hT.e.one;have h0:=hT.t.choose_spec.1.one;have k0:allOne [.li I,.li O,sv,ev,.li I,.li O,tv]=true:=by simp[g8,g9,h0]
 have k1:=@Au prog _ _ _ _ _ hw;have h4:=D.i1;have k2:=D.i2;have a5:=Xr λ(gX:Gb)(n2:Nat)(hn:n<=n2)(hX:∀b,b<n->gX b=g b)=>D.check (hT.mono hn hX);have c8:=Xr λ(x:Wd)(hx:x.length<=300)(xv:AV)(h5:Al g n x xv)(gX:Gb) (n2:Nat) (hn:n<=n2) (hX:∀b,b<n->gX b=g b)=>b5z (l:=E) (by have:=D.el;omega) (w:=x) (by omega) (λy hy=>by have:=(D.ew y hy).2.1;omega) gX n2 ev xv (hT.mono hn hX).e.listV (Xw hn hX h5);have h6:=Xr λ(gX:Gb)(n2:Nat)(hn:n<=n2)(hX:∀b,b<n->gX b=g b)=>a5n (I:=I) h4 (by omega) D.s0 (by have:=D.sl;omega) (λy hy=>by have:=(D.sw y hy).1;omega) (E:=E) (T:=T) D.e0 (by have:=D.el;omega) (λy hy=>by have:=(D.ew y hy).2.1;omega) D.t0 (by have:=D.tl;omega) (λr hr=>(D.ok r hr).1) (.li I) (.li O) (.li I) (.li O) (by simp) gX n2 sv ev tv (hT.mono hn hX);have HW:=Xr hw;have HP:=Xr D;obtain⟨er,b8⟩:∃x,x=J3 I S E w:=⟨_,rfl⟩;rw[<- b8];have a0:=Xr b8;clear b8;have a3:=Xr λ(gX:Gb)(n2:Nat)(hn:n<=n2)(hX:∀b,b<n->gX b=g b)=>Vg w (by omega) I gX n2 wv (Xw hn hX hw);have a6:=Xr (c8.out w g4 wv hw);clear c8 hw g7 D;unfold J3 at a0;by_cases a2:Bo w I=0
 rotate_left
 .have he:er=Bo w I:=by rw[a0.out,if_pos a2]
  have k3:=Xr a2;have h7:Aa (er≠0):=⟨by rw[he];exact a2⟩;rw[<- he] at a3 a2;clear hT he;refine ent pl39 func39 ?_;simp (disch:=first|omega|simp) [*];refine Xs (a5.out _ _ (by omega) λb A=>?_) ?_
  .simp (disch:=omega) only[Ad]
  rintro _ rfl;simp (disch:=first|omega|simp) [*];refine Xs (a3.out _ _ (by omega) λb A=>?_) ?_
  .simp (disch:=omega) only[Ad]
  rintro _ rfl;simp (disch:=first|omega|simp) [*];exact⟨_,_,_,⟨rfl,rfl,rfl⟩,by omega,λb A=>by simp (disch:=omega) only[Ad],.inl ⟨h7.out,rfl⟩⟩
 rw[if_neg (show ¬Bo w I≠0 from λh=>h a2)] at a0;rw[a2] at a3;clear a2;by_cases c9:w.length=0
 .have he:er=1:=by rw[a0.out,if_pos c9]
  subst he;clear hT;refine ent pl39 func39 ?_;simp (disch:=first|omega|simp) [*];refine Xs (a5.out _ _ (by omega) λb A=>?_) ?_
  .simp (disch:=omega) only[Ad]
  rintro _ rfl;simp (disch:=first|omega|simp) [*];refine Xs (a3.out _ _ (by omega) λb A=>?_) ?_
  .simp (disch:=omega) only[Ad]
  rintro _ rfl;simp (disch:=first|omega|simp) [*];exact⟨_,_,_,⟨rfl,rfl,rfl⟩,by omega,λb A=>by simp (disch:=omega) only[Ad],.inl ⟨by decide,rfl⟩⟩
 rw[if_neg c9] at a0;have k4:¬((w.length:Int)=0):=by omega
 by_cases a4:w∈E
 .have he:er=8:=by rw[a0.out,if_pos a4]
  subst he;clear hT;simp only[a4,decide_true] at a6;refine ent pl39 func39 ?_;simp (disch:=first|omega|simp) [*];refine Xs (a5.out _ _ (by omega) λb A=>?_) ?_
  .simp (disch:=omega) only[Ad]
  rintro _ rfl;simp (disch:=first|omega|simp) [*];refine Xs (a3.out _ _ (by omega) λb A=>?_) ?_
  .simp (disch:=omega) only[Ad]
  rintro _ rfl;simp (disch:=first|omega|simp) [*];refine Xs (a6.out _ _ (by omega) λb A=>?_) ?_
  .simp (disch:=omega) only[Ad]
  rintro _ rfl;simp (disch:=first|omega|simp) [*];exact⟨_,_,_,⟨rfl,rfl,rfl⟩,by omega,λb A=>by simp (disch:=omega) only[Ad],.inl ⟨by decide,rfl⟩⟩
 rw[if_neg a4] at a0;simp only[a4,decide_false] at a6;have h8:Aa (er=F8 S (E++[w])):=a0;clear a4 a0;refine ent pl39 func39 ?_;simp (disch:=first|omega|simp) [*];refine Xs (a5.out _ _ (by omega) λb A=>?_) ?_
 .simp (disch:=omega) only[Ad]
 rintro _ rfl;simp (disch:=first|omega|simp) [*];refine Xs (a3.out _ _ (by omega) λb A=>?_) ?_
 .simp (disch:=omega) only[Ad]
 rintro _ rfl;simp (disch:=first|omega|simp) [*];refine Xs (a6.out _ _ (by omega) λb A=>?_) ?_
 .simp (disch:=omega) only[Ad]
 rintro _ rfl;simp (disch:=first|omega|simp) [*];refine Xs (h6.out _ _ (by omega) λb A=>?_) ?_
 .simp (disch:=omega) only[Ad]
 rintro _ ⟨b1,b2,b3,g5,n5,rfl,k5,a7,a8⟩;obtain⟨e5,b9,c0,e6⟩:=a8.e;have h9:=Xr a8.s;have i0:=Xr a8.t;have i3:=Xr c0;have i4:=Xr e6;have e7:e5.length=E.length:=c0.1;obtain⟨l0,ow,z0,i5,i6,e8⟩:∃l0 ow z0,g5 b2=some (.cells l0 ow z0)/\E.length<=l0.length/\l0.take E.length=e5:=by
  rcases b9 with⟨h1,_⟩|⟨a,off,Z,⟨c,e⟩|⟨c,e⟩,l0,ow,z0,h1,h2,h3⟩
  .have:=HP.out.e0;omega
  .cases e;refine⟨l0,ow,z0,(B8 h1).2,by omega,?_⟩;rw[e7] at h3;simpa using h3
  .cases e
 have i7:n+1+1<=b2/\b2<n5:=by
  rcases b9 with⟨h1,_⟩|⟨a,off,Z,⟨c,e⟩|⟨c,e⟩,l0,ow,z0,h1,h2,h3⟩
  .have:=HP.out.e0;omega
  .cases e;exact⟨(B8 h1).1,Z⟩
  .cases e
 have i8:=Xr e8;have k6:=Xr a7;have i9:Aa (g5 (n+1)=some (.cells [.li 0,.li 0,.nl,.nl,.li 0,.li 0,.nl] true 0)):=⟨(a7 (n+1) (by omega)).trans Ah⟩;have e9:Aa (∀b,b<n->g5 b=g b):=⟨λb A=>(a7 b (by omega)).trans (by simp (disch:=omega) only[Ad])⟩;have k7:allOne [.li I,.li O,.sl b1 0 S.length S.length,.sl b2 0 E.length E.length,.li I,.li O,.sl b3 0 T.length T.length]=true:=by simp
 obtain⟨Q,j0⟩:∃Q,E.length=Q+1:=⟨E.length-1,by have:=HP.out.e0;omega⟩;have a9:=Xr j0;have k8:Q<=300:=by have:=HP.out.el;omega
 have k9:0+(Q+1)*1<=l0.length:=by omega
 clear b9 c0 e6 e8 a7 a8 e7 hT i6;simp (disch:=first|omega|simp) [*];refine Xs (Pm w (by omega) _ _ wv (Xw (by omega) (λb A=>?_) HW.out)) ?_
 .simp (disch:=omega) only[Ad];exact e9.out b A
 rintro _ ⟨j1,g6,U,rfl,l1,b0,g0⟩;have hb16:=(b0 b2 (by omega)).trans ((Ad i7.2).trans i5);have c1:Aa (∀b,b<n5->g6 b=g5 b):=⟨λb A=>(b0 b (by omega)).trans (by simp (disch:=omega) only[Ad])⟩;have j2:=b0 n5 (by omega);simp (disch:=omega) only[Ah] at j2;have j3:=Xr g0;clear b0 g0;simp (disch:=first|omega|simp) [*];refine Xs (Pv w g6 _ U j1 j3.out) ?_;rintro _ ⟨b4,rfl,b5,g1⟩;have j4:=b5.rep.one;have l2:allOne [b4]=true:=by simp[j4]
 have l3:=b5.rep.cell;have j5:=Xr b5;have j6:=Xr g1;clear b5 g1;simp (disch:=first|omega|simp) [*];refine Xs (Sx (by omega) _) ?_;rintro _ rfl;obtain⟨gF,a1⟩:∃gF,gF=Ak (Ak (Ak g6 U (some (.cells [b4] true 0))) (U+1) (some (.cells (l0.take (Q+1)++[b4]) true 1))) n5 (some (.cells [.li I,.li O,.sl b1 0 S.length S.length,.sl (U+1) 0 (Q+1+1) (Q+1+1),.li I,.li O,.sl b3 0 T.length T.length] true 0)):=⟨_,rfl⟩;have b6:Aa (∀a z,a<n5->A9 (n+1+1) g5 a=some z->A9 (n+1+1) gF a=some z):=⟨λa z Z f=>by
  obtain⟨e1,e2⟩:=B8 f;rw[Cq e1,a1,Ae (by omega),Ad (by omega),Ad (by omega),c1.out a Z];exact e2⟩
 have c2:Aa (Cu (A9 (n+1+1) gF) (U+1+1) (E++[w]) (.sl (U+1) 0 (Q+1+1) (Q+1+1))):=⟨by
  refine Cu.snocF (z:=1) (i3.out.ext (by omega) λa z Z f=>b6.out a z Z f) i4.out (w:=w) (q:=b4) ?_ j6.out.cap ?_ (by omega) (by rw[a9.out])
  .obtain⟨gk,q1,q2⟩:=j5.out;refine Xx (by omega) (λa z _ f=>?_) q2;obtain⟨e1,e2,e3⟩:=q1 a z f;rw[Cq (by omega),a1,Ae (by omega),Ad (by omega),Ad (by omega)];exact e1
  .rw[Cq (by omega),a1,Ae (by omega),Ah,<- a9.out,i8.out]⟩
 have c6:Aa (Cu (A9 (n+1+1) gF) (U+1+1) S (.sl b1 0 S.length S.length)):=⟨h9.out.ext (by omega) λa z Z f=>b6.out a z Z f⟩;have j7:Aa (Cf (A9 (n+1+1) gF) (U+1+1) T (.sl b3 0 T.length T.length)):=⟨by
  obtain⟨ts,q1,q2⟩:=i0.out;exact⟨ts,Xx (by omega) (λa z Z f=>b6.out a z Z f) q1,q2.ext (by omega) λa z Z f=>b6.out a z Z f⟩⟩
 have g2:Aa (gF (n+1)=some (.cells [.li 0,.li 0,.nl,.nl,.li 0,.li 0,.nl] true 0)):=⟨by
  rw[a1,Ae (by omega),Ad (by omega),Ad (by omega),c1.out _ (by omega)];exact i9.out⟩
 have c7:Aa (∀b,b<n->gF b=g b):=⟨λb A=>by
  rw[a1,Ae (by omega),Ad (by omega),Ad (by omega),c1.out _ (by omega)];exact e9.out b A⟩
 have g3:=Xr (a5g I O I O (.sl b3 0 T.length T.length) rfl S (E++[w]) (by have:=HP.out.sl;omega) (λx hx=>by have:=(HP.out.sw x hx).1;omega) (by rw[W1,a9.out,Xj];omega) (λx hx=>by
   rcases W9.1 hx with h|h
   .have:=(HP.out.ew x h).2.1;omega
   .rw[Xf.1 h];omega) gF (U+1+1) (.sl b1 0 S.length S.length) (.sl (U+1) 0 (Q+1+1) (Q+1+1)) _ _ (Xx (Wy _) (λa z _ f=>(B8 f).2) c6.out.choose_spec.1) (c6.out.choose_spec.2.1.ext (Wy _) λa z _ f=>(B8 f).2) (Xx (Wy _) (λa z _ f=>(B8 f).2) c2.out.choose_spec.1) (c2.out.choose_spec.2.1.ext (Wy _) λa z _ f=>(B8 f).2))
 rw[<- h8.out] at g3;have l4:allOne [.li I,.li O,.sl b1 0 S.length S.length,.sl (U+1) 0 (Q+1+1) (Q+1+1),.li I,.li O,.sl b3 0 T.length T.length]=true:=by simp
 have l5:gF n5=some (.cells [.li I,.li O,.sl b1 0 S.length S.length,.sl (U+1) 0 (Q+1+1) (Q+1+1),.li I,.li O,.sl b3 0 T.length T.length] true 0):=by rw[a1,Ah]
 have j8:=Xr a1;clear a1;simp (disch:=first|omega|simp) [*];rw[<- j8.out];refine Xs g3.out ?_;rintro _ rfl;have f:=g2.out;clear g2;by_cases he:er=0
 .subst he;have b7:Aa (∀(B:Option Blk)(a:Nat)(z:Blk),A9 (n+1+1) gF a=some z->A9 n (Ak gF (n+1) B) a=some z):=⟨λB a z f=>by
   obtain⟨e1,e2⟩:=B8 f;rw[Cq (by omega),Ae (by omega)];exact e2⟩
  simp (disch:=first|omega|simp) [*];refine⟨_,_,_,⟨rfl,rfl,rfl⟩,by omega,λb A=>?_,.inr ⟨rfl,_,_,_,rfl,⟨c6.out.ext (Wy _) λa z _ f=>b7.out _ a z f,c2.out.ext (Wy _) λa z _ f=>b7.out _ a z f,?_⟩,.inr ⟨_,_,rfl⟩,?_⟩⟩
  .rw[Ae (by omega)];exact c7.out b A
  .obtain⟨ts,q1,q2⟩:=j7.out;exact⟨ts,Xx (Wy _) (λa z _ f=>b7.out _ a z f) q1,q2.ext (Wy _) λa z _ f=>b7.out _ a z f⟩
  .refine .inr ⟨U+1,0,?_⟩;rw[W1,a9.out];rfl
 .have j9:=Xr he;simp (disch:=first|omega|simp) [*];refine⟨_,_,_,⟨rfl,rfl,rfl⟩,by omega,λb A=>?_,.inl ⟨j9.out,rfl⟩⟩
  first|exact c7.out b A|(rw[Ae (by omega)];exact c7.out b A)
end Go.Ai
