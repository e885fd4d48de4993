/- Parts of an interpreter and of a proof. No condition. -/
import Derived.Test.YtpimmmnkcgnjjaaGreatA35
import Derived.Test.YtpimmmnkcgnjjaaGreatA13
import Derived.Test.YtpimmmnkcgnjjaaGreatA36
set_option linter.all false
set_option maxHeartbeats 40000000
set_option maxRecDepth 10000
open Go.Proofs Go.Proofs.Tryz
namespace Go.Ai
variable {I:Nat}{O:Int}{S E:Wq}{T:Tq}
theorem e4y{l:Wq}(c1:l.length<=10000)(a4:∀v∈l,0<v.length/\v.length<=10000)(g:Gb)(n:Nat)(lv:AV)(hl:Bs g n l lv):
  WC 0 prog 65 [lv] ⟨.fn g,n⟩ λr=>∃A g' n' B cs,r=.ret A ⟨.fn g',n'⟩/\n<=n'/\(∀b,b<n->g' b=g b)/\A6 g' n n' B A (Bp l).length 1 cs/\RowsW g' n' (Bp l) cs/\∀q∈cs,Ay q:=by
 have c2:=@Ap prog _ _ _ _ _ hl.choose_spec.1;have HL:=Xu hl;have HW:=Xu a4;clear hl a4;refine ent [] func65 ?_;simp (disch:=first|omega|simp) [*];refine Xy (λm Q H'=>∃(k n2 B:Nat)(gL:Gb)(A:AV)(cs:List AV),k<=l.length/\m=l.length-k/\H'=⟨.fn gL,n2⟩/\n<=n2/\n<=B/\Aa (∀b,b<n->gL b=g b)/\Aa (A6 gL n n2 B A (Bp (l.take k)).length 1 cs)/\Aa (RowsW (H9 B gL) n2 (Bp (l.take k)) cs/\∀q∈cs,Ay q) /\
  Q 0=some lv/\Q 3=some A/\Q 4=some (.li k)) (m0:=l.length) ?_ ?_
 .exact⟨0,n,n,g,.nl,[],W3 _,rfl,rfl,Wy _,Wy _,⟨λ_ _=>rfl⟩,⟨.inl ⟨rfl,rfl,rfl⟩⟩,⟨⟨rfl,λk h=>by cases h⟩,by simp⟩,by simp[*]⟩
 rintro m Q H' ⟨k,n2,B,gL,A,cs,hk,rfl,rfl,a0,c6,U,a1,D,w0,w3,w4⟩ ih;refine rnd [] ?_;by_cases Z:k<l.length
 .have b0:(k:Int)<(l.length:Int):=by omega
  obtain⟨a2,o2,qv,b1,c7,b2,hq⟩:=HL.out.at Z;rw[<- U.out a2 b1] at b2;have a5:=HW.out _ (W2 Z);have b3:=Sp (l.take k);have b4:(l.take k).length<=l.length:=by rw[W4];omega
  have HP:=Xu (e4s (l:=Bp (l.take k)) (by omega) (b6i _) (λv hv=>(HW.out v (e6l (J5.1 hv))).2) a5.1 a5.2 gL n n2 B cs A qv a0 a1.out D.out.1 D.out.2 (Xz a0 (λa z ha hz=>by rw[I1 (by omega)];exact(U.out a ha).trans hz) hq));have a6:Be l[k] (Bp (l.take k))=Bp (l.take (k+1)):=by rw[e6w Z,a5o]
  rw[a6] at HP;clear a6 hq b3 b4;simp (disch:=first|omega|simp) [*];refine Xv HP.out ?_;rintro _ ⟨b5,g3,n3,B3,b6,rfl,c8,a7,a3,a8,a9⟩;have b7:Aa (∀b,b<n->g3 b=g b):=⟨λb hb=>(a7 b (by omega) (by omega)).trans (U.out b hb)⟩;have b8:n<=B3:=by
   rcases a3 with⟨h,_⟩|⟨_,_,h,_⟩
   .have:=e6y (J5.2 (show l[k]∈l.take (k+1) by rw[e6w Z];exact List.mem_append_right _ (Xh.2 rfl)));omega
   .exact h
  have b9:=Xu a3;have c0:=Xu (And.intro a8 a9);clear a7 a3 a8 a9 HP;simp (disch:=first|omega|simp) [*];exact ih.out (l.length-(k+1)) _ _ (by omega) ⟨k+1,n3,B3,g3,b5,b6,by omega,rfl,rfl,by omega,b8,b7,b9,c0,by simp[*]⟩
 .have b0:¬(k:Int)<(l.length:Int):=by omega
  rw[Xi (by omega)] at a1 D;simp (disch:=first|omega|simp) [*];exact⟨_,_,_,⟨rfl,rfl,rfl⟩,a0,U.out,_,_,a1.out,D.out.1.ext (Wy _) (λa z _ hz=>(J6 hz).2),D.out.2⟩
theorem A6.listc{g:Gb}{lo n B:Nat}{l:Wq}{sv:AV}{cs:List AV}(h:A6 g lo n B sv l.length 1 cs)(A:RowsW g n l cs)(D:∀q∈cs,Ay q):Bb g n l sv:=
 ⟨cs,Xz (Wy _) (λa x _ hx=>by
  split at hx
  .exact hx
  .cases hx) h.slice,A,D⟩
theorem a5y(h:G0 I O S E T){ws:Wq}(A:ws.length<=80):(Av T E ws).length<=1600:=by
 have D:=Pv (T:=T) (E:=E) (ws:=ws);have:=e5x A h.el;omega
theorem b7h(A:G0 I O S E T){w:Wd}(h:w∈Av T E (Am I S)):0<w.length/\w.length<=700:=by
 obtain⟨u,D,Q⟩:=e6x.1 h;obtain⟨e,U,rfl⟩:=Xc.1 (e6q.1 Q).1;obtain⟨k,Z⟩:=e8k D;have h1:=Of A.sw Z;have h2:=A.ew e U;rw[W0];omega
theorem e4z(hp:G0 I O S E T)(g:Gb)(n:Nat)(sv ev tv:AV)(hS:Bs g n S sv)(a6:Bs g n E ev)(hT:Dv g n T tv):
  WC 0 prog 18 [.agg [.li I,.li O,sv,ev,.li I,.li O,tv]] ⟨.fn g,n⟩ λr=>∃D g' n',r=.ret D ⟨.fn g',n'⟩/\n<=n'/\(∀b,b<n->g' b=g b)/\Bb g' n' (C6 (Bp (Av T E (Am I S)))) D:=by
 have i1:=hS.choose_spec.1.one;have c0:=a6.choose_spec.1.one;have c1:=hT.choose_spec.1.one;have k9:allOne [.li I,.li O,sv,ev,.li I,.li O,tv]=true:=by simp[i1,c0,c1]
 have l0:=@Ap prog _ _ _ _ _ a6.choose_spec.1;have c2:=Xu (e1y (I:=I) (by have:=hp.i2;omega) (S:=S) (by have:=hp.sl;omega) hp.s0 (λw hw=>(hp.sw w hw).1) (.li O) ev (.li I) (.li O) tv rfl c0 rfl rfl c1 (Ak g n (some (.cells [.li I,.li O,sv,ev,.li I,.li O,tv] true 0))) (n+1) sv (hS.mono (by omega) λb A=>Ad A));have i3:=Xu a6;have HP:=Xu hp;have i4:=Xu λ(w:Wd)(c6:w.length<=1000)(i5:inW w I=true)(gX:Gb)(n2:Nat) (wv:AV) (hn:n<=n2) (hX:∀b,b<n->gX b=g b) (hw:Al gX n2 w wv)=>e2e (O:=O) hp.t0 hp.ok (w:=w) c6 i5 gX n2 tv wv (hT.mono hn hX) hw;have i6:=b7g hp;have l1:=hp.el;clear hS a6 hT hp;refine ent pl18 func18 ?_;simp (disch:=first|omega|simp) [*];refine Xv c2.out ?_;rintro _ ⟨wv,g1,n1,rfl,l2,b0,BW,i7,c7,c8⟩;have c9:Aa (∀b,b<n->g1 b=g b):=⟨λb A=>(b0 b (by omega)).trans (Ad A)⟩;have i8:=(b0 n (by omega)).trans Ag;have b1:Bs g1 n1 (Am I S) wv:=⟨i7,Xz (Wy _) (λa x _ hx=>by
  split at hx
  .exact hx
  .cases hx) c7.slice,c8⟩
 have l3:=@Ap prog _ _ _ _ _ b1.choose_spec.1;have i9:=Xu b1;clear b0 b1 c7 c8 c2;simp (disch:=first|omega|simp) [*];refine Yn (K:=Jw 0 λU gN nc=>∃(B:Nat)(D:AV)(cs:List AV),n1<=nc/\Aa (∀b,b<n1->gN b=g1 b)/\Aa (A6 gN n1 nc B D (Av T E (Am I S)).length 1 cs/\RowsW (H9 B gN) nc (Av T E (Am I S)) cs)/\U 1=some (.ptr n 0)/\U 3=some D) ?_ ?_
 .refine Xy (λm U H'=>∃(k n2 B:Nat)(gL:Gb)(D:AV)(cs:List AV),k<=(Am I S).length/\m=(Am I S).length-k/\H'=⟨.fn gL,n2⟩/\n1<=n2/\Aa (∀b,b<n1->gL b=g1 b)/\Aa (A6 gL n1 n2 B D (Av T E ((Am I S).take k)).length 1 cs/\RowsW (H9 B gL) n2 (Av T E ((Am I S).take k)) cs) /\
   U 1=some (.ptr n 0)/\U 3=some D/\U 4=some wv/\U 5=some (.li k)) (m0:=(Am I S).length) ?_ ?_
  .exact⟨0,n1,0,g1,.nl,[],W3 _,rfl,rfl,Wy _,⟨λ_ _=>rfl⟩,⟨.inl ⟨by simp[Av],rfl,rfl⟩,by simp[Av],λk h=>by simp[Av] at h⟩,by simp[*]⟩
  rintro m U H' ⟨k,n2,B,gL,D,cs,hk,rfl,rfl,l4,HG,Q,w1,w3,w4,w5⟩ ih;refine rnd pl18 ?_;by_cases b2:k<(Am I S).length
  .have j0:(k:Int)<((Am I S).length:Int):=by omega
   obtain⟨a2,o2,wq,b3,l5,e0,e5⟩:=i9.out.at b2;rw[<- HG.out a2 b3] at e0;obtain⟨c6,j1⟩:=Of HP.out.sw (W6 b2);have e6:=Xu (b5t (T:=T) (E:=E) (W6 b2));have l6:=a5y HP.out (ws:=(Am I S).take k) (by rw[W4];omega);have j2:=Xu e5;clear e5;generalize (Am I S)[k]=w at *;generalize Av T E ((Am I S).take k)=L0 at *;simp (disch:=first|omega|simp) [*];refine Xy (λm U H'=>∃(j n3 B:Nat)(Z:Gb)(D:AV)(cs:List AV),j<=E.length/\m=E.length-j/\H'=⟨.fn Z,n3⟩/\n2<=n3/\Aa (∀b,b<n1->Z b=g1 b)/\Aa (A6 Z n1 n3 B D (L0++Ct T (E.take j) w).length 1 cs/\RowsW (H9 B Z) n3 (L0++Ct T (E.take j) w) cs) /\
    U 1=some (.ptr n 0)/\U 3=some D/\U 4=some wv/\U 5=some (.li k)/\U 6=some (.li j)) (m0:=E.length) ?_ ?_
   .exact⟨0,n2,B,gL,D,cs,W3 _,rfl,rfl,Wy _,HG,⟨by simpa[Ct] using Q.out⟩,by simp[*]⟩
   clear Q w1 w3 w4 w5;rintro m2 l7 H2 ⟨j,n3,B,Z,D,cs,hj,rfl,rfl,j3,a0,Q,w1,w3,w4,w5,w6⟩ a7;refine rnd pl18 ?_;have j4:=(a0.out n (by omega)).trans i8;have b4:Aa (∀b,b<n->Z b=g b):=⟨λb A=>(a0.out b (by omega)).trans (c9.out b A)⟩;by_cases b5:j<E.length
   .have j5:(j:Int)<(E.length:Int):=by omega
    obtain⟨a3,o3,eq,j6,l8,j7,e7⟩:=i3.out.at b5;rw[<- b4.out a3 j6] at j7;have j8:=e0;rw[HG.out a2 b3,<- a0.out a2 b3] at j8;obtain⟨j9,l9,k0⟩:=HP.out.ew _ (W2 b5);have a8:=Xu (b5s (T:=T) (w:=w) b5);have HB:=Xu (b4n (a:=w) (b:=E[j]) (by omega) (by omega) j9 Z n3 wq eq (X0 (by omega) a0.out j2.out) (X0 (by omega) b4.out e7));clear e7;generalize E[j]=e at *;simp (disch:=first|omega|simp) [*];refine Xv HB.out ?_;rintro _ ⟨uv,g4,n4,rfl,e8,a1,a5⟩;have a9:=Xu a1;have m1:=(a1 n (by omega)).trans j4;have e9:=Xu (i4.out (w++e) (by rw[W0];omega) (Iy j1 k0) g4 n4 uv (by omega) (λb A=>(a1 b (by omega)).trans (b4.out b A)) a5.rep);have k1:=a5.rep.one;have m3:=a5.rep.cell;have m4:allOne [uv]=true:=by simp[k1]
    have g0:=Xu a5;clear HB a1 a5;simp (disch:=first|omega|simp) [*];refine Xv e9.out ?_;rintro _ ⟨kv,g5,n5,rfl,k2,b6,_⟩;have a4:Aa (∀b,b<n3->g5 b=Z b):=⟨λb A=>(b6 b (by omega)).trans (a9.out b A)⟩;have g2:Aa (D8 g5 n3 n5 (w++e) uv):=⟨g0.out.keep (Wy _) k2 λa _ h=>b6 a h⟩;have b7:Aa (RowsW (H9 B g5) n5 (L0++Ct T (E.take j) w) cs):=⟨Q.out.2.ext (by omega) λa x ha hx=>by
     have h9:=J6 hx;rw[I1 h9.1,a4.out a ha];exact h9.2⟩
    clear e9 a9 g0 b6
    cases hA:Cj T 0 (w++e) with
    | some u =>
     have HL:Aa (L0++Ct T (E.take (j+1)) w=L0++Ct T (E.take j) w):=⟨by rw[a8.out,hA];simp⟩;simp only[Option.isSome_some];have k3:Aa (A6 g5 n1 n5 B D (L0++Ct T (E.take (j+1)) w).length 1 cs/\RowsW (H9 B g5) n5 (L0++Ct T (E.take (j+1)) w) cs):=⟨by
      rw[HL.out];exact⟨Q.out.1.keep (by omega) λh1 h2=>a4.out B h2,b7.out⟩⟩
     clear Q a8 hA HL b7;simp (disch:=first|omega|simp) [*];exact a7.out (E.length-(j+1)) _ _ (by omega) ⟨j+1,n5,B,g5,D,cs,by omega,rfl,rfl,by omega,⟨λb A=>(a4.out b (by omega)).trans (a0.out b A)⟩,k3,by simp[*]⟩
    | none =>
     have HL:Aa (L0++Ct T (E.take (j+1)) w=(L0++Ct T (E.take j) w)++[w++e]):=⟨by rw[a8.out,hA];simp⟩;have m5:(L0++Ct T (E.take j) w).length<=7000:=by
      have:=a5m (T:=T) (E:=E.take j) (w:=w);rw[W4] at this;have:=HP.out.el;rw[W0];omega
     simp only[Option.isSome_none];have m6:cs.length=(L0++Ct T (E.take j) w).length*1:=by have:=Q.out.2.1;omega
     have g6:=b7;have k4:=Xu Q.out.1;have k5:Aa (∀c z,B<n3->Z B=some (.cells c true z)->g5 B=some (.cells c true z)):=⟨λc z h1 h2=>(a4.out B h1).trans h2⟩;clear a8 hA Q;generalize L0++Ct T (E.take j) w=L1 at *;rcases k4.out with⟨h6,g7,b8⟩|⟨h6,b8,m7,k6,k7,m8⟩
     .subst b8;have HZ:=Xu (And.intro h6 g7);clear h6 g7;simp (disch:=first|omega|simp) [*];refine a7.out (E.length-(j+1)) _ _ (by omega) ⟨j+1,n5+1+1,n5+1,_,.slq (n5+1) 0 (L1.length+1) 0,cs++[uv],by omega,rfl,rfl,by omega,⟨λb A=>?_⟩,⟨?_,?_⟩,by simp[*],by simp[HZ.out.1],by simp[*]⟩
      .simp (disch:=omega) only[Ad,Ae];exact(a4.out b (by omega)).trans (a0.out b A)
      .rw[HL.out,W0,Xg];refine .mk ?_ (by omega) (by omega) (by simp;omega);rw[HZ.out.2];simp (disch:=omega) only[Ad,Ae,Ag];rfl
      .rw[HL.out];refine(g6.out.ext (by omega) λa x ha hx=>?_).snoc ?_
       .have h9:=J6 hx;rw[I1 (by omega)];simp (disch:=omega) only[Ad,Ae];exact h9.2
       .obtain⟨gk,q1,q2⟩:=g2.out;refine Xz (by omega) (λa z _ hz=>?_) q2;obtain⟨e1,e2,e3⟩:=q1 a z hz;rw[I1 (by omega)];simp (disch:=omega) only[Ad,Ae];exact e1
     .subst b8;have m9:=k5.out _ _ k6 k7;simp (disch:=first|omega|simp) [*];refine a7.out (E.length-(j+1)) _ _ (by omega) ⟨j+1,n5+1+1,n5+1,_,.slq (n5+1) 0 (L1.length+1) 0,cs++[uv],by omega,rfl,rfl,by omega,⟨λb A=>?_⟩,⟨?_,?_⟩,by simp[*]⟩
      .simp (disch:=omega) only[Ad,Ae];exact(a4.out b (by omega)).trans (a0.out b A)
      .rw[HL.out,W0,Xg];refine .mk ?_ (by omega) (by omega) (by simp;omega);simp (disch:=omega) only[Ad,Ae,Ag]
      .rw[HL.out];refine(g6.out.ext (by omega) λa x ha hx=>?_).snoc ?_
       .have h9:=J6 hx;rw[I1 (by omega)];simp (disch:=omega) only[Ad,Ae];exact h9.2
       .obtain⟨gk,q1,q2⟩:=g2.out;refine Xz (by omega) (λa z _ hz=>?_) q2;obtain⟨e1,e2,e3⟩:=q1 a z hz;rw[I1 (by omega)];simp (disch:=omega) only[Ad,Ae];exact e1
   .have j5:¬(j:Int)<(E.length:Int):=by omega
    rw[Xi (by omega),<- e6.out] at Q;clear e6 a7;simp (disch:=first|omega|simp) [*];exact ih.out ((Am I S).length-(k+1)) _ _ (by omega) ⟨k+1,n3,B,Z,D,cs,by omega,rfl,rfl,by omega,a0,Q,by simp[*]⟩
  .have j0:¬(k:Int)<((Am I S).length:Int):=by omega
   rw[Xi (by omega)] at Q;simp (disch:=first|omega|simp) [*];exact⟨B,cs,Q⟩
 rintro _ ⟨U,gN,nc,rfl,B,D,cs,n6,HG,Q,w1,w3⟩;have A:=a5y HP.out i6;have b9:=Xu λw (h:w∈Av T E (Am I S))=>b7h HP.out h;have g8:=Xu (e4y (l:=Av T E (Am I S)) (by omega) (λv hv=>⟨(b9.out v hv).1,by have:=(b9.out v hv).2;omega⟩) gN nc D ⟨cs,Xz (Wy _) (λa x _ hx=>by
  split at hx
  .exact hx
  .cases hx) Q.out.1.slice,Q.out.2.ext (Wy _) λa z _ hz=>(J6 hz).2⟩)
 simp (disch:=first|omega|simp) [*];refine Xv g8.out ?_;rintro _ ⟨k8,Z,n3,B3,n7,rfl,j3,g9,h0,h3,h4⟩;have a0:Aa (∀b,b<n->Z b=g b):=⟨λb A=>(g9 b (by omega)).trans ((HG.out b (by omega)).trans (c9.out b A))⟩;have n8:=Sp (Av T E (Am I S));have h5:=Xu (e4r (l:=Bp (Av T E (Am I S))) (by omega) (λw hw=>by have:=(b9.out w (J5.1 hw)).2;omega) Z n3 k8 (h0.listc h3 h4));clear g9 h0 h3 h4 g8;simp (disch:=first|omega|simp) [*];refine Xv h5.out ?_;rintro _ ⟨n9,g4,n4,B4,o0,rfl,e8,a1,h7,h8,i0⟩;have HF:=Xu (h7.listc (h8.ext e8 λa x ha hx=>(a1 a ha).trans hx) i0);have a9:Aa (∀b,b<n->g4 b=g b):=⟨λb A=>(a1 b (by omega)).trans (a0.out b A)⟩;clear a1 h7 h8 i0 h5;simp (disch:=first|omega|simp) [*];exact⟨_,_,_,⟨rfl,rfl,rfl⟩,by omega,a9.out,HF.out⟩
end Go.Ai
