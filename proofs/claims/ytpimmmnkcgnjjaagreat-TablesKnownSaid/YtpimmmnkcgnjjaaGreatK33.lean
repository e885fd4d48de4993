/- Parts of an interpreter and of a proof. No condition. -/
import Derived.Test.YtpimmmnkcgnjjaaGreatK22
import Derived.Test.YtpimmmnkcgnjjaaGreatK24
import Derived.Test.YtpimmmnkcgnjjaaGreatK32
set_option linter.all false
set_option maxHeartbeats 40000000
set_option maxRecDepth 10000
open Go.Proofs Go.Proofs.Tryz
namespace Go.Ai
theorem a5x{I:Nat}(l2:1<=I)(hI:I<=16){S E:Wq}{T:Tq}(l3:S.length<=100)(b6:∀w∈S,w.length<=300/\inW w I=true)(l4:E.length<=200)(l5:(S.length+S.length*I)*E.length<=6800)(hE:∀e∈E,0<e.length/\e.length<=300/\inW e I=true)(h0:0<T.length)(i5:∀r∈T,r.length=I/\∀e∈r,e.1 = -1\/(0<=e.1/\e.1<T.length))
  (Q c4 c5:AV) (hc:allOne [Q,c4,c5]=true) (g:Gb) (n:Nat) (sv ev Z:AV) (hS:Cd g n S sv) (b7:Cd g n E ev) (hT:Cf g n T Z) :
  WC 0 prog 51 [.agg [.li I,Q,sv,ev,c4,c5,Z]] ⟨.fn g,n⟩ λr=>∃l' ov g' n',r=.ret ov ⟨.fn g',n'⟩/\n<=n'/\(∀b,b<n->g' b=g b)/\l'.Perm (A2 T E (Aq I S))/\(∀(i j:Nat)(_:i<j)(hj:j<l'.length),0<=Bx l'[j] (l'[i]'(by omega)))/\N9 g' n n' (A6 l') ov:=by
 have e0:=hS.choose_spec.1.one;have e6:=b7.choose_spec.1.one;have i6:=hT.choose_spec.1.one;have i7:allOne [.li I,Q,sv,ev,c4,c5,Z]=true:=by
  simp only[Fi,W0] at hc |-;simp[hc,e0,e6,i6]
 have i8:allOne [.li I,Q,sv,ev,c4,c5]=true:=by
  simp only[Fi,W0] at hc |-;simp[hc,e0,e6]
 have l6:=@Au prog _ _ _ _ _ b7.choose_spec.1;refine WC.enterR (Ag _ _) hG [] func51 rfl (by decide +kernel) (Wz (by kernel_rfl)) ?_;simp (disch:=first|omega|simp) [*];refine Xs (b5p _ _ _ _ _ _ _ i7 _ _) ?_;rintro _ rfl;simp (disch:=first|omega|simp) [*];refine b5o hI (by omega) (λw hw=>(b6 w hw).1) Q ev c4 c5 Z g n (n+2) sv hS (by simp) (by decide +kernel) (λk gL n2=>J2 (λ_=>True) g n [.li I,Q,sv,ev,c4,c5,Z] (A2 T E ((Aq I S).take k)) gL n2) (λ_ _=>False) ?_ ?_ ?_ ?_ ?_
 .rintro k gL n2 ⟨h1,h2,h3,h4,h5⟩;exact⟨h1,by omega,by omega,h4⟩
 .intro k w gP nP gL n2 gk wv K' hk HI e7 e8 b8 e9 g0 i9;refine YB.enter rfl ?_;have HK:=Xr g0;have j0:Aa (∀x,J2 (λ_=>True) g n [.li I,Q,sv,ev,c4,c5,Z] x=J2 (λ_=>True) g n [.li I,Q,sv,ev,c4,c5,Z] x):=⟨λ_=>rfl⟩;have g1:=Xr (e2f (T:=T) (E:=E) hk);have g2:(A2 T E ((Aq I S).take k)).length<=6800:=by
   have h1:=Sw (T:=T) (E:=E) (ws:=(Aq I S).take k);have h2:((Aq I S).take k).length<=S.length+S.length*I:=by
    rw[Xa,Pw];omega
   have:=e7v E.length h2;omega
  obtain⟨l7,j1⟩:=Sv b6 hk;have A:Aa (J2 (λB=>gk B=none) g n [.li I,Q,sv,ev,c4,c5,Z] (A2 T E ((Aq I S).take k)) gL n2):=⟨HI.keep (λb j2 l8 _=>by
   cases f:gk b with
   | none=>rfl
   | some z=>have:=(b8 b z f).2;omega) e7 e8⟩
  have a0:Aa (∀a z,gk a=some z->gL a=some z/\a<n2/\a≠n+1):=⟨λa z f=>by
   have h1:=b8 a z f;have h2:=HI.2.1;exact⟨h1.1,by omega,by omega⟩⟩
  have j3:=Xr e9;have b9:=A.out.2.2.1;clear g0 i9 j0 hk HI e8 b8 e9 e7;generalize A2 T E ((Aq I S).take k)=L0 at *;have j4:=Xr b7;have HE:=Xr hE;have l9:=Xr A.out.1;simp (disch:=first|omega|simp) [*];clear b9;refine Y2 (λm gf H'=>∃(j n3:Nat)(g3:Gb),j<=E.length/\m=E.length-j/\H'=⟨.fn g3,n3⟩/\n2<=n3/\Aa (J2 (λB=>gk B=none) g n [.li I,Q,sv,ev,c4,c5,Z] (L0++F9 T (E.take j) w) g3 n3)/\Aa (∀a z,gk a=some z->g3 a=some z/\a<n2/\a≠n+1) /\
   gf 1=some (.ptr n 0)/\gf 3=some (.ptr (n+1) 0)/\gf 4=some wv/\gf 14=some ev/\gf 15=some (.li E.length)/\gf 16=some (.li j)) (m0:=E.length) ?_ ?_
  .exact⟨0,n2,gL,W3 _,rfl,rfl,Wy _,⟨by rw[List.take_zero];simpa[F9] using A.out⟩,a0,by simp[*]⟩
  clear A a0;rintro m gf H' ⟨j,n3,g3,hj,rfl,rfl,m1,A,a0,w1,w3,w4,m2,m3,m4⟩ ih;refine Y1 (Ag _ _) hG [] [] (by decide +kernel) ?_;have c0:=Xr A.out.1;have b9:=A.out.2.2.1;have m5:=A.out.2.1;by_cases c2:j<E.length
  .have j5:(j:Int)<(E.length:Int):=by omega
   obtain⟨a2,o2,qv,j6,m6,j7,hq⟩:=j4.out.at c2;rw[<- c0.out a2 j6] at j7;obtain⟨j8,m7,j9⟩:=HE.out _ (W2 c2);have a8:=Xr (e2e (T:=T) (w:=w) c2);have HB:=Xr (V0 (a:=w) (b:=E[j]) (by omega) (by omega) j8 g3 n3 wv qv (Xx (by omega) (λa x _ hx=>(a0.out a x hx).1) j3.out) (Xw (by omega) c0.out hq));clear hq;generalize E[j]=e at *;simp (disch:=first|omega|simp) [*];refine Xs HB.out ?_;rintro _ ⟨uv,g4,n4,rfl,m8,a9,a1,g6⟩;have g8:=Xr a9;have m9:=(a9 n (by omega)).trans b9;have h6:=Xr (V1 h0 i5 (w:=w++e) (by rw[W1];omega) (N5 j1 j9) (.li I) Q sv ev c4 c5 i8 g4 n4 Z uv (hT.mono (by omega) λb hb=>(a9 b (by omega)).trans (c0.out b hb)) a1.rep);have h7:=Xr a1;have k0:=a1.rep.one;have n1:=a1.rep.cell;have h8:=Xr g6;clear HB a9 a1 g6;simp (disch:=first|omega|simp) [*];refine Xs h6.out ?_;rintro _ ⟨kv,g5,n5,rfl,k1,c6,_⟩;have D:Aa (∀b,b<n3->g5 b=g3 b):=⟨λb hb=>(c6 b (by omega)).trans (g8.out b hb)⟩;have h9:Aa (E0 g5 n3 n5 (w++e) uv):=⟨h7.out.keep (Wy _) k1 λa _ h=>c6 a h⟩;clear h6 g8 h7 c6
   cases hA:Bd T 0 (w++e) with
   | some u =>
    have HL:Aa (J2 (λB=>gk B=none) g n [.li I,Q,sv,ev,c4,c5,Z] (L0++F9 T (E.take (j+1)) w) g5 n5):=⟨by
     rw[a8.out,hA];simpa using A.out.keep (λ_ _ _ h=>h) (by omega) D.out⟩
    simp only[e9a];clear A a8 hA;simp (disch:=first|omega|simp) [*];exact ih.out (E.length-(j+1)) _ _ (by omega) ⟨j+1,n5,g5,by omega,rfl,rfl,by omega,HL,⟨λa z f=>by have:=a0.out a z f;exact⟨(D.out a (by omega)).trans this.1,this.2⟩⟩,by simp[*]⟩
   | none =>
    have HL:Aa (L0++F9 T (E.take (j+1)) w=(L0++F9 T (E.take j) w)++[w++e]):=⟨by rw[a8.out,hA];simp⟩;have k2:(L0++F9 T (E.take j) w).length<=7000:=by
     have:=b5r (T:=T) (E:=E.take j) (w:=w);rw[Xa] at this;rw[W1];omega
    simp only[Option.isSome_none];obtain⟨a3,k3,b0,b1,ov,a4,b2⟩:=A.out;have i0:∀b,b<n3->g5 b=g3 b:=D.out;have j2:=(i0 (n+1) (by omega)).trans a4;have a5:=Xr a3;have b3:=Xr (And.intro b0 b1);have k4:=Xr k2;clear A a8 hA i0 a3 b0 b1 a4;generalize L0++F9 T (E.take j) w=L1 at *;have n6:allOne [uv]=true:=by simp[k0]
    rcases b2 with⟨rfl,rfl⟩|⟨b4,B,cs,rfl,k5,i1,a6,k6,k7,b5,c8⟩
    .simp (disch:=first|omega|simp) [*];refine ih.out (E.length-(j+1)) _ _ (by omega) ⟨j+1,n5+1+1,_,by omega,rfl,rfl,by omega,⟨?_,by omega,?_,?_,_,Ah,?_⟩,⟨λa z f=>?_⟩,by simp[*]⟩
     .intro b hb;simp (disch:=omega) only[Ad,Ae];exact(D.out b (by omega)).trans (a5.out b hb)
     .simp (disch:=omega) only[Ad,Ae];exact(D.out n (by omega)).trans b3.out.1
     .simp (disch:=omega) only[Jj,Ad,Ae];exact(D.out (n+2) (by omega)).trans b3.out.2
     .rw[HL.out];refine Iw.push (gL:=g3) (n2:=n3) (l:=[]) (cs:=[]) 0 ⟨rfl,λk h=>(by cases h)⟩ (by simp) (by omega) (by omega) (λb h1 h2 _=>?_) (h9.out.keep (Wy _) (Wy _) λa h1 h2=>?_) h8.out ?_ ?_
      .simp (disch:=omega) only[Jj,Ad,Ae];exact D.out b h2
      .simp (disch:=omega) only[Jj,Ad,Ae]
      .simp (disch:=omega) only[Jj,Ah,Ae];rfl
      .cases f:gk (n5+1) with
       | none=>rfl
       | some z=>have:=a0.out _ z f;omega
     .have:=a0.out a z f;simp (disch:=omega) only[Ad,Ae];exact⟨(D.out a (by omega)).trans this.1,this.2⟩
    .have n7:=(D.out B (by omega)).trans k6;have n8:=k4.out;have n9:cs.length=L1.length*1:=by omega
     simp (disch:=first|omega|simp) [*];refine ih.out (E.length-(j+1)) _ _ (by omega) ⟨j+1,n5+1+1,_,by omega,rfl,rfl,by omega,⟨?_,by omega,?_,?_,_,Ah,?_⟩,⟨λa z f=>?_⟩,by simp[*]⟩
     .intro b hb;simp (disch:=omega) only[Ad,Ae];exact(D.out b (by omega)).trans (a5.out b hb)
     .simp (disch:=omega) only[Ad,Ae];exact(D.out n (by omega)).trans b3.out.1
     .simp (disch:=omega) only[Jj,Ad,Ae];exact(D.out (n+2) (by omega)).trans b3.out.2
     .rw[HL.out];refine Iw.push (gL:=g3) (n2:=n3) B b5 c8 (by omega) (by omega) (λb h1 h2 h3=>?_) (h9.out.keep (Wy _) (Wy _) λa h1 h2=>?_) h8.out ?_ ?_
      .simp (disch:=omega) only[Jj,Ad,Ae];exact D.out b h2
      .simp (disch:=omega) only[Jj,Ad,Ae]
      .simp (disch:=omega) only[Jj,Ah,Ae]
      .cases f:gk (n5+1) with
       | none=>rfl
       | some z=>have:=a0.out _ z f;omega
     .have:=a0.out a z f;have o0:a≠B:=by rintro rfl;rw[f] at a6;cases a6
      simp (disch:=omega) only[Ad,Ae];exact⟨(D.out a (by omega)).trans this.1,this.2⟩
  .have j5:¬(j:Int)<(E.length:Int):=by omega
   have HL:Aa (J2 (λ_=>True) g n [.li I,Q,sv,ev,c4,c5,Z] (A2 T E ((Aq I S).take (k+1))) g3 n3):=⟨by
    rw[g1.out];have:=A.out.keep (Y:=λ_=>True) (λ_ _ _ _=>trivial) (Wy _) (λ_ _=>rfl)
    rwa [Xn (by omega)] at this⟩
   clear A g1;simp (disch:=first|omega|simp) [*];exact HK.out _ _ HL.out
 .refine⟨λb hb=>?_,by omega,?_,Ah,_,?_,.inl ⟨by simp[A2],rfl⟩⟩
  .simp (disch:=omega) only[Ad]
  .simp (disch:=omega) only[Ad,Ah]
  .simp (disch:=omega) only[Ad,Ah]
 .intro gL n2 HI;rw[Xn (Wy _)] at HI;obtain⟨a3,k3,b0,b1,ov,a4,b2⟩:=HI;have a5:=Xr a3;have i2:=Xr b2;clear a3 b2;simp (disch:=first|omega|simp) [*];rcases i2.out with⟨b4,rfl⟩|⟨b4,B,cs,rfl,k5,i1,_,a6,k7,b5,c8⟩
  .refine Xs (e2q _) ?_;rintro _ rfl;simp (disch:=first|omega|simp) [*];refine Xs (e2r _) ?_;rintro _ rfl;simp (disch:=first|omega|simp) [*];exact⟨[],_,_,_,⟨rfl,rfl,rfl⟩,by omega,a5.out,(by first|rfl|simp[b4]),λi j _ hj=>(by cases hj),Iw.listF (X:=λ_=>True) (.inl ⟨rfl,rfl⟩)⟩
  .have g2:(A2 T E (Aq I S)).length<=100000:=by
    have h1:=Sw (T:=T) (E:=E) (ws:=Aq I S);have h2:(Aq I S).length<=S.length+S.length*I:=by
     rw[Pw];omega
    have:=e7v E.length h2;omega
   have i3:∀w∈A2 T E (Aq I S),w.length<=100000:=λw hw=>by
    obtain⟨u,hu,hw⟩:=e6v.1 hw;obtain⟨e,he,rfl⟩:=Xc.1 (e6t.1 hw).1;obtain⟨k,hk⟩:=e8t hu;have h1:=Sv b6 hk;have h2:=hE e he;rw[W1];omega
   clear i2;generalize A2 T E (Aq I S)=U at *;refine Xs (e2l b5 a6 b4 g2 λw hw=>by have:=i3 w hw;omega) ?_;rintro _ ⟨l',a7,hp,hs,rfl,c9,i4⟩;have k8:l'.length=U.length:=hp.length_eq;have HP:=Xr hp;have HS:=Xr hs;have o1:=Xr c9;have k9:=Xr i4;have hb5:(Ak gL B (some (.cells a7 true 1))) (n+1)=some (.cells [.slq B 0 U.length 0] true 0):=by simp (disch:=omega) only[Ad,Ae];exact a4
   have HC:=Xr (e3w (l:=l') c9 Ah (by omega) (by omega) (λw hw=>i3 w (hp.mem_iff.1 hw)));rw[k8] at HC;have l0:Aa (∀b,b<n->Ak gL B (some (.cells a7 true 1)) b=g b):=⟨λb hb=>by simp (disch:=omega) only[Ad,Ae];exact a5.out b hb⟩;have o3:Ak gL B (some (.cells a7 true 1)) B=some (.cells a7 true 1):=Ah;clear hp hs c9 i4 b5 a6 b0 b1 a4;generalize Ak gL B (some (.cells a7 true 1))=g9 at *;simp (disch:=first|omega|simp) [*];refine Xs HC.out ?_;rintro _ ⟨g7,c7,rfl,e1,e2,e3,e4,e5⟩;have E1:=Xr e1;have E5:=Xr (And.intro e4 e5);have l1:=e2;clear HC e1 e4 e5;simp (disch:=first|omega|simp) [*];refine⟨l',_,_,_,⟨rfl,rfl,rfl⟩,by omega,λb hb=>(E1.out b (by omega)).trans (l0.out b hb),HP.out,(λi j h hj=>by have:=HS.out i j h hj;omega),c7.take (A6 l').length,.inr ⟨B,0,i1,.inr ⟨0,rfl⟩,⟨c7,true,1,l1,by rw[Xa];omega,by rw[e7u,Xa,e6i e3]⟩⟩,?_,λq hq=>c8 q (k9.out q (E5.out.2 q hq))⟩;exact E5.out.1.ext (Wy _) λa z _ f=>by
    obtain⟨f1,f2,f3⟩:=K0 f;rw[Cq (by omega),E1.out a f2];exact f3
 .intro _ _ h;exact h.elim
end Go.Ai
