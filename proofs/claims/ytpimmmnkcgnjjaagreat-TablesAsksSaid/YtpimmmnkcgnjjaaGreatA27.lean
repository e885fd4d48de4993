/- Parts of an interpreter and of a proof. No condition. -/
import Derived.Test.YtpimmmnkcgnjjaaGreatA24
import Derived.Test.YtpimmmnkcgnjjaaGreatA25
import Derived.Test.YtpimmmnkcgnjjaaGreatA26
set_option linter.all false
set_option maxHeartbeats 40000000
set_option maxRecDepth 10000
open Go.Proofs Go.Proofs.Tryz
namespace Go.Ai
theorem e3n{I:Nat}(l4:1<=I)(hI:I<=16){S E:Wq}{T:Tq}(e0:S.length<=20)(b6:∀w∈S,w.length<=300/\inW w I=true)(e6:E.length<=20)(hE:∀e∈E,0<e.length/\e.length<=300/\inW e I=true)(h0:0<T.length)(i7:∀r∈T,r.length=I/\∀e∈r,e.1 = -1\/(0<=e.1/\e.1<T.length))
  (Z c4 c5:AV) (hc:allOne [Z,c4,c5]=true) (g:Gb) (n:Nat) (sv ev tv:AV) (hS:Bs g n S sv) (b7:Bs g n E ev) (hT:Dv g n T tv) :
  WC 0 prog 51 [.agg [.li I,Z,sv,ev,c4,c5,tv]] ⟨.fn g,n⟩ λr=>∃l' ov g' n',r=.ret ov ⟨.fn g',n'⟩/\n<=n'/\(∀b,b<n->g' b=g b)/\l'.Perm (Av T E (Am I S))/\(∀(i j:Nat)(_:i<j)(hj:j<l'.length),0<=A4 l'[j] (l'[i]'(by omega)))/\Sm g' n n' (Bf l') ov:=by
 have e7:=hS.choose_spec.1.one;have e8:=b7.choose_spec.1.one;have i8:=hT.choose_spec.1.one;have i9:allOne [.li I,Z,sv,ev,c4,c5,tv]=true:=by
  simp only[O5,W1] at hc |-;simp[hc,e7,e8,i8]
 have j0:allOne [.li I,Z,sv,ev,c4,c5]=true:=by
  simp only[O5,W1] at hc |-;simp[hc,e7,e8]
 have l5:=@Ap prog _ _ _ _ _ b7.choose_spec.1;refine WC.enterR (Ah _ _) hG [] func51 rfl (by decide +kernel) (Wz (by kernel_rfl)) ?_;simp (disch:=first|omega|simp) [*];refine Xv (e2v _ _ _ _ _ _ _ i9 _ _) ?_;rintro _ rfl;simp (disch:=first|omega|simp) [*];refine e2u hI (by omega) (λw hw=>(b6 w hw).1) Z ev c4 c5 tv g n (n+2) sv hS (by simp) (by decide +kernel) (λk gL n2=>J4 (λ_=>True) g n [.li I,Z,sv,ev,c4,c5,tv] (Av T E ((Am I S).take k)) gL n2) (λ_ _=>False) ?_ ?_ ?_ ?_ ?_
 .rintro k gL n2 ⟨h1,h2,h3,h4,h5⟩;exact⟨h1,by omega,by omega,h4⟩
 .intro k w gP nP gL n2 gk wv K' hk HI e9 g0 b8 g1 g2 j1;refine YB.enter rfl ?_;have HK:=Xu g2;have j2:Aa (∀x,J4 (λ_=>True) g n [.li I,Z,sv,ev,c4,c5,tv] x=J4 (λ_=>True) g n [.li I,Z,sv,ev,c4,c5,tv] x):=⟨λ_=>rfl⟩;have g6:=Xu (b5t (T:=T) (E:=E) hk);have g8:(Av T E ((Am I S).take k)).length<=6800:=by
   have h1:=Pv (T:=T) (E:=E) (ws:=(Am I S).take k);have h2:((Am I S).take k).length<=340:=by
    rw[W4,Pu];have:=e5x e0 hI;omega
   have:=e5x h2 e6;omega
  obtain⟨l6,j3⟩:=Of b6 hk;have D:Aa (J4 (λB=>gk B=none) g n [.li I,Z,sv,ev,c4,c5,tv] (Av T E ((Am I S).take k)) gL n2):=⟨HI.keep (λb j4 l7 _=>by
   cases A:gk b with
   | none=>rfl
   | some z=>have:=(b8 b z A).2;omega) e9 g0⟩
  have a0:Aa (∀a z,gk a=some z->gL a=some z/\a<n2/\a≠n+1):=⟨λa z A=>by
   have h1:=b8 a z A;have h2:=HI.2.1;exact⟨h1.1,by omega,by omega⟩⟩
  have j5:=Xu g1;have b9:=D.out.2.2.1;clear g2 j1 j2 hk HI g0 b8 g1 e9;generalize Av T E ((Am I S).take k)=L0 at *;have j6:=Xu b7;have HE:=Xu hE;have l8:=Xu D.out.1;simp (disch:=first|omega|simp) [*];clear b9;refine Y7 (λm gf H'=>∃(j n3:Nat)(g3:Gb),j<=E.length/\m=E.length-j/\H'=⟨.fn g3,n3⟩/\n2<=n3/\Aa (J4 (λB=>gk B=none) g n [.li I,Z,sv,ev,c4,c5,tv] (L0++Ct T (E.take j) w) g3 n3)/\Aa (∀a z,gk a=some z->g3 a=some z/\a<n2/\a≠n+1) /\
   gf 1=some (.ptr n 0)/\gf 3=some (.ptr (n+1) 0)/\gf 4=some wv/\gf 14=some ev/\gf 15=some (.li E.length)/\gf 16=some (.li j)) (m0:=E.length) ?_ ?_
  .exact⟨0,n2,gL,W3 _,rfl,rfl,Wy _,⟨by rw[List.take_zero];simpa[Ct] using D.out⟩,a0,by simp[*]⟩
  clear D a0;rintro m gf H' ⟨j,n3,g3,hj,rfl,rfl,l9,D,a0,w1,w3,w4,m1,m2,m3⟩ ih;refine Y6 (Ah _ _) hG [] [] (by decide +kernel) ?_;have c0:=Xu D.out.1;have b9:=D.out.2.2.1;have m4:=D.out.2.1;by_cases c2:j<E.length
  .have j7:(j:Int)<(E.length:Int):=by omega
   obtain⟨a2,o2,qv,j8,m5,j9,hq⟩:=j6.out.at c2;rw[<- c0.out a2 j8] at j9;obtain⟨k0,m6,k1⟩:=HE.out _ (W2 c2);have a8:=Xu (b5s (T:=T) (w:=w) c2);have HB:=Xu (b5i (a:=w) (b:=E[j]) (by omega) (by omega) k0 g3 n3 wv qv (Xz (by omega) (λa x _ hx=>(a0.out a x hx).1) j5.out) (X0 (by omega) c0.out hq));clear hq;generalize E[j]=e at *;simp (disch:=first|omega|simp) [*];refine Xv HB.out ?_;rintro _ ⟨uv,g4,n4,rfl,m7,a9,a1,h6⟩;have h7:=Xu a9;have m8:=(a9 n (by omega)).trans b9;have h8:=Xu (e2f h0 i7 (w:=w++e) (by rw[W0];omega) (Iy j3 k1) (.li I) Z sv ev c4 c5 j0 g4 n4 tv uv (hT.mono (by omega) λb hb=>(a9 b (by omega)).trans (c0.out b hb)) a1.rep);have h9:=Xu a1;have k2:=a1.rep.one;have m9:=a1.rep.cell;have i0:=Xu h6;clear HB a9 a1 h6;simp (disch:=first|omega|simp) [*];refine Xv h8.out ?_;rintro _ ⟨kv,g5,n5,rfl,k3,c6,_⟩;have Q:Aa (∀b,b<n3->g5 b=g3 b):=⟨λb hb=>(c6 b (by omega)).trans (h7.out b hb)⟩;have i1:Aa (D8 g5 n3 n5 (w++e) uv):=⟨h9.out.keep (Wy _) k3 λa _ h=>c6 a h⟩;clear h8 h7 h9 c6
   cases hA:Cj T 0 (w++e) with
   | some u =>
    have HL:Aa (J4 (λB=>gk B=none) g n [.li I,Z,sv,ev,c4,c5,tv] (L0++Ct T (E.take (j+1)) w) g5 n5):=⟨by
     rw[a8.out,hA];simpa using D.out.keep (λ_ _ _ h=>h) (by omega) Q.out⟩
    simp only[Option.isSome_some];clear D a8 hA;simp (disch:=first|omega|simp) [*];exact ih.out (E.length-(j+1)) _ _ (by omega) ⟨j+1,n5,g5,by omega,rfl,rfl,by omega,HL,⟨λa z A=>by have:=a0.out a z A;exact⟨(Q.out a (by omega)).trans this.1,this.2⟩⟩,by simp[*]⟩
   | none =>
    have HL:Aa (L0++Ct T (E.take (j+1)) w=(L0++Ct T (E.take j) w)++[w++e]):=⟨by rw[a8.out,hA];simp⟩;have k4:(L0++Ct T (E.take j) w).length<=7000:=by
     have:=a5m (T:=T) (E:=E.take j) (w:=w);rw[W4] at this;rw[W0];omega
    simp only[Option.isSome_none];obtain⟨a3,k5,b0,b1,ov,a4,b2⟩:=D.out;have i2:∀b,b<n3->g5 b=g3 b:=Q.out;have j4:=(i2 (n+1) (by omega)).trans a4;have a5:=Xu a3;have b3:=Xu (And.intro b0 b1);have k6:=Xu k4;clear D a8 hA i2 a3 b0 b1 a4;generalize L0++Ct T (E.take j) w=L1 at *;have n1:allOne [uv]=true:=by simp[k2]
    rcases b2 with⟨rfl,rfl⟩|⟨b4,B,cs,rfl,k7,i3,a6,k8,k9,b5,c8⟩
    .simp (disch:=first|omega|simp) [*];refine ih.out (E.length-(j+1)) _ _ (by omega) ⟨j+1,n5+1+1,_,by omega,rfl,rfl,by omega,⟨?_,by omega,?_,?_,_,Ag,?_⟩,⟨λa z A=>?_⟩,by simp[*]⟩
     .intro b hb;simp (disch:=omega) only[Ad,Ae];exact(Q.out b (by omega)).trans (a5.out b hb)
     .simp (disch:=omega) only[Ad,Ae];exact(Q.out n (by omega)).trans b3.out.1
     .simp (disch:=omega) only[Hq,Ad,Ae];exact(Q.out (n+2) (by omega)).trans b3.out.2
     .rw[HL.out];refine I0.push (gL:=g3) (n2:=n3) (l:=[]) (cs:=[]) 0 ⟨rfl,λk h=>(by cases h)⟩ (by simp) (by omega) (by omega) (λb h1 h2 _=>?_) (i1.out.keep (Wy _) (Wy _) λa h1 h2=>?_) i0.out ?_ ?_
      .simp (disch:=omega) only[Hq,Ad,Ae];exact Q.out b h2
      .simp (disch:=omega) only[Hq,Ad,Ae]
      .simp (disch:=omega) only[Hq,Ag,Ae];rfl
      .cases A:gk (n5+1) with
       | none=>rfl
       | some z=>have:=a0.out _ z A;omega
     .have:=a0.out a z A;simp (disch:=omega) only[Ad,Ae];exact⟨(Q.out a (by omega)).trans this.1,this.2⟩
    .have n6:=(Q.out B (by omega)).trans k8;have n7:=k6.out;have n8:cs.length=L1.length*1:=by omega
     simp (disch:=first|omega|simp) [*];refine ih.out (E.length-(j+1)) _ _ (by omega) ⟨j+1,n5+1+1,_,by omega,rfl,rfl,by omega,⟨?_,by omega,?_,?_,_,Ag,?_⟩,⟨λa z A=>?_⟩,by simp[*]⟩
     .intro b hb;simp (disch:=omega) only[Ad,Ae];exact(Q.out b (by omega)).trans (a5.out b hb)
     .simp (disch:=omega) only[Ad,Ae];exact(Q.out n (by omega)).trans b3.out.1
     .simp (disch:=omega) only[Hq,Ad,Ae];exact(Q.out (n+2) (by omega)).trans b3.out.2
     .rw[HL.out];refine I0.push (gL:=g3) (n2:=n3) B b5 c8 (by omega) (by omega) (λb h1 h2 h3=>?_) (i1.out.keep (Wy _) (Wy _) λa h1 h2=>?_) i0.out ?_ ?_
      .simp (disch:=omega) only[Hq,Ad,Ae];exact Q.out b h2
      .simp (disch:=omega) only[Hq,Ad,Ae]
      .simp (disch:=omega) only[Hq,Ag,Ae]
      .cases A:gk (n5+1) with
       | none=>rfl
       | some z=>have:=a0.out _ z A;omega
     .have:=a0.out a z A;have n9:a≠B:=by rintro rfl;rw[A] at a6;cases a6
      simp (disch:=omega) only[Ad,Ae];exact⟨(Q.out a (by omega)).trans this.1,this.2⟩
  .have j7:¬(j:Int)<(E.length:Int):=by omega
   have HL:Aa (J4 (λ_=>True) g n [.li I,Z,sv,ev,c4,c5,tv] (Av T E ((Am I S).take (k+1))) g3 n3):=⟨by
    rw[g6.out];have:=D.out.keep (Y:=λ_=>True) (λ_ _ _ _=>trivial) (Wy _) (λ_ _=>rfl)
    rwa [Xi (by omega)] at this⟩
   clear D g6;simp (disch:=first|omega|simp) [*];exact HK.out _ _ HL.out
 .refine⟨λb hb=>?_,by omega,?_,Ag,_,?_,.inl ⟨by simp[Av],rfl⟩⟩
  .simp (disch:=omega) only[Ad]
  .simp (disch:=omega) only[Ad,Ag]
  .simp (disch:=omega) only[Ad,Ag]
 .intro gL n2 HI;rw[Xi (Wy _)] at HI;obtain⟨a3,k5,b0,b1,ov,a4,b2⟩:=HI;have a5:=Xu a3;have i4:=Xu b2;clear a3 b2;simp (disch:=first|omega|simp) [*];rcases i4.out with⟨b4,rfl⟩|⟨b4,B,cs,rfl,k7,i3,_,a6,k9,b5,c8⟩
  .refine Xv (e3d _) ?_;rintro _ rfl;simp (disch:=first|omega|simp) [*];refine Xv (e3e _) ?_;rintro _ rfl;simp (disch:=first|omega|simp) [*];exact⟨[],_,_,_,⟨rfl,rfl,rfl⟩,by omega,a5.out,(by first|rfl|simp[b4]),λi j _ hj=>(by cases hj),I0.listF (X:=λ_=>True) (.inl ⟨rfl,rfl⟩)⟩
  .have g8:(Av T E (Am I S)).length<=100000:=by
    have h1:=Pv (T:=T) (E:=E) (ws:=Am I S);have h2:(Am I S).length<=340:=by
     rw[Pu];have:=e5x e0 hI;omega
    have:=e5x h2 e6;omega
   have i5:∀w∈Av T E (Am I S),w.length<=100000:=λw hw=>by
    obtain⟨u,hu,hw⟩:=e6x.1 hw;obtain⟨e,he,rfl⟩:=Xc.1 (e6q.1 hw).1;obtain⟨k,hk⟩:=e8k hu;have h1:=Of b6 hk;have h2:=hE e he;rw[W0];omega
   clear i4;generalize Av T E (Am I S)=U at *;refine Xv (e3c b5 a6 b4 g8 λw hw=>by have:=i5 w hw;omega) ?_;rintro _ ⟨l',a7,hp,hs,rfl,c9,i6⟩;have l0:l'.length=U.length:=hp.length_eq;have HP:=Xu hp;have HS:=Xu hs;have o0:=Xu c9;have l1:=Xu i6;have hb5:(Ak gL B (some (.cells a7 true 1))) (n+1)=some (.cells [.slq B 0 U.length 0] true 0):=by simp (disch:=omega) only[Ad,Ae];exact a4
   have HC:=Xu (e3m (l:=l') c9 Ag (by omega) (by omega) (λw hw=>i5 w (hp.mem_iff.1 hw)));rw[l0] at HC;have l2:Aa (∀b,b<n->Ak gL B (some (.cells a7 true 1)) b=g b):=⟨λb hb=>by simp (disch:=omega) only[Ad,Ae];exact a5.out b hb⟩;have o1:Ak gL B (some (.cells a7 true 1)) B=some (.cells a7 true 1):=Ag;clear hp hs c9 i6 b5 a6 b0 b1 a4;generalize Ak gL B (some (.cells a7 true 1))=g9 at *;simp (disch:=first|omega|simp) [*];refine Xv HC.out ?_;rintro _ ⟨g7,c7,rfl,e1,e2,e3,e4,e5⟩;have E1:=Xu e1;have E5:=Xu (And.intro e4 e5);have l3:=e2;clear HC e1 e4 e5;simp (disch:=first|omega|simp) [*];refine⟨l',_,_,_,⟨rfl,rfl,rfl⟩,by omega,λb hb=>(E1.out b (by omega)).trans (l2.out b hb),HP.out,(λi j h hj=>by have:=HS.out i j h hj;omega),c7.take (Bf l').length,.inr ⟨B,0,i3,.inr ⟨0,rfl⟩,⟨c7,true,1,l3,by rw[W4];omega,by rw[e7r,W4,e5z e3]⟩⟩,?_,λq hq=>c8 q (l1.out q (E5.out.2 q hq))⟩;exact E5.out.1.ext (Wy _) λa z _ A=>by
    obtain⟨f1,f2,f3⟩:=K7 A;rw[De (by omega),E1.out a f2];exact f3
 .intro _ _ h;exact h.elim
end Go.Ai
