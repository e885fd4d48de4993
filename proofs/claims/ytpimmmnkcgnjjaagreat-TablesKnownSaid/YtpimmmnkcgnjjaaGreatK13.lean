/- Parts of an interpreter and of a proof. No condition. -/
import Derived.Test.YtpimmmnkcgnjjaaGreatK12
import Derived.Test.YtpimmmnkcgnjjaaGreatK06
import Derived.Test.YtpimmmnkcgnjjaaGreatK05
import Derived.Test.YtpimmmnkcgnjjaaGreatK09
import Derived.Test.YtpimmmnkcgnjjaaGreatK10
import Derived.Test.YtpimmmnkcgnjjaaGreatK08
set_option linter.all false
set_option maxHeartbeats 40000000
set_option maxRecDepth 10000
open Go.Proofs Go.Proofs.Tryz
namespace Go.Ai
variable {g:Gb}{n B:Nat}{T:Tq}{ts:Lq}{sv:AV}
def a5i(g:Gb)(lo n:Nat):Option (Wd)->AV->Prop
 | none,rv=>rv=.nl
 | some r,rv=>E0 g lo n r rv/\Av rv
theorem e1y{a:Nat}{i:Nat}{w:Wd}(f:a<T.length)(hi:i<(T[a]).length):Bd T ((a:Nat):Int) ((i:Int)::w)=if (T[a][i]).1 = -1 then (if (T[a][i]).2 = -2 then some (List.replicate (w.length+1) (-1)) else none) else (Bd T (T[a][i]).1 w).map ((T[a][i]).2 :: ·):=by
 have e:(T.getD ((a:Nat):Int).toNat []).getD ((i:Nat):Int).toNat (-1,-1)=T[a][i]:=by
  rw[e7b,e7b,Xo,Xo,W5 f];simp[hi]
 rw[Bd,e]
def Iu(T:Tq)(x:Int)(r w:Wd):Option (Wd):=if x = -1 then some (r++List.replicate w.length (-1)) else (Bd T x w).map (r ++ ·)
theorem V1{I:Nat}(h0:0<T.length)(b7:∀r∈T,r.length=I/\∀e∈r,e.1 = -1\/(0<=e.1/\e.1<T.length)){w:Wd}(g6:w.length<=1000)(b8:inW w I=true)(c0 c1 c2 c3 c4 c5:AV)(hc:allOne [c0,c1,c2,c3,c4,c5]=true)(g:Gb)(n:Nat)(tv wv:AV)(hT:Cf g n T tv)(hw:Al g n w wv):
  WC 0 prog 96 [.agg [c0,c1,c2,c3,c4,c5,tv],wv] ⟨.fn g,n⟩ λr=>∃rv g' n',r=.ret (.tup [rv,.lit (.bool (Bd T 0 w).isSome)]) ⟨.fn g',n'⟩/\n<=n'/\(∀b,b<n->g' b=g b)/\a5i g' n n' (Bd T 0 w) rv:=by
 have g7:=@Au prog _ _ _ _ _ hw;have e0:=hT.choose_spec.1.one;have g8:allOne [c0,c1,c2,c3,c4,c5,tv]=true:=by
  simp only[Fi,W0] at hc |-;simp[hc,e0]
 have HT:=Xr hT;have HW:=Xr hw;have e1:=Xr b7;have e5:Aa (∀(k:Nat)(h:k<w.length),∃j:Nat,w[k]=(j:Int)/\j<I):=⟨λk h=>by
  have h2:0<=w[k]/\w[k] < (I:Int):=by simpa using W7.1 b8 _ (W2 h)
  exact⟨(w[k]).toNat,by omega,by omega⟩⟩
 obtain⟨D,b1⟩:∃x,x=Bd T 0 w:=⟨_,rfl⟩;rw[<- b1];have b9:Aa (D=Iu T 0 [] w):=⟨by rw[b1];unfold Iu;rw[if_neg (by decide)];cases Bd T 0 w<;>rfl⟩;clear hT hw b7 b8 b1 hc;have g9:(w.length:Int)<=1048576:=by omega
 refine ent [] func96 ?_;simp (disch:=first|omega|simp) [*];refine Xv (λm Q H'=>∃(k n2:Nat)(gL:Gb)(f:List AV)(r:Wd)(x:Int),k<=w.length/\m=w.length-k/\H'=⟨.fn gL,n2⟩/\n+1+1<=n2/\(x = -1\/(0<=x/\x<T.length))/\Aa (∀b,b<n->gL b=g b)/\gL n=some (.cells [c0,c1,c2,c3,c4,c5,tv] true 0)/\gL (n+1)=some (.cells f true 0)/\f.length=w.length/\Aa (f.take k=wdC r)/\Aa (r.length=k)/\Aa (D=Iu T x r (w.drop k)) /\
  Q 1=some wv/\Q 2=some (.ptr n 0)/\Q 6=some (.sl (n+1) 0 k w.length)/\Q 7=some (.li x)/\Q 14=some wv/\Q 15=some (.li w.length)/\Q 16=some (.li k)) (m0:=w.length) ?_ ?_
 .refine⟨0,_,_,_,[],0,W3 _,rfl,rfl,Wy _,.inr ⟨by decide,by omega⟩,⟨λb U=>?_⟩,?_,Ah,?_,⟨rfl⟩,⟨rfl⟩,b9,by simp[*]⟩
  .simp (disch:=omega) only[Ad]
  .simp (disch:=omega) only[Ad,Ah]
  .rw[Fj];simp
 clear b9;rintro m Q H' ⟨k,n2,gL,f,r,x,hk,rfl,rfl,h3,hx,Z,b2,e6,b3,a8,a9,a5,w1,w2,w6,w7,h4,h5,h7⟩ ih;refine rnd [] ?_;by_cases b0:k<w.length
 .have e7:(k:Int)<(w.length:Int):=by omega
  obtain⟨j,hj,h8⟩:=e5.out k b0;obtain⟨a2,o2,e8,h9,c6⟩:=X5 HW.out b0;rw[<- Z.out a2 e8] at c6;by_cases e9:x = -1
  .subst e9;have a6:Aa (D=Iu T (-1) (r++[-1]) (w.drop (k+1))):=⟨by
    rw[a5.out];unfold Iu;rw[if_pos rfl,if_pos rfl,Xh b0,Xi,e7m];simp⟩
   have a0:k+([.li (-1)]:List AV).length<=f.length:=by simp;omega
   have a1:Aa ((Am f k [.li (-1)]).length=w.length/\(Am f k [.li (-1)]).take (k+1)=wdC (r++[-1])):=⟨by
    refine⟨by rw[C7 a0];exact b3,?_⟩;have h1:=Eg a0;rw[a8.out] at h1;exact h1.trans (by simp[wdC])⟩
   clear a5;simp (disch:=first|omega|simp) [*];refine ih.out (w.length-(k+1)) _ _ (by omega) ⟨k+1,_,_,Am f k [.li (-1)],r++[-1],-1,by omega,rfl,rfl,by omega,by omega,⟨λb U=>?_⟩,?_,?_,a1.out.1,⟨a1.out.2⟩,⟨by simp[a9.out]⟩,a6,by simp[*]⟩
   .simp (disch:=omega) only[Ad,Ae];exact Z.out b U
   .simp (disch:=omega) only[Ad,Ae];exact b2
   .simp (disch:=omega) only[Ad,Ae,Ah]
  .obtain⟨a,rfl⟩:∃a:Nat,x=a:=⟨x.toNat,by omega⟩;have b4:a<T.length:=by omega
   have i0:¬(a:Int)<0:=by omega
   rw[hj] at c6;obtain⟨a3,o3,tq,g0,i1,g1,c7⟩:=HT.out.at b4;have c8:=e1.out _ (W2 b4);have b5:j<(T[a]).length:=by omega
   have a7:=Xr (c8.2 _ (W2 b5));obtain⟨a4,o4,g2,i2,c9⟩:=Vr c7 b5;rw[<- Z.out a3 g0] at g1;rw[<- Z.out a4 g2] at c9;have A:=Xr (show D=(if (T[a][j]).1 = -1 then (if (T[a][j]).2 = -2 then some (List.replicate ((w.drop (k+1)).length+1) (-1)) else none) else (Bd T (T[a][j]).1 (w.drop (k+1))).map ((T[a][j]).2 :: ·)).map (r ++ ·) from by
    rw[a5.out];unfold Iu;rw[if_neg (by omega),Xh b0,hj,e1y b4 b5])
   clear hj c8 c7 a5 hx;generalize T[a][j]=e at *;obtain⟨to,eo⟩:=e;dsimp only at A a7 c9;by_cases ht:to = -1
   .subst ht;rw[if_pos rfl] at A;by_cases ho:eo = -2
    .subst ho;have a6:Aa (D=Iu T (-1) (r++[-1]) (w.drop (k+1))):=⟨by
      rw[A.out,if_pos rfl];unfold Iu;rw[if_pos rfl,e7m];simp⟩
     have a0:k+([.li (-1)]:List AV).length<=f.length:=by simp;omega
     have a1:Aa ((Am f k [.li (-1)]).length=w.length/\(Am f k [.li (-1)]).take (k+1)=wdC (r++[-1])):=⟨by
      refine⟨by rw[C7 a0];exact b3,?_⟩;have h1:=Eg a0;rw[a8.out] at h1;exact h1.trans (by simp[wdC])⟩
     clear A a7;simp (disch:=first|omega|simp) [*];refine ih.out (w.length-(k+1)) _ _ (by omega) ⟨k+1,_,_,Am f k [.li (-1)],r++[-1],-1,by omega,rfl,rfl,by omega,by omega,⟨λb U=>?_⟩,?_,?_,a1.out.1,⟨a1.out.2⟩,⟨by simp[a9.out]⟩,a6,by simp[*]⟩
     .simp (disch:=omega) only[Ad,Ae];exact Z.out b U
     .simp (disch:=omega) only[Ad,Ae];exact b2
     .simp (disch:=omega) only[Ad,Ae,Ah]
    .have hR:D=none:=by rw[A.out,if_neg ho];rfl
     clear A a7;subst hR;simp only[Option.isSome];simp (disch:=first|omega|simp) [*];exact⟨_,_,_,⟨rfl,rfl,rfl⟩,by omega,λb U=>(Ad (by omega)).trans (Z.out b U),rfl⟩
   .rw[if_neg ht] at A;have a6:Aa (D=Iu T to (r++[eo]) (w.drop (k+1))):=⟨by
     rw[A.out];unfold Iu;rw[if_neg ht];cases Bd T to (w.drop (k+1))<;>simp⟩
    have g3:0<=to/\to<T.length:=a7.out.resolve_left ht;have a0:k+([.li (eo)]:List AV).length<=f.length:=by simp;omega
    have a1:Aa ((Am f k [.li (eo)]).length=w.length/\(Am f k [.li (eo)]).take (k+1)=wdC (r++[eo])):=⟨by
     refine⟨by rw[C7 a0];exact b3,?_⟩;have h1:=Eg a0;rw[a8.out] at h1;exact h1.trans (by simp[wdC])⟩
    clear A a7;simp (disch:=first|omega|simp) [*];refine ih.out (w.length-(k+1)) _ _ (by omega) ⟨k+1,_,_,Am f k [.li eo],r++[eo],to,by omega,rfl,rfl,by omega,.inr g3,⟨λb U=>?_⟩,?_,?_,a1.out.1,⟨a1.out.2⟩,⟨by simp[a9.out]⟩,a6,by simp[*]⟩
    .simp (disch:=omega) only[Ad,Ae];exact Z.out b U
    .simp (disch:=omega) only[Ad,Ae];exact b2
    .simp (disch:=omega) only[Ad,Ae,Ah]
 .have e7:¬(k:Int)<(w.length:Int):=by omega
  have g4:k=w.length:=by omega
  have hR:D=some r:=by
   rw[a5.out,e6f (by omega)];unfold Iu;split<;>simp[Bd]
  clear a5;subst hR;simp (disch:=first|omega|simp) [*];have g5:Aa (gL (n+1)=some (.cells (wdC r) true 0)):=⟨by rw[e6,<- a8.out,Xn (by omega)]⟩;refine⟨_,_,_,⟨rfl,rfl,rfl⟩,by omega,Z.out,⟨λx=>if x=n+1 then gL x else none,λx y hx=>?_,?_⟩,λ_ _ _ _ e=>by cases e;omega⟩
  .have b6:(if x=n+1 then gL x else none)=some y:=hx;split at b6
   .exact⟨b6,by omega,by omega⟩
   .cases b6
  .have h6:Al (λx=>if x=n+1 then gL x else none) n2 r (.sl (n+1) 0 r.length w.length):=Al.of (own:=true) (z:=0) ((if_pos rfl).trans g5.out) (by omega);rw[a9.out,g4] at h6;exact h6
theorem el65:Bp prog 65=some (none,1):=by kernel_rfl
def J1(len:Nat)(rv:AV):Prop:=(len=0/\rv=.nl)\/∃a o,rv=.sl a o len len
theorem Pv(w:Wd)(g:Gb)(lo n:Nat)(sv:AV)(hv:N2 g lo n w sv):
  WC 0 prog 93 [sv] ⟨.fn g,n⟩ λr=>∃U,r=.ret U ⟨.fn g,n⟩/\E0 g lo n w U/\J1 w.length U:=by
 rcases hv with⟨rfl,rfl|⟨m,Z,A,rfl,Q⟩⟩|⟨hl,m,Z,A,rfl,Q⟩
 .have D:Aa (E0 g lo n [] (.nl)/\J1 ([]:Wd).length (.nl)):=⟨⟨λ_=>none,λa z h=>(by cases h),.inl ⟨rfl,rfl,.inl rfl⟩⟩,.inl ⟨rfl,rfl⟩⟩;refine ent [] func93 ?_;simp (disch:=first|omega|simp) [*];exact D.out
 .have D:Aa (E0 g lo n [] (.sl m 0 0 0)/\J1 ([]:Wd).length (.sl m 0 0 0)):=⟨⟨λa=>if a=m then g a else none,⟨λa z hz=>(by
   have f:(if a=m then g a else none)=some z:=hz;split at f
   .rename_i h4;subst h4;exact⟨f,Z,A⟩
   .cases f),.inr ⟨m,0,A,.inl ⟨0,rfl⟩,[],true,0,(if_pos rfl).trans Q,by simp[wdC],by simp[wdC]⟩⟩⟩,.inr ⟨_,_,rfl⟩⟩
  refine ent [] func93 ?_;simp (disch:=first|omega|simp) [*];exact D.out
 .have D:Aa (E0 g lo n w (.sl m 0 w.length w.length)/\J1 w.length (.sl m 0 w.length w.length)):=⟨⟨λa=>if a=m then g a else none,⟨λa z hz=>(by
   have f:(if a=m then g a else none)=some z:=hz;split at f
   .rename_i h4;subst h4;exact⟨f,Z,A⟩
   .cases f),.inr ⟨m,0,A,.inl ⟨_,rfl⟩,wdC w,true,1,(if_pos rfl).trans Q,by simp[*]⟩⟩⟩,.inr ⟨_,_,rfl⟩⟩
  clear Q;have a0:¬w=[]:=λh=>by rw[h] at hl;cases hl
  refine ent [] func93 ?_;simp (disch:=first|omega|simp) [*];exact D.out
def RowK(g:Gb)(lo n:Nat):Option (Wd)->AV->Prop
 | none,rv=>rv=.nl
 | some r,rv=>E0 g lo n r rv/\J1 r.length rv
def a5j(g:Gb)(lo n A c:Nat)(r:Wd)(rv:AV):Prop:=
 (∃Lo,rv=.sl A 0 r.length c/\lo<=A/\A<n/\g A=some (.cells Lo true 0)/\Lo.length=c/\Lo.take r.length=wdC r/\r.length<=c)\/(0<r.length/\∃B,rv=.slq B 0 r.length 0/\lo<=B/\B<n/\g B=some (.cells (wdC r) true 1))
theorem a5j.rep{lo A c:Nat}{r:Wd}{Q:AV}(h:a5j g lo n A c r Q):Al g n r Q:=by
 rcases h with⟨U,rfl,Z,f,D,h4,h5,h6⟩|⟨h0,B,rfl,Z,f,D⟩
 .refine .inr ⟨A,0,f,.inl ⟨c,rfl⟩,U,true,0,D,?_,?_⟩
  .rw[Cb];omega
  .rw[Cb,e7u];exact h5
 .exact .inr ⟨B,0,f,.inr ⟨0,rfl⟩,wdC r,true,1,D,by simp[*]⟩
theorem a5k{I:Nat}(h0:0<T.length)(c6:∀r∈T,r.length=I/\∀e∈r,e.1 = -1\/(0<=e.1/\e.1<T.length)){w:Wd}{E:Wq}(j5:w.length<=300)(j6:E.length<=100)(c7:inW w I=true)(hE:∀e∈E,0<e.length/\e.length<=300/\inW e I=true)(c0 c1 c2 c4 c5:AV)(hc:allOne [c0,c1,c2,c4,c5]=true)(g:Gb)(n:Nat)(ev tv wv:AV)(a6:Cd g n E ev)(hT:Cf g n T tv)(hw:Al g n w wv):
  WC 0 prog 79 [.agg [c0,c1,c2,ev,c4,c5,tv],wv] ⟨.fn g,n⟩ λr=>∃D g' n',r=.ret (.tup [D,.lit (.bool (Cl T w E).isSome)]) ⟨.fn g',n'⟩/\n<=n'/\(∀b,b<n->g' b=g b)/\RowK g' n n' (Cl T w E) D:=by
 have j7:=@Au prog _ _ _ _ _ hw;have j8:=@Au prog _ _ _ _ _ a6.choose_spec.1;have h3:=hT.choose_spec.1.one;have c8:=a6.choose_spec.1.one;have j9:allOne [c0,c1,c2,ev,c4,c5,tv]=true:=by
  simp only[Fi,W0] at hc |-;simp[hc,h3,c8]
 have c9:allOne [c0,c1,c2,ev,c4,c5]=true:=by
  simp only[Fi,W0] at hc |-;simp[hc,c8]
 have h4:=Xr a6;have HE:=Xr hE;have h5:=Xr λ(e:Wd)(he:e∈E)(Q:Gb)(n2:Nat)(qv:AV) (hn:n<=n2) (hX:∀b,b<n->Q b=g b) (hq:Al Q n2 e qv)=>V0 (a:=w) (b:=e) (by omega) (by have:=(hE e he).2.1;omega) (hE e he).1 Q n2 wv qv (Xw hn hX hw) hq;have h7:=Xr λ(e:Wd)(he:e∈E)(Q:Gb)(n2:Nat)(uv:AV) (hn:n<=n2) (hX:∀b,b<n->Q b=g b) (hu:Al Q n2 (w++e) uv)=>V1 h0 c6 (w:=w++e) (by rw[W1];have:=(hE e he).2.1;omega) (N5 c7 (hE e he).2.2) c0 c1 c2 ev c4 c5 c9 Q n2 tv uv (hT.mono hn hX) hu;obtain⟨a4,b2⟩:∃x,x=Cl T w E:=⟨_,rfl⟩;rw[<- b2];have e0:Aa (a4=(Cl T w (E.drop 0)).map (λx=>[]++x)):=⟨by rw[b2,e7u];cases Cl T w E<;>rfl⟩;have k0:(E.length:Int)<=100:=by omega
 clear hT hw a6 hE c7 c6 b2 hc c9;refine ent pl79 func79 ?_;simp (disch:=first|omega|simp) [*];obtain⟨c,e1⟩:∃c:Nat,(2*(E.length:Int)).toNat=c:=⟨_,rfl⟩;rw[e1];have k1:c<=200:=by omega
 clear e1;refine Xv (λm U H'=>∃(k n2:Nat)(gL:Gb)(D:AV)(r:Wd),k<=E.length/\m=E.length-k/\H'=⟨.fn gL,n2⟩/\n+1+1<=n2/\r.length<=300*k/\Aa (∀b,b<n->gL b=g b)/\gL n=some (.cells [c0,c1,c2,ev,c4,c5,tv] true 0)/\Aa (a5j gL (n+1) n2 (n+1) c r D)/\Aa (a4=(Cl T w (E.drop k)).map (r ++ ·)) /\
  U 1=some wv/\U 2=some (.ptr n 0)/\U 6=some D/\U 17=some ev/\U 18=some (.li E.length)/\U 19=some (.li k)) (m0:=E.length) ?_ ?_
 .refine⟨0,n+1+1,_,_,[],W3 _,rfl,rfl,Wy _,Wy _,⟨λb f=>?_⟩,?_,⟨.inl ⟨_,rfl,by omega,by omega,Ah,?_,rfl,W3 _⟩⟩,e0,by simp[*]⟩
  .simp (disch:=omega) only[Ad]
  .simp (disch:=omega) only[Ad,Ah]
  .rw[Fj];simp
 clear e0;rintro m U H' ⟨k,n2,gL,D,r,hk,rfl,rfl,k2,k3,A,e5,e6,a7,w1,w2,w6,k4,k5,k6⟩ ih;refine rnd pl79 ?_;by_cases b3:k<E.length
 .have h8:(k:Int)<(E.length:Int):=by omega
  obtain⟨a2,o2,qv,i0,k7,i1,hq⟩:=h4.out.at b3;rw[<- A.out a2 i0] at i1;have a8:=W2 b3;have k8:=HE.out _ a8;have a3:=Xr (a7.out.trans (congrArg _ (e1t (T:=T) (w:=w) b3)));have HB:=Xr (h5.out _ a8 gL n2 qv (by omega) A.out (Xw (by omega) A.out hq));have HK:=Xr (h7.out _ a8);clear hq a7 a8;generalize E[k]=e at *;simp (disch:=first|omega|simp) [*];refine Xs HB.out ?_;rintro _ ⟨uv,g3,n3,rfl,k9,b0,Z,i2⟩;have e7:=Xr b0;have l0:=(b0 n (by omega)).trans e5;have e8:=Xr (HK.out g3 n3 uv (by omega) (λb f=>(b0 b (by omega)).trans (A.out b f)) Z.rep);clear b0 Z HB HK i2;simp (disch:=first|omega|simp) [*];refine Xs e8.out ?_;rintro _ ⟨kv,g4,n4,rfl,l1,e9,a5⟩;have a0:Aa (∀b,b<n2->g4 b=gL b):=⟨λb f=>(e9 b (by omega)).trans (e7.out b f)⟩;have b4:=(a0.out n (by omega)).trans e5;clear e9 e8 e7
  cases hA:Bd T 0 (w++e) with
  | none =>
   rw[hA] at a5 a3;have i3:kv=.nl:=a5;have hR:a4=none:=a3.out;clear a5 a3 hA;subst i3 hR;simp only[Option.isSome];simp (disch:=first|omega|simp) [*];exact⟨_,_,_,⟨rfl,rfl,rfl⟩,by omega,λb f=>(a0.out b (by omega)).trans (A.out b f),rfl⟩
  | some u =>
   rw[hA] at a5 a3;have i4:=Su _ _ _ hA;rw[W1] at i4;simp only[e9a];obtain⟨Z,i5⟩:=a5;have b5:0<u.length-w.length:=by omega
   obtain⟨l2,a1,l3⟩:=Af.lo el65 Z.rep i5 (k:=w.length) (by omega) (by rw[Cb,Xk]);have i6:(wdC u).drop (w.length*1)=wdC (u.drop w.length):=by simp[wdC,List.map_drop]
   rw[i6] at a1;have b6:(wdC (u.drop w.length)).length=(u.length-w.length)*1:=by rw[Cb,e8j,Xk]
   have l4:=wdC_one (u.drop w.length);have g0:(r++u.drop w.length).length=r.length+(u.length-w.length):=by rw[W1,e8j]
   have b7:Aa (a4=(Cl T w (E.drop (k+1))).map ((r++u.drop w.length) ++ ·)):=⟨by
    rw[a3.out];dsimp only;cases Cl T w (E.drop (k+1))<;>simp⟩
   have h:=Xr g0;clear a3 hA g0;rcases e6.out with⟨Lo,rfl,l5,l6,b8,i7,b1,l7⟩|⟨h6,B,rfl,l8,l9,g1⟩
   .have m1:=(a0.out (n+1) (by omega)).trans b8;by_cases i8:r.length+(u.length-w.length)<=c
    .obtain⟨a9,blk,g2,g6,g7⟩:=Af.apr (P:=prog) (sz:=1) a1 b5 b6;have i9:0+r.length*1+(wdC (u.drop w.length)).length<=Lo.length:=by omega
     have b9:=Xr b1;clear a1 Z b8 b1;simp (disch:=first|omega|simp) [*];refine ih.out (E.length-(k+1)) _ _ (by omega) ⟨k+1,n4,_,.sl (n+1) 0 (r.length+(u.length-w.length)) c,r++u.drop w.length,by omega,rfl,rfl,by omega,by rw[h.out];omega,⟨λb f=>?_⟩,?_,⟨.inl ⟨Am Lo r.length (wdC (u.drop w.length)),by rw[h.out],by omega,by omega,Ah,?_,?_,by rw[h.out];exact i8⟩⟩,b7,by simp[*]⟩
     .simp (disch:=omega) only[Ad,Ae];exact(a0.out b (by omega)).trans (A.out b f)
     .simp (disch:=omega) only[Ad,Ae];exact b4
     .rw[C7 (by omega)];exact i7
     .have h9:=Eg (l:=Lo) (new:=wdC (u.drop w.length)) (off:=r.length) (by omega);rw[b9.out,show r.length+(wdC (u.drop w.length)).length=(r++u.drop w.length).length by rw[h.out];omega] at h9;rw[h9];simp[wdC]
    .obtain⟨a9,blk,g2,g6,g7⟩:=Af.apo (P:=prog) (sz:=1) a1 b5 (by omega) b6;have m2:c<r.length+(u.length-w.length):=by omega
     have i9:0+r.length*1<=Lo.length:=by omega
     have m3:r.length<=40000:=by omega
     have b9:=Xr b1;clear a1 Z b8 b1;simp (disch:=first|omega|simp) [*];refine ih.out (E.length-(k+1)) _ _ (by omega) ⟨k+1,n4+1,_,.slq n4 0 (r.length+(u.length-w.length)) 0,r++u.drop w.length,by omega,rfl,rfl,by omega,by rw[h.out];omega,⟨λb f=>?_⟩,?_,⟨.inr ⟨by rw[h.out];omega,n4,by rw[h.out],by omega,by omega,Ah.trans ?_⟩⟩,b7,by simp[*]⟩
     .simp (disch:=omega) only[Ad,Ae];exact(a0.out b (by omega)).trans (A.out b f)
     .simp (disch:=omega) only[Ad,Ae];exact b4
     .have h9:=b9.out;simp[h9,wdC]
   .obtain⟨a9,blk,g2,g6,g7⟩:=Af.apq (P:=prog) (sz:=1) a1 b5 (by omega) b6;have m4:=(a0.out B (by omega)).trans g1;have m5:r.length<=40000:=by omega
    have m6:(wdC r).length=r.length*1:=by rw[Cb,Xk]
    clear a1 Z g1;simp (disch:=first|omega|simp) [*];refine ih.out (E.length-(k+1)) _ _ (by omega) ⟨k+1,n4+1,_,.slq n4 0 (r.length+(u.length-w.length)) 0,r++u.drop w.length,by omega,rfl,rfl,by omega,by rw[h.out];omega,⟨λb f=>?_⟩,?_,⟨.inr ⟨by rw[h.out];omega,n4,by rw[h.out],by omega,by omega,Ah.trans (by simp[wdC])⟩⟩,b7,by simp[*]⟩
    .simp (disch:=omega) only[Ad,Ae];exact(a0.out b (by omega)).trans (A.out b f)
    .simp (disch:=omega) only[Ad,Ae];exact b4
 .have h8:¬(k:Int)<(E.length:Int):=by omega
  have hR:a4=some r:=by
   rw[a7.out,e6f (by omega)];simp[Cl]
  clear a7;subst hR;have j0:=Xr (Pm r (by omega) gL n2 D e6.out.rep);simp (disch:=first|omega|simp) [*];refine Xs j0.out ?_;rintro _ ⟨j1,g5,n5,rfl,m7,g8,g9⟩;have j2:=Xr g8;clear g8;simp (disch:=first|omega|simp) [*];refine Xs (Pv r g5 n2 n5 j1 g9) ?_;rintro _ ⟨m8,rfl,h1,h2⟩;have j3:=Xr h1;have j4:=Xr h2;clear h1 h2 g9;simp (disch:=first|omega|simp) [*];exact⟨_,_,_,⟨rfl,rfl,rfl⟩,by omega,λb f=>(j2.out b (by omega)).trans (A.out b f),j3.out.keep (by omega) (Wy _) (λ_ _ _=>rfl),j4.out⟩
def N6(g:Gb)(lo n B:Nat)(ts:Lq)(sv:AV):Prop:=∃cs,D4 g lo n B sv ts.length 2 cs/\RowsF g lo n B ts cs/\∀v∈cs,Av v
theorem N6.logF{lo:Nat}(h:N6 g lo n B ts sv):Mj g lo n B ts sv:=let ⟨cs,f,A,_⟩:=h;⟨cs,f,A⟩
theorem N6.one{lo:Nat}(h:N6 g lo n B ts sv):oneC sv=true:=h.logF.one
theorem N6.keep{g': Gb}{lo D n':Nat}(h:N6 g lo n B ts sv)(U:D<=lo)(Z:n<=n')(Q:∀a,lo<=a->a<n->g' a=g a):N6 g' D n' B ts sv:=by
 obtain⟨cs,f,h3,A⟩:=h;refine⟨cs,?_,h3.keep U Z (.inr (.inl rfl)) λa A h5 _=>Q a A h5,A⟩;rcases f with f|⟨k1,k2,k3,k4,k5,k6⟩
 .exact .inl f
 .exact .inr ⟨k1,k2,by omega,by omega,(Q B k3 k4).trans k5,k6⟩
end Go.Ai
