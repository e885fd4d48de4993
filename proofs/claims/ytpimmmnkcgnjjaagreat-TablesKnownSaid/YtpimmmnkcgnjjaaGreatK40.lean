/- Parts of an interpreter and of a proof. No condition. -/
import Derived.Test.YtpimmmnkcgnjjaaGreatK39
set_option linter.all false
set_option maxHeartbeats 40000000
set_option maxRecDepth 10000
open Go.Proofs Go.Proofs.Tryz
namespace Go.Ai
variable {I n:Nat}{T:Tq}{E S:Wq}{g:Gb}{O:Int}
theorem a6e{R:Wq}{w:Wd}:(H5 T E R I w).length=I:=by unfold H5;simp
theorem e4w{R:Wq}{w:Wd}{i:Nat}(h:i<I):(H5 T E R I w).take (i+1)=(H5 T E R I w).take i++[Od T E R (w++[(i:Int)])]:=by
 rw[e7h (by rw[a6e];exact h)];unfold H5;simp
def My(T:Tq)(E R:Wq)(I:Nat)(S:Wq)(g:Gb)(lo n:Nat)(k:Nat)(cs:List AV):Prop:=cs.length=S.length/\∀j (h:j<S.length),j<k->∃B,cs[j]?=some (.sl B 0 I I)/\lo<=B/\B<n/\g B=some (.cells (Ar (H5 T E R I S[j])) true 0)
theorem My.step{R:Wq}{A:Gb}{lo D k B:Nat}{cs f:List AV}(h:My T E R I S g lo n k cs)(hk:k<S.length)(U:f.length=cs.length)(Z:∀j,j<k->f[j]?=cs[j]?)(a0:f[k]?=some (.sl B 0 I I))(a1:lo<=B)(a2:B<D)(a3:A B=some (.cells (Ar (H5 T E R I S[k])) true 0))(hn:n<=D)(hg:∀b,lo<=b->b<n->A b=g b):My T E R I S A lo D (k+1) f:=by
 refine⟨U.trans h.1,λj hj a4=>?_⟩;by_cases e:j=k
 .subst e;exact⟨B,a0,a1,a2,a3⟩
 .obtain⟨B',h1,Q,h3,h4⟩:=h.2 j hj (by omega);exact⟨B',(Z j (by omega)).trans h1,Q,by omega,(hg B' Q h3).trans h4⟩
theorem My.tree{lo M:Nat}{cs:List AV}(h:My T E (Ba T E S) I S g lo n S.length cs)(A:M<n)(D:g M=some (.cells cs true 0)):Cf g n (J5 T E I S) (.sl M 0 S.length S.length):=by
 have f:(J5 T E I S).length=S.length:=by unfold J5;simp
 refine⟨cs,?_,?_,λk hk=>?_⟩
 .rw[f];exact .inr ⟨M,0,A,.inl ⟨_,rfl⟩,cs,true,0,D,by simp[*]⟩
 .rw[f];exact h.1
 .obtain⟨B,Q,h2,U,Z⟩:=h.2 k (by omega) (by omega);refine⟨_,Q,?_⟩;have e:(J5 T E I S)[k]'hk=H5 T E (Ba T E S) I (S[k]'(by omega)):=e6e _;rw[e,a6e];exact .inr ⟨B,0,U,.inl ⟨_,rfl⟩,_,true,0,Z,by simp[*]⟩
def K4(g:Gb)(n I:Nat)(O:Int)(e:Int)(rows:Tq)(r:Ay):Prop:=∃hv g' n',r=.ret (.tup [.agg [.li (if e=0 then (I:Int) else 0),.li (if e=0 then O else 0),hv],.li e]) ⟨.fn g',n'⟩/\n<=n'/\(∀b,b<n->g' b=g b)/\Cf g' n' (if e=0 then rows else []) hv/\J1 (if e=0 then rows else []).length hv
theorem K4.err{g': Gb}{n':Nat}{e:Int}{rows:Tq}(f:e≠0)(A:n<=n')(D:∀b,b<n->g' b=g b):K4 g n I O e rows (.ret (.tup [.agg [.li 0,.li 0,.nl],.li e]) ⟨.fn g',n'⟩):=by
 refine⟨_,g',n',by rw[if_neg f,if_neg f],A,D,?_,?_⟩
 .rw[if_neg f];exact⟨[],.inl ⟨rfl,rfl,.inl rfl⟩,rfl,λk h=>by cases h⟩
 .rw[if_neg f];exact .inl ⟨rfl,rfl⟩
theorem K4.ok{g': Gb}{n' M k:Nat}{rows:Tq}(f:n<=n')(h:∀b,b<n->g' b=g b)(A:Cf g' n' rows (.sl M 0 k k))(D:k=rows.length):K4 g n I O 0 rows (.ret (.tup [.agg [.li I,.li O,.sl M 0 k k],.li 0]) ⟨.fn g',n'⟩):=by
 subst D;exact⟨_,g',n',by rw[if_pos rfl,if_pos rfl],f,h,by rw[if_pos rfl];exact A,by rw[if_pos rfl];exact .inr ⟨_,_,rfl⟩⟩
theorem e4x(Q:Hw I O S E T)(c0:∀w∈S,w.length<=299)(g:Gb)(n:Nat)(sv ev tv:AV)(h:A7 g n S E T sv ev tv):
  WC 0 prog 31 [.agg [.li I,.li O,sv,ev,.li I,.li O,tv]] ⟨.fn g,n⟩ (K4 g n I O (Wj T E I S) (J5 T E I S)):=by
 have c1:=h.s.one;have h7:=h.e.one;have m6:=h.t.choose_spec.1.one;have r4:allOne [.li I,.li O,sv,ev,.li I,.li O,tv]=true:=by simp[c1,h7,m6]
 have m7:allOne [.li I,.li O,sv,.li I,.li O]=true:=by simp[c1]
 have m8:allOne [.li I,.li O,sv,ev,.li I,.li O]=true:=by simp[c1,h7]
 have r5:=@Au prog _ _ _ _ _ h.s.listV.choose_spec.1;have h8:=Xr λ(gX:Gb)(n2:Nat)(U:n<=n2)(hX:∀b,b<n->gX b=g b)=>Q.check (h.mono U hX);have h9:=Xr λ(gX:Gb)(n2:Nat)(U:n<=n2)(hX:∀b,b<n->gX b=g b)=>a5x Q.i1 (by have:=Q.i2;omega) (by have:=Q.sl;omega) Q.sw (by have:=Q.el;omega) (W6 (e6m (Nat.add_le_add Q.sl (e6m Q.sl Q.i2)) Q.el) (by decide)) Q.ew Q.t0 Q.ok (.li O) (.li I) (.li O) rfl gX n2 sv ev tv (h.mono U hX).s.listV (h.mono U hX).e.listV (h.mono U hX).t;have i0:=Xr λ(gX:Gb)(n2:Nat)(U:n<=n2)(hX:∀b,b<n->gX b=g b)=>e4q Q (.li I) (.li O) (.li I) (.li O) rfl gX n2 sv ev tv (h.mono U hX).s.listV (h.mono U hX).e.listV (h.mono U hX).t;have i3:=Xr λ(gX:Gb)(n2 A:Nat)(U:n<=n2)(hX:∀b,b<n->gX b=g b)(hA:A<n2) (a3:StB gX A (Ba T E S))=>e4t Q c0 (.li O) (.li I) (.li O) rfl gX n2 A sv ev tv (h.mono U hX).s.listV (h.mono U hX).e.listV (h.mono U hX).t hA a3;have m9:=Xr λ(w:Wd)(i4:w.length<=300)(c2:inW w I=true)(gX:Gb)(n2:Nat) (wv:AV) (U:n<=n2) (hX:∀b,b<n->gX b=g b) (hw:Al gX n2 w wv)=>a6c Q.t0 Q.ok (w:=w) (by omega) c2 (.li I) (.li O) sv ev (.li I) (.li O) m8 gX n2 tv wv (h.mono U hX).t hw;have n9:=Xr λ(w:Wd)(o0:0<w.length)(i4:w.length<=300)(c2:inW w I=true)(gX:Gb) (n2 A:Nat) (wv:AV) (U:n<=n2) (hX:∀b,b<n->gX b=g b) (hw:Al gX n2 w wv) (hA:A<n2) (a3:StB gX A (Ba T E S))=>e4s Q (w:=w) o0 i4 c2 (.li I) (.li O) sv (.li I) (.li O) m7 gX n2 A ev tv wv (h.mono U hX).e.listV (h.mono U hX).t hw hA a3;have c6:=Xr (e4v (T:=T) (E:=E) (I:=I) (S:=S));have c7:Aa ((A2 T E (Aq I S)).isEmpty=decide ((A2 T E (Aq I S)).length=0)):=⟨by cases A2 T E (Aq I S)<;>rfl⟩;have HS:=Xr h.s.listV;have o1:=Xr λw (hw:w∈S)=>(And.intro (c0 w hw) (Q.sw w hw).2);have i5:=Q.s0;have r6:=Q.sl;have r7:=Q.i2;have r8:(S.length:Int)<=1048576:=by omega
 have r9:(I:Int)<=1048576:=by omega
 have c8:(0:Int)<=(I:Int):=by omega
 have c9:Aa (a6b T E S=(decide (Ix (Ba T E S)<S.length)||S.any λw=>!Eo T w)):=⟨rfl⟩;obtain⟨er,b0⟩:∃x,x=Wj T E I S:=⟨_,rfl⟩;rw[<- b0];unfold Wj at b0;have a0:=Xr b0;have b1:=Xr λ(g' : Gb)(n' : Nat)(he:er≠0)(U:n<=n')(hg:∀b,b<n->g' b=g b)=>K4.err (I:=I) (O:=O) (rows:=J5 T E I S) he U hg;have o3:=Xr λ(he:er=0)(g' : Gb)(n' M lo:Nat)(cs:List AV)(U:n<=n') (hg:∀b,b<n->g' b=g b) (hM:M<n') (a8:g' M=some (.cells cs true 0)) (hH:My T E (Ba T E S) I S g' lo n' S.length cs)=>(show K4 g n I O er (J5 T E I S) (.ret (.tup [.agg [.li I,.li O,.sl M 0 S.length S.length],.li 0]) ⟨.fn g',n'⟩) from by
  rw[he];exact K4.ok U hg (hH.tree hM a8) (by unfold J5;simp))
 clear h Q c0 b0;generalize K4 g n I O er (J5 T E I S)=K at *;refine ent pl31 func31 ?_;simp (disch:=first|omega|simp) [*];refine Xs (h8.out _ _ (by omega) λb f=>by simp (disch:=omega) only[Ad]) ?_;rintro _ rfl;simp (disch:=first|omega|simp) [*];refine Xs (h9.out _ _ (by omega) λb f=>by simp (disch:=omega) only[Ad]) ?_;rintro _ ⟨l',ov,g1,n1,rfl,s3,b2,i6,_,i7⟩;have b3:=e4u i6;have o4:=@Au prog _ _ _ _ _ i7.len;have e0:Aa (∀b,b<n->g1 b=g b):=⟨λb f=>by rw[b2 b (by omega)];simp (disch:=omega) only[Ad]⟩;have i8:=(b2 n (by omega)).trans ((Ad (by omega)).trans Ah);have i9:=(b2 (n+1) (by omega)).trans Ah;clear b2 i7 h8 h9 i6;by_cases h0:0<(A6 l').length
 .have c8:(0:Int)<((A6 l').length:Int):=by omega
  have he:er=6:=by rw[a0.out,c7.out,decide_eq_false (by have:=b3.1 h0;omega)];rfl
  subst he;clear b3;simp (disch:=first|omega|simp) [*];refine b1.out _ _ (by decide) (by omega) λb f=>?_;simp (disch:=omega) only[Ad,Ae];exact e0.out b f
 have c8:¬(0:Int)<((A6 l').length:Int):=by omega
 have hf:(A2 T E (Aq I S)).isEmpty=true:=by rw[c7.out,decide_eq_true];have:=mt b3.2 h0;omega
 rw[hf,if_neg (by decide)] at a0;clear b3 hf c7;simp (disch:=first|omega|simp) [*];refine Xs (i0.out _ _ (by omega) e0.out) ?_;rintro _ ⟨A,g2,n2,rfl,s4,b4,s5,j0,a3⟩;have j1:Aa (∀b,b<n->g2 b=g b):=⟨λb f=>(b4 b (by omega)).trans (e0.out b f)⟩;have j2:=(b4 n (by omega)).trans i8;have j3:=(b4 (n+1) (by omega)).trans i9;have j4:=Xr (i3.out g2 n2 A (by omega) j1.out j0 a3);have j5:=Xr a3;clear b4 a3 i0 i3 i8 i9 o4 c8 h0;simp (disch:=first|omega|simp) [*];refine Xs j4.out ?_;rintro _ ⟨rv,g3,D,rfl,s6,a9,e5⟩;have j6:Aa (∀b,b<n->g3 b=g b):=⟨λb f=>(a9 b (by omega)).trans (j1.out b f)⟩;have o5:=(a9 n (by omega)).trans j2;have o6:=(a9 (n+1) (by omega)).trans j3;have o7:=@Au prog _ _ _ _ _ e5;have o8:=e5.one;have o9:Aa (StB g3 A (Ba T E S)):=⟨let ⟨L,c,h1,h2⟩:=j5.out;⟨L,c,(a9 A j0).trans h1,h2⟩⟩;clear a9 e5 j4 j5 j2 j3;generalize (Hz T E I S).getD []=ow at *;by_cases ho:0<ow.length
 .have j7:(0:Int)<(ow.length:Int):=by omega
  have he:er=6:=by rw[a0.out,<- c6.out,decide_eq_true ho];rfl
  subst he;simp (disch:=first|omega|simp) [*];refine b1.out _ _ (by decide) (by omega) λb f=>?_;simp (disch:=omega) only[Ad,Ae];exact j6.out b f
 have j7:¬(0:Int)<(ow.length:Int):=by omega
 have hf:(Hz T E I S).isSome=false:=by rw[<- c6.out,decide_eq_false ho]
 rw[hf,if_neg (by decide)] at a0;clear hf c6;simp (disch:=first|omega|simp) [*];clear ho j7 o7 o8;have j8:Ak (Ak g3 D (some (.cells (List.replicate S.length (.nl)) true 0))) (D+1) (some (.cells [.li I,.li O,.sl D 0 S.length S.length] true 0)) D=some (.cells (List.replicate S.length (.nl)) true 0):=by simp (disch:=omega) only[Ad,Ah]
 refine Xv (λm Z H'=>∃(k n4:Nat)(gL:Gb)(cs:List AV),k<=S.length/\m=S.length-k/\H'=⟨.fn gL,n4⟩/\D+1+1<=n4/\Aa (∀b,b<D->gL b=g3 b)/\gL D=some (.cells cs true 0)/\gL (D+1)=some (.cells [.li I,.li O,.sl D 0 S.length S.length] true 0)/\cs.length=S.length/\Aa (My T E (Ba T E S) I S gL (D+1+1) n4 k cs)/\Aa (∀j (h:j<S.length),j<k->¬Ix (Ba T E S)<S.length/\Eo T S[j]=true) /\
  Z 1=some (.ptr n 0)/\Z 2=some (.ptr (n+1) 0)/\Z 3=some (.li 0)/\Z 5=some (.map A)/\Z 6=some (.ptr (D+1) 0)/\Z 39=some sv/\Z 40=some (.li S.length)/\Z 41=some (.li k)) (m0:=S.length) ?_ ?_
 .refine⟨0,_,_,_,W3 _,rfl,rfl,Wy _,⟨λb f=>?_⟩,j8,Ah,by simp,⟨⟨by simp,λj h h2=>by omega⟩⟩,⟨λj h h2=>by omega⟩,by simp[*]⟩;simp (disch:=omega) only[Ad]
 clear j8;rintro m Z H' ⟨k,n4,gL,cs,hk,rfl,rfl,s7,HG,a8,j9,p0,HH,HN,w1,w2,w3,w5,w6,k0,k1,k2⟩ ih;refine rnd pl31 ?_;have k3:=(HG.out n (by omega)).trans o5;have k4:=(HG.out (n+1) (by omega)).trans o6;have a6:Aa (∀b,b<n->gL b=g b):=⟨λb f=>(HG.out b (by omega)).trans (j6.out b f)⟩;by_cases b5:k<S.length
 .have p1:(k:Int)<(S.length:Int):=by omega
  obtain⟨L,c,e6,hL⟩:=o9.out;have p2:A<D:=by omega
  have p3:=Xr e6;have p4:=Xr hL;have p5:=(HG.out A (by omega)).trans e6;have b6:=hL.2;obtain⟨a2,o2,qv,p6,s8,p7,hq⟩:=HS.out.at b5;rw[<- a6.out a2 p6] at p7;obtain⟨s9,k5⟩:=o1.out _ (W2 b5);have HQ:=Xr hq;have e7:Aa (Ix (Ba T E S)<S.length->er=12):=⟨λh=>by
   rw[a0.out,if_pos];rw[c9.out,decide_eq_true h];rfl⟩
  have b7:Aa (Eo T S[k]=false->er=12):=⟨λh=>by
   rw[a0.out,if_pos];rw[c9.out,e9i.2 ⟨S[k],W2 b5,by rw[h];rfl⟩,e9j]⟩
  have e8:Aa (¬Ix (Ba T E S)<S.length->Eo T S[k]=true->∀j (h:j<S.length),j<k+1->¬Ix (Ba T E S)<S.length/\Eo T S[j]=true):=⟨λh1 h2 j hj k6=>by
   by_cases e:j=k
   .subst e;exact⟨h1,h2⟩
   .exact HN.out j hj (by omega)⟩
  clear hq e6 hL HN;generalize Ix (Ba T E S)=dc at *;by_cases hd:dc<S.length
  .have e9:(dc:Int)<(S.length:Int):=by omega
   have he:=e7.out hd;subst he;rw[<- b6] at hd e9;clear e7 b7 e8 b6 a0;simp (disch:=first|omega|simp) [*];refine b1.out _ _ (by decide) (by omega) λb f=>?_;simp (disch:=omega) only[Ad,Ae];exact a6.out b f
  .have e9:¬(dc:Int)<(S.length:Int):=by omega
   have g0:=Xr (e8.out hd);rw[<- b6] at hd e9;clear b6 e8 e7;simp (disch:=first|omega|simp) [*];refine Xs (m9.out _ (by omega) k5 _ _ qv (by omega) a6.out (Xw (by omega) a6.out HQ.out)) ?_;rintro _ ⟨g5,n5,rfl,u0,a4⟩;have k7:Aa (∀b,b<n->g5 b=g b):=⟨λb f=>(a4 b (by omega)).trans (a6.out b f)⟩;have g4:=Xr a4;have p8:=(a4 n (by omega)).trans k3;have p9:=(a4 (n+1) (by omega)).trans k4;have u1:=(a4 D (by omega)).trans a8;have q0:=(a4 (D+1) (by omega)).trans j9;clear a4 k3 k4 a8 j9 p5
   cases b8:Eo T S[k] with
   | false =>
    have he:=b7.out b8;subst he;clear b8 b7 g0 a0;simp (disch:=first|omega|simp) [*];refine b1.out _ _ (by decide) (by omega) λb f=>?_;simp (disch:=omega) only[Ad,Ae];exact k7.out b f
   | true =>
    have q1:=Xr (g0.out b8);clear b8 b7 g0;have q2:k<cs.length:=by omega
    simp (disch:=first|omega|simp) [*];have k8:∀z,Ak (Ak g5 n5 z) D (some (.cells (cs.set k (.sl n5 0 I I)) true 0)) n5=z:=λz=>by rw[Ae (by omega)];exact Ah
    refine Xv (λm Z H'=>∃(i n6:Nat)(gY:Gb)(Lr:List AV),i<=I/\m=I-i/\H'=⟨.fn gY,n6⟩/\n5+1<=n6/\Aa (∀b,b<n5->b≠D->gY b=g5 b)/\gY D=some (.cells (cs.set k (.sl n5 0 I I)) true 0)/\gY n5=some (.cells Lr true 0)/\Lr.length=I*2/\Aa (Lr.take (i*2)=Ar ((H5 T E (Ba T E S) I S[k]).take i)) /\
     Z 1=some (.ptr n 0)/\Z 2=some (.ptr (n+1) 0)/\Z 3=some (.li 0)/\Z 5=some (.map A)/\Z 6=some (.ptr (D+1) 0)/\Z 7=some (.li k)/\Z 8=some qv/\Z 39=some sv/\Z 40=some (.li S.length)/\Z 41=some (.li k)/\Z 67=some (.li I)/\Z 68=some (.li i)) (m0:=I) ?_ ?_
    .refine⟨0,_,_,_,W3 _,rfl,rfl,Wy _,⟨λb h1 h2=>?_⟩,Ah,k8 _,by rw[Fj];rfl,⟨rfl⟩,by simp[*]⟩;rw[Ae h2,Ad h1]
    clear k8 w1 w2 w3 w5 w6 k0 k1 k2;rintro m2 u5 H2 ⟨i,n6,gY,Lr,hi,rfl,rfl,u6,a1,g6,b9,q3,g9,w1,w2,w3,w5,w6,w7,w8,k0,k1,k2,u7,u8⟩ k9;refine rnd pl31 ?_;have l0:Aa (∀b,b<n->gY b=g b):=⟨λb f=>(a1.out b (by omega) (by omega)).trans (k7.out b f)⟩;have l1:=(a1.out n (by omega) (by omega)).trans p8;have q4:=(a1.out (n+1) (by omega) (by omega)).trans p9;have h5:=(a1.out (D+1) (by omega) (by omega)).trans q0;by_cases l2:i<I
    .have q5:(i:Int)<(I:Int):=by omega
     have u9:=HQ.out.one;have l3:=Xr (V0 (a:=S[k]) (b:=[(i:Int)]) (by omega) (by simp) (by simp) (Ak gY n6 (some (.cells [.li i] true 0))) (n6+1) qv (.sl n6 0 1 1) (Xw (by omega) (λb f=>(Ad (by omega)).trans (l0.out b f)) HQ.out) (Al.of (own:=true) (z:=0) Ah (by omega)));simp (disch:=first|omega|simp) [*];refine Xs l3.out ?_;rintro _ ⟨uv,g7,n7,rfl,v0,l4,h6,q6⟩;have a5:Aa (∀b,b<n6->g7 b=gY b):=⟨λb f=>(l4 b (by omega)).trans (Ad f)⟩;have l5:=(a5.out n (by omega)).trans l1;have l6:=(a5.out D (by omega)).trans g6;have l7:=(a5.out n5 (by omega)).trans b9;have l8:=(a5.out (D+1) (by omega)).trans h5;have l9:=Xr (n9.out (S[k]++[(i:Int)]) (by simp) (by rw[W1,Xj];omega) (b5q k5 l2) g7 n7 A uv (by omega) (λb f=>(a5.out b (by omega)).trans (l0.out b f)) h6.rep (by omega) ⟨L,c,(a5.out A (by omega)).trans ((a1.out A (by omega) (by omega)).trans ((g4.out A (by omega)).trans ((HG.out A p2).trans p3.out))),p4.out⟩);have v1:=h6.rep.one;have m1:=Xr (e4w (T:=T) (E:=E) (R:=Ba T E S) (w:=S[k]) l2);clear l4 h6 q6 l3 l1 q4 g6 b9 h5;generalize Od T E (Ba T E S) (S[k]++[(i:Int)])=ed at *;obtain⟨e1,e2⟩:=ed;simp (disch:=first|omega|simp) [*];refine Xs l9.out ?_;rintro _ ⟨g8,n8,rfl,v2,a7⟩;have q7:=Xr a7;have v3:=(a7 n (by omega)).trans l5;have q8:=(a7 D (by omega)).trans l6;have v4:=(a7 n5 (by omega)).trans l7;have v5:=(a7 (D+1) (by omega)).trans l8;have q9:i*2+2<=Lr.length:=by omega
     have m3:Aa ((Am Lr (i*2) [.li e1,.li e2]).length=I*2/\(Am Lr (i*2) [.li e1,.li e2]).take ((i+1)*2)=Ar ((H5 T E (Ba T E S) I S[k]).take (i+1))):=⟨by
      have h2:i*2+([.li e1,.li e2]:List AV).length<=Lr.length:=q9;refine⟨by rw[C7 h2];exact q3,?_⟩;rw[m1.out,b1j,<- g9.out,<- Eg h2,show (i+1)*2=i*2+2 by omega];rfl⟩
     clear a7 l9 l5 l6 l7 l8 m1;simp (disch:=first|omega|simp) [*];refine k9.out (I-(i+1)) _ _ (by omega) ⟨i+1,n8,_,Am Lr (i*2) [.li e1,.li e2],by omega,rfl,rfl,by omega,⟨λb h1 h2=>?_⟩,?_,Ah.trans (by simp[Am]),m3.out.1,⟨m3.out.2⟩,by simp[*]⟩
     .rw[Ae (by omega),q7.out b (by omega),a5.out b (by omega)];exact a1.out b h1 h2
     .rw[Ae (by omega)];exact q8
    .have q5:¬(i:Int)<(I:Int):=by omega
     have r0:i=I:=by omega
     have m4:Aa (Lr=Ar (H5 T E (Ba T E S) I S[k])):=⟨by
      have:=g9.out;rw[r0,Xn (by omega),Xn (by rw[a6e];omega)] at this;exact this⟩
     have r1:Aa (My T E (Ba T E S) I S gY (D+1+1) n6 (k+1) (cs.set k (.sl n5 0 I I))):=⟨HH.out.step b5 (by simp) (λj hj=>by rw[e6k (by omega)]) (by rw[e7g q2]) (by omega) (by omega) (b9.trans (by rw[m4.out])) (by omega) λb h1 h2=>(a1.out b (by omega) (by omega)).trans (g4.out b h2)⟩;clear HH g9 k9 m4 b9;simp (disch:=first|omega|simp) [*];exact ih.out (S.length-(k+1)) _ _ (by omega) ⟨k+1,n6,gY,_,by omega,rfl,rfl,by omega,⟨λb f=>(a1.out b (by omega) (by omega)).trans ((g4.out b (by omega)).trans (HG.out b f))⟩,g6,h5,by simp[p0],r1,q1,by simp[*]⟩
 .have p1:¬(k:Int)<(S.length:Int):=by omega
  have r2:k=S.length:=by omega
  subst r2;have m5:a6b T E S=false:=by
   have h1:=HN.out 0 i5 i5;rw[c9.out,decide_eq_false h1.1,Bool.false_or,List.any_eq_false];intro w hw;obtain⟨j,hj,rfl⟩:=e6l hw;simp[(HN.out j hj hj).2]
  have he:er=0:=by rw[a0.out,m5];rfl
  have r3:Aa (er=0):=⟨he⟩;clear m5 he HN a0 ih;simp (disch:=first|omega|simp) [*];have hK:=o3.out r3.out (Ak gL (n+1) (some (.cells [.li I,.li O,.sl D 0 S.length S.length] true 0))) n4 D (D+1+1) cs (by omega) (λb f=>by rw[Ae (by omega)];exact a6.out b f) (by omega) (by rw[Ae (by omega)];exact a8) ⟨HH.out.1,λj hj k6=>by
   obtain⟨B,h1,h2,h3,h4⟩:=HH.out.2 j hj k6;exact⟨B,h1,h2,h3,by rw[Ae (by omega)];exact h4⟩⟩
  exact hK
end Go.Ai
