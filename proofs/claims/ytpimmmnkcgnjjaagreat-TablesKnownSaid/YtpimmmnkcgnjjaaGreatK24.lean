/- Parts of an interpreter and of a proof. No condition. -/
import Derived.Test.YtpimmmnkcgnjjaaGreatK22
import Derived.Test.YtpimmmnkcgnjjaaGreatK23
import Derived.Test.YtpimmmnkcgnjjaaGreatK07
set_option linter.all false
set_option maxHeartbeats 40000000
set_option maxRecDepth 10000
open Go.Proofs Go.Proofs.Tryz
namespace Go.Ai
def N8(w:Wd):Prop:=∀i∈w,0<=i/\i<16
theorem b6a{w:Wd}(h:N8 w)(k:Nat):N8 (w.take k):=λi hi=>h i (e6p hi)
def Fo(l:Wq)(w:Wd):Bool:=l.any λv=>decide (w.length<v.length/\v.take w.length=w)
def Em(l:Wq):Wq:=l.filter λw=>!Fo l w
def Hx(l:Wq)(s:ByteArray):Prop:=∃v∈l,∃j,j<v.length/\A5 (v.take j)=s
theorem e2v{l:Wq}{w:Wd}(A:∀v∈l,N8 v)(D:N8 w):Hx l (A5 w)↔Fo l w=true:=by
 unfold Hx Fo;rw[e9i];constructor
 .rintro⟨v,f,j,Q,h⟩;have:=b5h (b6a (A v f) j) D h;subst this;refine⟨v,f,decide_eq_true ⟨?_,?_⟩⟩
  .rw[Xa];omega
  .rw[Xa,e6i (by omega)]
 .rintro⟨v,f,h⟩;have h:=of_decide_eq_true h;exact⟨v,f,w.length,h.1,by rw[h.2]⟩
theorem e2w(L:List ByteArray)(s:ByteArray):B2 ((L++[s]).zipIdx)=B2 (L.zipIdx++[(s,L.length)]):=by
 rw[List.zipIdx_append];simp
def N9(g:Gb)(lo n:Nat)(l:Wq)(lv:AV):Prop:=∃svs,Af g n lv l.length svs/\RowsW (A9 lo g) n l svs/\∀q∈svs,Av q
theorem Iw.listF {X:Nat->Prop} {g:Gb} {lo n:Nat} {l:Wq} {ov:AV} (h:Iw X g lo n l ov) : N9 g lo n l ov:=by
 rcases h with⟨rfl,rfl⟩|⟨h0,B,cs,rfl,h1,h2,h3,h4,h5,h6,h7⟩
 ·exact⟨[],.inl ⟨rfl,rfl,.inl rfl⟩,⟨rfl,fun k h=>by cases h⟩,fun q h=>by cases h⟩
 ·refine⟨cs,.inr ⟨B,0,h2,.inr ⟨0,rfl⟩,⟨cs,true,1,h4,by simp,by simp⟩⟩,h6.ext (Nat.le_refl _) fun a z _ hz=>?_,h7⟩
  obtain⟨e1,_,e3⟩:=K0 hz
  rw[Cq e1];exact e3
theorem N9.at{g:Gb}{lo n:Nat}{l:Wq}{A:AV}(h:N9 g lo n l A){k:Nat}(D:k<l.length):∃a off q,a<n/\(∀{H:Mem}{ev:Ev}{o:Oper}{t:TypeId},iaS prog H ev o t (some (none,1)) (some A) (some (.li (k:Int)))=.val (.ptr a (off+k)) H)/\Bf (some (false,1)) (g a) (off+k)=some q/\Al (A9 lo g) n l[k] q/\Av q:=by
 obtain⟨Z,h1,h2,h3⟩:=h;obtain⟨q,f,e2⟩:=h2.2 k D;obtain⟨a,off,ha,a0,Q⟩:=h1.ia (P:=prog) D 1;simp only[Xk] at Q;have a1:k<Z.length:=(W8.1 f).1;have U:=a0.one (k:=k) (s:=1) a1;rw[(W8.1 f).2] at U;exact⟨a,off,q,ha,Q,U,e2,h3 q (e5w f)⟩
theorem mkIW:mkI prog 22=some (.nl):=by kernel_rfl
theorem e2x{H:Mem}{a b:Int}(f:0<=a)(A:a<=b)(D:b<=1048576):Fy prog H 22 (some (.nl)) (some (.li a)) (some (.li b))=.val (.sl H.next 0 a.toNat b.toNat) (H.add (.cells (rep [.nl] b.toNat) true 0)):=by
 have hx:Ec prog H 22 (some (.li a)) (some (.li b))=_:=Pa (e:=65) (size:=1) (bytes:=24) (z:=[.nl]) (by kernel_rfl) (by decide) (by decide) (by kernel_rfl) f A D;unfold Fy;dsimp only;split
 .rename_i h;obtain⟨rfl,Q,U⟩:=h;rw[Rk]
 .exact hx
attribute [simp] mkIW e2x
theorem e2y(g:Gb)(n a c:Nat)(sv:AV)(f:sv=.sl a 0 0 c)(l:List AV)(own:Bool)(z:Nat)(A:g a=some (.cells l own z))(D:a<n):WC 0 prog 54 [sv] ⟨.fn g,n⟩ λr=>r=.ret (.sl n 0 0 0) ⟨.fn (Ak g n (some (.cells [] true 0))),n+1⟩:=by
 have h:Af g n sv 0 []:=.inr ⟨a,0,D,.inl ⟨c,f⟩,⟨l,own,z,A,by simp[*]⟩⟩;have Q:=@Af.ap00 prog _ _ _ _ h;subst f;clear h;refine ent [] func54 ?_;simp (disch:=first|omega|simp) [*]
theorem e2z(H:Mem)(a:Nat):WC 0 prog 53 [.sl a 0 0 0] H λr=>r=.ret (.sl a 0 0 0) H:=by
 refine Yz ?_;refine ent [] func53 ?_;simp (disch:=first|omega|simp) [*]
def Mr(g:Gb)(lo n:Nat)(l:Wq)(rv:AV):Prop:=∃B cs,rv=.sl B 0 l.length l.length/\lo<=B/\B<n/\(∃z,g B=some (.cells cs true z))/\RowsW (A9 lo g) n l cs/\∀q∈cs,Av q
theorem b6b(c0 c1 c2 c3 c4 c5 c6:AV)(k2:allOne [c0,c1,c2,c3,c4,c5,c6]=true)(P:Wq->Prop)(hP:∀l,P l->l.length<=10000/\∀w∈l,w.length<=300/\N8 w)(g:Gb)(n:Nat)
  (e7:∀(gX:Gb)(n2:Nat),n<=n2->(∀b,b<n->gX b=g b)->WC 0 prog 37 [.agg [c0,c1,c2,c3,c4,c5,c6]] ⟨.fn gX,n2⟩ λr=>r=.ret (.li 0) ⟨.fn gX,n2⟩)
  (e8:∀(gX:Gb)(n2:Nat),n<=n2->(∀b,b<n->gX b=g b)->WC 0 prog 51 [.agg [c0,c1,c2,c3,c4,c5,c6]] ⟨.fn gX,n2⟩ λr=>∃l ov g' n',r=.ret ov ⟨.fn g',n'⟩/\P l/\n2<=n'/\(∀b,b<n2->g' b=gX b)/\N9 g' n2 n' l ov) :
  WC 0 prog 14 [.agg [c0,c1,c2,c3,c4,c5,c6]] ⟨.fn g,n⟩ λr=>∃l rv g' n',r=.ret (.tup [rv,.li 0]) ⟨.fn g',n'⟩/\P l/\n<=n'/\(∀b,b<n->g' b=g b)/\Mr g' n n' (Em l) rv:=by
 have e9:=Xr (e7 (Ak g n (some (.cells [c0,c1,c2,c3,c4,c5,c6] true 0))) (n+1) (by omega) λb Q=>Ad Q);have g0:=Xr (e8 (Ak g n (some (.cells [c0,c1,c2,c3,c4,c5,c6] true 0))) (n+1) (by omega) λb Q=>Ad Q);have g2:=Xr hP;clear e7 e8 hP;refine ent [] func14 ?_;simp (disch:=first|omega|simp) [*];refine Xs e9.out ?_;rintro _ rfl;simp (disch:=first|omega|simp) [*];refine Xs g0.out ?_;rintro _ ⟨l,ov,g1,A,rfl,b2,k3,g4,a8⟩;obtain⟨k4,g6⟩:=g2.out l b2;have a9:=Xr g6;have g7:=Xr b2;clear g6 b2 g2;have g8:=Xr g4;have HC:=Xr a8;have k5:=@Au prog _ _ _ _ _ a8.choose_spec.1;have k6:=a8.choose_spec.1.one;clear g4 a8 e9 g0;simp (disch:=first|omega|simp) [*];refine Xv (λm D H'=>∃(k:Nat)(gL:Gb)(L:List ByteArray),k<=l.length/\m=l.length-k/\H'=⟨.fn gL,A+1⟩/\Aa (∀b,b<A->gL b=g1 b)/\gL A=some (.map (B2 L.zipIdx) L.length)/\Aa (∀s,s∈L↔Hx (l.take k) s) /\
  D 5=some ov/\D 6=some (.map A)/\D 21=some ov/\D 22=some (.li l.length)/\D 23=some (.li k)) (m0:=l.length) ?_ ?_
 .exact⟨0,_,[],W3 _,rfl,rfl,⟨λb Q=>Ad Q⟩,Ah,⟨λs=>by simp[Hx]⟩,by simp[*]⟩
 rintro m D H' ⟨k,gL,L,hk,rfl,rfl,U,a0,HM,w5,w6,b3,b4,b5⟩ ih;refine rnd [] ?_;by_cases b6:k<l.length
 .have i7:(k:Int)<(l.length:Int):=by omega
  obtain⟨a2,o2,qv,b7,i8,b0,a5,a6⟩:=HC.out.at b6;have hq:Al g1 A l[k] qv:=Xx (Wy _) (λa z _ hz=>(B8 hz).2) a5;clear a5;rw[<- U.out a2 b7] at b0;have k7:=@Au prog _ _ _ _ _ hq;obtain⟨i9,a7⟩:=a9.out _ (W2 b6);have a4:Aa (∀s,Hx (l.take (k+1)) s↔Hx (l.take k) s\/∃j,j<l[k].length/\A5 (l[k].take j)=s):=⟨λs=>by
   rw[e7h b6];simp only[Hx,W9,Xf];constructor
   .rintro⟨v,hv|rfl,h⟩
    .exact .inl ⟨v,hv,h⟩
    .exact .inr h
   .rintro (⟨v,hv,h⟩|h)
    .exact⟨v,.inl hv,h⟩
    .exact⟨_,.inr rfl,h⟩⟩
  have HQ:=Xr hq;have b8:=Xr a6;have j0:=Xr a7;clear hq a6 a7;generalize l[k]=w at *;simp (disch:=first|omega|simp) [*];refine Xv (λm D H'=>∃(j:Nat)(g3:Gb)(L:List ByteArray),j<=w.length/\m=w.length-j/\H'=⟨.fn g3,A+1⟩/\Aa (∀b,b<A->g3 b=g1 b)/\g3 A=some (.map (B2 L.zipIdx) L.length)/\Aa (∀s,s∈L↔Hx (l.take k) s\/∃Z,Z < j/\A5 (w.take Z)=s) /\
   D 5=some ov/\D 6=some (.map A)/\D 8=some qv/\D 21=some ov/\D 22=some (.li l.length)/\D 23=some (.li k)/\D 28=some (.li w.length)/\D 29=some (.li j)) (m0:=w.length) ?_ ?_
  .exact⟨0,gL,L,W3 _,rfl,rfl,U,a0,⟨λs=>by rw[HM.out];simp⟩,by simp[*]⟩
  clear U a0 HM w5 w6 b3 b4 b5 b0;rintro m2 k8 H2 ⟨j,g3,L,hj,rfl,rfl,U,a0,HM,w5,w6,w8,b3,b4,b5,k9,l0⟩ h7;refine rnd [] ?_;by_cases l1:j<w.length
  .have j1:(j:Int)<(w.length:Int):=by omega
   obtain⟨pv,l2,b9,j2⟩:=Af.cutP (P:=prog) (Xw (show A<=A+1 by omega) U.out HQ.out) b8.out (t:=65) (by kernel_rfl) (k:=j) (sz:=1) (by omega);have h8:Al g3 (A+1) (w.take j) pv:=by
    have h1:(w.take j).length=j:=by rw[Xa];omega
    unfold Al;rw[h1];simpa[wdC,List.map_take] using b9
   have c7:=Xr (Ps (w.take j) (by rw[Xa];omega) (b6a j0.out j) g3 (A+1) pv h8);have l3:=b9.one;have HZ:=Xr (Sr (A5 (w.take j)) L 0);have c8:L.zipIdx 0=L.zipIdx:=rfl;clear b9 j2 h8;simp (disch:=first|omega|simp) [*];refine Xs c7.out ?_;rintro _ rfl;by_cases a1:A5 (w.take j)∈L
   .have j3:Ey (A5 (w.take j)) (L.zipIdx)=true:=by haveI:=ba_lawful;rw[HZ.out];simpa using a1
    have a3:Aa (∀s,s∈L↔Hx (l.take k) s\/∃Z,Z < j+1/\A5 (w.take Z)=s):=⟨λs=>by
     rw[HM.out];constructor
     .rintro (h|⟨Z,h1,h2⟩)
      .exact .inl h
      .exact .inr ⟨Z,by omega,h2⟩
     .rintro (h|⟨Z,h1,h2⟩)
      .exact .inl h
      .by_cases e:Z=j
       .subst e;rw[h2] at a1;exact(HM.out s).1 a1
       .exact .inr ⟨Z,by omega,h2⟩⟩
    clear a1 HM;simp (disch:=first|omega|simp) [*];exact h7.out (w.length-(j+1)) _ _ (by omega) ⟨j+1,_,L,by omega,rfl,rfl,⟨λb Q=>by rw[Ae (by omega)];exact U.out b Q⟩,Ah,a3,by simp[*]⟩
   .have j3:Ey (A5 (w.take j)) (L.zipIdx)=false:=by haveI:=ba_lawful;rw[HZ.out];simpa using a1
    have a3:Aa (∀s,s∈L++[A5 (w.take j)]↔Hx (l.take k) s\/∃Z,Z < j+1/\A5 (w.take Z)=s):=⟨λs=>by
     rw[W9,HM.out,Xf];constructor
     .rintro ((h|⟨Z,h1,h2⟩)|h)
      .exact .inl h
      .exact .inr ⟨Z,by omega,h2⟩
      .exact .inr ⟨j,by omega,h.symm⟩
     .rintro (h|⟨Z,h1,h2⟩)
      .exact .inl (.inl h)
      .by_cases e:Z=j
       .subst e;exact .inr h2.symm
       .exact .inl (.inr ⟨Z,by omega,h2⟩)⟩
    clear a1 HM;simp (disch:=first|omega|simp) [*];exact h7.out (w.length-(j+1)) _ _ (by omega) ⟨j+1,_,L++[A5 (w.take j)],by omega,rfl,rfl,⟨λb Q=>by rw[Ae (by omega)];exact U.out b Q⟩,by rw[e2w,W1];exact Ah,a3,by simp[*]⟩
  .have j1:¬(j:Int)<(w.length:Int):=by omega
   have j4:j=w.length:=by omega
   subst j4;have a3:Aa (∀s,s∈L↔Hx (l.take (k+1)) s):=⟨λs=>by rw[HM.out,a4.out]⟩;clear HM;simp (disch:=first|omega|simp) [*];exact ih.out (l.length-(k+1)) _ _ (by omega) ⟨k+1,g3,L,by omega,rfl,rfl,U,a0,a3,by simp[*]⟩
 .have i7:¬(k:Int)<(l.length:Int):=by omega
  have a3:Aa (∀s,s∈L↔Hx l s):=⟨λs=>by rw[HM.out,Xn (by omega)]⟩;clear HM ih;have l4:(l.length:Int)<=1048576:=by omega
  have i0:=Xr λ(w:Wd)(hw:w∈l)=>(Sr (A5 w) L 0).trans (show L.contains (A5 w)=Fo l w from by
   haveI:=ba_lawful
   have h1:=e2v (l:=l) (λv hv=>(a9.out v hv).2) (a9.out w hw).2
   cases h2:Fo l w with
   | true=>simpa using (a3.out _).2 (h1.2 h2)
   | false =>
    have h3:¬A5 w∈L:=λh=>by have:=h1.1 ((a3.out _).1 h);rw[h2] at this;cases this
    simpa using h3)
  have c8:L.zipIdx 0=L.zipIdx:=rfl;rw[c8] at i0;clear a3 c8;have i1:gL A=some (.map (B2 L.zipIdx) L.length):=a0;have i2:Aa (∀b,b<A->gL b=g1 b):=U;have l5:k=l.length:=by omega
  simp (disch:=first|omega|simp) [*];refine Xv (λm D H'=>∃(k n3:Nat)(g3:Gb)(Lo:List AV)(f:Wq),k<=l.length/\m=l.length-k/\H'=⟨.fn g3,n3⟩/\A+1+1<=n3/\Aa (∀b,b<A->g3 b=g1 b)/\g3 A=some (.map (B2 L.zipIdx) L.length)/\g3 (A+1)=some (.cells Lo true 0)/\Lo.length=l.length/\f.length<=k/\Aa (f=(l.take k).filter λw=>!Fo l w)/\Aa (RowsW (A9 (n+1) g1) A f (Lo.take f.length)/\∀q∈Lo.take f.length,Av q) /\
   D 6=some (.map A)/\D 10=some (.sl (A+1) 0 f.length l.length)/\D 42=some ov/\D 43=some (.li l.length)/\D 44=some (.li k)) (m0:=l.length) ?_ ?_
  .refine⟨0,_,_,_,[],W3 _,rfl,rfl,Wy _,⟨λb Q=>?_⟩,?_,Ah,?_,Wy _,⟨by simp⟩,⟨⟨by simp,λk h=>by cases h⟩,by simp⟩,by simp[*]⟩
   .simp (disch:=omega) only[Ad];exact i2.out b Q
   .simp (disch:=omega) only[Ad];exact i1
   .rw[Fj];simp
  clear i1 i2 w5 w6 b3 b4 b5 a0 U;rintro m D H' ⟨k,n3,g3,Lo,f,l6,rfl,rfl,j5,U,a0,c9,i3,l7,HO,HR,w6,j6,l8,l9,m1⟩ ih;refine rnd [] ?_;by_cases b1:k<l.length
  .have j7:(k:Int)<(l.length:Int):=by omega
   obtain⟨a2,o2,qv,b7,i8,b0,a5,a6⟩:=HC.out.at b1;have hq:Al g1 A l[k] qv:=Xx (Wy _) (λa z _ hz=>(B8 hz).2) a5;rw[<- U.out a2 b7] at b0;obtain⟨i9,a7⟩:=a9.out _ (W2 b1);have HP:=Xr (i0.out _ (W2 b1));have HQ:=Xr a5;have b8:=Xr a6;have c7:=Xr (Ps l[k] (by omega) a7 g3 n3 qv (Xw (by omega) U.out hq));have a4:Aa ((l.take (k+1)).filter (λw=>!Fo l w)=(l.take k).filter (λw=>!Fo l w)++(if Fo l l[k]=true then [] else [l[k]])):=⟨by
    rw[e7h b1,List.filter_append];cases h:Fo l l[k]<;>simp[h]⟩
   have j8:=hq.one;have m3:allOne [qv]=true:=by simp[j8]
   have m4:=hq.cell;clear hq a5 a6 a7;generalize l[k]=w at *;simp (disch:=first|omega|simp) [*];refine Xs c7.out ?_;rintro _ rfl;have a1:=HP.out
   cases hf:Fo l w with
   | true =>
    rw[hf] at a1 a4;have e0:Aa (f=(l.take (k+1)).filter λw=>!Fo l w):=⟨by rw[a4.out,HO.out];simp⟩;clear HO a4 HP hf;simp (disch:=first|omega|simp) [*];exact ih.out (l.length-(k+1)) _ _ (by omega) ⟨k+1,n3,g3,Lo,f,by omega,rfl,rfl,j5,U,a0,c9,i3,by omega,e0,HR,by simp[*]⟩
   | false =>
    rw[hf] at a1 a4;have e0:Aa (f++[w]=(l.take (k+1)).filter λw=>!Fo l w):=⟨by rw[a4.out,HO.out];simp⟩;have m5:0+f.length*1+1<=Lo.length:=by omega
    have m6:f.length<l.length:=by omega
    clear HO a4 HP hf;simp (disch:=first|omega|simp) [*];refine ih.out (l.length-(k+1)) _ _ (by omega) ⟨k+1,_,_,Am Lo f.length [qv],f++[w],by omega,rfl,rfl,?_,⟨λb Q=>?_⟩,?_,Ah,?_,by simp;omega,e0,⟨?_,?_⟩,by simp[*]⟩
    .omega
    .simp (disch:=omega) only[Ad,Ae];exact U.out b Q
    .simp (disch:=omega) only[Ad,Ae];exact a0
    .rw[C7 (by simp;omega)];exact i3
    all_goals
     have h9:(Am Lo f.length [qv]).take (f++[w]).length=Lo.take f.length++[qv]:=by
      have:=Eg (l:=Lo) (new:=[qv]) (off:=f.length) (by simp;omega);simpa using this
     rw[h9]
    .exact HR.out.1.snoc HQ.out
    .intro q hq;rcases W9.1 hq with h|h
     .exact HR.out.2 q h
     .rw[Xf.1 h];exact b8.out
  .have j7:¬(k:Int)<(l.length:Int):=by omega
   have HL:Aa (f=Em l):=⟨by rw[HO.out,Xn (by omega)];rfl⟩;clear HO ih;have e5:Aa (∀(g9:Gb)(n9 B:Nat)(cs:List AV),A<=n9->(∀b,b<A->g9 b=g1 b)->n<=B->B<n9->(∃z,g9 B=some (.cells cs true z))->cs=Lo.take f.length->Mr g9 n n9 (Em l) (.sl B 0 f.length f.length)):=⟨λg9 n9 B cs h1 h2 h3 h4 h5 h6=>by
    subst h6;refine⟨B,_,by rw[<- HL.out],h3,h4,h5,?_,HR.out.2⟩;rw[<- HL.out];exact HR.out.1.ext (by omega) λa z ha hz=>by
     obtain⟨e1,e2⟩:=B8 hz;rw[Cq (by omega),h2 a ha];exact e2⟩
   have i4:(Lo.take f.length).length=f.length:=by rw[Xa];omega
   have hv:Af g3 n3 (.sl (A+1) 0 f.length l.length) f.length (Lo.take f.length):=.inr ⟨A+1,0,by omega,.inl ⟨_,rfl⟩,⟨Lo,true,0,c9,by rw[i4];omega,by rw[i4];simp⟩⟩;have HV:=Xr hv;clear hv;by_cases h0:0<f.length
   .simp (disch:=first|omega|simp) [*];refine Xs (a5m h0 (by omega) (by rw[Xa];omega) _ _ _ HV.out) ?_;rintro _ ⟨g5,rfl,i5,hb5⟩;have i6:=Xr i5;have j9:=Xr hb5;clear i5 hb5;simp (disch:=first|omega|simp) [*];refine Xs (Sx h0 _) ?_;rintro _ rfl;simp (disch:=first|omega|simp) [*];refine⟨l,_,_,_,⟨rfl,rfl,rfl⟩,g7.out,by omega,λb Q=>?_,e5.out _ _ _ _ (by omega) (λb Q=>(i6.out b (by omega)).trans (U.out b Q)) (by omega) (by omega) ⟨_,j9.out⟩ rfl⟩;rw[i6.out b (by omega),U.out b (by omega),g8.out b (by omega)];exact Ad Q
   .have e6:f.length=0:=by omega
    rw[e6] at j6;have k0:Aa (∀(g9:Gb)(n9 B:Nat)(cs:List AV),A<=n9->(∀b,b<A->g9 b=g1 b)->n<=B->B<n9->g9 B=some (.cells [] true 0)->cs=Lo.take f.length->Mr g9 n n9 (Em l) (.sl B 0 0 0)):=⟨λg9 n9 B cs h1 h2 h3 h4 h6 h5=>by
     have k1:cs=[]:=by rw[h5,e6];rfl
     have:=e5.out g9 n9 B cs h1 h2 h3 h4 ⟨0,by rw[k1];exact h6⟩ h5
     rwa [e6] at this⟩
    clear HV e5;simp (disch:=first|omega|simp) [*];refine Xs (e2y _ _ _ _ _ rfl _ _ _ c9 (by omega)) ?_;rintro _ rfl;simp (disch:=first|omega|simp) [*];refine Xs (e2z _ _) ?_;rintro _ rfl;simp (disch:=first|omega|simp) [*];refine⟨l,_,_,_,⟨rfl,rfl,rfl⟩,g7.out,by omega,λb Q=>?_,k0.out _ _ _ _ (by omega) (λb Q=>(Ad (by omega)).trans (U.out b Q)) (by omega) (by omega) Ah rfl⟩;rw[Ad (by omega),U.out b (by omega),g8.out b (by omega)];exact Ad Q
end Go.Ai
