/- Parts of an interpreter and of a proof. No condition. -/
import Derived.Test.YtpimmmnkcgnjjaaGreatA24
import Derived.Test.YtpimmmnkcgnjjaaGreatA16
import Derived.Test.YtpimmmnkcgnjjaaGreatA07
set_option linter.all false
set_option maxHeartbeats 40000000
set_option maxRecDepth 10000
open Go.Proofs Go.Proofs.Tryz
namespace Go.Ai
def Px(w:Wd):Prop:=∀i∈w,0<=i/\i<16
theorem b6c{w:Wd}(h:Px w)(k:Nat):Px (w.take k):=λi hi=>h i (e6l hi)
def Cp(l:Wq)(w:Wd):Bool:=l.any λv=>decide (w.length<v.length/\v.take w.length=w)
def C6(l:Wq):Wq:=l.filter λw=>!Cp l w
def H8(l:Wq)(s:ByteArray):Prop:=∃v∈l,∃j,j<v.length/\Bg (v.take j)=s
theorem e3f{l:Wq}{w:Wd}(D:∀v∈l,Px v)(Q:Px w):H8 l (Bg w)↔Cp l w=true:=by
 unfold H8 Cp;rw[List.any_eq_true];constructor
 .rintro⟨v,A,j,U,h⟩;have:=b4u (b6c (D v A) j) Q h;subst this;refine⟨v,A,decide_eq_true ⟨?_,?_⟩⟩
  .rw[W4];omega
  .rw[W4,e5z (by omega)]
 .rintro⟨v,A,h⟩;have h:=of_decide_eq_true h;exact⟨v,A,w.length,h.1,by rw[h.2]⟩
theorem e3g(L:List ByteArray)(s:ByteArray):Ch ((L++[s]).zipIdx)=Ch (L.zipIdx++[(s,L.length)]):=by
 rw[List.zipIdx_append];simp
def Sm(g:Gb)(lo n:Nat)(l:Wq)(lv:AV):Prop:=∃svs,Af g n lv l.length svs/\RowsW (B9 lo g) n l svs/\∀q∈svs,Ay q
theorem I0.listF {X:Nat->Prop} {g:Gb} {lo n:Nat} {l:Wq} {ov:AV} (h:I0 X g lo n l ov) : Sm g lo n l ov:=by
 rcases h with⟨rfl,rfl⟩|⟨h0,B,cs,rfl,h1,h2,h3,h4,h5,h6,h7⟩
 ·exact⟨[],.inl ⟨rfl,rfl,.inl rfl⟩,⟨rfl,fun k h=>by cases h⟩,fun q h=>by cases h⟩
 ·refine⟨cs,.inr ⟨B,0,h2,.inr ⟨0,rfl⟩,⟨cs,true,1,h4,by simp,by simp⟩⟩,h6.ext (Nat.le_refl _) fun a z _ hz=>?_,h7⟩
  obtain⟨e1,_,e3⟩:=K7 hz
  rw[De e1];exact e3
theorem Sm.at{g:Gb}{lo n:Nat}{l:Wq}{D:AV}(h:Sm g lo n l D){k:Nat}(Q:k<l.length):∃a off q,a<n/\(∀{H:Mem}{ev:Ev}{o:Oper}{t:TypeId},iaS prog H ev o t (some (none,1)) (some D) (some (.li (k:Int)))=.val (.ptr a (off+k)) H)/\A5 (some (false,1)) (g a) (off+k)=some q/\Al (B9 lo g) n l[k] q/\Ay q:=by
 obtain⟨svs,h1,h2,h3⟩:=h;obtain⟨q,A,e2⟩:=h2.2 k Q;obtain⟨a,off,ha,a0,U⟩:=h1.ia (P:=prog) Q 1;simp only[Xj] at U;have a1:k<svs.length:=(W8.1 A).1;have Z:=a0.one (k:=k) (s:=1) a1;rw[(W8.1 A).2] at Z;exact⟨a,off,q,ha,U,Z,e2,h3 q (e6e A)⟩
theorem mkIW:mkI prog 22=some (.nl):=by kernel_rfl
theorem e3h{H:Mem}{a b:Int}(A:0<=a)(D:a<=b)(Q:b<=1048576):F0 prog H 22 (some (.nl)) (some (.li a)) (some (.li b))=.val (.sl H.next 0 a.toNat b.toNat) (H.add (.cells (rep [.nl] b.toNat) true 0)):=by
 have hx:Er prog H 22 (some (.li a)) (some (.li b))=_:=Pd (e:=65) (size:=1) (bytes:=24) (z:=[.nl]) (by kernel_rfl) (by decide) (by decide) (by kernel_rfl) A D Q;unfold F0;dsimp only;split
 .rename_i h;obtain⟨rfl,U,Z⟩:=h;rw[Rg]
 .exact hx
attribute [simp] mkIW e3h
theorem e3i(g:Gb)(n a c:Nat)(sv:AV)(h:sv=.sl a 0 0 c)(l:List AV)(own:Bool)(z:Nat)(D:g a=some (.cells l own z))(Q:a<n):WC 0 prog 54 [sv] ⟨.fn g,n⟩ λr=>r=.ret (.sl n 0 0 0) ⟨.fn (Ak g n (some (.cells [] true 0))),n+1⟩:=by
 have A:Af g n sv 0 []:=.inr ⟨a,0,Q,.inl ⟨c,h⟩,⟨l,own,z,D,by simp[*]⟩⟩;have U:=@Af.ap00 prog _ _ _ _ A;subst h;clear A;refine ent [] func54 ?_;simp (disch:=first|omega|simp) [*]
theorem e3j(H:Mem)(a:Nat):WC 0 prog 53 [.sl a 0 0 0] H λr=>r=.ret (.sl a 0 0 0) H:=by
 refine Y4 ?_;refine ent [] func53 ?_;simp (disch:=first|omega|simp) [*]
def M4(g:Gb)(lo n:Nat)(l:Wq)(rv:AV):Prop:=∃B cs,rv=.sl B 0 l.length l.length/\lo<=B/\B<n/\(∃z,g B=some (.cells cs true z))/\RowsW (B9 lo g) n l cs/\∀q∈cs,Ay q
theorem e3k(c0 c1 c2 c3 c4 c5 c6:AV)(k2:allOne [c0,c1,c2,c3,c4,c5,c6]=true)(P:Wq->Prop)(hP:∀l,P l->l.length<=10000/\∀w∈l,w.length<=300/\Px w)(g:Gb)(n:Nat)
  (e7:∀(gX:Gb)(n2:Nat),n<=n2->(∀b,b<n->gX b=g b)->WC 0 prog 37 [.agg [c0,c1,c2,c3,c4,c5,c6]] ⟨.fn gX,n2⟩ λr=>r=.ret (.li 0) ⟨.fn gX,n2⟩)
  (e8:∀(gX:Gb)(n2:Nat),n<=n2->(∀b,b<n->gX b=g b)->WC 0 prog 51 [.agg [c0,c1,c2,c3,c4,c5,c6]] ⟨.fn gX,n2⟩ λr=>∃l ov g' n',r=.ret ov ⟨.fn g',n'⟩/\P l/\n2<=n'/\(∀b,b<n2->g' b=gX b)/\Sm g' n2 n' l ov) :
  WC 0 prog 14 [.agg [c0,c1,c2,c3,c4,c5,c6]] ⟨.fn g,n⟩ λr=>∃l rv g' n',r=.ret (.tup [rv,.li 0]) ⟨.fn g',n'⟩/\P l/\n<=n'/\(∀b,b<n->g' b=g b)/\M4 g' n n' (C6 l) rv:=by
 have e9:=Xu (e7 (Ak g n (some (.cells [c0,c1,c2,c3,c4,c5,c6] true 0))) (n+1) (by omega) λb U=>Ad U);have g0:=Xu (e8 (Ak g n (some (.cells [c0,c1,c2,c3,c4,c5,c6] true 0))) (n+1) (by omega) λb U=>Ad U);have g2:=Xu hP;clear e7 e8 hP;refine ent [] func14 ?_;simp (disch:=first|omega|simp) [*];refine Xv e9.out ?_;rintro _ rfl;simp (disch:=first|omega|simp) [*];refine Xv g0.out ?_;rintro _ ⟨l,ov,g1,D,rfl,b2,k3,g4,a8⟩;obtain⟨k4,g6⟩:=g2.out l b2;have a9:=Xu g6;have g7:=Xu b2;clear g6 b2 g2;have g8:=Xu g4;have HC:=Xu a8;have k5:=@Ap prog _ _ _ _ _ a8.choose_spec.1;have k6:=a8.choose_spec.1.one;clear g4 a8 e9 g0;simp (disch:=first|omega|simp) [*];refine Xy (λm Q H'=>∃(k:Nat)(gL:Gb)(L:List ByteArray),k<=l.length/\m=l.length-k/\H'=⟨.fn gL,D+1⟩/\Aa (∀b,b<D->gL b=g1 b)/\gL D=some (.map (Ch L.zipIdx) L.length)/\Aa (∀s,s∈L↔H8 (l.take k) s) /\
  Q 5=some ov/\Q 6=some (.map D)/\Q 21=some ov/\Q 22=some (.li l.length)/\Q 23=some (.li k)) (m0:=l.length) ?_ ?_
 .exact⟨0,_,[],W3 _,rfl,rfl,⟨λb U=>Ad U⟩,Ag,⟨λs=>by simp[H8]⟩,by simp[*]⟩
 rintro m Q H' ⟨k,gL,L,hk,rfl,rfl,Z,a0,HM,w5,w6,b3,b4,b5⟩ ih;refine rnd [] ?_;by_cases b6:k<l.length
 .have i7:(k:Int)<(l.length:Int):=by omega
  obtain⟨a2,o2,qv,b7,i8,b0,a5,a6⟩:=HC.out.at b6;have hq:Al g1 D l[k] qv:=Xz (Wy _) (λa z _ hz=>(Gy hz).2) a5;clear a5;rw[<- Z.out a2 b7] at b0;have k7:=@Ap prog _ _ _ _ _ hq;obtain⟨i9,a7⟩:=a9.out _ (W2 b6);have a4:Aa (∀s,H8 (l.take (k+1)) s↔H8 (l.take k) s\/∃j,j<l[k].length/\Bg (l[k].take j)=s):=⟨λs=>by
   rw[e6w b6];simp only[H8,W9,Xh];constructor
   .rintro⟨v,hv|rfl,h⟩
    .exact .inl ⟨v,hv,h⟩
    .exact .inr h
   .rintro (⟨v,hv,h⟩|h)
    .exact⟨v,.inl hv,h⟩
    .exact⟨_,.inr rfl,h⟩⟩
  have HQ:=Xu hq;have b8:=Xu a6;have j0:=Xu a7;clear hq a6 a7;generalize l[k]=w at *;simp (disch:=first|omega|simp) [*];refine Xy (λm Q H'=>∃(j:Nat)(g3:Gb)(L:List ByteArray),j<=w.length/\m=w.length-j/\H'=⟨.fn g3,D+1⟩/\Aa (∀b,b<D->g3 b=g1 b)/\g3 D=some (.map (Ch L.zipIdx) L.length)/\Aa (∀s,s∈L↔H8 (l.take k) s\/∃j',j' < j/\Bg (w.take j')=s) /\
   Q 5=some ov/\Q 6=some (.map D)/\Q 8=some qv/\Q 21=some ov/\Q 22=some (.li l.length)/\Q 23=some (.li k)/\Q 28=some (.li w.length)/\Q 29=some (.li j)) (m0:=w.length) ?_ ?_
  .exact⟨0,gL,L,W3 _,rfl,rfl,Z,a0,⟨λs=>by rw[HM.out];simp⟩,by simp[*]⟩
  clear Z a0 HM w5 w6 b3 b4 b5 b0;rintro m2 k8 H2 ⟨j,g3,L,hj,rfl,rfl,Z,a0,HM,w5,w6,w8,b3,b4,b5,k9,l0⟩ h7;refine rnd [] ?_;by_cases l1:j<w.length
  .have j1:(j:Int)<(w.length:Int):=by omega
   obtain⟨pv,l2,b9,j2⟩:=Af.cutP (P:=prog) (X0 (show D<=D+1 by omega) Z.out HQ.out) b8.out (t:=65) (by kernel_rfl) (k:=j) (sz:=1) (by omega);have h8:Al g3 (D+1) (w.take j) pv:=by
    have h1:(w.take j).length=j:=by rw[W4];omega
    unfold Al;rw[h1];simpa[wdC,List.map_take] using b9
   have c7:=Xu (Pq (w.take j) (by rw[W4];omega) (b6c j0.out j) g3 (D+1) pv h8);have l3:=b9.one;have HZ:=Xu (Sj (Bg (w.take j)) L 0);have c8:L.zipIdx 0=L.zipIdx:=rfl;clear b9 j2 h8;simp (disch:=first|omega|simp) [*];refine Xv c7.out ?_;rintro _ rfl;by_cases a1:Bg (w.take j)∈L
   .have j3:E9 (Bg (w.take j)) (L.zipIdx)=true:=by haveI:=ba_lawful;rw[HZ.out];simpa using a1
    have a3:Aa (∀s,s∈L↔H8 (l.take k) s\/∃j',j' < j+1/\Bg (w.take j')=s):=⟨λs=>by
     rw[HM.out];constructor
     .rintro (h|⟨j',h1,h2⟩)
      .exact .inl h
      .exact .inr ⟨j',by omega,h2⟩
     .rintro (h|⟨j',h1,h2⟩)
      .exact .inl h
      .by_cases e:j'=j
       .subst e;rw[h2] at a1;exact(HM.out s).1 a1
       .exact .inr ⟨j',by omega,h2⟩⟩
    clear a1 HM;simp (disch:=first|omega|simp) [*];exact h7.out (w.length-(j+1)) _ _ (by omega) ⟨j+1,_,L,by omega,rfl,rfl,⟨λb U=>by rw[Ae (by omega)];exact Z.out b U⟩,Ag,a3,by simp[*]⟩
   .have j3:E9 (Bg (w.take j)) (L.zipIdx)=false:=by haveI:=ba_lawful;rw[HZ.out];simpa using a1
    have a3:Aa (∀s,s∈L++[Bg (w.take j)]↔H8 (l.take k) s\/∃j',j' < j+1/\Bg (w.take j')=s):=⟨λs=>by
     rw[W9,HM.out,Xh];constructor
     .rintro ((h|⟨j',h1,h2⟩)|h)
      .exact .inl h
      .exact .inr ⟨j',by omega,h2⟩
      .exact .inr ⟨j,by omega,h.symm⟩
     .rintro (h|⟨j',h1,h2⟩)
      .exact .inl (.inl h)
      .by_cases e:j'=j
       .subst e;exact .inr h2.symm
       .exact .inl (.inr ⟨j',by omega,h2⟩)⟩
    clear a1 HM;simp (disch:=first|omega|simp) [*];exact h7.out (w.length-(j+1)) _ _ (by omega) ⟨j+1,_,L++[Bg (w.take j)],by omega,rfl,rfl,⟨λb U=>by rw[Ae (by omega)];exact Z.out b U⟩,by rw[e3g,W0];exact Ag,a3,by simp[*]⟩
  .have j1:¬(j:Int)<(w.length:Int):=by omega
   have j4:j=w.length:=by omega
   subst j4;have a3:Aa (∀s,s∈L↔H8 (l.take (k+1)) s):=⟨λs=>by rw[HM.out,a4.out]⟩;clear HM;simp (disch:=first|omega|simp) [*];exact ih.out (l.length-(k+1)) _ _ (by omega) ⟨k+1,g3,L,by omega,rfl,rfl,Z,a0,a3,by simp[*]⟩
 .have i7:¬(k:Int)<(l.length:Int):=by omega
  have a3:Aa (∀s,s∈L↔H8 l s):=⟨λs=>by rw[HM.out,Xi (by omega)]⟩;clear HM ih;have l4:(l.length:Int)<=1048576:=by omega
  have i0:=Xu λ(w:Wd)(hw:w∈l)=>(Sj (Bg w) L 0).trans (show L.contains (Bg w)=Cp l w from by
   haveI:=ba_lawful
   have h1:=e3f (l:=l) (λv hv=>(a9.out v hv).2) (a9.out w hw).2
   cases h2:Cp l w with
   | true=>simpa using (a3.out _).2 (h1.2 h2)
   | false =>
    have h3:¬Bg w∈L:=λh=>by have:=h1.1 ((a3.out _).1 h);rw[h2] at this;cases this
    simpa using h3)
  have c8:L.zipIdx 0=L.zipIdx:=rfl;rw[c8] at i0;clear a3 c8;have i1:gL D=some (.map (Ch L.zipIdx) L.length):=a0;have i2:Aa (∀b,b<D->gL b=g1 b):=Z;have l5:k=l.length:=by omega
  simp (disch:=first|omega|simp) [*];refine Xy (λm Q H'=>∃(k n3:Nat)(g3:Gb)(Lo:List AV)(A:Wq),k<=l.length/\m=l.length-k/\H'=⟨.fn g3,n3⟩/\D+1+1<=n3/\Aa (∀b,b<D->g3 b=g1 b)/\g3 D=some (.map (Ch L.zipIdx) L.length)/\g3 (D+1)=some (.cells Lo true 0)/\Lo.length=l.length/\A.length<=k/\Aa (A=(l.take k).filter λw=>!Cp l w)/\Aa (RowsW (B9 (n+1) g1) D A (Lo.take A.length)/\∀q∈Lo.take A.length,Ay q) /\
   Q 6=some (.map D)/\Q 10=some (.sl (D+1) 0 A.length l.length)/\Q 42=some ov/\Q 43=some (.li l.length)/\Q 44=some (.li k)) (m0:=l.length) ?_ ?_
  .refine⟨0,_,_,_,[],W3 _,rfl,rfl,Wy _,⟨λb U=>?_⟩,?_,Ag,?_,Wy _,⟨by simp⟩,⟨⟨by simp,λk h=>by cases h⟩,by simp⟩,by simp[*]⟩
   .simp (disch:=omega) only[Ad];exact i2.out b U
   .simp (disch:=omega) only[Ad];exact i1
   .rw[Gn];simp
  clear i1 i2 w5 w6 b3 b4 b5 a0 Z;rintro m Q H' ⟨k,n3,g3,Lo,A,l6,rfl,rfl,j5,Z,a0,c9,i3,l7,HO,HR,w6,j6,l8,l9,m1⟩ ih;refine rnd [] ?_;by_cases b1:k<l.length
  .have j7:(k:Int)<(l.length:Int):=by omega
   obtain⟨a2,o2,qv,b7,i8,b0,a5,a6⟩:=HC.out.at b1;have hq:Al g1 D l[k] qv:=Xz (Wy _) (λa z _ hz=>(Gy hz).2) a5;rw[<- Z.out a2 b7] at b0;obtain⟨i9,a7⟩:=a9.out _ (W2 b1);have HP:=Xu (i0.out _ (W2 b1));have HQ:=Xu a5;have b8:=Xu a6;have c7:=Xu (Pq l[k] (by omega) a7 g3 n3 qv (X0 (by omega) Z.out hq));have a4:Aa ((l.take (k+1)).filter (λw=>!Cp l w)=(l.take k).filter (λw=>!Cp l w)++(if Cp l l[k]=true then [] else [l[k]])):=⟨by
    rw[e6w b1,List.filter_append];cases h:Cp l l[k]<;>simp[h]⟩
   have j8:=hq.one;have m3:allOne [qv]=true:=by simp[j8]
   have m4:=hq.cell;clear hq a5 a6 a7;generalize l[k]=w at *;simp (disch:=first|omega|simp) [*];refine Xv c7.out ?_;rintro _ rfl;have a1:=HP.out
   cases hf:Cp l w with
   | true =>
    rw[hf] at a1 a4;have e0:Aa (A=(l.take (k+1)).filter λw=>!Cp l w):=⟨by rw[a4.out,HO.out];simp⟩;clear HO a4 HP hf;simp (disch:=first|omega|simp) [*];exact ih.out (l.length-(k+1)) _ _ (by omega) ⟨k+1,n3,g3,Lo,A,by omega,rfl,rfl,j5,Z,a0,c9,i3,by omega,e0,HR,by simp[*]⟩
   | false =>
    rw[hf] at a1 a4;have e0:Aa (A++[w]=(l.take (k+1)).filter λw=>!Cp l w):=⟨by rw[a4.out,HO.out];simp⟩;have m5:0+A.length*1+1<=Lo.length:=by omega
    have m6:A.length<l.length:=by omega
    clear HO a4 HP hf;simp (disch:=first|omega|simp) [*];refine ih.out (l.length-(k+1)) _ _ (by omega) ⟨k+1,_,_,Aq Lo A.length [qv],A++[w],by omega,rfl,rfl,?_,⟨λb U=>?_⟩,?_,Ag,?_,by simp;omega,e0,⟨?_,?_⟩,by simp[*]⟩
    .omega
    .simp (disch:=omega) only[Ad,Ae];exact Z.out b U
    .simp (disch:=omega) only[Ad,Ae];exact a0
    .rw[D1 (by simp;omega)];exact i3
    all_goals
     have h9:(Aq Lo A.length [qv]).take (A++[w]).length=Lo.take A.length++[qv]:=by
      have:=Fq (l:=Lo) (new:=[qv]) (off:=A.length) (by simp;omega);simpa using this
     rw[h9]
    .exact HR.out.1.snoc HQ.out
    .intro q hq;rcases W9.1 hq with h|h
     .exact HR.out.2 q h
     .rw[Xh.1 h];exact b8.out
  .have j7:¬(k:Int)<(l.length:Int):=by omega
   have HL:Aa (A=C6 l):=⟨by rw[HO.out,Xi (by omega)];rfl⟩;clear HO ih;have e5:Aa (∀(g9:Gb)(n9 B:Nat)(cs:List AV),D<=n9->(∀b,b<D->g9 b=g1 b)->n<=B->B<n9->(∃z,g9 B=some (.cells cs true z))->cs=Lo.take A.length->M4 g9 n n9 (C6 l) (.sl B 0 A.length A.length)):=⟨λg9 n9 B cs h1 h2 h3 h4 h5 h6=>by
    subst h6;refine⟨B,_,by rw[<- HL.out],h3,h4,h5,?_,HR.out.2⟩;rw[<- HL.out];exact HR.out.1.ext (by omega) λa z ha hz=>by
     obtain⟨e1,e2⟩:=Gy hz;rw[De (by omega),h2 a ha];exact e2⟩
   have i4:(Lo.take A.length).length=A.length:=by rw[W4];omega
   have hv:Af g3 n3 (.sl (D+1) 0 A.length l.length) A.length (Lo.take A.length):=.inr ⟨D+1,0,by omega,.inl ⟨_,rfl⟩,⟨Lo,true,0,c9,by rw[i4];omega,by rw[i4];simp⟩⟩;have HV:=Xu hv;clear hv;by_cases h0:0<A.length
   .simp (disch:=first|omega|simp) [*];refine Xv (a5k h0 (by omega) (by rw[W4];omega) _ _ _ HV.out) ?_;rintro _ ⟨g5,rfl,i5,hb5⟩;have i6:=Xu i5;have j9:=Xu hb5;clear i5 hb5;simp (disch:=first|omega|simp) [*];refine Xv (a5l h0 _) ?_;rintro _ rfl;simp (disch:=first|omega|simp) [*];refine⟨l,_,_,_,⟨rfl,rfl,rfl⟩,g7.out,by omega,λb U=>?_,e5.out _ _ _ _ (by omega) (λb U=>(i6.out b (by omega)).trans (Z.out b U)) (by omega) (by omega) ⟨_,j9.out⟩ rfl⟩;rw[i6.out b (by omega),Z.out b (by omega),g8.out b (by omega)];exact Ad U
   .have e6:A.length=0:=by omega
    rw[e6] at j6;have k0:Aa (∀(g9:Gb)(n9 B:Nat)(cs:List AV),D<=n9->(∀b,b<D->g9 b=g1 b)->n<=B->B<n9->g9 B=some (.cells [] true 0)->cs=Lo.take A.length->M4 g9 n n9 (C6 l) (.sl B 0 0 0)):=⟨λg9 n9 B cs h1 h2 h3 h4 h6 h5=>by
     have k1:cs=[]:=by rw[h5,e6];rfl
     have:=e5.out g9 n9 B cs h1 h2 h3 h4 ⟨0,by rw[k1];exact h6⟩ h5
     rwa [e6] at this⟩
    clear HV e5;simp (disch:=first|omega|simp) [*];refine Xv (e3i _ _ _ _ _ rfl _ _ _ c9 (by omega)) ?_;rintro _ rfl;simp (disch:=first|omega|simp) [*];refine Xv (e3j _ _) ?_;rintro _ rfl;simp (disch:=first|omega|simp) [*];refine⟨l,_,_,_,⟨rfl,rfl,rfl⟩,g7.out,by omega,λb U=>?_,k0.out _ _ _ _ (by omega) (λb U=>(Ad (by omega)).trans (Z.out b U)) (by omega) (by omega) Ag rfl⟩;rw[Ad (by omega),Z.out b (by omega),g8.out b (by omega)];exact Ad U
end Go.Ai
