/- Parts of an interpreter and of a proof. No condition. -/
import Derived.Test.YtpimmmnkcgnjjaaGreatA34
import Derived.Test.YtpimmmnkcgnjjaaGreatA37
import Derived.Test.YtpimmmnkcgnjjaaGreatA36
import Derived.Test.YtpimmmnkcgnjjaaGreatA23
set_option linter.all false
set_option maxHeartbeats 40000000
set_option maxRecDepth 10000
open Go.Proofs Go.Proofs.Tryz
namespace Go.Ai
theorem b7i{M:Aw}(A:M.ok){I:Nat}{O:Int}(D:M.inp=I)(Q:M.out=O){S E:Wq}{L:Lq}(h:QOK M S E L):Cg I O L:=by
 have Z:=A.1;have h2:=A.2.1;have h3:=A.2.2.1;have h4:=A.2.2.2.1;exact⟨by have:=h.len;omega,by omega,by omega,by omega,by omega,λt U=>by have:=h.wl t U;omega,by have:=h.runs.valid A;rw[D,Q] at this;exact this⟩
theorem e5a{M:Aw}(A:M.ok){I:Nat}{O:Int}(Z:M.inp=I)(hO:M.out=O)(a2:I<=3){S E:Wq}{L:Lq}(D:SOK M.inp.toNat 5 S)(h:EOK M.inp.toNat 3 4 E)(Q:E0 M L)(hn:(Bi L).length<=60000):G0 I O S E (Aj I L):=by
 have a3:M.inp.toNat=I:=by rw[Z];rfl
 rw[a3] at D h;have h1:=A.1;have h2:=A.2.2.1;have h3:=A.2.2.2.1;have a7:=D.len;have a8:=h.len;have a0:=Q.go A Z;rw[hO] at a0;have a4:(Aj I L).length=(Bi L).length:=Gx;have a5:0<(Aj I L).length:=by
  rw[a4];exact e6y ((J2 (Q.valid A) Q.cons []).2 (.inl rfl))
 have a6:Ej I O (Aj I L)=0:=by have:=Q.err A Z (by omega);rw[hO] at this;exact this
 refine⟨by omega,a2,by omega,by omega,by omega,D.pos,λw U=>⟨by have:=(D.wl w U).1;omega,(D.wl w U).2⟩,by have:=h.low;omega,by omega,λe U=>⟨(h.wl e U).1,by have:=(h.wl e U).2.1;omega,(h.wl e U).2.2⟩,a5,by omega,a0,λr Q=>?_,?_⟩
 .have a1:=okT_of a0 r Q;exact⟨by have:=a1.1;omega,a1.2⟩
 .exact b5a (by omega) (by omega) (by omega) (by omega) D h (by omega) (by omega) (by omega) a6
theorem e5b{M:Aw}(hM:M.ok){I:Nat}{O:Int}(Z:M.inp=I)(hO:M.out=O){S E:Wq}{L:Lq}(A:QOK M S E L)(Q:G0 I O S E (Aj I L))(hb:L.length+(C8 M (Av (Aj I L) E (Am I S))).length<=196):(Bi (Cl I L++C8 M (Av (Aj I L) E (Am I S)))).length<=60000:=by
 have U:=b7i hM Z hO A;have a0:M.inp.toNat=I:=by rw[Z];rfl
 have hs:=A.s;have D:=A.e;rw[a0] at hs D;obtain⟨_,h2,_,_⟩:=e4j U A.runs.cons Q.go A.len (λr hr e D=>(Q.ok r hr).2 e D);have a1:=BF.of U A.runs.cons Q.go;have h3:=b5d (k:=20) (ts:=Cl I L++C8 M (Av (Aj I L) E (Am I S))) (λt ht=>by
  rcases W9.1 ht with h|h
  .have:=TL.short U.o1 a1.tl (k:=10) A.wl ((a5w (O:=O) t).1 h).1;omega
  .obtain⟨x,hx,rfl⟩:=Xc.1 h;obtain⟨u,hu,e,a2,rfl,_⟩:=P1.1 (J5.1 (e6q.1 hx).1);have h5:=(Vy hs u hu).1;have h6:=(D.wl e a2).2.1;show (u++e).length<=20;rw[W0];omega)
 rw[W0] at h3;omega
theorem e5c{M:Aw}(hM:M.ok){I:Nat}(U:M.inp=I)(a1:I<=3){ws:List (List Nat)}{full:Bool}{S E:Wq}{L:Lq}(Z:L=qLx M ws full S E)(A:QOK M S E L):
  L.length+(C8 M (Av (Aj I L) E (Am I S))).length<=196/\(full=true->Av (Aj I L) E (Am I S)=[]):=by
 have a2:M.inp.toNat=I:=by rw[U];rfl
 have D:=A.s;have Q:=A.e;rw[a2] at D Q;have a0:full=true->Av (Aj I L) E (Am I S)=[]:=λh=>by
  subst h;subst Z;exact e4n hM U A.runs (λw hw=>(Vy D w hw).2) (λe a3=>(Q.wl e a3).2.2)
 refine⟨?_,a0⟩
 cases hf:full with
 | true =>
  rw[a0 hf];have:=A.len;have h0:C8 M []=[]:=rfl;rw[h0,List.length_nil];omega
 | false =>
  have h1:L.length<=12:=by
   rw[Z,hf];unfold qLx D9;simp;omega
  have h2:(C8 M (Av (Aj I L) E (Am I S))).length<=(Av (Aj I L) E (Am I S)).length:=by
   unfold C8 C6;rw[Xl];exact Xa (List.length_filter_le _ _) (Sp _)
  have h3:=Pv (T:=Aj I L) (E:=E) (ws:=Am I S);have h4:(Am I S).length<=24:=by
   rw[Pu];have:=e5x D.len a1;have:=D.len;omega
  have h5:E.length<=6:=by have:=Q.len;omega
  have:=e5x h4 h5;omega
theorem e5d{st a2 a3:Nat}{part:Bool}{es:List Nat}{ev:AV}{ws:List (List Nat)}{wv:AV}(ia ib ic:Int){sb:List Nat}{eb:List (List Nat)}{full:Bool}(g:Gb)(n:Nat){a7 a8:AV}(h:InQ g n st a2 a3 es ev ws wv sb a7 eb a8):
  WC 0 prog 4 [.agg [.lit (.int .u8 st),.lit (.int .u8 a2),.lit (.int .u8 a3),.lit (.bool part),ev,wv,.lit (.int .u8 ia),.lit (.int .u8 ib),.lit (.int .u8 ic),a7,a8,.lit (.bool full)]] ⟨.fn g,n⟩ λr=>r=.ret (.lit (.bool true)) ⟨.fn g,n⟩:=by
 refine X3 rfl ?_;have j5:=h.i.se.one;have j6:=h.i.sw.choose_spec.1.one;have j7:=h.s.one;have j8:=h.e.choose_spec.1.one;have k5:allOne [.lit (.int .u8 st),.lit (.int .u8 a2),.lit (.int .u8 a3),.lit (.bool part),ev,wv,.lit (.int .u8 ia),.lit (.int .u8 ib),.lit (.int .u8 ic),a7,a8,.lit (.bool full)]=true:=by simp[j5,j6,j7,j8]
 have HQ:=Xu (λ(D:Gb)(n2:Nat)(hn:n<=n2)(hX:∀b,b<n->D b=g b)=>e4t part ia ib ic full D n2 (h.mono hn hX));have b8:=Xu λ(D:Gb)(n2:Nat)(hn:n<=n2)(hX:∀b,b<n->D b=g b)=>a4j st a2 a3 part es ev D n2 h.i.b0 h.i.b1 h.i.b2 (h.i.se.mono hn hX) h.i.eb;have a0:=Un st a2 a3 part es;clear h;refine ent pl4 func4 ?_;simp (disch:=first|omega|simp) [*];obtain⟨I,O,M,S,E,L,hM,a1,a4,hS,hE,hL,U,hq,Q⟩:=HQ.out (Ak g n (some (.cells [.lit (.int .u8 st),.lit (.int .u8 a2),.lit (.int .u8 a3),.lit (.bool part),ev,wv,.lit (.int .u8 ia),.lit (.int .u8 ib),.lit (.int .u8 ic),a7,a8,.lit (.bool full)] true 0))) (n+1) (by omega) (λb A=>Ad A);rw[<- hM] at a0 b8;have a9:∀w∈S,w.length<=100:=λw Q=>by have:=(hq.s.wl w Q).1;omega
 have b3:∀e∈E,e.length<=100:=λw Q=>by have:=(hq.e.wl w Q).2.1;omega
 obtain⟨A,e1⟩:=e5c a0 a1 U.i2 hL hq;have b9:=b7i a0 a1 a4 hq;have e5:=e5b a0 a1 a4 hq U A;have e6:∀w∈Am I S,inW w I=true:=λw Q=>by
  obtain⟨k,hk⟩:=e8k Q;exact(Of U.sw hk).2
 obtain⟨e7,e8⟩:=b7c a0 a1 b9 hq.runs U.go e6 (λe he=>(U.ew e he).2.2);have e9:G0 I O S E (Aj I (Cl I L++C8 M (Av (Aj I L) E (Am I S)))):=e5a a0 a1 a4 U.i2 hq.s hq.e e7 e5;have j9:=a5y U (b7g U);have g0:=λw (h:w∈Av (Aj I L) E (Am I S))=>b7h U h;have g7:=Xu λ(D:Gb)(n2:Nat)(sv ev Z:AV)(hT:D3 D n2 S E (Aj I L) sv ev Z) (ms:List AV) (hr:Cy D n2 M ms)=>e4o a0 a1 a4 U b9 hq.runs a9 b3 A D n2 sv ev Z hT ms hr;have g8:=Xu λ(D:Gb)(n2:Nat)(sv ev Z:AV)(hT:D3 D n2 S E (Aj I L) sv ev Z)=>a5x U a9 b3 D n2 sv ev Z hT;have c0:=Xu λ(D:Gb)(n2:Nat)(sv ev Z:AV)(hT:D3 D n2 S E (Aj I (Cl I L++C8 M (Av (Aj I L) E (Am I S)))) sv ev Z)=>a5x e9 a9 b3 D n2 sv ev Z hT;rw[e8] at c0;have g9:=Xu λ(D:Gb)(n2:Nat)(sv ev Z:AV)(hT:D3 D n2 S E (Aj I L) sv ev Z)=>e4z U D n2 sv ev Z hT.s.listV hT.e.listV hT.t;have c1:full=true->(C6 (Bp (Av (Aj I L) E (Am I S)))).length=0:=λh=>by rw[e1 h];rfl
 have h0:(C6 (Bp (Av (Aj I L) E (Am I S)))).length<=1600:=by
  have h1:(C6 (Bp (Av (Aj I L) E (Am I S)))).length<=(Bp (Av (Aj I L) E (Am I S))).length:=List.length_filter_le _ _;have:=Sp (Av (Aj I L) E (Am I S));omega
 have h2:Aa (∀w∈C6 (Bp (Av (Aj I L) E (Am I S))),w.length<=700):=⟨λw Q=>(g0 w (J5.1 (e6q.1 Q).1)).2⟩;clear HQ hM a1 a4 hS hE hL hq U a9 b3 A e1 b9 e5 e6 e7 e8 e9 j9 g0 a0;generalize C6 (Bp (Av (Aj I L) E (Am I S)))=l at *;generalize Aj I (Cl I L++C8 M (Av (Aj I L) E (Am I S)))=T2 at *;generalize Aj I L=T at *;refine Xv Q ?_;rintro _ ⟨sv,e2,Z,g1,n1,rfl,k6,c2,a5⟩;have k0:=a5.s.one;have k1:=a5.e.one;have k2:=a5.t.choose_spec.1.one;have k7:allOne [.li I,.li O,sv,e2,.li I,.li O,Z]=true:=by simp[k0,k1,k2]
 have c6:Aa (∀b,b<n->g1 b=g b):=⟨λb A=>(c2 b (by omega)).trans (Ad A)⟩;have h3:=(c2 n (by omega)).trans Ag;have c7:=Xu a5;clear Q c2 a5;simp (disch:=first|omega|simp) [*];refine Xv (g8.out _ _ _ _ _ (c7.out.mono (by omega) λb A=>Ad A)) ?_;rintro _ ⟨lv,g2,n2,rfl,k8,b4,c8⟩;have h4:=(b4 n1 (by omega)).trans Ag;have h5:=(b4 n (by omega)).trans ((Ad (by omega)).trans h3);have h6:Aa (∀b,b<n1->g2 b=g1 b):=⟨λb A=>(b4 b (by omega)).trans (Ad A)⟩;have h7:=c8.listC;obtain⟨B,rfl⟩:=c8.capQ;have h8:=Xu h7;clear b4 c8 h7 g8 h3;simp (disch:=first|omega|simp) [*];refine Xv (g9.out _ _ _ _ _ (c7.out.mono (by omega) h6.out)) ?_;rintro _ ⟨ov,g3,n3,rfl,k9,a6,c9⟩;have h9:=(a6 n1 (by omega)).trans h4;have i0:=(a6 n (by omega)).trans h5;have i1:Aa (∀b,b<n1->g3 b=g1 b):=⟨λb A=>(a6 b (by omega)).trans (h6.out b A)⟩;have l0:=c9.one;have e0:=Xu (e3p (a:=l) (b:=l) (by omega) (by omega) (λw Q=>by have:=h2.out w Q;omega) (λw Q=>by have:=h2.out w Q;omega) g3 n3 _ ov (h8.out.listV.mono (by omega) a6) c9.listV);simp only[decide_true] at e0;clear a6 c9 g9 h4 h5 h8;simp (disch:=first|omega|simp) [*];refine Xv e0.out ?_;rintro _ rfl;simp (disch:=first|omega|simp) [*];refine Xv (b8.out _ _ (by omega) λb A=>(i1.out b (by omega)).trans (c6.out b A)) ?_;rintro _ ⟨cs,g4,n4,rfl,l1,b5,i3⟩;have i4:=(b5 n1 (by omega)).trans h9;have i5:=(b5 n (by omega)).trans i0;have i6:Aa (∀b,b<n1->g4 b=g1 b):=⟨λb A=>(b5 b (by omega)).trans (i1.out b A)⟩;have i7:=Xu i3.rep;clear b5 i3 b8 e0 h9 i0;simp (disch:=first|omega|simp) [*];refine Xv (g7.out _ _ _ _ _ (c7.out.mono (by omega) i6.out) cs i7.out) ?_;rintro _ ⟨l2,l3,l4,g5,n5,rfl,l5,b6,i8⟩;have i9:=(b6 n (by omega)).trans i5;have k3:Aa (∀b,b<n1->g5 b=g1 b):=⟨λb A=>(b6 b (by omega)).trans (i6.out b A)⟩;have j0:=Xu i8;have j1:=(b6 n1 (by omega)).trans i4;clear b6 i8 g7 i7 i4 i5;simp (disch:=first|omega|simp) [*];refine Xv (c0.out _ _ _ _ _ j0.out) ?_;rintro _ ⟨l6,g6,n6,rfl,l7,b7,j2⟩;obtain⟨B2,rfl⟩:=j2.capQ;have l8:=(b7 n (by omega)).trans i9;have l9:=(b7 n1 (by omega)).trans j1;have j3:Aa (∀b,b<n1->g6 b=g1 b):=⟨λb A=>(b7 b (by omega)).trans (k3.out b A)⟩;have j4:(C6 (Bp [])).length=0:=rfl;rw[j4];clear b7 j2 c0 j0 i9 j1 j4;by_cases hz:l.length=0
 .rw[hz];clear c1 h0;simp (disch:=first|omega|simp) [*];refine Xv (b6b _) ?_;rintro _ rfl;simp (disch:=first|omega|simp) [*];exact⟨show n<=n6 by omega,λb (A:b<n)=>(j3.out b (show b<n1 by omega)).trans (c6.out b A)⟩
 .have hf:full=false:=by
   cases k4:full with
   | false=>rfl
   | true=>exact absurd (c1 k4) hz
  subst hf;have m1:¬l=[]:=λh=>hz (by rw[h];rfl);have m2:¬(l.length:Int)=0:=by omega
  clear c1 h0;simp (disch:=first|omega|simp) [*];refine Xv (b6b _) ?_;rintro _ rfl;simp (disch:=first|omega|simp) [*];exact⟨show n<=n6 by omega,λb (A:b<n)=>(j3.out b (show b<n1 by omega)).trans (c6.out b A)⟩
end Go.Ai
