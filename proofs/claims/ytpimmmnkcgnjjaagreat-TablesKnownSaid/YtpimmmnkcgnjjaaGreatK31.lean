/- Parts of an interpreter and of a proof. No condition. -/
import Derived.Test.YtpimmmnkcgnjjaaGreatK24
import Derived.Test.YtpimmmnkcgnjjaaGreatK30
import Derived.Test.YtpimmmnkcgnjjaaGreatK12
set_option linter.all false
set_option maxHeartbeats 40000000
set_option maxRecDepth 10000
open Go.Proofs Go.Proofs.Tryz
namespace Go.Ai
variable {I n:Nat}
def Gd(n I k:Nat):List AV:=(List.range k).map (λi=>.sl (n+i) 0 1 1)++List.replicate (I-k) (.nl)
theorem a5w{k:Nat}(h:k<=I):(Gd n I k).length=I:=by
 unfold Gd;simp;omega
theorem e3r{k:Nat}(h:k<I):(Gd n I k).set k (.sl (n+k) 0 1 1)=Gd n I (k+1):=by
 unfold Gd;rw[List.set_append,if_neg (by simp)];simp only[e6c,e8n,e6n];rw[show I-k=(I-(k+1))+1 by omega,e7m,e8g,List.range_succ,e6z];simp
theorem b6o{i:Nat}(h:i<I):(Gd n I I)[i]?=some (.sl (n+i) 0 1 1):=by
 unfold Gd;simp[h]
def D8(I:Nat):Wq:=(List.range I).map λi:Nat=>[(i:Int)]
def Hy(x o:Int):Int:=if 16<x\/16<o then 3 else if x<1\/o<1 then 1 else 0
def Mw(g:Gb)(n:Nat)(x o:Int)(r:Ay):Prop:=∃g' n',n<=n'/\(∀b,b<n->g' b=g b) /\
  ((Hy x o≠0/\r=.ret (.tup [.agg [.li 0,.li 0,.nl,.nl,.li 0,.li 0,.nl],.li (Hy x o)]) ⟨.fn g',n'⟩) \/
   (Hy x o=0/\∃I:Nat,x=I/\1<=I/\I<=16/\1<=o/\o<=16/\∃b1 b2 b3,r=.ret (.tup [.agg [.li I,.li o,.sl b1 0 1 1,.sl b2 0 I I,.li I,.li o,.sl b3 0 (Aj I []).length (Aj I []).length],.li 0]) ⟨.fn g',n'⟩/\A7 g' n' [[]] (D8 I) (Aj I []) (.sl b1 0 1 1) (.sl b2 0 I I) (.sl b3 0 (Aj I []).length (Aj I []).length)/\goT I o (Aj I []) 0 1=some (Aj I []).length))
theorem b6p {I:Nat} {o:Int} (h1:1<=I) (h2:I<=16) (h3:1<=o) (h4:o<=16) : Cc I o []:=⟨by simp,by omega,by omega,h3,h4,by simp,by simp⟩
theorem e3s(x o:Int)(g:Gb)(n:Nat):WC 0 prog 12 [.li x,.li o] ⟨.fn g,n⟩ (Mw g n x o):=by
 have he:∀e:Int,Hy x o=e->e≠0->∀(g' : Gb)(n' : Nat),n<=n'->(∀b,b<n->g' b=g b)->Mw g n x o (.ret (.tup [.agg [.li 0,.li 0,.nl,.nl,.li 0,.li 0,.nl],.li e]) ⟨.fn g',n'⟩):=λe h h0 g' n' Z h2=>⟨g',n',Z,h2,.inl ⟨by rw[h];exact h0,by rw[h]⟩⟩;have U:=Xr he;clear he;by_cases Z:16<x
 .have A:=Xr (U.out 3 (by unfold Hy;rw[if_pos (.inl Z)]) (by decide));generalize Mw g n x o=K at *;refine ent [] func12 ?_;simp (disch:=first|omega|simp) [*];exact A.out _ _ (by omega) λb f=>by simp (disch:=omega) only[Ad]
 by_cases h2:16<o
 .have A:=Xr (U.out 3 (by unfold Hy;rw[if_pos (.inr h2)]) (by decide));generalize Mw g n x o=K at *;refine ent [] func12 ?_;simp (disch:=first|omega|simp) [*];exact A.out _ _ (by omega) λb f=>by simp (disch:=omega) only[Ad]
 by_cases h3:x<1
 .have A:=Xr (U.out 1 (by unfold Hy;rw[if_neg (by omega),if_pos (.inl h3)]) (by decide));generalize Mw g n x o=K at *;refine ent [] func12 ?_;simp (disch:=first|omega|simp) [*];exact A.out _ _ (by omega) λb f=>by simp (disch:=omega) only[Ad]
 by_cases h4:o<1
 .have A:=Xr (U.out 1 (by unfold Hy;rw[if_neg (by omega),if_pos (.inr h4)]) (by decide));generalize Mw g n x o=K at *;refine ent [] func12 ?_;simp (disch:=first|omega|simp) [*];exact A.out _ _ (by omega) λb f=>by simp (disch:=omega) only[Ad]
 obtain⟨I,rfl⟩:∃I:Nat,x=I:=⟨x.toNat,by omega⟩;have a5:Hy I o=0:=by unfold Hy;rw[if_neg (by omega),if_neg (by omega)]
 have h5:(0:Int)<=(I:Int):=by omega
 have h6:(I:Int)<=1048576:=by omega
 have b5:List.replicate I (AV.nl)=Gd (n+5) I 0:=by simp[Gd]
 have b6:=Xr λ(g' : Gb)(n' b1 b2 b3:Nat)(q1:n<=n')(q2:∀b,b<n->g' b=g b)(q3:A7 g' n' [[]] (D8 I) (Aj I []) (.sl b1 0 1 1) (.sl b2 0 I I) (.sl b3 0 (Aj I []).length (Aj I []).length)) (q4:goT I o (Aj I []) 0 1=some (Aj I []).length)=>(show Mw g n I o (.ret (.tup [.agg [.li I,.li o,.sl b1 0 1 1,.sl b2 0 I I,.li I,.li o,.sl b3 0 (Aj I []).length (Aj I []).length],.li 0]) ⟨.fn g',n'⟩) from ⟨g',n',q1,q2,.inr ⟨a5,I,rfl,by omega,by omega,by omega,by omega,b1,b2,b3,rfl,q3,q4⟩⟩);generalize Mw g n I o=K at *;clear a5 U;refine ent [] func12 ?_;simp (disch:=first|omega|simp) [*];refine Xv (λm D H'=>∃(k nL:Nat)(gL:Gb),k<=I/\m=I-k/\H'=⟨.fn gL,nL⟩/\nL=n+5+k/\Aa (∀b,b<n->gL b=g b)/\gL n=some (.cells [.li 0,.li 0,.nl,.nl,.li 0,.li 0,.nl] true 0)/\gL (n+1)=some (.cells [] true 0)/\gL (n+1+1)=some (.cells [.sl (n+1) 0 0 0] true 0)/\gL (n+1+1+1)=some (.cells (Gd (n+5) I k) true 0) /\
  gL (n+1+1+1+1)=some (.cells [.li I,.li o,.sl (n+1+1) 0 1 1,.sl (n+1+1+1) 0 I I,.li 0,.li 0,.nl] true 0)/\Aa (∀i,i<k->gL (n+5+i)=some (.cells [.li (i:Nat)] true 0)) /\
  D 0=some (.li I)/\D 1=some (.li o)/\D 4=some (.ptr n 0)/\D 6=some (.ptr (n+1+1+1+1) 0)/\D 29=some (.li I)/\D 30=some (.li k)) (m0:=I) ?_ ?_
 .refine⟨0,_,_,W3 _,rfl,rfl,rfl,⟨λb f=>?_⟩,?_,?_,?_,?_,Ah,⟨λi hi=>by omega⟩,by simp[*]⟩
  all_goals simp (disch:=omega) only[Ad,Ah]
 clear b5;rintro m D H' ⟨k,_,gL,hk,rfl,rfl,rfl,HG,a1,a2,a3,a6,a4,HI,w0,w1,w4,w6,c9,e0⟩ ih;refine rnd [] ?_;by_cases b7:k<I
 .have b8:(k:Int)<(I:Int):=by omega
  have e1:=a5w (n:=n+5) (I:=I) (k:=k) (by omega);have e5:k<(Gd (n+5) I k).length:=by omega
  have HS:Aa ((Gd (n+5) I k).set k (.sl (n+5+k) 0 1 1)=Gd (n+5) I (k+1)):=⟨e3r b7⟩;simp (disch:=first|omega|simp) [*];refine ih.out (I-(k+1)) _ _ (by omega) ⟨k+1,n+5+k+1,_,by omega,rfl,rfl,by omega,⟨λb f=>?_⟩,?_,?_,?_,?_,?_,⟨λi hi=>?_⟩,by simp[*]⟩
  .simp (disch:=omega) only[Ad,Ae];exact HG.out b f
  .simp (disch:=omega) only[Ad,Ae];exact a1
  .simp (disch:=omega) only[Ad,Ae];exact a2
  .simp (disch:=omega) only[Ad,Ae];exact a3
  .rw[<- HS.out];exact Ah
  .simp (disch:=omega) only[Jj,Ad,Ae];exact a4
  .by_cases e:i=k
   .subst e;rw[Ae (by omega)];exact Ah
   .rw[Ae (by omega),Ae (by omega)];exact HI.out i (by omega)
 .have b8:¬(k:Int)<(I:Int):=by omega
  have b9:k=I:=by omega
  subst b9;have a7:Du gL (n+5+k) [] (.nl):=⟨[],.inl ⟨rfl,rfl,.inl rfl⟩,⟨rfl,λi h=>by cases h⟩⟩;have HT:=Xr (b4t (I:=k) (O:=o) (ts:=[]) (b6p (by omega) (by omega) (by omega) (by omega)) rfl gL (n+5+k) _ a7 (λ_ _ _ _ e=>by cases e));clear a7 ih;simp (disch:=first|omega|simp) [*];refine Xs HT.out ?_;rintro _ ⟨g5,n5,bs,B,rfl,e6,Q,c0,c1,a8,a9,b0⟩;have b4:=Xr Q;have c2:=Xr a8;have c6:=Xr a9;have c7:=Xr b0;have f0:=(Q n (by omega)).trans a1;have f4:=(Q (n+1+1+1+1) (by omega)).trans a4;have F1:=Xr ((Q (n+1) (by omega)).trans a2);have F2:=Xr ((Q (n+1+1) (by omega)).trans a3);have F3:=Xr ((Q (n+1+1+1) (by omega)).trans a6);clear Q a8 a9 b0 a1 a2 a3 a6 a4 HT;simp (disch:=first|omega|simp) [*];refine b6.out _ _ _ _ _ (by omega) (λb f=>?_) ⟨⟨[.sl (n+1) 0 0 0],?_,⟨rfl,λi hi=>?_⟩,λq hq=>?_⟩,⟨Gd (n+5) k k,?_,⟨?_,λi hi=>?_⟩,λq hq=>?_⟩,?_⟩ c7.out
  .rw[Ad f,Ad (by omega),b4.out b (by omega)];exact HG.out b f
  .exact .inr ⟨n+1+1,0,by omega,.inl ⟨1,rfl⟩,⟨[.sl (n+1) 0 0 0],true,0,by rw[Ae (by omega),Ad (by omega)];exact F2.out,by simp[*]⟩⟩
  .have:i=0:=by simpa using hi
   subst this;exact⟨_,rfl,.inr ⟨n+1,0,by omega,.inl ⟨0,rfl⟩,⟨[],true,0,by rw[Ae (by omega),Ad (by omega)];exact F1.out,by simp[wdC],by simp[wdC]⟩⟩⟩
  .have:=Xf.1 hq;subst this;intro a o2 m c e;cases e;exact Wy _
  .refine .inr ⟨n+1+1+1,0,by omega,.inl ⟨k,by simp[D8]⟩,⟨Gd (n+5) k k,true,0,by rw[Ae (by omega),Ad (by omega)];exact F3.out,by simp[*]⟩⟩
  .rw[a5w (Wy _)];simp[D8]
  .have a0:i<k:=by simpa[D8] using hi
   refine⟨_,b6o a0,?_⟩;have c8:(D8 k)[i]=[(i:Int)]:=by simp[D8]
   rw[c8];refine .inr ⟨n+5+i,0,by omega,.inl ⟨1,rfl⟩,⟨[.li (i:Nat)],true,0,?_,by simp[wdC],by simp[wdC]⟩⟩;rw[Ae (by omega),Ae (by omega),b4.out _ (by omega)];exact HI.out i a0
  .obtain⟨i,hi⟩:=e8t hq;have a0:i<k:=by have:=(W8.1 hi).1;rwa [a5w (Wy _)] at this
   rw[b6o a0] at hi;cases hi;intro a o2 m c e;cases e;exact Wy _
  .refine(RowsC.tree c2.out.from' c1 (by rw[Cq c0];exact c6.out)).from' (Wy _) λa Z h2=>?_;rw[Ae (by omega),Ae (by omega)]
theorem Mx(I:Nat):Aj I []=[List.replicate I (-1,-1)]:=by
 have h:∀l:List Nat,l.map (A0 (valT []) (Dm []) [])=List.replicate l.length (-1,-1):=λl=>by
  induction l with
  | nil=>rfl
  | cons a l f=>rw[e6o,f];rfl
 show [(List.range I).map (A0 (valT []) (Dm []) [])]=_;rw[h,e8n]
theorem e3t:∀{x:Wd},x≠[]->Bd (Aj I []) 0 x=none
 | [],h=>absurd rfl h
 | i::w,_=>by
  rw[Mx];unfold Bd;have e:(([List.replicate I ((-1:Int),(-1:Int))].getD (0:Int).toNat []).getD i.toNat (-1,-1))=(-1,-1):=by
   show (List.replicate I ((-1:Int),(-1:Int))).getD i.toNat (-1,-1)=_;rw[Xo,List.getElem?_replicate];split<;>rfl
  rw[e];rfl
theorem e3u{w:Wd}:w∈D8 I↔∃i:Nat,i<I/\w=[(i:Int)]:=by
 unfold D8;rw[Xc];exact⟨λ⟨i,h,e⟩=>⟨i,e6u.1 h,e.symm⟩,λ⟨i,h,e⟩=>⟨i,e6u.2 h,e.symm⟩⟩
end Go.Ai
