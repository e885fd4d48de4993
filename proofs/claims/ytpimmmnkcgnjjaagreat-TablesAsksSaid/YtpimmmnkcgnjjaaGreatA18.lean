/- Parts of an interpreter and of a proof. No condition. -/
import Derived.Test.YtpimmmnkcgnjjaaGreatA15
import Derived.Test.YtpimmmnkcgnjjaaGreatA07
set_option linter.all false
set_option maxHeartbeats 40000000
set_option maxRecDepth 10000
open Go.Proofs Go.Proofs.Tryz
namespace Go.Ai
theorem e2s{q:Nat}{S:Wq}{k:Nat}(h:k<S.length):(Am q S)[k]?=some S[k]:=by
 unfold Am;rw[Xs h,W6 h]
theorem b5r{q:Nat}{i:Nat}(hi:i<q):∀{S:Wq}{k:Nat}(h:k<S.length),(He q S)[k*q+i]?=some (S[k]++[(i:Int)])
 | s::S,0,h=>by
  unfold He;rw[e7f,Xs (by simp;omega)];simp[hi]
 | s::S,k+1,h=>by
  have:=b5r hi (S:=S) (k:=k) (by simpa using h);unfold He at this |-;rw[e7f,Xq (by simp[e6g];omega)];simp only[Xl,e9g];rw[show (k+1)*q+i-q=k*q+i by rw[e6g];omega,this];simp
theorem e2t{q:Nat}{i:Nat}(hi:i<q){S:Wq}{k:Nat}(h:k<S.length):(Am q S)[S.length+(k*q+i)]?=some (S[k]++[(i:Int)]):=by
 unfold Am;rw[Xq (e8h _ _),Nat.add_sub_cancel_left,b5r hi h]
theorem Pu{q:Nat}{S:Wq}:(Am q S).length=S.length+S.length*q:=by
 unfold Am;rw[W0,Vx]
abbrev WN:WF:=orW noO (WC 0 prog)
theorem e2u{I:Nat}(hI:I<=16){S:Wq}(h8:S.length<=100)(b5:∀w∈S,w.length<=300)(c1 c3 c4 c5 c6:AV)(g:Gb)(n nb:Nat)(sv:AV)(hS:Bs g n S sv)
  {fr:Fr} {o:Operand} {ps:Array Tmp} {a5 body:Code} {m:Nat} {plan:List (Nat×List It)} {Q:QR} (b6:fr.ev o=some (.func (.func 136) [] [.ptr nb 0])) (h0:(ps.toList.all (λt=>Nat.blt t m)&&(Az m a5&&Az m body&&(Du prog plan a5&&Du prog plan body)))=true)
  (Inv:Nat->(Gb)->Nat->Prop) (Stop:(Gb)->Nat->Prop)
  (b0:∀k gL n2,Inv k gL n2->(∀b,b<n->gL b=g b)/\n<=n2/\nb<n2/\gL nb=some (.cells [.li I,c1,sv,c3,c4,c5,c6] true 0))
  (b1:∀k w gP nP gL n2 gk wv K,(Am I S)[k]?=some w->Inv k gP nP->nP<=n2->(∀b,b<nP->gL b=gP b)->(∀a z,gk a=some z->gL a=some z/\(a<n\/(nP<=a/\a<n2)))->Al gk n2 w wv->(∀g' n',Inv (k+1) g' n'->K true none ⟨.fn g',n'⟩)->(∀g' n',Stop g' n'->K false (some none) ⟨.fn g',n'⟩)->YB 0 prog WN m plan ps a5 body fr [wv] ⟨.fn gL,n2⟩ K)
  {gL:Gb} {n2:Nat} (h:Inv 0 gL n2) (hQ:∀g' n',Inv (Am I S).length g' n'->Q none (.norm fr ⟨.fn g',n'⟩)) (b7:∀g' n',Stop g' n'->Q none (.ret fr ⟨.fn g',n'⟩)) :
  RG 0 prog WN m plan o ps a5 body fr ⟨.fn gL,n2⟩ Q:=by
 refine RG.enter 136 _ _ _ [3,11] [] h0 b6 func136 rfl (by kernel_rfl) (by decide +kernel) (Wz (by kernel_rfl)) ?_;intro l;have h9:=@Ap prog _ _ _ _ _ hS.choose_spec.1;have HS:=Xu hS;have HM:=Xu b0;have HQ:=Xu hQ;have b8:=Xu b7;have D:=Xu h;have g6:=Xu b5;obtain⟨_,a0,a3,a4⟩:=b0 _ _ _ h;have i0:=hS.choose_spec.1.one;clear b0 hQ b7 h hS h0 b6 b5;generalize YB 0 prog WN m plan ps a5 body fr=Y at b1 |-;have b9:=Xu b1;clear b1;have a7:Aa ((∀g' n' A,Inv (Am I S).length g' n'->itQ prog f136 (λp H'=>Ky Q fr H' p) none (.norm (.f A []) ⟨.fn g',n'⟩))/\(∀g' n' A,Stop g' n'->itQ prog f136 (λp H'=>Ky Q fr H' p) (some none) (.ret (.f A []) ⟨.fn g',n'⟩))):=by
  refine⟨λg' n' A hi=>?_,λg' n' A hs=>?_⟩
  .simp[results136];exact HQ.out _ _ hi
  .simp[results136];exact b8.out _ _ hs
 clear HQ b8;generalize itQ prog f136 (λp H'=>Ky Q fr H' p)=Q2 at a7 |-;simp (disch:=first|omega|simp) [*];refine Y7 (λm A H'=>∃(k n2:Nat)(gL:Gb),k<=S.length/\m=S.length-k/\H'=⟨.fn gL,n2⟩/\Aa (Inv k gL n2) /\
  A 0=some (.lit (.func (.yield l) #[] #[]))/\A 1=some (.ptr nb 0)/\A 9=some sv/\A 10=some (.li S.length)/\A 11=some (.li k)) (m0:=S.length) ?_ ?_
 .exact⟨0,_,_,W3 _,rfl,rfl,D,by simp[*]⟩
 clear D a4 a0 a3;rintro m A H' ⟨k,n2,gL,hk,rfl,rfl,D,w0,w1,w9,g7,g8⟩ ih;refine Y6 (Ah _ _) hG [3,11] [] (by decide +kernel) ?_;obtain⟨U,a0,a3,a4⟩:=HM.out _ _ _ D.out;have Z:=Xu U;clear U;by_cases a1:k<S.length
 .have a8:(k:Int)<(S.length:Int):=by omega
  obtain⟨a2,o2,qv,b2,g9,a9,hq⟩:=HS.out.at a1;rw[<- Z.out a2 b2] at a9;have HY:=Xu λK=>b9.out k S[k] gL n2 gL n2 (λa=>if a<n then g a else none) qv K (e2s a1) D.out (Wy _) (λ_ _=>rfl) (λa z hz=>by
   by_cases h:a<n
   .rw[if_pos h] at hz;exact⟨(Z.out a h).trans hz,.inl h⟩
   .rw[if_neg h] at hz;cases hz) (Xz a0 (λa x ha hx=>by rw[if_pos ha];exact hx) hq)
  clear hq;simp (disch:=first|omega|simp) [*];refine HY.out _ (λg3 n3 c0=>?_) (λg3 n3 hs=>?_)
  .have h1:=Xu c0;clear c0;simp only[a1m];simp (disch:=first|omega|simp) [*];exact ih.out (S.length-(k+1)) _ _ (by omega) ⟨k+1,n3,g3,by omega,rfl,rfl,h1,by simp[*]⟩
  .have b3:=Xu hs;clear hs;simp only[a1n];simp (disch:=first|omega|simp) [*];exact a7.out.2 _ _ _ b3.out
 .have a8:¬(k:Int)<(S.length:Int):=by omega
  have b4:k=S.length:=by omega
  subst b4;have c2:Aa (Inv (S.length+0*I) gL n2):=⟨by simpa using D.out⟩;clear ih D;simp (disch:=first|omega|simp) [*];refine Y7 (λm A H'=>∃(k n2:Nat)(gL:Gb),k<=S.length/\m=S.length-k/\H'=⟨.fn gL,n2⟩/\Aa (Inv (S.length+k*I) gL n2) /\
   A 0=some (.lit (.func (.yield l) #[] #[]))/\A 1=some (.ptr nb 0)/\A 21=some sv/\A 22=some (.li S.length)/\A 23=some (.li k)) (m0:=S.length) ?_ ?_
  .exact⟨0,_,_,W3 _,rfl,rfl,c2,by simp[*]⟩
  clear c2 a4 a0 a3 Z w0 w1 w9 g7 g8 hk a1 a8;rintro m A H' ⟨k,n2,gL,hk,rfl,rfl,D,w0,w1,c7,c8,c9⟩ ih;refine Y6 (Ah _ _) hG [3,11] [] (by decide +kernel) ?_;obtain⟨U,a0,a3,a4⟩:=HM.out _ _ _ D.out;have Z:=Xu U;clear U;by_cases a1:k<S.length
  .have a8:(k:Int)<(S.length:Int):=by omega
   obtain⟨a2,o2,qv,b2,g9,a9,hq⟩:=HS.out.at a1;rw[<- Z.out a2 b2] at a9;have e0:=Xu hq;have h2:=Xu λ(i:Nat)(hi:i<I)=>e2t (q:=I) (i:=i) hi a1;have h3:=Xu (g6.out _ (W2 a1));have e5:Aa (Inv (S.length+(k*I+0)) gL n2):=⟨by simpa using D.out⟩;clear hq D;generalize S[k]=s at *;simp (disch:=first|omega|simp) [*];refine Y7 (λm A H'=>∃(i n2:Nat)(gL:Gb),i<=I/\m=I-i/\H'=⟨.fn gL,n2⟩/\Aa (Inv (S.length+(k*I+i)) gL n2) /\
    A 0=some (.lit (.func (.yield l) #[] #[]))/\A 1=some (.ptr nb 0)/\A 6=some qv/\A 21=some sv/\A 22=some (.li S.length)/\A 23=some (.li k)/\A 28=some (.li I)/\A 29=some (.li i)) (m0:=I) ?_ ?_
   .exact⟨0,_,_,W3 _,rfl,rfl,e5,by simp[*]⟩
   clear e5 a4 a0 a3 Z w0 w1 c7 c8 c9 a9;rintro m2 i1 H2 ⟨i,n3,g3,hi,rfl,rfl,D,w0,w1,w6,c7,c8,c9,i2,i3⟩ e6;refine Y6 (Ah _ _) hG [3,11] [] (by decide +kernel) ?_;obtain⟨U,a0,a3,a4⟩:=HM.out _ _ _ D.out;have Z:=Xu U;clear U;by_cases h4:i<I
   .have h5:(i:Int)<(I:Int):=by omega
    have i4:=e0.out.one;simp (disch:=first|omega|simp) [*];refine Xv (b5i (a:=s) (b:=[(i:Int)]) (by have:=h3.out;omega) (by simp) (by simp) _ _ _ _ (X0 (by omega) (λb hb=>?_) e0.out) (Yj (own:=true) (z:=0) Ag (by omega))) ?_
    .simp (disch:=omega) only[Ad];exact Z.out b hb
    rintro _ ⟨uv,g4,n4,rfl,i5,e7,e8,h6⟩;have e9:∀b,b<n3->g4 b=g3 b:=λb hb=>by rw[e7 b (by omega)];simp (disch:=omega) only[Ad]
    have i6:=e8.rep.one;obtain⟨gk,g0,g1⟩:=e8;have HY:=Xu λK=>b9.out _ (s++[(i:Int)]) g3 n3 g4 n4 gk uv K (h2.out i h4) D.out (by omega) e9 (λa z hz=>by
     obtain⟨e1,e2,e3⟩:=g0 a z hz;exact⟨e1,.inr ⟨by omega,e3⟩⟩) g1
    clear e7 e9 g0 g1 h6;simp (disch:=first|omega|simp) [*];refine HY.out _ (λg5 n5 g2=>?_) (λg5 n5 hs=>?_)
    .have a6:Aa (Inv (S.length+(k*I+(i+1))) g5 n5):=⟨g2⟩;clear g2 HY;simp only[a1m];simp (disch:=first|omega|simp) [*];exact e6.out (I-(i+1)) _ _ (by omega) ⟨i+1,n5,g5,by omega,rfl,rfl,a6,by simp[*]⟩
    .have b3:=Xu hs;clear hs HY;simp only[a1n];simp (disch:=first|omega|simp) [*];exact a7.out.2 _ _ _ b3.out
   .have h5:¬(i:Int)<(I:Int):=by omega
    have h7:i=I:=by omega
    subst h7;have a6:Aa (Inv (S.length+(k+1)*i) g3 n3):=⟨by rw[e6g,Nat.one_mul];exact D.out⟩;clear D e6;simp (disch:=first|omega|simp) [*];exact ih.out (S.length-(k+1)) _ _ (by omega) ⟨k+1,n3,g3,by omega,rfl,rfl,a6,by simp[*]⟩
  .have a8:¬(k:Int)<(S.length:Int):=by omega
   have b4:k=S.length:=by omega
   subst b4;have a6:Aa (Inv (Am I S).length gL n2):=⟨by rw[Pu];exact D.out⟩;clear D ih;simp (disch:=first|omega|simp) [*];exact a7.out.1 _ _ _ a6.out
end Go.Ai
