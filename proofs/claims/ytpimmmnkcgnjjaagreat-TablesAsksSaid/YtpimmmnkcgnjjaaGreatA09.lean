/- Parts of an interpreter and of a proof. No condition. -/
import Derived.Test.YtpimmmnkcgnjjaaGreatA08
import Derived.Test.YtpimmmnkcgnjjaaGreatA05
set_option linter.all false
set_option maxHeartbeats 40000000
set_option maxRecDepth 10000
open Go.Proofs Go.Proofs.Tryz
namespace Go.Ai
variable {M:Aw}{sv lv:AV}{g':Gb}{l:Wq}{n' lo':Nat}{cs:List AV}{a p:Wd}{H:Mem}
theorem d9c(x q:Int)(p:Nat)(g:Gb)(n:Nat)(A:g p=some (.cells [.li q] true 0))(D:p<n):
  WC 0 prog 125 [.li x,.ptr p 0] ⟨.fn g,n⟩ λr=>r=.ret (.lit (.bool (decide (¬(0<=x/\x<q))))) ⟨.fn g,n⟩:=by
 by_cases t1:x<0
 .have h:decide (¬(0<=x/\x<q))=true:=decide_eq_true (by omega);rw[h];refine ent [] func125 ?_;simp (disch:=first|omega|simp) [*]
 by_cases t2:q<=x
 .have h:decide (¬(0<=x/\x<q))=true:=decide_eq_true (by omega);rw[h];refine ent [] func125 ?_;simp (disch:=first|omega|simp) [*]
 .have h:decide (¬(0<=x/\x<q))=false:=decide_eq_false (by omega);rw[h];refine ent [] func125 ?_;simp (disch:=first|omega|simp) [*]
theorem d9d(w:Wd)(b2:w.length<=1000000)(q:Int)(sv:AV)(p:Nat)(g:Gb)(n:Nat)(hp:g p=some (.cells [.li q] true 0))(a7:p<n)(U:Al g n w sv):
  WC 0 prog 143 [sv,.func (.func 125) [] [.ptr p 0]] ⟨.fn g,n⟩ λr=>∃z:Int,r=.ret (.li z) ⟨.fn g,n⟩/\decide (0<=z) = !(w.all λi=>decide (0<=i/\i<q)):=by
 have b3:=@Ap prog _ _ _ _ _ U;have HS:=Xu U;have HP:=Xu hp;clear U hp;obtain⟨a0,Z⟩:∃b,b = !(w.all λi=>decide (0<=i/\i<q)):=⟨_,rfl⟩;rw[<- Z];have a1:=Xu Z;clear Z;refine ent [] func143 ?_;simp (disch:=first|omega|simp) [*];refine Xy (λm A H'=>∃(k:Nat),k<=w.length/\m=w.length-k/\H'=⟨.fn g,n⟩/\Aa (∀i∈w.take k,0<=i/\i<q) /\
  A 0=some sv/\A 1=some (.func (.func 125) [] [.ptr p 0])/\A 7=some (.li w.length)/\A 8=some (.li k)) (m0:=w.length) ?_ ?_
 .exact⟨0,W3 _,rfl,rfl,⟨by simp⟩,by simp[*]⟩
 rintro m A H' ⟨k,hk,rfl,rfl,a3,w0,w1,w7,w8⟩ ih;refine rnd [] ?_;by_cases D:k<w.length
 .have a8:(k:Int)<(w.length:Int):=by omega
  obtain⟨a2,off,a9,a4,b0⟩:=X4 (P:=prog) HS.out D 1;simp only[Xj] at b0;have b1:=a4.one (k:=k) (s:=1) (by rw[A9];exact D);rw[(W8.1 (Hv w k D)).2] at b1;have a5:w.take (k+1)=w.take k++[w[k]]:=by rw[e7b,W6 D];rfl
  have HT:=Xu a5;have HM:=Xu (W2 D);clear a5 a4 a9;generalize w[k]=x at *;have HC:=Xu (d9c x q p g n HP.out a7);simp (disch:=first|omega|simp) [*];refine Xv HC.out ?_;rintro _ rfl;by_cases Q:0<=x/\x<q
  .have hd:decide (¬(0<=x/\x<q))=false:=decide_eq_false (by omega);rw[hd];have HB:=Xu Q;clear Q;simp (disch:=first|omega|simp) [*];refine ih.out (w.length-(k+1)) _ _ (by omega) ⟨k+1,by omega,rfl,rfl,⟨λi hi=>?_⟩,by simp[*]⟩;rw[HT.out] at hi;rcases W9.1 hi with h|h
   .exact a3.out i h
   .rw[Xh.1 h];exact HB.out
  .have hd:decide (¬(0<=x/\x<q))=true:=decide_eq_true Q;rw[hd];have hr:a0=true:=by
    rw[a1.out,e9a,e8w];exact⟨x,HM.out,by simpa using Q⟩
   clear Q;simp (disch:=first|omega|simp) [*]
 .have a8:¬(k:Int)<(w.length:Int):=by omega
  have a6:k=w.length:=by omega
  have hr:a0=false:=by
   rw[a1.out,Bool.not_eq_false',W7];intro i hi;have:=a3.out i (by rw[a6,Xn];exact hi);simpa using this
  clear a6;simp (disch:=first|omega|simp) [*]
theorem d9e(w:Wd)(Q:w.length<=1000000)(q:Int)(sv:AV)(p:Nat)(g:Gb)(n:Nat)(A:g p=some (.cells [.li q] true 0))(U:p<n)(D:Al g n w sv):
  WC 0 prog 124 [sv,.func (.func 125) [] [.ptr p 0]] ⟨.fn g,n⟩ λr=>r=.ret (.lit (.bool (!(w.all λi=>decide (0<=i/\i<q))))) ⟨.fn g,n⟩:=by
 have Z:=Xu (d9d w Q q sv p g n A U D);clear A D;generalize (!(w.all λi=>decide (0<=i/\i<q)))=bb at *;refine ent [] func124 ?_;simp (disch:=first|omega|simp) [*];refine Xv Z.out ?_;rintro _ ⟨z,rfl,h⟩
 cases bb with
 | true =>
  have a0:0<=z:=of_decide_eq_true h;clear h;simp (disch:=first|omega|simp) [*]
 | false =>
  have a0:¬0<=z:=of_decide_eq_false h;clear h;simp (disch:=first|omega|simp) [*]
def Cz(w:Wd)(q:Int):Int:=if q > 16\/w.length > 256 then 3 else if q<1\/inW w q=false then 1 else 0
theorem a4l(w:Wd)(a0:w.length<=1000000)(q:Int)(g:Gb)(n:Nat)(sv:AV)(Q:Al g n w sv):
  WC 0 prog 77 [sv,.li q] ⟨.fn g,n⟩ λr=>r=.ret (.li (Cz w q)) ⟨.fn g,n⟩:=by
 refine X3 rfl ?_;have a2:=@Ap prog _ _ _ _ _ Q;have HS:=Xu Q;clear Q;by_cases t1:q > 16
 .have A:Cz w q=3:=by unfold Cz;rw[if_pos (.inl t1)]
  rw[A];refine ent [] func77 ?_;simp (disch:=first|omega|simp) [*]
  all_goals exact⟨W5 n,λb D=>Ad D⟩
 by_cases t2:w.length > 256
 .have A:Cz w q=3:=by unfold Cz;rw[if_pos (.inr t2)]
  rw[A];have a1:256<(w.length:Int):=by omega
  refine ent [] func77 ?_;simp (disch:=first|omega|simp) [*]
  all_goals exact⟨W5 n,λb D=>Ad D⟩
 have a1:¬256<(w.length:Int):=by omega
 by_cases t3:q<1
 .have A:Cz w q=1:=by unfold Cz;rw[if_neg (by omega),if_pos (.inl t3)]
  rw[A];refine ent [] func77 ?_;simp (disch:=first|omega|simp) [*]
  all_goals exact⟨W5 n,λb D=>Ad D⟩
 have U:=Xu (d9e w a0 q sv n (Ak g n (some (.cells [.li q] true 0))) (n+1) Ag (by omega) (HS.out.mono (by omega) λa ha=>Ad ha));have A:Cz w q=if inW w q=false then 1 else 0:=by
  unfold Cz;rw[if_neg (by omega)];by_cases h:inW w q=false
  .rw[if_pos (.inr h),if_pos h]
  .rw[if_neg (λh2=>h2.elim t3 h),if_neg h]
 rw[A];clear A;have Z:(w.all λi=>decide (0<=i/\i<q))=inW w q:=rfl;rw[Z] at U;clear Z;generalize inW w q=bb at *;refine ent [] func77 ?_;simp (disch:=first|omega|simp) [*];refine Xv U.out ?_;rintro _ rfl;cases bb
 all_goals
  simp (disch:=first|omega|simp) [*]
  all_goals exact⟨W5 n,λb D=>Ad D⟩
theorem d9f(A:M.ok)(g:Gb)(n:Nat)(Z:List AV)(Q:Cy g n M Z):
  WC 0 prog 133 [.agg Z,.li 0] ⟨.fn g,n⟩ λr=>r=.ret (.li 0) ⟨.fn g,n⟩:=by
 refine X3 rfl ?_;obtain⟨U,svs,rfl,a0,D⟩:=Q;have a2:=D.one;have a3:allOne [.li M.inp,.li M.out,U]=true:=by simp[a2]
 have a4:=@Ap prog _ _ _ _ _ D;have HC:=Xu (b3o (M:=M) (λr Q=>by have:=(A.2.2.2.2.2.2 r Q).1;have:=A.2.1;omega) (Ak g n (some (.cells [.li M.inp,.li M.out,U] true 0))) (n+1) _ (Cy.mono (W5 n) (λa ha=>Ad ha) ⟨U,svs,rfl,a0,D⟩));rw[b3n.2 A] at HC;have a1:0<M.rows.length:=by have:=A.2.2.2.2.1;omega
 have a5:¬M.rows=[]:=λh=>by rw[h] at a1;cases a1
 clear a0 D;refine ent [] func133 ?_;simp (disch:=first|omega|simp) [*];refine Xv HC.out ?_;rintro _ rfl;simp (disch:=first|omega|simp) [*]
 all_goals exact⟨W5 n,λb hb=>Ad hb⟩
theorem d9g{w:Wd}{q:Int}(D:1<=q)(Q:q<=16)(U:w.length<=256)(A:inW w q=true):Cz w q=0:=by
 unfold Cz;rw[if_neg (by omega),if_neg];rintro (h|h)
 .omega
 .rw[A] at h;cases h
theorem mkI57:mkI prog 65=some (.li 0):=by kernel_rfl
attribute [simp] mkI57
theorem d9h(hM:M.ok)(w:Wd)(c9:w.length<=300)(hw:inW w M.inp=true)(g:Gb)(n:Nat)(ms:List AV)(wv:AV)(hr:Cy g n M ms)(hv:Al g n w wv):
  WC 0 prog 134 [.agg ms,.li 0,wv] ⟨.fn g,n⟩ λr=>∃g' n',r=.ret (.tup [.sl (n+1) 0 w.length w.length,.li (Fb M 0 w)]) ⟨.fn g',n'⟩/\n+2<=n'/\(∀b,b<n->g' b=g b)/\g' (n+1)=some (.cells (wdC (Bc M 0 w)) true 0):=by
 obtain⟨rv,rfl,b5⟩:=hr.one;have e0:allOne [.li M.inp,.li M.out,rv]=true:=by simp[b5]
 have e1:=@Ap prog _ _ _ _ _ hv;have HR:=Xu hr;have HV:=Xu hv;have HM:=Xu hM;have HW:=Xu hw;have e5:=hM.2.2.2.2.1;have e6:(w.length:Int)<=1048576:=by omega
 clear hr hv hM hw;refine ent pl134 func134 ?_;simp (disch:=first|omega|simp) [*];refine Xy (λm A H'=>∃(k n' : Nat)(gL:Gb)(cs:List AV)(s:Int),k<=w.length/\m=w.length-k/\H'=⟨.fn gL,n'⟩/\n+2<=n'/\Aa (∀b,b<n->gL b=g b)/\gL n=some (.cells [.li M.inp,.li M.out,rv] true 0) /\
  gL (n+1)=some (.cells cs true 0)/\cs.length=w.length/\Aa (cs=wdC (Bc M 0 (w.take k))++List.replicate (w.length-k) (.li 0))/\Aa (s=Fb M 0 (w.take k)/\N7 M s)/\A 1=some (.li s)/\A 3=some (.ptr n 0)/\A 8=some (.sl (n+1) 0 w.length w.length)/\A 15=some wv/\A 16=some (.li w.length)/\A 17=some (.li k)) (m0:=w.length) ?_ ?_
 .refine⟨0,_,_,_,0,W3 _,rfl,rfl,by omega,⟨λb Z=>?_⟩,?_,Ag,?_,⟨?_⟩,⟨rfl,.inr ⟨0,rfl,by omega⟩⟩,by simp[*]⟩
  .exact(Ad (by omega)).trans (Ad Z)
  .exact(Ad (by omega)).trans Ag
  .simp
  .simp[wdC,Bc]
 rintro m A H' ⟨k,n',gL,cs,s,hk,rfl,rfl,b6,Q,b0,b7,b8,HC,a0,w1,w3,w8,e7,e8,e9⟩ ih;refine rnd pl134 ?_;by_cases a4:k<w.length
 .have b9:(k:Int)<(w.length:Int):=by omega
  obtain⟨a2,off,g0,g1,g2⟩:=X0 (by omega) Q.out HV.out |> λh=>X6 (n:=n') (w:=w) h a4;have a1:=Bv a4;have hx:=of_decide_eq_true (W7.1 HW.out _ (W2 a4));have HA:Aa (Fb M 0 (w.take (k+1))=(Ci M s w[k]).1):=⟨by rw[a1,Vb,<- a0.out.1];rfl⟩;have b3:Aa (Bc M 0 (w.take (k+1))=Bc M 0 (w.take k)++[(Ci M s w[k]).2]):=⟨by rw[a1,Va,<- a0.out.1];rfl⟩;have a5:=Xu (Vc (Ve HM.out a0.out.2 hx.1 hx.2)).1;have a6:Aa (cs.set k (.lit (.int .i64 (Ci M s w[k]).2))=wdC (Bc M 0 (w.take (k+1)))++List.replicate (w.length-(k+1)) (.li 0)):=⟨by
   have hl:(wdC (Bc M 0 (w.take k))).length=k:=by rw[A9,K1,W4];omega
   rw[b3.out,Gv,HC.out,e7k _ _ (by omega),hl,e6h,show w.length-k=(w.length-(k+1))+1 by omega,e7m,e7q,e6c];rfl⟩
  have b4:=λgX n2=>Mq gX n2;have HN:=Xu b4;clear b4;have a7:(cs.set k (.lit (.int .i64 (Ci M s w[k]).2))).length=w.length:=by rw[Xf];exact b8
  rcases a0.out.2 with a3|⟨j,a3,hj⟩
  .have U:=Vd (M:=M) (s:=s) (i:=w[k]) (by omega);clear hx a1;rw[U] at HA b3 a5 a6 a7;clear U;generalize w[k]=x at *;subst a3;dsimp only at *;simp (disch:=first|omega|simp) [*];refine Xv (HN.out _ _) ?_;rintro _ rfl;simp (disch:=first|omega|simp) [*];refine ih.out (w.length-(k+1)) _ _ (by omega) ⟨k+1,_,_,_,-1,by omega,rfl,rfl,by omega,⟨λb Z=>?_⟩,?_,Ag,a7,a6,⟨HA.out.symm,a5.out⟩,by simp[*]⟩
   .simp (disch:=omega) only[Ad];exact Q.out b Z
   .simp (disch:=omega) only[Ad];exact b0
  .obtain⟨hi,U,_⟩:=a4k HM.out hj hx.1 hx.2;rw[<- a3] at U;obtain⟨b1,o1,b2,o2,q,a8⟩:=(HR.out.mono (Wy _) (λ_ _=>rfl)).edge hj hi;rw[<- U] at a8;have D:=Xu a8;have c0:((w[k]).toNat:Int)=w[k]:=Int.toNat_of_nonneg hx.1;clear a8 U hi;clear hx a1;generalize w[k]=x at *;obtain⟨y,rfl⟩:∃y:Nat,x=y:=⟨x.toNat,by omega⟩;subst a3;have c1:b1<n:=D.out.an;have c2:b2<n:=D.out.an2;have g3:∀{H:Mem}{ev:Ev}{o:Oper}{t:TypeId},iaS prog H ev o t (some (none,1)) (some rv) (some (.li (j:Int)))=.val (.ptr b1 (o1+j)) H:=λ{H ev o t}=>D.out.ia;have g4:A5 (some (false,1)) (gL b1) (o1+j)=some q:=(congrArg (λz=>A5 (some (false,1)) z (o1+j)) (Q.out b1 c1)).trans D.out.cell;have g5:∀{H:Mem}{ev:Ev}{o:Oper}{t:TypeId},iaS prog H ev o t (some (none,2)) (some q) (some (.li (y:Int)))=.val (.ptr b2 (o2+y*2)) H:=λ{H ev o t}=>D.out.ia2;have g6:A5 (some (true,2)) (gL b2) (o2+y*2)=some (.agg [.lit (.int .i64 (Ci M j y).1),.lit (.int .i64 (Ci M j y).2)]):=(congrArg (λz=>A5 (some (true,2)) z (o2+y*2)) (Q.out b2 c2)).trans D.out.cell2;clear D c0;have g7:¬(j:Int) = -1:=by omega
   generalize Ci M j y=e at *;obtain⟨to,eo⟩:=e;dsimp only at *;simp (disch:=first|omega|simp) [*];refine Xv (HN.out _ _) ?_;rintro _ rfl;simp (disch:=first|omega|simp) [*];refine ih.out (w.length-(k+1)) _ _ (by omega) ⟨k+1,_,_,_,to,by omega,rfl,rfl,by omega,⟨λb Z=>?_⟩,?_,Ag,a7,a6,⟨HA.out.symm,a5.out⟩,by simp[*]⟩
   .simp (disch:=omega) only[Ad];exact Q.out b Z
   .simp (disch:=omega) only[Ad];exact b0
 .have b9:¬(k:Int)<(w.length:Int):=by omega
  have a9:k=w.length:=by omega
  have c6:Aa (cs=wdC (Bc M 0 w)):=⟨by rw[HC.out,a9,Xn,e6h];simp⟩;have c7:Aa (s=Fb M 0 w):=⟨by rw[a0.out.1,a9,Xn]⟩;have c8:=c7.out;clear a9;subst c8;simp (disch:=first|omega|simp) [*];exact⟨_,_,⟨rfl,rfl⟩,b6,Q.out,by rw[<- c6.out];exact b7⟩
theorem d9i(Q:M.ok)(w:Wd)(a1:w.length<=256)(hw:inW w M.inp=true)(g:Gb)(n:Nat)(U:List AV)(Z:AV)(hr:Cy g n M U)(hv:Al g n w Z):
  WC 0 prog 102 [.agg U,.li 0,Z] ⟨.fn g,n⟩ λr=>∃B g' n',r=.ret (.tup [.sl B 0 w.length w.length,.li 0]) ⟨.fn g',n'⟩/\n<=B/\B<n'/\(∀b,b<n->g' b=g b)/\g' B=some (.cells (wdC (Bc M 0 w)) true 0):=by
 have a2:=Xu λ(h:Gb)(n2:Nat)(D:n<=n2)(hX:∀b,b<n->h b=g b)=>d9f Q h n2 U (hr.mono D hX);have a0:=Xu λ(h:Gb)(n2:Nat)(D:n<=n2)(hX:∀b,b<n->h b=g b)=>a4l w (by omega) M.inp h n2 Z (X0 D hX hv);have a3:=Xu λ(h:Gb)(n2:Nat)(D:n<=n2)(hX:∀b,b<n->h b=g b)=>d9h Q w (by omega) hw h n2 U Z (hr.mono D hX) (X0 D hX hv);rw[d9g Q.1 Q.2.1 a1 hw] at a0;obtain⟨rv,rfl,a4⟩:=hr.one;have a5:allOne [.li M.inp,.li M.out,rv]=true:=by simp[a4]
 clear hr hv hw Q;refine ent [] func102 ?_;simp (disch:=first|omega|simp) [*];refine Xv (a2.out _ _ (by omega) λb A=>Ad A) ?_;rintro _ rfl;simp (disch:=first|omega|simp) [*];refine Xv (a0.out _ _ (by omega) λb A=>Ad A) ?_;rintro _ rfl;simp (disch:=first|omega|simp) [*];refine Xv (a3.out _ _ (by omega) λb A=>Ad A) ?_;rintro _ ⟨g',n',rfl,a6,hX,hB⟩;have HX:Aa (∀b,b<n->g' b=g b):=⟨λb A=>(hX b (by omega)).trans (Ad A)⟩;have HB:=Xu hB;clear hX hB;simp (disch:=first|omega|simp) [*];exact⟨_,_,_,⟨rfl,rfl,rfl⟩,by omega,by omega,HX.out,HB.out⟩
def u8C(bs:List Nat):List AV:=bs.map λ(b:Nat)=>.lit (.int .u8 (b:Int))
def Hz(g:Gb)(n:Nat)(bs:List Nat)(sv:AV):Prop:=Af g n sv bs.length (u8C bs)
theorem Hz.at{g:Gb}{n:Nat}{w:List Nat}{D:AV}(h:Hz g n w D){k:Nat}(A:k<w.length):∃a off,a<n/\(∀{H:Mem}{ev:Ev}{o:Oper}{t:TypeId},iaS prog H ev o t (some (none,1)) (some D) (some (.li (k:Int)))=.val (.ptr a (off+k)) H)/\A5 (some (false,1)) (g a) (off+k)=some (.lit (.int .u8 (w[k]:Nat))):=by
 obtain⟨Z,off,a0,a1,Q⟩:=X4 (P:=prog) h A 1;simp only[Xj] at Q;have U:=a1.one (k:=k) (s:=1) (by unfold u8C;rw[Xl];exact A);rw[show (u8C w)[k]'(by unfold u8C;rw[Xl];exact A)=.lit (.int .u8 (w[k]:Nat)) by simp[u8C]] at U;exact⟨Z,off,a0,Q,U⟩
def C0(bs:List Nat)(I most:Nat):Wd:=(bs.take most).map λb=>((b % I:Nat):Int)
theorem Af.cell{g:Gb}{b len:Nat}:Af g b sv len cs->cellsOf sv=[sv]:=by
 rintro (⟨_,_,rfl|rfl⟩|⟨a,off,_,⟨c,rfl⟩|⟨c,rfl⟩,_⟩)<;>rfl
def Ba(g:Gb)(lo n B:Nat)(w:Wd)(sv:AV):Prop:=∃gk:Gb,(∀a z,gk a=some z->g a=some z/\lo<=a/\a<n/\a≠B)/\Al gk n w sv
theorem Ba.rep{g:Gb}{lo n B:Nat}{w:Wd}(h:Ba g lo n B w sv):Al g n w sv:=
 let ⟨_,A,D⟩:=h;Xz (Wy _) (λa z _ Q=>(A a z Q).1) D
theorem Ba.keep{g:Gb}{lo n B B': Nat}{w:Wd}(h:Ba g lo n B w sv)(Z:lo'<=lo)(D:n<=n')(hB:n<=B'\/B'=B\/B' < lo)(hg:∀a,lo<=a->a<n->a≠B->g' a=g a):Ba g' lo' n' B' w sv:=by
 obtain⟨Q,h1,U⟩:=h;refine⟨Q,λa z A=>?_,Xz D (λa z _ A=>A) U⟩;grind
theorem D8.safe{g:Gb}{lo n B:Nat}{w:Wd}(h:D8 g lo n w sv)(Z:lo'<=lo)(D:n<=n')(hB:n<=B\/B<lo)(hg:∀a,lo<=a->a<n->g' a=g a):Ba g' lo' n' B w sv:=by
 obtain⟨Q,h1,U⟩:=h;refine⟨Q,λa z A=>?_,Xz D (λa z _ A=>A) U⟩;grind
def RowsF(g:Gb)(lo n B:Nat)(ts:Lq)(cs:List AV):Prop:=
 cs.length=ts.length*2/\∀(k:Nat)(h:k<ts.length),∃s1 s2,cs[k*2]?=some s1/\cs[k*2+1]?=some s2/\Ba g lo n B ts[k].1 s1/\Ba g lo n B ts[k].2 s2
theorem RowsF.keep{g:Gb}{lo n B B': Nat}{ts:Lq}(h:RowsF g lo n B ts cs)(A:lo'<=lo)(D:n<=n')(Q:n<=B'\/B'=B\/B' < lo)(U:∀a,lo<=a->a<n->a≠B->g' a=g a):RowsF g' lo' n' B' ts cs:=
 ⟨h.1,λk Z=>let ⟨s1,s2,h1,h3,h4,h5⟩:=h.2 k Z;⟨s1,s2,h1,h3,h4.keep A D Q U,h5.keep A D Q U⟩⟩
theorem RowsF.nil{g:Gb}{lo n B:Nat}:RowsF g lo n B [] []:=⟨rfl,λk h=>by grind⟩
theorem RowsF.snoc{g:Gb}{lo n B:Nat}{ts:Lq}(h:RowsF g lo n B ts cs){t:List Int×Wd}{s1 s2:AV}(Q:Ba g lo n B t.1 s1)(U:Ba g lo n B t.2 s2):RowsF g lo n B (ts++[t]) (cs++[s1,s2]):=by
 have Z:=h.1;refine⟨by grind,λk A=>?_⟩;rw[W0,Xg] at A;by_cases D:k<ts.length
 .obtain⟨t1,t2,e1,e2,e3,e4⟩:=h.2 k D;grind
 grind
theorem RowsF.rows{g:Gb}{lo n B:Nat}{ts:Lq}(h:RowsF g lo n B ts cs):RowsT g n ts cs:=
 ⟨h.1,λk A=>let ⟨s1,s2,D,Q,U,Z⟩:=h.2 k A;⟨s1,s2,D,Q,U.rep,Z.rep⟩⟩
def Mr(g:Gb)(lo n B:Nat)(ts:Lq)(sv:AV):Prop:=∃cs,A6 g lo n B sv ts.length 2 cs/\RowsF g lo n B ts cs
theorem Mr.log{g:Gb}{lo n B:Nat}{ts:Lq}(h:Mr g lo n B ts sv):El g n ts sv:=by
 obtain⟨cs,A,D⟩:=h;refine⟨cs,Xz (Wy _) (λa x _ hx=>?_) A.slice,D.rows⟩;grind
theorem Mr.keep{g:Gb}{lo n B:Nat}{ts:Lq}(h:Mr g lo n B ts sv)(Q:lo'<=lo)(U:n<=n')(D:∀a,lo<=a->a<n->g' a=g a):Mr g' lo' n' B ts sv:=by
 obtain⟨cs,A,Z⟩:=h;refine⟨cs,?_,Z.keep Q U (.inr (.inl rfl)) λa h4 h5 _=>D a h4 h5⟩;rcases A with A|⟨k1,k2,k3,k4,k5,k6⟩
 .exact .inl A
 .exact .inr ⟨k1,k2,by omega,by omega,(D B k3 k4).trans k5,k6⟩
theorem Mr.one{g:Gb}{lo n B:Nat}{ts:Lq}(h:Mr g lo n B ts sv):oneC sv=true:=let ⟨_,A,_⟩:=h;A.one
def Jz(g:Gb)(n:Nat)(l:List (List Nat))(wv:AV):Prop:=∃svs,Af g n wv l.length svs/\svs.length=l.length/\∀(k:Nat)(h:k<l.length),∃sv,svs[k]?=some sv/\Hz g n l[k] sv
theorem Jz.mono{g:Gb}{n:Nat}{l:List (List Nat)}{A:AV}(h:Jz g n l A)(D:n<=n')(Q:∀a,a<n->g' a=g a):Jz g' n' l A:=
 let ⟨svs,U,Z,h3⟩:=h;⟨svs,U.mono D Q,Z,λk hk=>let ⟨sv,e1,e2⟩:=h3 k hk;⟨sv,e1,X0 D Q e2⟩⟩
theorem Jz.at{g:Gb}{n:Nat}{l:List (List Nat)}{A:AV}(h:Jz g n l A){k:Nat}(D:k<l.length):∃a off q,a<n/\(∀{H:Mem}{ev:Ev}{o:Oper}{t:TypeId},iaS prog H ev o t (some (none,1)) (some A) (some (.li (k:Int)))=.val (.ptr a (off+k)) H)/\A5 (some (false,1)) (g a) (off+k)=some q/\Hz g n l[k] q:=by
 obtain⟨svs,Q,h2,U⟩:=h;obtain⟨q,e1,e2⟩:=U k D;obtain⟨a,off,ha,Z,a0⟩:=Q.ia (P:=prog) D 1;simp only[Xj] at a0;have hc:=Z.one (k:=k) (s:=1) (by omega);grind
def Ms(M:Aw)(b:List Nat):List Int×Wd:=(C0 b M.inp.toNat 10,Bc M 0 (C0 b M.inp.toNat 10))
def D9(M:Aw)(ws:List (List Nat)):Lq:=(ws.take 12).map (Ms M)
theorem Vf{b:List Nat}{I:Int}{m:Nat}(h:1<=I):inW (C0 b I.toNat m) I=true:=by
 unfold inW C0;rw[W7];intro x hx;obtain⟨y,_,rfl⟩:=Xc.1 hx;have:=Xp y (show 0<I.toNat by omega);grind
theorem Vg{b:List Nat}{I m:Nat}:(C0 b I m).length<=m:=by
 grind[C0]
structure InG (g:Gb) (n:Nat) (st inp out:Nat) (es:List Nat) (ev:AV) (ws:List (List Nat)) (wv:AV):Prop where
 b0:st<256
 b1:inp<256
 b2:out<256
 se:Ks g n ev es.length (K0 es)
 eb:∀c∈es,c<65536
 sw:Jz g n ws wv
 wb:∀w∈ws,∀b∈w,b<256
theorem InG.mono{g:Gb}{n st A D:Nat}{es:List Nat}{ev:AV}{ws:List (List Nat)}{Q:AV}(h:InG g n st A D es ev ws Q)(U:n<=n')(Z:∀a,a<n->g' a=g a):InG g' n' st A D es ev ws Q:=
 ⟨h.b0,h.b1,h.b2,h.se.mono U Z,h.eb,h.sw.mono U Z,h.wb⟩
theorem Vh{O:Int}{p:Bool}{o:Int}{r:Wd}(h:-1<=o)(A:o<O)(D:p=true->o = -1)(Q:okR O (decide (o = -1)) r=true):okR O p (o::r)=true:=by
 show (!(decide (o < -1)||(decide (O<=o)||(p&&decide (¬o = -1))))&&okR O (decide (o = -1)) r)=true;grind
theorem N8{O:Int}{p:Bool}{o:Int}{r:Wd}(h:okR O p (o::r)=true):-1<=o/\o<O/\(p=true->o = -1)/\okR O (decide (o = -1)) r=true:=by
 have A:(!(decide (o < -1)||(decide (O<=o)||(p&&decide (¬o = -1))))&&okR O (decide (o = -1)) r)=true:=h;grind
theorem b3p(D:M.ok):∀(w:Wd)(s:Int)(p:Bool),N7 M s->(p=true->s = -1)->inW w M.inp=true->okR M.out p (Bc M s w)=true
 | [],_,_,_,_,_=>rfl
 | i::w,s,p,U,Z,A=>by
  unfold inW at A;rw[e8e,W1] at A;have hi:=of_decide_eq_true A.1;have Q:=Vc (Ve D U hi.1 hi.2);have hO:=D.2.2.1;show okR M.out p ((Ci M s i).2::Bc M (Ci M s i).1 w)=true;refine Vh Q.2.1 (by grind) (λh=>?_) (b3p D w _ _ Q.1 (λh=>Q.2.2.2 (of_decide_eq_true h)) A.2);grind[Vd]
theorem b3q{O:Int}:∀(r:Wd)(k:Nat)(p:Bool),okR O p r=true->k<r.length -> -1<=r.getD k 0/\r.getD k 0<O
 | [],_,_,_,A=>by grind
 | o::r,0,p,h,_=>by obtain⟨Q,U,_,_⟩:=N8 h;grind
 | o::r,k+1,p,h,A=>by obtain⟨_,_,_,D⟩:=N8 h;exact b3q r k _ D (by grind)
structure Cg (I O:Int) (ts:Lq):Prop where
 len:ts.length<=200
 i1:1<=I
 i2:I<=16
 o1:1<=O
 o2:O<=16
 wl:∀t∈ts,t.1.length<=256
 ok:∀t∈ts,Cf I O t=true
theorem Cg.small{I O:Int}{ts:Lq}(h:Cg I O ts):U9 ts:=by
 refine⟨h.len,λt A=>by have:=h.wl t A;omega,λt A=>?_⟩;have D:=h.ok t A;unfold Cf at D;rw[W1,W1] at D;have Q:=of_decide_eq_true D.1.1;have:=h.wl t A;omega
theorem Cg.err{I O:Int}{ts:Lq}(h:Cg I O ts):R9 I O ts=0:=by
 have U:=h.i1;have A:=h.i2;have Z:=h.o1;have D:=h.o2;unfold R9;have e:Jy I O ts=true:=by
  unfold Jy;rw[decide_eq_true A,decide_eq_true D,e7x,e7x,W7];intro t Q;have:=h.wl t Q;grind
 rw[e,if_neg (by decide),if_neg (by omega),if_pos];rw[W7];exact h.ok
theorem Cg.lens{I O:Int}{ts:Lq}(h:Cg I O ts){t:List Int×Wd}(A:t∈ts):t.2.length=t.1.length/\inW t.1 I=true/\okR O false t.2=true:=by
 have D:=h.ok t A;simp_all[Cf]
theorem b3r{I O:Int}{t:List Int×Wd}(h:t.2.length=t.1.length)(A:inW t.1 I=true)(D:okR O false t.2=true):Cf I O t=true:=by
 grind[Cf]
theorem Cg.set{I O:Int}{ts:Lq}(h:Cg I O ts){i:Nat}{t:List Int×Wd}(Q:t.1.length<=256)(U:Cf I O t=true):Cg I O (ts.set i t):=
 ⟨by rw[Xf];exact h.len,h.i1,h.i2,h.o1,h.o2,λu A=>by rcases e8b A with D|rfl;exact h.wl u D;grind,λu A=>by rcases e8b A with D|rfl;exact h.ok u D;grind⟩
theorem Hc{A:Type}{l:List A}{k:Nat}{d:A}(h:k<l.length):l.getD k d∈l/\l.getD k d=l[k]:=by
 grind
def stepL:Wd->Wd->Wd->Wd->Nat->Option Nat
 | i::x,a::r,j::y,b::s,k=>if i=j then (if a=b then stepL x r y s (k+1) else some k) else none
 | _,_,_,_,_=>none
def Fs(t:List Int×Wd):Lq->Nat->Option (Nat×Nat)
 | [],_=>none
 | u::us,a=>match stepL u.1 u.2 t.1 t.2 0 with
  | some k=>some (a,k)
  | none=>Fs t us (a+1)
def Ea(ts:Lq):Lq->Nat->Option (Nat×Nat×Nat)
 | [],_=>none
 | t::us,b=>match Fs t (ts.take b) 0 with
  | some (a,k)=>some (a,b,k)
  | none=>Ea ts us (b+1)
theorem b3s:∀(w v:Wd)(s:Int)(k:Nat),stepL w (Bc M s w) v (Bc M s v) k=none
 | [],_,_,_=>rfl
 | _::_,[],_,_=>rfl
 | i::w,j::v,s,k=>by
  show (if i=j then (if (Ci M s i).2=(Ci M s j).2 then _ else _) else none)=none;by_cases h:i=j
  .subst h;rw[if_pos rfl,if_pos rfl];exact b3s w v _ _
  grind
theorem b3t{t:List Int×Wd}(A:t.2=Bc M 0 t.1):∀(us:Lq)(a:Nat),(∀u∈us,u.2=Bc M 0 u.1)->Fs t us a=none
 | [],_,_=>rfl
 | u::us,a,h=>by
  unfold Fs;rw[h u (by simp),A,b3s];exact b3t A us _ λv D=>h v (by simp[D])
theorem b3u{ts:Lq}(h:∀u∈ts,u.2=Bc M 0 u.1):∀(us:Lq)(b:Nat),(∀u∈us,u.2=Bc M 0 u.1)->Ea ts us b=none
 | [],_,_=>rfl
 | t::us,b,A=>by
  unfold Ea;rw[b3t (A t (by simp)) _ _ λu D=>h u (e6l D)];exact b3u h us _ λv Q=>A v (by grind)
def optI:Option Nat->Int
 | some k=>(k:Int)
 | none=>-1
def Vi(u t:List Int×Wd):Int:=optI (stepL u.1 u.2 t.1 t.2 0)
theorem d9j{x y b:Wd}{k:Nat}(h:k<x.length)(A:k<a.length)(D:k<y.length)(Q:k<b.length):stepL (x.drop k) (a.drop k) (y.drop k) (b.drop k) k=if x[k]=y[k] then (if a[k]=b[k] then stepL (x.drop (k+1)) (a.drop (k+1)) (y.drop (k+1)) (b.drop (k+1)) (k+1) else some k) else none:=by
 rw[Xd h,Xd A,Xd D,Xd Q];rfl
theorem d9k{x b:Wd}{k:Nat}:stepL x a [] b k=none:=by
 cases x with
 | nil=>rfl
 | cons i x=>cases a with
  | nil=>rfl
  | cons o a=>rfl
theorem d9l{I O:Int}{u t:List Int×Wd}(hu:u.2.length=u.1.length)(ht:t.2.length=t.1.length)(a8:u.1.length<=256)(a9:t.1.length<=256)(g:Gb)(n:Nat)(s1 s2 Z r2:AV)(h1:Al g n u.1 s1)(h2:Al g n u.2 s2)(h3:Al g n t.1 Z)(h4:Al g n t.2 r2):
  WC 0 prog 135 [.agg [s1,s2],.agg [Z,r2]] ⟨.fn g,n⟩ λr=>r=.ret (.li (Vi u t)) ⟨.fn g,n⟩:=by
 refine X3 rfl ?_;have b0:=@Ap prog _ _ _ _ _ h1;have a4:=@Ap prog _ _ _ _ _ h2;have b5:=@Ap prog _ _ _ _ _ h3;have a5:=@Ap prog _ _ _ _ _ h4;have e1:oneC s1=true:=h1.one;have e2:oneC s2=true:=h2.one;have e3:oneC Z=true:=h3.one;have e4:oneC r2=true:=h4.one;have b6:allOne [s1,s2]=true:=by simp[e1,e2]
 have b7:allOne [Z,r2]=true:=by simp[e3,e4]
 have H1:=Xu h1;have H2:=Xu h2;have H3:=Xu h3;have H4:=Xu h4;clear h1 h2 h3 h4;obtain⟨z,A⟩:∃z,z=Vi u t:=⟨_,rfl⟩;rw[<- A];have HZ:=Xu A;clear A;rw[hu] at a4;rw[ht] at a5;by_cases b8:(t.1.length:Int)<(u.1.length:Int)
 all_goals
  refine ent pl135 func135 ?_
  iterate 8 all_goals try first|apply spl<;>intro h|simp (disch:=first|assumption|omega|simp) [*]
  refine Xy (λm gf H'=>∃(k:Nat),k<=u.1.length/\k<=t.1.length/\m=u.1.length-k/\H'=⟨.fn (Ak (Ak g n (some (.cells [s1,s2] true 0))) (n+1) (some (.cells [Z,r2] true 0))),n+1+1⟩ /\
   Aa (z=optI (stepL (u.1.drop k) (u.2.drop k) (t.1.drop k) (t.2.drop k) k))/\gf 2=some (.ptr n 0)/\gf 3=some (.ptr (n+1) 0)/\gf 5=some (.li k)) (m0:=u.1.length) ?_ ?_
  .exact⟨0,W3 _,W3 _,rfl,rfl,HZ,by simp[*]⟩
  rintro m gf H' ⟨k,b9,c0,rfl,rfl,Q,w2,w3,w5⟩ ih;refine rnd pl135 ?_;by_cases a2:k<u.1.length
  .have a6:(k:Int)<(u.1.length:Int):=by omega
   by_cases a3:k<t.1.length
   .have a7:(k:Int)<(t.1.length:Int):=by omega
    obtain⟨b1,o1,c1,c2,c6⟩:=X6 H1.out a2;obtain⟨b2,o2,c7,c8,c9⟩:=X6 H2.out (by omega:k<u.2.length);obtain⟨b3,o3,hb3,e0,e5⟩:=X6 H3.out a3;obtain⟨b4,o4,hb4,e6,e7⟩:=X6 H4.out (by omega:k<t.2.length);have D:=Xu (Q.out.trans (congrArg optI (d9j a2 (by omega:k<u.2.length) a3 (by omega:k<t.2.length))));generalize u.1[k]=i at *;generalize u.2[k]=a at *;generalize t.1[k]=j at *;generalize t.2[k]=b at *;by_cases a0:i=j
    .rw[if_pos a0] at D;subst a0;by_cases a1:a=b
     .rw[if_pos a1] at D;subst a1
      iterate 8 all_goals try first|apply spl<;>intro h|simp (disch:=first|assumption|omega|simp) [*]
      exact ih.out (u.1.length-(k+1)) _ _ (by omega) ⟨k+1,by omega,by omega,rfl,rfl,D,by simp[*]⟩
     .rw[if_neg a1] at D;have A:z=k:=D.out;clear D Q HZ;subst A
      iterate 8 all_goals try first|apply spl<;>intro h|simp (disch:=first|assumption|omega|simp) [*]
      all_goals exact⟨by show n<=n+1+1;omega,λb (U:b<n)=>(Ad (by omega)).trans (Ad U)⟩
    .rw[if_neg a0] at D;have A:z = -1:=D.out;clear D Q HZ;subst A
     iterate 8 all_goals try first|apply spl<;>intro h|simp (disch:=first|assumption|omega|simp) [*]
     all_goals exact⟨by show n<=n+1+1;omega,λb (U:b<n)=>(Ad (by omega)).trans (Ad U)⟩
   .have a7:¬(k:Int)<(t.1.length:Int):=by omega
    have A:z = -1:=by rw[Q.out,Xt (by omega:t.1.length<=k)];rw[d9k];rfl
    try (exfalso;omega)
    all_goals clear Q HZ
    all_goals subst A
    iterate 8 all_goals try first|apply spl<;>intro h|simp (disch:=first|assumption|omega|simp) [*]
    all_goals exact⟨by show n<=n+1+1;omega,λb (U:b<n)=>(Ad (by omega)).trans (Ad U)⟩
  .have a6:¬(k:Int)<(u.1.length:Int):=by omega
   have A:z = -1:=by rw[Q.out,Xt (by omega:u.1.length<=k)];rfl
   try (exfalso;omega)
   all_goals clear Q HZ
   all_goals subst A
   iterate 8 all_goals try first|apply spl<;>intro h|simp (disch:=first|assumption|omega|simp) [*]
   all_goals exact⟨by show n<=n+1+1;omega,λb (U:b<n)=>(Ad (by omega)).trans (Ad U)⟩
theorem Af.cut{g:Gb}{b len:Nat}(h:Af g b sv len cs)(Z:Ay sv){t:TypeId}(A:(Bu prog t).map (·.1)=some none){k sz:Nat}(hk:k<=len)(h0:0<len):
  ∃D,(∀{H:Mem}{ev:Ev}{d:Option Tmp}{ty:TypeId}{p:String} {af:Array Edge} {gd:Option (Nat×Bool)} {x hi:Operand} {hx:ev x=some sv} {hh:ev hi=some (.li (k:Int))},
   ex2 prog H ev ⟨d,.slice t x none (some hi) none,ty,p,af,gd⟩ x hi (some sv) (some (.li (k:Int))) hx hh=.val D H)/\Af g b D k (cs.take (k*sz)):=by
 rcases h with⟨h1,_⟩|⟨a,off,Q,⟨c,rfl⟩|⟨c,rfl⟩,U⟩
 .omega
 .have a0:=Z _ _ _ _ rfl;refine⟨.sl a off k c,?_,.inr ⟨a,off,Q,.inl ⟨c,rfl⟩,U.takes _⟩⟩;intro H ev d ty p af gd x hi hx hh;rw[a2b A (by omega) (by omega) (by omega)];simp
 .refine⟨.slq a off k c,?_,.inr ⟨a,off,Q,.inr ⟨c,rfl⟩,U.takes _⟩⟩;intro H ev d ty p af gd x hi hx hh;rw[a2c A (by omega) (by omega) (by omega)];simp
theorem el22:(Bu prog 52).map (·.1)=some none:=by kernel_rfl
theorem El.cut{g:Gb}{n:Nat}{ts:Lq}(h:El g n ts sv)(U:Ay sv){k:Nat}(D:k<=ts.length)(Z:0<ts.length):
  ∃A,(∀{H:Mem}{ev:Ev}{d:Option Tmp}{ty:TypeId}{p:String} {af:Array Edge} {gd:Option (Nat×Bool)} {x hi:Operand} {hx:ev x=some sv} {hh:ev hi=some (.li (k:Int))},
   ex2 prog H ev ⟨d,.slice 52 x none (some hi) none,ty,p,af,gd⟩ x hi (some sv) (some (.li (k:Int))) hx hh=.val A H)/\El g n (ts.take k) A:=by
 obtain⟨cs,h1,Q⟩:=h;obtain⟨A,h3,h4⟩:=h1.cut U el22 (sz:=2) D Z;refine⟨A,h3,cs.take (k*2),by rw[W4,e5z D];exact h4,?_,λj hj=>?_⟩
 .rw[W4,W4,Q.1];omega
 .have a0:j<k/\j<ts.length:=by rw[W4] at hj;omega
  obtain⟨s1,s2,e1,e2,e3,e4⟩:=Q.2 j a0.2;exact⟨s1,s2,by rw[e7j,if_pos (by omega)];exact e1,by rw[e7j,if_pos (by omega)];exact e2,by rw[e7i];exact e3,by rw[e7i];exact e4⟩
theorem d9m{ts:Lq}{k:Nat}(h:k<ts.length):Ea ts (ts.drop k) k=match Fs (ts[k]) (ts.take k) 0 with
  | some (a,j)=>some (a,k,j)
  | none=>Ea ts (ts.drop (k+1)) (k+1):=by
 rw[Xd h];rfl
theorem d9n{t:List Int×Wd}{us:Lq}{j:Nat}(h:j<us.length):Fs t (us.drop j) j=match stepL (us[j]).1 (us[j]).2 t.1 t.2 0 with
  | some k=>some (j,k)
  | none=>Fs t (us.drop (j+1)) (j+1):=by
 rw[Xd h];rfl
def conC:Option (Nat×Nat×Nat)->AV
 | some (a,b,k)=>.agg [.li a,.li b,.li k]
 | none=>.agg [.li 0,.li 0,.li 0]
theorem b3v{I O:Int}{ts:Lq}(hL:Cg I O ts)(g:Gb)(n:Nat)(sv:AV)(hT:El g n ts sv)(b0:Ay sv):
  WC 0 prog 103 [.agg [.li I,.li O,sv]] ⟨.fn g,n⟩ λr=>∃U n',r=.ret (.tup [conC (Ea ts ts 0),.lit (.bool (Ea ts ts 0).isSome),.li 0]) ⟨.fn U,n'⟩/\n<=n'/\∀b,b<n->U b=g b:=by
 have h6:=@Ap prog _ _ _ _ _ hT.choose_spec.1;have c1:=hT.choose_spec.1.one;have h7:allOne [.li I,.li O,sv]=true:=by simp[c1]
 have b1:=Xu λ(U:Gb)(n2:Nat)(hn:n<=n2)(hX:∀b,b<n->U b=g b)=>b3m I O ts hL.small U n2 sv (hT.mono hn hX);rw[hL.err] at b1;have HT:=Xu hT;have HL:=Xu hL;have c2:=Xu b0;have h8:=hL.len;clear hT hL b0;obtain⟨D,hD⟩:∃D,D=Ea ts ts 0:=⟨_,rfl⟩;rw[<- hD];have HD:=Xu hD;clear hD;refine ent [] func103 ?_;simp (disch:=first|omega|simp) [*];refine Xv (b1.out _ _ (by omega) λb (A:b<n)=>by simp (disch:=omega) only[Ad]) ?_;rintro _ rfl;simp (disch:=first|omega|simp) [*];refine Xy (λm h H'=>∃(k n' : Nat)(gL:Gb),k<=ts.length/\m=ts.length-k/\H'=⟨.fn gL,n'⟩/\n+1+1<=n'/\Aa (∀b,b<n->gL b=g b)/\gL n=some (.cells [.li I,.li O,sv] true 0)/\gL (n+1)=some (.cells [.li 0,.li 0,.li 0] true 0) /\
  Aa (D=Ea ts (ts.drop k) k)/\h 1=some (.ptr n 0)/\h 2=some (.ptr (n+1) 0)/\h 18=some sv/\h 19=some (.li ts.length)/\h 20=some (.li k)) (m0:=ts.length) ?_ ?_
 .refine⟨0,_,_,W3 _,rfl,rfl,Wy _,⟨λb A=>?_⟩,?_,Ag,⟨HD.out⟩,by simp[*]⟩
  .simp (disch:=omega) only[Ad]
  .simp (disch:=omega) only[Ad,Ag]
 rintro m h H' ⟨k,n',gL,hk,rfl,rfl,h9,HG,c6,c7,HP,w1,w2,b2,b3,b4⟩ ih;refine rnd [] ?_;by_cases a5:k<ts.length
 .have c8:(k:Int)<(ts.length:Int):=by omega
  obtain⟨a2,off,r1,r2,b5⟩:=(HT.out.mono (show n<=n' by omega) HG.out).at a5;have Z:=Xu b5;clear b5;have i0:∀{H:Mem}{ev:Ev}{o:Oper}{ty:TypeId},iaS prog H ev o ty (some (none,2)) (some sv) (some (.li (k:Int)))=.val (.ptr a2 (off+k*2)) H:=λ{H ev o ty}=>Z.out.ia;have i1:a2<n':=Z.out.an;have i2:=Z.out.agg;have c9:oneC r1=true:=Z.out.r1.one;have e0:oneC r2=true:=Z.out.r2.one;have i3:allOne [r1,r2]=true:=by simp[c9,e0]
  obtain⟨b6,i4,a7⟩:=HT.out.cut c2.out (Xr a5) (by omega);have e1:=@Ap prog _ _ _ _ _ a7.choose_spec.1;rw[W4,e5z hk] at e1;have e5:=Xu (a7.mono (show n<=n' by omega) HG.out);have a8:=Xu (HP.out.trans (d9m a5));have e6:=Xu (HL.out.lens (W2 a5));have e7:=Xu (HL.out.wl _ (W2 a5));have e8:=Xu Z.out.r1;have e9:=Xu Z.out.r2;clear Z a7;generalize ts[k]=t at *;simp (disch:=first|omega|simp) [*];refine Xy (λm h H'=>∃(j n2:Nat)(g2:Gb),j<=k/\m=k-j/\H'=⟨.fn g2,n2⟩/\n'+1<=n2/\Aa (∀b,b<n'->g2 b=gL b)/\g2 n'=some (.cells [r1,r2] true 0)/\Aa (Fs t (ts.take k) 0=Fs t ((ts.take k).drop j) j) /\
   h 1=some (.ptr n 0)/\h 2=some (.ptr (n+1) 0)/\h 18=some sv/\h 19=some (.li ts.length)/\h 20=some (.li k)/\h 6=some (.li k)/\h 7=some (.ptr n' 0)/\h 28=some b6/\h 29=some (.li k)/\h 30=some (.li j)) (m0:=k) ?_ ?_
  .refine⟨0,_,_,W3 _,rfl,rfl,Wy _,⟨λb A=>?_⟩,Ag,⟨rfl⟩,by simp[*]⟩;exact Ad A
  clear w1 w2 b2 b3 b4;rintro m h H' ⟨j,n2,g2,hj,rfl,rfl,i5,a0,g0,b7,w1,w2,b2,b3,b4,w6,w7,i6,i7,i8⟩ g1;have g3:=(a0.out n (by omega)).trans c6;have g4:=(a0.out (n+1) (by omega)).trans c7;refine rnd [] ?_;by_cases i9:j<k
  .have g5:(j:Int)<(k:Int):=by omega
   have a9:j<(ts.take k).length:=by rw[W4];omega
   obtain⟨a3,o3,s1,s2,b8⟩:=(e5.out.mono (show n'<=n2 by omega) a0.out).at a9;have a1:=Xu b8;clear b8;have j0:∀{H:Mem}{ev:Ev}{o:Oper}{ty:TypeId},iaS prog H ev o ty (some (none,2)) (some b6) (some (.li (j:Int)))=.val (.ptr a3 (o3+j*2)) H:=λ{H ev o ty}=>a1.out.ia;have j1:a3<n2:=a1.out.an;have j2:=a1.out.agg;have g6:oneC s1=true:=a1.out.r1.one;have g7:oneC s2=true:=a1.out.r2.one;have j3:allOne [s1,s2]=true:=by simp[g6,g7]
   have b9:Aa ((ts.take k)[j]∈ts):=⟨e6l (W2 a9)⟩;have g8:=Xu (HL.out.lens b9.out);have g9:=Xu (HL.out.wl _ b9.out);have a4:=Xu (b7.out.trans (d9n a9));have h0:=Xu a1.out.r1;have h1:=Xu a1.out.r2;clear a1;generalize (ts.take k)[j]=u at *;have h2:=Xu λ(U:Gb)(n3:Nat)(hn:n2<=n3)(hX:∀b,b<n2->U b=g2 b)=>d9l (I:=I) (O:=O) g8.out.1 e6.out.1 g9.out e7.out U n3 s1 s2 r1 r2 (X0 hn hX h0.out) (X0 hn hX h1.out) (X0 (by omega) (λb A=>(hX b (by omega)).trans (a0.out b A)) e8.out) (X0 (by omega) (λb A=>(hX b (by omega)).trans (a0.out b A)) e9.out);have a6:Aa (Vi u t=optI (stepL u.1 u.2 t.1 t.2 0)):=⟨rfl⟩;generalize Vi u t=z at *;simp (disch:=first|omega|simp) [*];refine Xv (h2.out _ _ (by omega) λb A=>by simp (disch:=omega) only[Ad]) ?_;rintro _ rfl
   cases hq:stepL u.1 u.2 t.1 t.2 0 with
   | none =>
    have hz:z = -1:=by rw[a6.out,hq];rfl
    rw[hq] at a4;have h3:Aa (Fs t (ts.take k) 0=Fs t ((ts.take k).drop (j+1)) (j+1)):=⟨a4.out⟩;clear a4 hq a6;subst hz;simp (disch:=first|omega|simp) [*];refine g1.out (k-(j+1)) _ _ (by omega) ⟨j+1,_,_,by omega,rfl,rfl,?_,⟨λb A=>?_⟩,?_,h3,by simp[*]⟩
    .omega
    .simp (disch:=omega) only[Ad];exact a0.out b A
    .simp (disch:=omega) only[Ad];exact g0
   | some v =>
    have hz:z=v:=by rw[a6.out,hq];rfl
    rw[hq] at a4;have Q:=a8.out;rw[a4.out] at Q;have h4:D=some (j,k,v):=Q;clear a4 hq a6 Q a8 HD HP;subst hz h4;simp (disch:=first|omega|simp) [*];refine⟨_,_,⟨rfl,rfl,rfl⟩,by omega,λb A=>?_⟩;simp (disch:=omega) only[Ad];exact(a0.out b (by omega)).trans (HG.out b A)
  .have g5:¬(j:Int)<(k:Int):=by omega
   have c0:=b7.out.trans (by rw[Xt (by rw[W4];omega)];rfl:_=none);have Q:=a8.out;rw[c0] at Q;have h5:Aa (D=Ea ts (ts.drop (k+1)) (k+1)):=⟨Q⟩;clear Q c0;simp (disch:=first|omega|simp) [*];refine ih.out (ts.length-(k+1)) _ _ (by omega) ⟨k+1,n2,g2,by omega,rfl,rfl,by omega,⟨λb A=>(a0.out b (by omega)).trans (HG.out b A)⟩,g3,g4,h5,by simp[*]⟩
 .have c8:¬(k:Int)<(ts.length:Int):=by omega
  have Q:D=none:=by rw[HP.out,Xt (by omega)];rfl
  clear HP HD;subst Q;simp (disch:=first|omega|simp) [*];refine⟨_,_,⟨rfl,rfl,rfl⟩,by omega,λb A=>?_⟩;simp (disch:=omega) only[Ad];exact HG.out b A
theorem sl57:Jr prog 65=true:=by kernel_rfl
theorem equal57nil:Ar prog (Op.equal 65 (.slice none 0 0) (.slice none 0 0))=some true:=by kernel_rfl
theorem d9o{ev:Ev}{d:Option Tmp}{ty h:TypeId}{p:String}{af:Array Edge}{g:Option (Nat×Bool)}{x:Operand}(hx:ev x=some (.nl))(hy:ev (.const (.slice none 0 0))=some (.nl)):
  Fz prog H ev ⟨d,.binOp .eql 65 x (.const (.slice none 0 0)) h,ty,p,af,g⟩ .eql 65 (some (.nl)) (some (.nl))=.val (.lit (.bool true)) H:=by
 show Bh prog H ev ⟨d,.binOp .eql 65 x (.const (.slice none 0 0)) h,ty,p,af,g⟩ .eql 65 (some (.nl)) (some (.nl))=_;refine Nr rfl ?_;have Q:(Op.operands (.binOp .eql 65 x (.const (.slice none 0 0)) h)).toList=[x,.const (.slice none 0 0)]:=rfl;unfold A7;dsimp only;rw[Q];have D:toLit (.nl)=some (.slice none 0 0):=rfl;simp only[e8e,List.all_nil,hx,hy,D,e7x,if_true];have U:∀A:Operand->Value,A x=.slice none 0 0->A (.const (.slice none 0 0))=.slice none 0 0->Ar prog (execOp A ⟨d,.binOp .eql 65 x (.const (.slice none 0 0)) h,ty,p,af,g⟩)=some (.value (.bool true)):=by
  intro A Z e2;refine Ns Z e2 ?_ ?_
  .unfold eqGuard;kernel_rfl
  .show Ar prog (do pure (Value.bool (<- Op.equal 65 _ _)))=_;exact(Bo equal57nil).trans rfl
 rw[U _ (by simp only[hx,D]) (by simp only[hy,D])]
attribute [simp] sl57 d9o
def N9(g:Gb)(lo n:Nat)(w:Wd)(sv:AV):Prop:=
 (w=[]/\(sv=.nl\/∃m,lo<=m/\m<n/\sv=.sl m 0 0 0/\g m=some (.cells [] true 0)))\/(0<w.length/\∃m,lo<=m/\m<n/\sv=.slq m 0 w.length 0/\g m=some (.cells (wdC w) true 1))
theorem a4m(w:Wd)(a3:w.length<=1000000)(g:Gb)(n:Nat)(sv:AV)(h:Al g n w sv):
  WC 0 prog 94 [sv] ⟨.fn g,n⟩ λr=>∃Q g' n',r=.ret Q ⟨.fn g',n'⟩/\n<=n'/\(∀b,b<n->g' b=g b)/\N9 g' n n' w Q:=by
 have Z:(w=[]/\sv=.nl)\/((∃a o k c,sv=.sl a o k c)\/(∃a o k c,sv=.slq a o k c)\/sv=.es):=by
  rcases h with⟨h1,_,rfl|rfl⟩|⟨a,off,_,⟨c,rfl⟩|⟨c,rfl⟩,_⟩
  .exact .inl ⟨e6j.1 h1,rfl⟩
  .exact .inr (.inr (.inr rfl))
  .exact .inr (.inl ⟨_,_,_,_,rfl⟩)
  .exact .inr (.inr (.inl ⟨_,_,_,_,rfl⟩))
 rcases Z with⟨A,rfl⟩|U
 .subst A;clear h;refine ent [] func94 ?_;simp (disch:=first|omega|simp) [*];refine⟨_,_,_,⟨rfl,rfl,rfl⟩,Wy _,λb D=>rfl,.inl ⟨rfl,.inl rfl⟩⟩
 .by_cases hl:w.length=0
  .have A:w=[]:=e6j.1 hl;subst A;have a0:=λ{H:Mem}{ev:Ev}{d:Option Tmp}{ty:TypeId}{p:String} {af:Array Edge} {gd:Option (Nat×Bool)} {x y:Operand} {s t:TypeId} {a off:Nat} {hx:ev x=some (.sl a off 0 0)} {hy:ev y=some sv} (hp:(apI prog s t).isSome=true)=>Yp (P:=prog) h (H:=H) (ev:=ev) (d:=d) (ty:=ty) (p:=p) (af:=af) (gd:=gd) (x:=x) (y:=y) (a:=a) (off:=off) (hx:=hx) (hy:=hy) hp;clear h;rcases U with⟨a,o,k,c,rfl⟩|⟨a,o,k,c,rfl⟩|rfl
   all_goals
    refine ent [] func94 ?_;simp (disch:=first|omega|simp) [*];refine⟨_,_,_,⟨rfl,rfl,rfl⟩,by omega,λb D=>?_,.inl ⟨rfl,.inr ⟨n,Wy _,by omega,rfl,Ag⟩⟩⟩;exact Ad D
  .obtain⟨a2,blk,a4,a5,a0⟩:=Yc (P:=prog) (sz:=1) h (by omega) (by omega) (by rw[A9];omega);clear h;have a1:0<w.length:=by omega
   rcases U with⟨a,o,k,c,rfl⟩|⟨a,o,k,c,rfl⟩|rfl
   all_goals
    refine ent [] func94 ?_;simp (disch:=first|omega|simp) [*];refine⟨_,_,_,⟨rfl,rfl,rfl⟩,by omega,λb D=>?_,.inr ⟨a1,n+1,by omega,by omega,rfl,Ag⟩⟩;simp (disch:=omega) only[Ad]
theorem d9p{a b:Int}(D:0<=a)(Q:a<=b)(U:b<=1048576):F0 prog H 65 (mkI prog 65) (some (.li a)) (some (.li b))=.val (.sl H.next 0 a.toNat b.toNat) (H.add (.cells (rep [.li 0] b.toNat) true 0)):=by
 have hx:Er prog H 65 (some (.li a)) (some (.li b))=_:=Pd (e:=3) (size:=1) (bytes:=8) (z:=[.li 0]) (by kernel_rfl) (by decide) (by decide) (by kernel_rfl) D Q U;unfold F0;split
 .rename_i v a' b' A Z e2;cases Z;cases e2;split
  .rename_i h;obtain⟨rfl,h3,h4⟩:=h;have hv:mkI prog 65=some (.li 0):=by kernel_rfl
   rw[hv] at A;cases A;rw[Rg]
  .exact hx
 .exact hx
theorem d9q{a b:Int}(h:0<=a)(A:a<=b)(D:b<=1048576):F0 prog H 52 none (some (.li a)) (some (.li b))=.val (.sl H.next 0 a.toNat b.toNat) (H.add (.cells (rep [.nl,.nl] b.toNat) true 0)):=
 Pd (e:=84) (size:=2) (bytes:=48) (z:=[.nl,.nl]) (by kernel_rfl) (by decide) (by decide) (by kernel_rfl) h A D
theorem d9r{a b:Int}(A:0<=a)(D:a<=b)(Q:b<=1048576):F0 prog H 65 (some (.li 0)) (some (.li a)) (some (.li b))=.val (.sl H.next 0 a.toNat b.toNat) (H.add (.cells (rep [.li 0] b.toNat) true 0)):=by
 have h:=d9p (H:=H) A D Q
 rwa [mkI57] at h
theorem mkI22:mkI prog 52=none:=by kernel_rfl
attribute [simp] d9q mkI22 d9r
def Bs(g:Gb)(n:Nat)(l:Wq)(lv:AV):Prop:=∃svs,Af g n lv l.length svs/\RowsW g n l svs
theorem Bs.mono{g:Gb}{n:Nat}(h:Bs g n l lv)(A:n<=n')(D:∀a,a<n->g' a=g a):Bs g' n' l lv:=
 let ⟨svs,Q,U⟩:=h;⟨svs,Q.mono A D,U.ext A λa x Z hx=>(D a Z).trans hx⟩
theorem Bs.at{g:Gb}{n:Nat}(h:Bs g n l lv){k:Nat}(A:k<l.length):∃a off q,a<n/\(∀{H:Mem}{ev:Ev}{o:Oper}{t:TypeId},iaS prog H ev o t (some (none,1)) (some lv) (some (.li (k:Int)))=.val (.ptr a (off+k)) H)/\A5 (some (false,1)) (g a) (off+k)=some q/\Al g n l[k] q:=by
 obtain⟨svs,D,h2,Q⟩:=h;obtain⟨q,e1,e2⟩:=Q k A;obtain⟨a,off,ha,U,Z⟩:=D.ia (P:=prog) A 1;simp only[Xj] at Z;have hc:=U.one (k:=k) (s:=1) (by omega);grind
theorem el93:(Bu prog 22).map (·.1)=some none:=by kernel_rfl
theorem Bs.cut{g:Gb}{n:Nat}(h:Bs g n l lv)(U:Ay lv):
  ∃A,(∀{H:Mem}{ev:Ev}{d:Option Tmp}{ty:TypeId}{p:String} {af:Array Edge} {gd:Option (Nat×Bool)} {x hi:Operand} {hx:ev x=some lv} {hh:ev hi=some (.li (l.length:Int))},
   ex2 prog H ev ⟨d,.slice 22 x none (some hi) none,ty,p,af,gd⟩ x hi (some lv) (some (.li (l.length:Int))) hx hh=.val A H)/\Bs g n l A:=by
 obtain⟨svs,Z,D⟩:=h;obtain⟨A,h3,Q,_⟩:=Af.cutP (P:=prog) Z U el93 (k:=l.length) (sz:=1) (Wy _);refine⟨A,h3,svs,?_,D⟩;rw[Xj,<- D.1,Xn] at Q;rw[D.1] at Q;grind
theorem Al.safe{g:Gb}{n B:Nat}{w:Wd}(h:Al g n w sv)(A:n<=n')(Q:n<=B)(U:∀a,a<n->g' a=g a):Ba g' 0 n' B w sv:=
 ⟨λa=>if a<n then g a else none,⟨λa z Z=>(by
  grind),Xz A (λa x D hx=>(if_pos D).trans hx) h⟩⟩
theorem Ba.nil{g:Gb}{lo n B:Nat}:Ba g lo n B [] (.nl):=⟨λ_=>none,λa z h=>(by cases h),.inl ⟨rfl,rfl,.inl rfl⟩⟩
structure a4n (g:Gb) (n B c k:Nat) (ts:Lq) (R:List AV):Prop where
 blk:g B=some (.cells R true 0)
 len:R.length=c*2
 kl:k<=c
 rows:RowsF g 0 n B ts (R.take (k*2))
 tl:ts.length=k
theorem a4n.log{g:Gb}{n B len:Nat}{ts:Lq}{R:List AV}(h:a4n g n B len len ts R)(D:B<n):El g n ts (.sl B 0 len len):=by
 have A:=h.rows;rw[<- h.len,Xn] at A;exact⟨R,.inr ⟨B,0,D,.inl ⟨len,by rw[h.tl]⟩,R,true,0,h.blk,by simp[*]⟩,A.rows⟩
def Gw(M:Aw)(l:Wq)(k:Nat):Lq:=(l.take k).map (λw=>(w,Bc M 0 w))++(l.drop k).map (λw=>(w,[]))
theorem a4o:Gw M l 0=l.map λw=>(w,[]):=by rfl
theorem a4p{k:Nat}:(Gw M l k).length=l.length:=by grind[Gw]
theorem d9s{k:Nat}(h:l.length<=k):Gw M l k=l.map λw=>(w,Bc M 0 w):=by grind[Gw,List.take_of_length_le]
theorem d9t{k:Nat}(h:k<l.length):(Gw M l k)[k]'(by grind[a4p])=(l[k],[]):=by
 grind[Gw]
theorem d9u{k:Nat}(h:k<l.length):Gw M l (k+1)=(Gw M l k).set k (l[k],Bc M 0 l[k]):=by
 unfold Gw;rw[Bv h,e6m,e7k _ _ (by grind)];have e:l.drop k=l[k]::l.drop (k+1):=Xd h;rw[e,Xl,W4,e5z (Xr h),e6h,e6c];rfl
theorem RowsF.upd{g:Gb}{lo n B:Nat}{ts:Lq}{A:List AV}(h:RowsF g lo n B ts cs){i:Nat}{t:List Int×Wd}{s1 s2:AV}(Q:A.length=cs.length)(U:A[i*2]?=some s1)(Z:A[i*2+1]?=some s2)(ho:∀j,j≠i*2->j≠i*2+1->A[j]?=cs[j]?)(w1:Ba g lo n B t.1 s1)(w2:Ba g lo n B t.2 s2):RowsF g lo n B (ts.set i t) A:=by
 refine⟨by rw[Q,Xf];exact h.1,λk D=>?_⟩;rw[Xf] at D;by_cases a0:i=k
 .grind
 .obtain⟨r1,r2,e1,e2,e3,e4⟩:=h.2 k D;grind
theorem Ba.sl{g:Gb}{lo n B m len c:Nat}{w:Wd}{own:Bool}{z:Nat}(h:g m=some (.cells (wdC w) own z))(A:len=w.length)(Q:lo<=m)(D:m<n)(U:m≠B):Ba g lo n B w (.sl m 0 len c):=by
 subst A;exact⟨λa=>if a=m then g a else none,⟨λa z Z=>(by
  grind),.inr ⟨m,0,D,.inl ⟨c,rfl⟩,wdC w,own,z,(if_pos rfl).trans h,by simp[*]⟩⟩⟩
theorem N9.keep{g:Gb}{lo n:Nat}{w:Wd}(h:N9 g lo n w sv)(U:∀a,lo<=a->a<n->g' a=g a):N9 g' lo n w sv:=by
 rcases h with⟨rfl,rfl|⟨m,A,D,rfl,Q⟩⟩|⟨Z,m,A,D,rfl,Q⟩
 .exact .inl ⟨rfl,.inl rfl⟩
 .exact .inl ⟨rfl,.inr ⟨m,A,D,rfl,(U m A D).trans Q⟩⟩
 .exact .inr ⟨Z,m,A,D,rfl,(U m A D).trans Q⟩
theorem N9.one{g:Gb}{lo n:Nat}{w:Wd}(h:N9 g lo n w sv):oneC sv=true/\cellsOf sv=[sv]:=by
 rcases h with⟨rfl,rfl|⟨m,A,D,rfl,Q⟩⟩|⟨U,m,A,D,rfl,Q⟩<;>exact⟨rfl,rfl⟩
theorem RowsF.extG{g:Gb}{lo n B:Nat}{ts:Lq}(h:RowsF g lo n B ts cs)(D:∀a x,g a=some x->g' a=some x):RowsF g' lo n B ts cs:=
 have key:∀{w:Wd}{sv:AV},Ba g lo n B w sv->Ba g' lo n B w sv:=λ⟨Q,U,Z⟩=>⟨Q,λa z hz=>let ⟨A,e2⟩:=U a z hz;⟨D a z A,e2⟩,Z⟩
 ⟨h.1,λk hk=>let ⟨s1,s2,A,e2,e3,e4⟩:=h.2 k hk;⟨s1,s2,A,e2,key e3,key e4⟩⟩
def K2(I:Int)(l:Wq):Int:=if l.all (λw=>decide (w.length<=256))=true then (if l.all (λw=>inW w I)=true then 0 else 1) else 3
def valT:Lq->Wd->Option Int
 | [],_=>none
 | t::ts,w=>if w≠[]/\w.length<=t.1.length/\t.1.take w.length=w then some (t.2.getD (w.length-1) 0) else valT ts w
def Ax(V:Wd->Option Int)(ws:Wq)(w:Wd)(i:Nat):Int×Int:=match V (w++[(i:Int)]) with
 | none=>(-1,-1)
 | some o=>if o = -1 then (-1,-2) else (((ws.idxOf (w++[(i:Int)]):Nat):Int),o)
def A2(V:Wd->Option Int)(ws:Wq)(I:Nat)(w:Wd):List (Int×Int):=(List.range I).map (Ax V ws w)
def Bk(V:Wd->Option Int)(ws:Wq)(I:Nat):Tq:=ws.map (A2 V ws I)
structure Nod (V:Wd->Option Int) (ws:Wq):Prop where
 nd:ws.Nodup
 mem:∀w,w∈ws↔w=[]\/∃o,V w=some o/\o ≠ -1
 clo:∀x j o,V (x++[j])=some o->x=[]\/∃o',V x=some o'/\(o ≠ -1->o' ≠ -1)
theorem K3{V:Wd->Option Int}{ws:Wq}{I:Nat}{w:Wd}:(A2 V ws I w).length=I:=by simp[A2]
theorem Oa{V:Wd->Option Int}{ws:Wq}{I:Nat}{w:Wd}{i:Nat}(h:i<I):(A2 V ws I w)[i]?=some (Ax V ws w i):=by
 grind[A2]
theorem Gx{V:Wd->Option Int}{ws:Wq}{I:Nat}:(Bk V ws I).length=ws.length:=by simp[Bk]
theorem Vj{V:Wd->Option Int}{ws:Wq}{I k:Nat}(h:k<ws.length):(Bk V ws I).getD k []=A2 V ws I ws[k]:=by
 grind[Bk]
theorem Mt{ws:Wq}{w:Wd}(h:w∈ws):∃A:ws.idxOf w<ws.length,ws[ws.idxOf w]=w:=by
 grind
theorem b3w{ws us:Wq}{w:Wd}(h:w∈ws):(ws++us).idxOf w=ws.idxOf w:=by
 grind
theorem d9v{ws:Wq}{w:Wd}(h:w ∉ ws):(ws++[w]).idxOf w=ws.length:=by
 grind
def Ck(V:Wd->Option Int)(x:Wd)(o:Int):Wd->Option Int:=λy=>if y=x then some ((V x).getD o) else V y
theorem Sa{V:Wd->Option Int}{x:Wd}{o A:Int}(h:V x=some A):Ck V x o=V:=by
 grind[Ck]
theorem Sb{V:Wd->Option Int}{x:Wd}{o:Int}(h:V x=none):Ck V x o x=some o:=by unfold Ck;grind
theorem F3{V:Wd->Option Int}{x y:Wd}{o:Int}(h:y≠x):Ck V x o y=V y:=if_neg h
theorem b3x{V:Wd->Option Int}{ws us:Wq}{x w:Wd}{o:Int}{i:Nat}(hN:Nod V ws)(A:w++[(i:Int)]≠x):Ax (Ck V x o) (ws++us) w i=Ax V ws w i:=by
 unfold Ax;rw[F3 A]
 cases h:V (w++[(i:Int)]) with
 | none=>rfl
 | some D =>
  dsimp only;split
  .rfl
  .rename_i Q;rw[b3w ((hN.mem _).2 (.inr ⟨D,h,Q⟩))]
theorem J0{b:Wd}{i j:Int}(h:a++[i]=b++[j]):a=b/\i=j:=by
 simp_all
theorem d9w{V:Wd->Option Int}{ws us:Wq}{I:Nat}{w:Wd}{i:Int}{o:Int}(hN:Nod V ws)(h:w≠p):A2 (Ck V (p++[i]) o) (ws++us) I w=A2 V ws I w:=by
 grind[A2,List.map_congr_left,J0,b3x]
theorem d9x{V:Wd->Option Int}{ws us:Wq}{I:Nat}{i:Nat}{o:Int}(hN:Nod V ws)(hi:i<I):A2 (Ck V (p++[(i:Int)]) o) (ws++us) I p=(A2 V ws I p).set i (Ax (Ck V (p++[(i:Int)]) o) (ws++us) p i):=by
 apply e8i;intro j;by_cases A:i=j
 .grind[Oa,K3]
 .rw[e6t A];by_cases h:j<I
  .rw[Oa h,Oa h,b3x hN];grind[J0]
  grind[K3]
theorem b3y{V:Wd->Option Int}{ws:Wq}{I:Nat}{i:Nat}{o:Int}(us:Wq)(hN:Nod V ws)(Q:p∈ws)(hi:i<I):
  ws.map (A2 (Ck V (p++[(i:Int)]) o) (ws++us) I)=(Bk V ws I).set (ws.idxOf p) (((Bk V ws I).getD (ws.idxOf p) []).set i (Ax (Ck V (p++[(i:Int)]) o) (ws++us) p i)):=by
 obtain⟨D,U⟩:=Mt Q;apply e8i;intro k;by_cases A:ws.idxOf p=k
 .subst A;rw[e7p (by grind[Gx]),e6r,W6 D,Vj D,U];simp_all[d9x]
 .rw[e6t A];by_cases Z:k<ws.length
  .unfold Bk;rw[e6r,e6r,W6 Z];refine congrArg some (d9w hN λh=>A ?_);have:ws[ws.idxOf p]=ws[k]:=by grind
   exact(List.getElem_inj hN.nd).1 this
  grind[Gx]
theorem Nod.none_of{V:Wd->Option Int}{ws:Wq}(hN:Nod V ws){x:Wd}(hx:x≠[])(h:V x=none)(j:Int):V (x++[j])=none:=by
 cases A:V (x++[j]) with
 | none=>rfl
 | some o =>
  rcases hN.clo x j o A with D|⟨Q,D,_⟩
  all_goals grind
theorem Nod.up{V:Wd->Option Int}{ws:Wq}(hN:Nod V ws){x:Wd}{j:Int}(h:x++[j]∈ws):x∈ws:=by
 rcases (hN.mem _).1 h with D|⟨o,D,Q⟩
 .simp_all
 .rcases hN.clo x j o D with A|⟨U,A,Z⟩
  .exact(hN.mem x).2 (.inl A)
  .exact(hN.mem x).2 (.inr ⟨U,A,Z Q⟩)
theorem Nod.pre{V:Wd->Option Int}{ws:Wq}(hN:Nod V ws){x:Wd}:∀(n:Nat)(u:Wd),u.length=n->x++u∈ws->x∈ws
 | 0,u,A,h=>by
  grind
 | n+1,u,A,h=>by
  have D:u≠[]:=λe=>by grind
  have e:=e8f D;rw[<- e,<- e6c] at h;exact hN.pre n u.dropLast (by grind) (hN.up h)
theorem Nod.updDead{V:Wd->Option Int}{ws:Wq}(hN:Nod V ws){p:Wd}{i:Int}(Z:p∈ws)(h:V (p++[i])=none):Nod (Ck V (p++[i]) (-1)) ws:=by
 refine⟨hN.nd,λw=>?_,λy j o hy=>?_⟩
 .by_cases Q:w=p++[i]
  .subst Q;rw[Sb h];constructor
   .intro A;rcases (hN.mem _).1 A with D|⟨o,D,_⟩
    all_goals grind
   simp
  .rw[F3 Q];exact hN.mem w
 .by_cases U:y++[j]=p++[i]
  .obtain⟨rfl,rfl⟩:=J0 U;rcases (hN.mem _).1 Z with A|⟨o',A,D⟩
   all_goals simp_all[F3]
  .rw[F3 U] at hy;rcases hN.clo y j o hy with A|⟨o',A,D⟩
   all_goals grind[F3]
theorem Nod.updNew{V:Wd->Option Int}{ws:Wq}(hN:Nod V ws){p:Wd}{i o:Int}(hp:p∈ws)(h:V (p++[i])=none)(ho:o ≠ -1):Nod (Ck V (p++[i]) o) (ws++[p++[i]]):=by
 have hx:p++[i] ∉ ws:=λA=>by
  rcases (hN.mem _).1 A with D|⟨o,D,_⟩
  all_goals simp_all
 refine⟨?_,λw=>?_,λy j Q hy=>?_⟩
 .rw[List.nodup_append];refine⟨hN.nd,by simp,λa ha b hb e=>?_⟩;grind
 .rw[W9,Xh];by_cases U:w=p++[i]
  .subst U;rw[Sb h];grind
  .rw[F3 U];constructor
   .rintro (A|A)
    .exact(hN.mem w).1 A
    grind
   .intro A;exact .inl ((hN.mem w).2 A)
 .by_cases Z:y++[j]=p++[i]
  .obtain⟨rfl,rfl⟩:=J0 Z;rcases (hN.mem _).1 hp with A|⟨Q,A,D⟩
   all_goals simp_all[F3]
  .rw[F3 Z] at hy;rcases hN.clo y j Q hy with A|⟨a0,A,D⟩
   all_goals grind[F3]
def addV:(Wd->Option Int)->Wd->Wd->Wd->Wd->Option Int
 | V,p,i::w,o::r=>addV (Ck V (p++[i]) o) (p++[i]) w r
 | V,_,_,_=>V
theorem addV_keep:∀(w r:Wd)(V:Wd->Option Int)(p y:Wd)(o:Int),V y=some o->addV V p w r y=some o
 | [],_,_,_,_,_,h=>h
 | _::_,[],_,_,_,_,h=>h
 | i::w,A::r,V,p,y,o,h=>by
  refine addV_keep w r _ _ y o ?_;by_cases hy:y=p++[i]
  .rw[Sa (hy ▸ h)];exact h
  .rw[F3 hy];exact h
theorem b3z{i:Int}{w:Wd}{k:Nat}:p++(i::w).take (k+1)=(p++[i])++w.take k:=by
 grind
theorem addV_some:∀(w r:Wd)(V:Wd->Option Int)(p:Wd)(k:Nat),r.length=w.length->k<w.length->∃o,addV V p w r (p++w.take (k+1))=some o
 | [],_,_,_,_,_,h=>by cases h
 | _::_,[],_,_,_,h,_=>by cases h
 | i::w,o::r,V,p,0,_,_=>by
  simp[Ck,addV,addV_keep]
 | i::w,o::r,V,p,k+1,D,Q=>by
  show ∃A,addV (Ck V (p++[i]) o) (p++[i]) w r _=some A;rw[b3z];exact addV_some w r _ _ k (by grind) (by grind)
theorem addV_dead:∀(w r:Wd)(V:Wd->Option Int)(p y:Wd),r.length=w.length->(∀k,k<r.length->r.getD k 0 = -1)->addV V p w r y=V y\/(V y=none/\addV V p w r y=some (-1)/\∃k,k<w.length/\y=p++w.take (k+1))
 | [],_,_,_,_,_,_=>.inl rfl
 | _::_,[],_,_,_,h,_=>by cases h
 | i::w,o::r,V,p,y,U,A=>by
  have D:o = -1:=A 0 (by simp);subst D;show addV (Ck V (p++[i]) (-1)) (p++[i]) w r y=V y\/(V y=none/\addV (Ck V (p++[i]) (-1)) (p++[i]) w r y=some (-1)/\_);rcases addV_dead w r (Ck V (p++[i]) (-1)) (p++[i]) y (by grind) (λk Q=>A (k+1) (by grind)) with h|⟨Z,h2,k,Q,h3⟩
  .by_cases hy:y=p++[i]
   .cases hv:V y with
    | none =>
     refine .inr ⟨rfl,?_,0,by simp,by grind⟩;grind[Sb]
    | some o=>simp_all[Sa]
   grind[F3]
  .have hy:y≠p++[i]:=λe=>by
    simp_all
   (simp_all[F3];grind)
theorem a4q{O:Int}:∀(r:Wd)(k:Nat),okR O true r=true->k<r.length->r.getD k 0 = -1
 | [],_,_,A=>by grind
 | o::r,0,h,_=>(N8 h).2.2.1 rfl
 | o::r,k+1,h,A=>by
  obtain⟨_,_,Q,D⟩:=N8 h;rw[Q rfl] at D;exact a4q r k D (by simpa using A)
theorem d9y{V:Wd->Option Int}{ws:Wq}{I:Nat}(hN:Nod V ws){x w r:Wd}(hx:V x=some (-1))(a1:x≠[])(Q:r.length=w.length)(Z:∀k,k<r.length->r.getD k 0 = -1):Bk (addV V x w r) ws I=Bk V ws I/\Nod (addV V x w r) ws:=by
 have a0:x ∉ ws:=λh=>by
  rcases (hN.mem _).1 h with A|⟨o,A,D⟩
  all_goals grind
 have key:∀v∈ws,∀j:Int,addV V x w r (v++[j])=V (v++[j]):=λv hv j=>by
  rcases addV_dead w r V x (v++[j]) Q Z with h|⟨A,D,k,hk,h3⟩
  .exact h
  .exfalso;have U:v=x++w.take k:=by
    grind[Bv,J0]
   rw[U] at hv;exact a0 (hN.pre _ _ rfl hv)
 constructor
 .grind[Bk,List.map_congr_left,A2,Ax]
 .refine⟨hN.nd,λv=>?_,λy j o hy=>?_⟩
  .rw[hN.mem v];rcases addV_dead w r V x v Q Z with h|⟨A,D,_⟩
   all_goals grind
  .rcases addV_dead w r V x (y++[j]) Q Z with h|⟨A,D,k,hk,h3⟩
   .rw[h] at hy;rcases hN.clo y j o hy with A|⟨o',A,D⟩
    all_goals grind[addV_keep]
   .rw[D] at hy;cases hy;have U:y=x++w.take k:=by
     grind[Bv,J0]
    cases k with
    | zero =>
     rw[List.take_zero,e6b] at U;rw[U];exact .inr ⟨-1,addV_keep _ _ _ _ _ _ hx,λh=>absurd rfl h⟩
    | succ k =>
     obtain⟨o',a2⟩:=addV_some w r V x k Q (by omega);grind
def F4(I:Nat):Tq->Nat->Wd->Wd->Tq
 | rows,at',i::w,o::r =>
  if o = -1 then rows.set at' ((rows.getD at' []).set i.toNat (-1,-2))
  else if ((rows.getD at' []).getD i.toNat (-1,-1)).1 = -1 then F4 I (rows.set at' ((rows.getD at' []).set i.toNat ((rows.length:Int),o))++[List.replicate I (-1,-1)]) rows.length w r
  else F4 I rows ((rows.getD at' []).getD i.toNat (-1,-1)).1.toNat w r
 | rows,_,_,_=>rows
theorem a4r{O:Int}{I:Nat}:∀(w r:Wd)(V:Wd->Option Int)(ws:Wq)(p:Wd),Nod V ws->p∈ws->inW w I=true->okR O false r=true->r.length=w.length ->
  (∀k,k<w.length->∀A,V (p++w.take (k+1))=some A->A=r.getD k 0)->∃us,Nod (addV V p w r) (ws++us)/\F4 I (Bk V ws I) (ws.idxOf p) w r=Bk (addV V p w r) (ws++us) I
 | [],_,V,ws,p,hN,_,_,_,_,_=>⟨[],by rw[e6b];exact hN,by rw[e6b];rfl⟩
 | _::_,[],_,_,_,_,_,_,_,h,_=>by cases h
 | i::w,o::r,V,ws,p,hN,Q,U,hr,hl,hc=>by
  unfold inW at U;rw[e8e,W1] at U;have hi:=of_decide_eq_true U.1;obtain⟨a,rfl⟩:∃a:Nat,i=a:=⟨i.toNat,by omega⟩;have ha:a<I:=by omega
  obtain⟨b1,b2,_,b3⟩:=N8 hr;have a0:r.length=w.length:=by grind
  obtain⟨b4,b5⟩:=Mt Q;have a4:∀A,V (p++[(a:Int)])=some A->A=o:=λA h=>by
   have:=hc 0 (by simp) A (by grind);grind
  have a5:(Bk V ws I).getD (ws.idxOf p) []=A2 V ws I p:=by grind[Vj]
  have a8:(A2 V ws I p).getD a (-1,-1)=Ax V ws p a:=by grind[Oa]
  have a6:p++[(a:Int)]≠[]:=by simp
  have a1:∀k,k<w.length->∀A,Ck V (p++[(a:Int)]) o ((p++[(a:Int)])++w.take (k+1))=some A->A=r.getD k 0:=λk hk A h=>by
   rw[F3 (λe=>by have h4:=congrArg List.length e;grind)] at h;have:=hc (k+1) (by grind) A (by grind);grind
  show ∃us,Nod (addV (Ck V (p++[(a:Int)]) o) (p++[(a:Int)]) w r) (ws++us)/\(if o = -1 then (Bk V ws I).set (ws.idxOf p) (((Bk V ws I).getD (ws.idxOf p) []).set (a:Int).toNat (-1,-2))
   else if (((Bk V ws I).getD (ws.idxOf p) []).getD (a:Int).toNat (-1,-1)).1 = -1 then F4 I ((Bk V ws I).set (ws.idxOf p) (((Bk V ws I).getD (ws.idxOf p) []).set (a:Int).toNat (((Bk V ws I).length:Int),o))++[List.replicate I (-1,-1)]) (Bk V ws I).length w r
   else F4 I (Bk V ws I) (((Bk V ws I).getD (ws.idxOf p) []).getD (a:Int).toNat (-1,-1)).1.toNat w r)=Bk (addV (Ck V (p++[(a:Int)]) o) (p++[(a:Int)]) w r) (ws++us) I
  rw[e6i];by_cases ho:o = -1
  .subst ho;rw[if_pos rfl];have hd:∀k,k<r.length->r.getD k 0 = -1:=λk hk=>a4q r k (by assumption) hk;have a9:Ck V (p++[(a:Int)]) (-1) (p++[(a:Int)])=some (-1):=by
    cases h:V (p++[(a:Int)]) with
    | none=>exact Sb h
    | some A=>rw[Sa h,h,a4 A h]
   have a2:Nod (Ck V (p++[(a:Int)]) (-1)) ws:=by
    cases h:V (p++[(a:Int)]) with
    | none=>exact hN.updDead Q h
    | some A=>grind[Sa]
   obtain⟨d1,d2⟩:=d9y (I:=I) a2 a9 a6 a0 hd;refine⟨[],by grind,?_⟩;rw[e6b,d1];have D:=b3y (I:=I) (o:=-1) [] hN Q ha;rw[e6b] at D;have Z:Ax (Ck V (p++[(a:Int)]) (-1)) ws p a=(-1,-2):=by grind[Ax]
   rw[Z] at D;exact D.symm
  .rw[if_neg ho,a5,a8];have a7:okR O false r=true:=by grind
   cases h:V (p++[(a:Int)]) with
   | none =>
    have he:Ax V ws p a=(-1,-1):=by grind[Ax]
    rw[he,if_pos rfl];have a3:p++[(a:Int)] ∉ ws:=λD=>by
     rcases (hN.mem _).1 D with Z|⟨A,Z,_⟩
     all_goals grind
    have a2:=hN.updNew Q h ho;have D:=b3y (I:=I) (o:=o) [p++[(a:Int)]] hN Q ha;have Z:Ax (Ck V (p++[(a:Int)]) o) (ws++[p++[(a:Int)]]) p a=((ws.length:Int),o):=by
     unfold Ax;rw[Sb h];grind
    rw[Z,a5] at D;have h3:A2 (Ck V (p++[(a:Int)]) o) (ws++[p++[(a:Int)]]) I (p++[(a:Int)])=List.replicate I (-1,-1):=by
     unfold A2;rw[List.eq_replicate_iff];refine⟨by simp,λb hb=>?_⟩;obtain⟨j,_,rfl⟩:=Xc.1 hb;unfold Ax;rw[F3 (by simp),hN.none_of a6 h]
    have h4:(Bk V ws I).set (ws.idxOf p) ((A2 V ws I p).set a (((Bk V ws I).length:Int),o))++[List.replicate I (-1,-1)]=Bk (Ck V (p++[(a:Int)]) o) (ws++[p++[(a:Int)]]) I:=by
     grind[Bk]
    rw[h4];have h5:(Bk V ws I).length=(ws++[p++[(a:Int)]]).idxOf (p++[(a:Int)]):=by rw[Gx,d9v a3]
    rw[h5];obtain⟨us,e1,e2⟩:=a4r w r _ _ (p++[(a:Int)]) a2 (by simp) U.2 a7 a0 a1;grind
   | some A =>
    have b0:=a4 A h;subst b0;have a3:p++[(a:Int)]∈ws:=(hN.mem _).2 (.inr ⟨A,h,ho⟩);have he:Ax V ws p a=(((ws.idxOf (p++[(a:Int)]):Nat):Int),A):=by unfold Ax;grind
    rw[he,if_neg (by grind)];rw[Sa h] at a1 |-;obtain⟨us,e1,e2⟩:=a4r w r V ws (p++[(a:Int)]) hN a3 U.2 a7 a0 a1;grind[Int.toNat_natCast]
theorem b4a(t:List Int×Wd)(w:Wd):∀(ts:Lq),valT (ts++[t]) w=match valT ts w with
  | some o=>some o
  | none=>if w≠[]/\w.length<=t.1.length/\t.1.take w.length=w then some (t.2.getD (w.length-1) 0) else none
 | []=>rfl
 | u::ts=>by
  (simp_all[valT,b4a];grind)
theorem addV_eq:∀(w r:Wd)(V:Wd->Option Int)(p y:Wd),r.length=w.length->addV V p w r y=match V y with
  | some o=>some o
  | none=>if p.length<y.length/\y.length<=p.length+w.length/\(p++w).take y.length=y then some (r.getD (y.length-p.length-1) 0) else none
 | [],_,V,p,y,_=>by
  show V y=_;grind
 | _::_,[],_,_,_,h=>by cases h
 | i::w,o::r,V,p,y,A=>by
  show addV (Ck V (p++[i]) o) (p++[i]) w r y=_;rw[addV_eq w r _ _ y (by grind)];have D:(p++[i]).length=p.length+1:=by simp
  by_cases hy:y=p++[i]
  ·(simp_all[Ck];grind)
  .rw[F3 hy];grind
theorem d9z{ts:Lq}{t:List Int×Wd}(h:t.2.length=t.1.length):addV (valT ts) [] t.1 t.2=valT (ts++[t]):=by
 funext y;rw[addV_eq _ _ _ _ _ h,b4a];grind
def Eb(ts:Lq):Prop:=∀u∈ts,∀t∈ts,∀k,k<u.1.length->k<t.1.length->u.1.take (k+1)=t.1.take (k+1)->u.2.getD k 0=t.2.getD k 0
theorem stepL_iff:∀(x a y b:Wd)(k:Nat),a.length=x.length->b.length=y.length->(stepL x a y b k=none↔∀j,j<x.length->j<y.length->x.take (j+1)=y.take (j+1)->a.getD j 0=b.getD j 0)
 | [],_,_,_,_,_,_=>⟨λ_ j h=>(by cases h),λ_=>rfl⟩
 | _::_,[],_,_,_,h,_=>by cases h
 | _::_,_::_,[],_,_,_,_=>⟨λ_ j _ h=>(by cases h),λ_=>rfl⟩
 | _::_,_::_,_::_,[],_,_,h=>by cases h
 | i::x,p::a,j::y,q::b,k,U,Z=>by
  have D:=stepL_iff x a y b (k+1) (by grind) (by grind);show ((if i=j then (if p=q then stepL x a y b (k+1) else some k) else none)=none↔_);by_cases h:i=j
  .subst h;rw[if_pos rfl];by_cases A:p=q
   .subst A;rw[if_pos rfl,D]
    (simp_all;grind)
   .rw[if_neg A];constructor
    .grind
    .intro Q;exact absurd (Q 0 (by simp) (by simp) (by simp)) A
  grind
theorem a4s(t:List Int×Wd):∀(us:Lq)(a:Nat),Fs t us a=none↔∀u∈us,stepL u.1 u.2 t.1 t.2 0=none
 | [],_=>⟨λ_ u h=>(by grind),λ_=>rfl⟩
 | u::us,a=>by
  have A:=a4s t us (a+1);have e:Fs t (u::us) a=match stepL u.1 u.2 t.1 t.2 0 with|some k=>some (a,k)|none=>Fs t us (a+1):=rfl
  grind
theorem b4b(ts:Lq):∀(us:Lq)(b:Nat),Ea ts us b=none↔∀(i:Nat)(h:i<us.length),∀u∈ts.take (b+i),stepL u.1 u.2 us[i].1 us[i].2 0=none
 | [],_=>⟨λ_ i hi=>(by grind),λ_=>rfl⟩
 | t::us,b=>by
  have Q:=b4b ts us (b+1);have e:Ea ts (t::us) b=match Fs t (ts.take b) 0 with|some (a,k)=>some (a,b,k)|none=>Ea ts us (b+1):=rfl
  rw[e]
  cases h:Fs t (ts.take b) 0 with
  | some x =>
   constructor
   .grind
   .intro A;have U:=(a4s t (ts.take b) 0).2 λu D=>A 0 (by simp) u D;grind
  | none =>
   (simp_all[a4s];grind)
theorem Sc{ts:Lq}(Q:∀t∈ts,t.2.length=t.1.length):Ea ts ts 0=none↔Eb ts:=by
 rw[b4b];constructor
 .intro h;have key:∀(a b:Nat)(U:a<ts.length)(A:b<ts.length),a<b->∀k,k<ts[a].1.length->k<ts[b].1.length->ts[a].1.take (k+1)=ts[b].1.take (k+1)->ts[a].2.getD k 0=ts[b].2.getD k 0:=λa b U A a0=>by
   have h1:=h b A ts[a] (by
    (simp_all[e5y];grind))
   grind[stepL_iff]
  intro u D t ht k h1 h2 h3;obtain⟨a,U,rfl⟩:=e5y.1 D;obtain⟨b,A,rfl⟩:=e5y.1 ht;grind
 .intro h i hi u D;have Z:=e6l D;exact(stepL_iff _ _ _ _ _ (Q _ Z) (Q _ (W2 hi))).2 λj=>h u Z _ (W2 hi) j
theorem J1{w:Wd}{o:Int}:∀{ts:Lq},valT ts w=some o->∃u∈ts,w≠[]/\w.length<=u.1.length/\u.1.take w.length=w/\o=u.2.getD (w.length-1) 0
 | [],h=>by cases h
 | t::ts,h=>by
  by_cases A:w≠[]/\w.length<=t.1.length/\t.1.take w.length=w
  .have e:valT (t::ts) w=some (t.2.getD (w.length-1) 0):=if_pos A;grind
  .have e:valT (t::ts) w=valT ts w:=if_neg A;rw[e] at h;obtain⟨u,D,Q⟩:=J1 h;exact⟨u,by simp[D],Q⟩
theorem a4t{ts:Lq}(hc:Eb ts){t:List Int×Wd}(D:t∈ts){k:Nat}(hk:k<t.1.length):valT ts (t.1.take (k+1))=some (t.2.getD k 0):=by
 have a0:(t.1.take (k+1)).length=k+1:=by grind
 have a2:t.1.take (k+1)≠[]:=λe=>by grind
 have a1:∀us:Lq,t∈us->∃o,valT us (t.1.take (k+1))=some o:=by
  intro us
  induction us with
  | nil=>grind
  | cons u us ih =>
   intro h;by_cases Q:t.1.take (k+1)≠[]/\(t.1.take (k+1)).length<=u.1.length/\u.1.take (t.1.take (k+1)).length=t.1.take (k+1)
   .exact⟨_,if_pos Q⟩
   .rcases Xb.1 h with rfl|h
    .grind
    .obtain⟨o,A⟩:=ih h;exact⟨o,(if_neg Q).trans A⟩
 obtain⟨o,A⟩:=a1 ts D;obtain⟨u,h1,_,h3,U,Z⟩:=J1 A;rw[a0] at h3 U Z;rw[A,Z,Nat.add_sub_cancel];exact congrArg some (hc u h1 t D k (by omega) hk U)
theorem Eb.sub{ts us:Lq}(h:Eb us)(A:∀t∈ts,t∈us):Eb ts:=λu D t Q=>h u (A u D) t (A t Q)
def Pn(I:Nat)(ts:Lq):Tq:=ts.foldl (λrows t=>F4 I rows 0 t.1 t.2) [List.replicate I (-1,-1)]
theorem a4u{I:Nat}{O:Int}:∀(n:Nat)(ts:Lq),ts.length=n->Eb ts->(∀t∈ts,Cf I O t=true)->∃us,Nod (valT ts) ([]::us)/\Pn I ts=Bk (valT ts) ([]::us) I
 | 0,ts,D,_,_=>by
  have e:=e6j.1 D;subst e;refine⟨[],⟨by simp,λw=>?_,λx j o h=>by cases h⟩,?_⟩
  .rw[Xh];constructor
   .grind
   .rintro (h|⟨o,h,_⟩)
    .exact h
    .cases h
  .show [List.replicate I (-1,-1)]=[A2 (valT []) [[]] I []];congr 1;unfold A2;symm;rw[List.eq_replicate_iff];refine⟨by simp,λb hb=>?_⟩;obtain⟨j,_,rfl⟩:=Xc.1 hb;rfl
 | n+1,ts,D,Q,U=>by
  have Z:ts≠[]:=λe=>by grind
  have e:=e8f Z;generalize ts.getLast Z=t at e;generalize ts.dropLast=us at e;subst e;have a1:us.length=n:=by grind
  obtain⟨vs,h1,h2⟩:=a4u n us a1 (Q.sub λt ht=>by grind) λt ht=>U t (by grind);have A:=U t (by simp);unfold Cf at A;rw[W1,W1] at A;have a2:=of_decide_eq_true A.1.1;obtain⟨ks,h3,h4⟩:=a4r (O:=O) (I:=I) t.1 t.2 (valT us) ([]::vs) [] h1 (by simp) A.1.2 A.2 a2 λk hk o' a0=>by
   rw[List.nil_append] at a0;obtain⟨u,g1,_,g3,g4,g5⟩:=J1 a0;have a3:(t.1.take (k+1)).length=k+1:=by grind
   rw[a3] at g3 g4 g5;rw[g5,Nat.add_sub_cancel];exact Q u (by grind) t (by simp) k (by omega) hk g4
  grind[d9z,Pn]
def B8(ws:Wq):Prop:=∀(a b:Nat)(ha:a<ws.length)(hb:b<ws.length),a<b->SL ws[a] ws[b]
theorem B8.nodup{ws:Wq}(h:B8 ws):ws.Nodup:=
 List.pairwise_iff_getElem.2 λi j hi A D e=>by
  have Q:=h i j hi A D;grind[SL.irrefl]
theorem B8.snoc{ws:Wq}(h:B8 ws){x:Wd}(hx:∀w∈ws,SL w x):B8 (ws++[x]):=by
 intro a b D Q U;rw[W0,Xg] at D Q;by_cases A:b<ws.length
 .rw[e6f (by omega),e6f A];exact h a b (by omega) A U
 grind
def chL(V:Wd->Option Int)(w:Wd):List Nat->Wq
 | []=>[]
 | i::l=>match V (w++[(i:Int)]) with
  | none=>chL V w l
  | some o=>if o = -1 then chL V w l else (w++[(i:Int)])::chL V w l
theorem Sd{V:Wd->Option Int}{w x:Wd}:∀{l:List Nat},x∈chL V w l↔∃i∈l,x=w++[(i:Int)]/\∃o,V x=some o/\o ≠ -1
 | []=>by simp[chL]
 | i::l=>by
  have h:=@Sd V w x l;unfold chL;grind
def numE:Nat->List (Int×Int)->List (Int×Int)
 | _,[]=>[]
 | k,e::es=>if e.1 = -1 then e::numE k es else ((k:Int),e.2)::numE (k+1) es
def oldE:List (Int×Int)->Wd
 | []=>[]
 | e::es=>if e.1 = -1 then oldE es else e.1::oldE es
theorem b4c{V:Wd->Option Int}{ws:Wq}{w:Wd}:∀(l:List Nat),oldE (l.map (Ax V ws w))=(chL V w l).map λx=>((ws.idxOf x:Nat):Int)
 | []=>rfl
 | i::l=>by
  have D:=@b4c V ws w l;rw[e6v];unfold chL
  cases h:V (w++[(i:Int)]) with
  | none =>
   have A:Ax V ws w i=(-1,-1):=by grind[Ax]
   rw[A];exact D
  | some o =>
   dsimp only;by_cases Q:o = -1
   .have A:Ax V ws w i=(-1,-2):=by simp_all[Ax]
    rw[if_pos Q,A];exact D
   .have A:Ax V ws w i=(((ws.idxOf (w++[(i:Int)]):Nat):Int),o):=by simp_all[Ax]
    rw[if_neg Q,A,e6v,<- D];rfl
theorem Vk{V:Wd->Option Int}{ws:Wq}{w:Wd}:∀(l:List Nat)(A:Wq),l.Nodup->(∀i∈l,w++[(i:Int)] ∉ A)->numE A.length (l.map (Ax V ws w))=l.map (Ax V (A++chL V w l) w)
 | [],_,_,_=>rfl
 | i::l,A,hn,a0=>by
  have Q:=List.nodup_cons.1 hn;rw[e6v,e6v];unfold chL
  cases h:V (w++[(i:Int)]) with
  | none =>
   have D:∀us,Ax V us w i=(-1,-1):=λus=>by unfold Ax;rw[h]
   rw[D,D];show (-1,-1)::numE A.length (l.map (Ax V ws w))=_;rw[Vk l A Q.2 λj U=>a0 j (by simp[U])]
  | some o =>
   dsimp only;by_cases ho:o = -1
   .simp_all[Ax,numE,Vk]
   .rw[if_neg ho];have D:∀us,Ax V us w i=(((us.idxOf (w++[(i:Int)]):Nat):Int),o):=λus=>by simp_all[Ax]
    rw[D,D];have e2:(A++(w++[(i:Int)])::chL V w l).idxOf (w++[(i:Int)])=A.length:=by
     grind
    rw[e2];have e3:numE A.length ((((ws.idxOf (w++[(i:Int)]):Nat):Int),o)::l.map (Ax V ws w))=((A.length:Int),o)::numE (A.length+1) (l.map (Ax V ws w)):=by
     rfl
    rw[e3];have ih:=Vk (V:=V) (ws:=ws) (w:=w) l (A++[w++[(i:Int)]]) Q.2 λj U hm=>by
     rcases W9.1 hm with Z|Z
     .grind
     .have:=(J0 (Xh.1 Z)).2;have e:j=i:=by omega
      grind
    grind
theorem Vl{O:Int}{V:Wd->Option Int}{ws:Wq}{w:Wd}(D:∀x o,V x=some o->o ≠ -1->0<=o/\o<O):∀(l:List Nat)(k:Nat),goE O (numE k (l.map (Ax V ws w))) k=some (k+(chL V w l).length)
 | [],_=>rfl
 | i::l,k=>by
  rw[e6v];unfold chL
  cases h:V (w++[(i:Int)]) with
  | none =>
   have A:Ax V ws w i=(-1,-1):=by grind[Ax]
   rw[A];show goE O ((-1,-1)::numE k (l.map (Ax V ws w))) k=_;exact Vl D l k
  | some o =>
   dsimp only;by_cases Q:o = -1
   .rw[if_pos Q];have A:Ax V ws w i=(-1,-2):=by simp_all[Ax]
    rw[A];show goE O ((-1,-2)::numE k (l.map (Ax V ws w))) k=_;exact Vl D l k
   .rw[if_neg Q];have A:Ax V ws w i=(((ws.idxOf (w++[(i:Int)]):Nat):Int),o):=by simp_all[Ax]
    rw[A];have e3:numE k ((((ws.idxOf (w++[(i:Int)]):Nat):Int),o)::l.map (Ax V ws w))=((k:Int),o)::numE (k+1) (l.map (Ax V ws w)):=by
     rfl
    rw[e3];have U:=D _ _ h Q;have e4:Dd O k ((k:Int),o)=some (k+1):=by
     unfold Dd;grind
    show (match Dd O k ((k:Int),o) with|none=>none|some nx=>goE O (numE (k+1) (l.map (Ax V ws w))) nx)=_;rw[e4];dsimp only;rw[Vl D l (k+1),Xk];congr 1;omega
theorem b4d{I O:Int}{r:List (Int×Int)}:∀(l:Tq)(n A k D:Nat),goT I O l n A=some k->(r.length:Int)=I->n+l.length<k->goE O r k=some D->goT I O (l++[r]) n A=some D
 | [],n,A,k,D,h,U,Z,h3=>by
  have e:A=k:=Option.some.inj h;simp_all[goT]
 | a::l,n,A,k,D,h,U,Z,h3=>by
  have Q:(if (a.length:Int)=I/\n<A then (match goE O a A with|none=>none|some q=>goT I O l (n+1) q) else none)=some k:=h;show (if (a.length:Int)=I/\n<A then (match goE O a A with|none=>none|some q=>goT I O (l++[r]) (n+1) q) else none)=_;split at Q
  .rename_i hc;rw[if_pos hc]
   cases hq:goE O a A with
   | none=>rw[hq] at Q;cases Q
   | some q =>
    rw[hq] at Q;exact b4d l (n+1) q k D Q U (by rw[Xk] at Z;omega) h3
  grind
structure Bfs (V:Wd->Option Int) (ws:Wq) (I:Nat) (O:Int) (n:Nat) (os:Wq):Prop where
 srt:B8 os
 sub:∀x∈os,x∈ws
 le:n<=os.length
 hd:os[0]?=some []
 ch:∀(m:Nat)(h:m<os.length),m<n->∀x∈chL V os[m] (List.range I),x∈os
 par:∀x∈os,x=[]\/∃(m:Nat)(h:m<os.length),m<n/\∃i:Int,x=os[m]++[i]
 go:goT I O ((os.take n).map (A2 V os I)) 0 1=some os.length
theorem Bfs.zero{V:Wd->Option Int}{ws:Wq}{I:Nat}{O:Int}(h:[]∈ws):Bfs V ws I O 0 [[]]:=
 ⟨λa b A D Q=>by grind,λx hx=>by grind,by simp,rfl,λm h U=>by omega,λx hx=>.inl (Xh.1 hx),rfl⟩
theorem Vm{V:Wd->Option Int}{w:Wd}:∀(l:List Nat)(A:Wq),B8 A->l.Pairwise (· < ·)->(∀x∈A,∀i∈l,SL x (w++[(i:Int)]))->B8 (A++chL V w l)
 | [],A,h,_,_=>by grind[chL]
 | i::l,A,h,hp,hx=>by
  have U:=List.pairwise_cons.1 hp;unfold chL
  cases hv:V (w++[(i:Int)]) with
  | none=>exact Vm l A h U.2 λx D j Q=>hx x D j (by simp[Q])
  | some o =>
   dsimp only;split
   .exact Vm l A h U.2 λx D j Q=>hx x D j (by simp[Q])
   .have h1:=Vm (V:=V) (w:=w) l (A++[w++[(i:Int)]]) (h.snoc λx D=>hx x D i (by simp)) U.2 λx D j Q=>by
     rcases W9.1 D with Z|Z
     .exact hx x Z j (by simp[Q])
     .rw[Xh.1 Z];exact Y5 w (by have:=U.1 j Q;omega)
    rwa [e6c] at h1
theorem b4e{V:Wd->Option Int}{A us:Wq}{I:Nat}{w:Wd}(h:∀x∈chL V w (List.range I),x∈A):A2 V (A++us) I w=A2 V A I w:=by
 unfold A2;apply e7o;intro i hi;unfold Ax
 cases D:V (w++[(i:Int)]) with
 | none=>rfl
 | some o =>
  dsimp only;split
  .rfl
  .rename_i Q;rw[b3w (h _ (Sd.2 ⟨i,hi,rfl,o,D,Q⟩))]
theorem Bfs.step{V:Wd->Option Int}{ws:Wq}{I:Nat}{O:Int}{n:Nat}{A:Wq}(h:Bfs V ws I O n A)(hN:Nod V ws)(hV:∀x o,V x=some o->o ≠ -1->0<=o/\o<O)(hn:n<A.length):
  Bfs V ws I O (n+1) (A++chL V A[n] (List.range I))/\numE A.length (A2 V ws I A[n])=A2 V (A++chL V A[n] (List.range I)) I A[n]:=by
 have a0:∀x∈A,∀i∈List.range I,SL x (A[n]++[(i:Int)]):=λx hx i _=>by
  rcases h.par x hx with rfl|⟨m,D,Z,j,rfl⟩
  .grind[SL.nil]
  .exact(h.srt m n D hn Z).app j i
 have a2:∀i∈List.range I,A[n]++[(i:Int)] ∉ A:=λi hi D=>X9 (a0 _ D i hi);have a1:=Vk (V:=V) (ws:=ws) (w:=A[n]) (List.range I) A List.nodup_range a2;have a3:numE A.length (A2 V ws I A[n])=A2 V (A++chL V A[n] (List.range I)) I A[n]:=a1;refine⟨⟨Vm _ _ h.srt List.pairwise_lt_range a0,λx hx=>?_,?_,?_,λm D Z x hx=>?_,λx hx=>?_,?_⟩,a1⟩
 .rcases W9.1 hx with Q|Q
  .exact h.sub x Q
  .obtain⟨i,_,_,o,U,h3⟩:=Sd.1 Q;exact(hN.mem x).2 (.inr ⟨o,U,h3⟩)
 .grind
 .rw[Xs (by omega)];exact h.hd
 .rw[W9];by_cases a4:m<n
  .rw[e6f (by omega)] at hx;exact .inl (h.ch m (by omega) a4 x hx)
  grind
 .rcases W9.1 hx with Q|Q
  .rcases h.par x Q with U|⟨m,D,Z,j,U⟩
   .grind
   .exact .inr ⟨m,by grind,by omega,j,by grind⟩
  .obtain⟨i,_,U,_⟩:=Sd.1 Q;exact .inr ⟨n,by grind,by omega,i,by grind⟩
 .have e1:(A++chL V A[n] (List.range I)).take (n+1)=A.take n++[A[n]]:=by
   grind[Bv]
  have e2:(A.take n).map (A2 V (A++chL V A[n] (List.range I)) I)=(A.take n).map (A2 V A I):=by
   apply e7o;intro w hw;obtain⟨m,D,rfl⟩:=e5y.1 hw;rw[W4] at D;rw[e7i];exact b4e λx hx=>h.ch m (by omega) (by omega) x hx
  rw[e1,e6m,e2,e8d,<- a3];refine b4d _ 0 1 A.length _ h.go ?_ ?_ ?_
  .grind[K3]
  .grind
  .rw[W0];exact Vl hV _ _
theorem Bfs.rows{V:Wd->Option Int}{ws:Wq}{I:Nat}{O:Int}{n:Nat}{A:Wq}(h:Bfs V ws I O n A)(us:Wq):(A.take n).map (A2 V (A++us) I)=(A.take n).map (A2 V A I):=by
 apply e7o;intro w D;obtain⟨m,Q,rfl⟩:=e5y.1 D;rw[W4] at Q;rw[e7i];exact b4e λx hx=>h.ch m (by omega) (by omega) x hx
theorem nodup_len:∀{a b:Wq},a.Nodup->(∀x∈a,x∈b)->a.length<=b.length
 | [],b,_,_=>W3 _
 | x::a,b,D,h=>by
  have A:=List.nodup_cons.1 D;have hx:=h x (by simp);have Q:=@nodup_len a (b.erase x) A.2 λy hy=>(List.mem_erase_of_ne (λe=>A.1 (by grind))).2 (h y (by grind));grind
theorem Bfs.len{V:Wd->Option Int}{ws:Wq}{I:Nat}{O:Int}{n:Nat}{A:Wq}(h:Bfs V ws I O n A):A.length<=ws.length:=nodup_len h.srt.nodup h.sub
theorem Bfs.done{V:Wd->Option Int}{ws:Wq}{I:Nat}{O:Int}{A:Wq}(h:Bfs V ws I O A.length A)(hN:Nod V ws)(Z:∀(x:Wd)(i o:Int),V (x++[i])=some o->0<=i/\i<(I:Int)):Nod V A:=by
 have a0:∀(k:Nat)(x:Wd),x.length=k->x∈ws->x∈A:=by
  intro k
  induction k with
  | zero =>
   intro x hx _;rw[e6j.1 hx];exact e6e h.hd
  | succ k ih =>
   intro x hx hm;have D:x≠[]:=λe=>by grind
   have e:=e8f D;have hd:x.dropLast∈A:=ih x.dropLast (by grind) (hN.up (by rw[e];grind));obtain⟨m,Q,a1⟩:=e5y.1 hd;rcases (hN.mem x).1 hm with U|⟨o,U,h2⟩
   .grind
   .have h3:=Z x.dropLast (x.getLast D) o (by grind);refine h.ch m Q Q x (Sd.2 ⟨(x.getLast D).toNat,?_,?_,o,U,h2⟩)
    all_goals grind
 refine⟨h.srt.nodup,λw=>?_,hN.clo⟩;rw[<- hN.mem w];exact⟨h.sub w,a0 _ w rfl⟩
theorem srt_eq:∀{a b:Wq},B8 a->B8 b->(∀x,x∈a↔x∈b)->a=b
 | [],[],_,_,_=>rfl
 | [],y::b,_,_,h=>by have:=(h y).2 (by simp);grind
 | x::a,[],_,_,h=>by have:=(h x).1 (by simp);grind
 | x::a,y::b,Z,hb,h=>by
  have a0:∀z∈a,SL x z:=λz D=>by
   obtain⟨i,hi,rfl⟩:=e5y.1 D;exact Z 0 (i+1) (by simp) (by grind) (by omega)
  have a1:∀z∈b,SL y z:=λz D=>by
   obtain⟨i,hi,rfl⟩:=e5y.1 D;exact hb 0 (i+1) (by simp) (by grind) (by omega)
  have e:x=y:=by
   rcases Xb.1 ((h x).1 (by simp)) with A|A
   .exact A
   .rcases Xb.1 ((h y).2 (by simp)) with Q|Q
    .exact Q.symm
    .exact absurd ((a1 x A).trans (a0 y Q)) X9
  subst e;have ta:B8 a:=λi j hi U a2=>Z (i+1) (j+1) (by simpa using hi) (by simpa using U) (by omega);have tb:B8 b:=λi j hi U a2=>hb (i+1) (j+1) (by simpa using hi) (by simpa using U) (by omega);rw[srt_eq ta tb λz=>?_];constructor
  .intro D;rcases Xb.1 ((h z).1 (by simp[D])) with A|A
   .subst A;exact absurd (a0 z D) X9
   .exact A
  .intro D;rcases Xb.1 ((h z).2 (by simp[D])) with A|A
   .subst A;exact absurd (a1 z D) X9
   .exact A
theorem lexC_zero:∀ {a b:Wd},a.length=b.length→lexC a b=0→a=b
 | [],[],_,_=>rfl
 | [],_ :: _,h,_=>by grind
 | _ :: _,[],h,_=>by grind
 | x :: a,y :: b,hl,h=>by
  unfold lexC at h;by_cases h1:x < y
  ·grind
  ·rw [if_neg h1] at h;by_cases h2:y < x
   ·grind
   ·rw [if_neg h2] at h;rw [lexC_zero (by simpa using hl) h,show x=y by omega]
theorem lexC_pos:∀ {a b:Wd},a.length=b.length→0 < lexC a b→LL b a
 | [],[],_,h=>by grind [lexC]
 | [],_ :: _,h,_=>by grind
 | _ :: _,[],h,_=>by grind
 | x :: a,y :: b,hl,h=>by
  unfold lexC at h;by_cases h1:x < y
  ·grind
  ·rw [if_neg h1] at h;by_cases h2:y < x
   ·exact .inl h2
   ·rw [if_neg h2] at h;exact .inr ⟨by omega,lexC_pos (by grind) h⟩
theorem K4{b:Wd}(h:A4 a b=0):a=b:=by
 grind[A4,lexC_zero]
theorem Se{b:Wd}(h:0<A4 a b):SL b a:=by
 unfold A4 at h;split at h
 .omega
 .split at h
  .rename_i A;exact .inl A
  .exact .inr ⟨by omega,lexC_pos (by omega) h⟩
def Be(w:Wd):Wq->Wq
 | []=>[w]
 | x::l=>if A4 w x<0 then w::x::l else if A4 w x=0 then x::l else x::Be w l
theorem Po{w:Wd}:∀{l:Wq}{x:Wd},x∈Be w l↔x=w\/x∈l
 | [],x=>by simp[Be]
 | y::l,x=>by
  have A:=@Po w l x;unfold Be;split
  .grind
  .split
   .rename_i h;rw[K4 h];grind
   grind
theorem Vn{x:Wd}:B8 (x::l)↔(∀y∈l,SL x y)/\B8 l:=by
 constructor
 .intro h;refine⟨λy hy=>?_,λa b A D Q=>h (a+1) (b+1) (by grind) (by grind) (by omega)⟩;obtain⟨i,hi,rfl⟩:=e5y.1 hy;exact h 0 (i+1) (by simp) (by grind) (by omega)
 .rintro⟨Z,U⟩ a b A D Q
  cases b with
  | zero=>omega
  | succ b =>
   cases a with
   | zero=>grind
   | succ a=>exact U a b (by grind) (by grind) (by omega)
theorem Vo{w:Wd}:∀{l:Wq},B8 l->B8 (Be w l)
 | [],_=>λa b Z hb a0=>by grind[Be]
 | y::l,h=>by
  obtain⟨D,Q⟩:=Vn.1 h;unfold Be;split
  .rename_i U;refine Vn.2 ⟨λz A=>?_,h⟩;rcases Xb.1 A with rfl|A
   .grind[Fa]
   .exact(Fa.1 U).trans (D z A)
  .split
   .exact h
   .refine Vn.2 ⟨λz A=>?_,Vo Q⟩;rcases Po.1 A with rfl|A
    all_goals grind[Se]
def nodW:Wq->Wd->Wd->Wd->Wq
 | out,p,i::w,o::r=>if o = -1 then out else nodW (Be (p++[i]) out) (p++[i]) w r
 | out,_,_,_=>out
theorem nodW_srt:∀(w r:Wd)(A:Wq)(p:Wd),B8 A->B8 (nodW A p w r)
 | [],_,_,_,h=>h
 | _::_,[],_,_,h=>h
 | i::w,o::r,A,p,h=>by
  unfold nodW;split
  .exact h
  .exact nodW_srt w r _ _ (Vo h)
theorem b4f{O:Int}:∀(w r:Wd)(D:Wq)(p x:Wd),r.length=w.length->okR O false r=true->(x∈nodW D p w r↔x∈D\/∃k,k<w.length/\r.getD k 0 ≠ -1/\x=p++w.take (k+1))
 | [],_,_,_,_,_,_=>⟨λh=>.inl h,λh=>h.elim id λ⟨k,Z,_⟩=>by grind⟩
 | _::_,[],_,_,_,h,_=>by cases h
 | i::w,o::r,D,p,x,hl,hr=>by
  obtain⟨_,_,_,Q⟩:=N8 hr;unfold nodW;by_cases A:o = -1
  .rw[if_pos A];rw[decide_eq_true A] at Q;constructor
   .grind
   .rintro (h|⟨k,Z,U,_⟩)
    .exact h
    .cases k with
     | zero=>grind
     | succ k=>exact absurd (a4q r k Q (by grind)) U
  .rw[if_neg A,b4f w r _ _ x (by grind) (by rw[decide_eq_false A] at Q;omega),Po];constructor
   .rintro ((h|h)|⟨k,Z,U,h3⟩)
    .exact .inr ⟨0,by simp,A,by grind⟩
    .grind
    .exact .inr ⟨k+1,by grind,U,by grind⟩
   grind[b3z]
def Bi(ts:Lq):Wq:=ts.foldl (λout t=>nodW out [] t.1 t.2) [[]]
theorem Ob{I O:Int}{ts:Lq}(hv:∀t∈ts,Cf I O t=true):B8 (Bi ts)/\∀x,x∈Bi ts↔x=[]\/∃t∈ts,∃k,k<t.1.length/\t.2.getD k 0 ≠ -1/\x=t.1.take (k+1):=by
 have key:∀(us:Lq)(A:Wq),(∀t∈us,Cf I O t=true)->B8 A->B8 (us.foldl (λA t=>nodW A [] t.1 t.2) A)/\∀x,x∈us.foldl (λA t=>nodW A [] t.1 t.2) A↔x∈A\/∃t∈us,∃k,k<t.1.length/\t.2.getD k 0 ≠ -1/\x=t.1.take (k+1):=by
  intro us
  induction us with
  | nil=>grind
  | cons t us ih =>
   intro A D U;rw[List.foldl_cons];have Q:=D t (by simp);unfold Cf at Q;rw[W1,W1] at Q;obtain⟨h3,h4⟩:=ih (nodW A [] t.1 t.2) (λu Z=>D u (by grind)) (nodW_srt _ _ _ _ U);refine⟨h3,λx=>?_⟩;rw[h4 x,b4f t.1 t.2 A [] x (of_decide_eq_true Q.1.1) Q.2];constructor
   .rintro ((h|⟨k,h5,h6,h7⟩)|⟨u,Z,h5⟩)
    all_goals grind
   .rintro (h|⟨u,Z,k,h5⟩)
    all_goals grind
 obtain⟨D,U⟩:=key ts [[]] hv λa b ha hb a0=>by grind
 refine⟨D,λx=>?_⟩;rw[show Bi ts=ts.foldl (λA t=>nodW A [] t.1 t.2) [[]] from rfl,U x,Xh]
theorem J2{I O:Int}{ts:Lq}(D:∀t∈ts,Cf I O t=true)(U:Eb ts)(x:Wd):x∈Bi ts↔x=[]\/∃o,valT ts x=some o/\o ≠ -1:=by
 rw[(Ob D).2 x];constructor
 .rintro (h|⟨t,Z,k,A,Q,rfl⟩)
  all_goals simp_all[a4t]
 .rintro (h|⟨o,A,Q⟩)
  .grind
  .obtain⟨u,g1,g2,g3,g4,g5⟩:=J1 A;grind
def Aj(I:Nat)(ts:Lq):Tq:=Bk (valT ts) (Bi ts) I
theorem Vp{I O:Int}{ts:Lq}(D:∀t∈ts,Cf I O t=true){x:Wd}{i o:Int}(h:valT ts (x++[i])=some o):(0<=i/\i<I)/\(o ≠ -1->0<=o/\o<O):=by
 obtain⟨u,Q,g2,U,Z,g5⟩:=J1 h;have A:=D u Q;unfold Cf at A;rw[W1,W1] at A;have hl:=of_decide_eq_true A.1.1;rw[W0,Xg] at U Z g5;constructor
 .have hm:i∈u.1:=by
   grind[List.mem_of_mem_take]
  exact of_decide_eq_true (W7.1 A.1.2 i hm)
 .intro ho;have h1:=b3q u.2 (x.length+1-1) false A.2 (by omega);grind
theorem b4g{I O:Int}{ts:Lq}(A:∀t∈ts,Cf I O t=true){x:Wd}{o:Int}(h:valT ts x=some o):o ≠ -1->0<=o/\o<O:=by
 obtain⟨u,Q,D,U,Z,g5⟩:=J1 h;have e:=e8f D;rw[<- e] at h;exact(Vp A h).2
theorem b4h{I:Nat}{O:Int}{ts:Lq}{ws A:Wq}(D:∀t∈ts,Cf I O t=true)(Z:Eb ts)(hN:Nod (valT ts) ws)(h:Bfs (valT ts) ws I O A.length A):A=Bi ts/\Nod (valT ts) A/\goT I O (Aj I ts) 0 1=some (Aj I ts).length:=by
 have Q:=h.done hN λx i o hx=>(Vp D hx).1;have e:A=Bi ts:=srt_eq h.srt (Ob D).1 λx=>(Q.mem x).trans (J2 D Z x).symm;refine⟨e,Q,?_⟩;have U:=h.go;rw[Xn] at U;unfold Aj;rw[Gx,<- e];exact U
theorem mkI81:mkI prog 98=none:=by kernel_rfl
theorem e0a{a b:Int}(h:0<=a)(A:a<=b)(D:b<=1048576):F0 prog H 98 none (some (.li a)) (some (.li b))=.val (.sl H.next 0 a.toNat b.toNat) (H.add (.cells (rep [.li 0,.li 0] b.toNat) true 0)):=
 Pd (e:=97) (size:=2) (bytes:=16) (z:=[.li 0,.li 0]) (by kernel_rfl) (by decide) (by decide) (by kernel_rfl) h A D
attribute [simp] mkI81 e0a
theorem b4i{row:List (Int×Int)}{i:Nat}(hi:i<row.length)(e:Int×Int):Aq (Au row) (i*2) [.li e.1,.li e.2]=Au (row.set i e):=by
 have D:=rowC_len row;apply e8i;intro j;by_cases hj:j<row.length*2
 .have Z:j / 2<row.length:=by omega
  have Q:i*2+([.li e.1,.li e.2]:List AV).length<=(Au row).length:=by rw[D];simp;omega
  have A:=Pb (row.set i e) (j / 2) (by rw[Xf];exact Z);have h4:=Pb row (j / 2) Z;by_cases a0:i=j / 2
  .subst a0;simp only[List.getElem_set_self] at A;rcases Nat.mod_two_eq_zero_or_one j with U|U
   .have h:j=j / 2*2:=by omega
    rw[show (Aq (Au row) (j / 2*2) [.li e.1,.li e.2])[j]?=(Aq (Au row) (j / 2*2) [.li e.1,.li e.2])[j / 2*2]? from congrArg _ h,a3a (by simpa using Q),show (Au (row.set (j / 2) e))[j]?=(Au (row.set (j / 2) e))[j / 2*2]? from congrArg _ h,A.1]
   .have h:j=j / 2*2+1:=by omega
    rw[show (Aq (Au row) (j / 2*2) [.li e.1,.li e.2])[j]?=(Aq (Au row) (j / 2*2) [.li e.1,.li e.2])[j / 2*2+1]? from congrArg _ h,a3b (by simpa using Q),show (Au (row.set (j / 2) e))[j]?=(Au (row.set (j / 2) e))[j / 2*2+1]? from congrArg _ h,A.2]
  .rw[Pe Q (by simp;omega)];simp only[List.getElem_set_ne a0] at A;rcases Nat.mod_two_eq_zero_or_one j with U|U
   .have h:j=j / 2*2:=by omega
    rw[show (Au row)[j]?=(Au row)[j / 2*2]? from congrArg _ h,show (Au (row.set i e))[j]?=(Au (row.set i e))[j / 2*2]? from congrArg _ h,h4.1,A.1]
   .have h:j=j / 2*2+1:=by omega
    rw[show (Au row)[j]?=(Au row)[j / 2*2+1]? from congrArg _ h,show (Au (row.set i e))[j]?=(Au (row.set i e))[j / 2*2+1]? from congrArg _ h,h4.2,A.2]
 .rw[e7a (by rw[D1 (by rw[D];simp;omega),D];omega),e7a (by rw[rowC_len,Xf];omega)]
theorem a4v(I:Nat)(hI:I<=16)(g:Gb)(n:Nat):
  WC 0 prog 105 [.li I] ⟨.fn g,n⟩ λr=>r=.ret (.sl n 0 I I) ⟨.fn (Ak g n (some (.cells (Au (List.replicate I (-1,-1))) true 0))),n+1⟩:=by
 have a3:(I:Int)<=1048576:=by omega
 refine ent [] func105 ?_;simp (disch:=first|omega|simp) [*];refine Xy (λm A H'=>∃(k:Nat)(L:List AV),k<=I/\m=I-k/\H'=⟨.fn (Ak g n (some (.cells L true 0))),n+1⟩/\L.length=I*2/\Aa (L.take (k*2)=Au (List.replicate k (-1,-1)))/\A 3=some (.sl n 0 I I)/\A 8=some (.li I)/\A 9=some (.li k)) (m0:=I) ?_ ?_
 .exact⟨0,rep [.li 0,.li 0] I,W3 _,rfl,by simp,by rw[Gn];rfl,⟨rfl⟩,by simp[*]⟩
 rintro m A H' ⟨k,L,hk,rfl,rfl,D,Q,w3,w8,w9⟩ ih;refine rnd [] ?_;by_cases a4:k<I
 .have a1:(k:Int)<(I:Int):=by omega
  have a2:k*2+2<=L.length:=by omega
  have U:Aa ((Aq L (k*2) [.li (-1),.li (-1)]).length=I*2/\(Aq L (k*2) [.li (-1),.li (-1)]).take ((k+1)*2)=Au (List.replicate (k+1) (-1,-1))):=⟨by
   have Z:k*2+([.li (-1),.li (-1)]:List AV).length<=L.length:=a2;refine⟨by rw[D1 Z];exact D,?_⟩;rw[List.replicate_succ',a2w,<- Q.out,<- Fq Z,show (k+1)*2=k*2+2 by omega];rfl⟩
  simp (disch:=first|omega|simp) [*];exact ih.out (I-(k+1)) _ _ (by omega) ⟨k+1,Aq L (k*2) [.li (-1),.li (-1)],by omega,rfl,by simp[Aq],U.out.1,⟨U.out.2⟩,by simp[*]⟩
 .have a1:¬(k:Int)<(I:Int):=by omega
  have a0:k=I:=by omega
  have HE:Aa (L=Au (List.replicate I (-1,-1))):=⟨by
   have h:=Q.out;rw[a0,<- D,Xn] at h;exact h⟩
  clear a0;simp (disch:=first|omega|simp) [*];rw[HE.out]
end Go.Ai
