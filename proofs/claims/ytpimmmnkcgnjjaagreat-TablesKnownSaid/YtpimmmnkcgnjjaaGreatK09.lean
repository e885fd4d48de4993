/- Parts of an interpreter and of a proof. No condition. -/
import Derived.Test.YtpimmmnkcgnjjaaGreatK08
import Derived.Test.YtpimmmnkcgnjjaaGreatK05
set_option linter.all false
set_option maxHeartbeats 40000000
set_option maxRecDepth 10000
open Go.Proofs Go.Proofs.Tryz
namespace Go.Ai
variable {l:Wq}{a b p:Wd}{g':Gb}{H:Mem}{M:Az}{n':Nat}{t:List Int×Wd}{cs:List AV}{lv:AV}
def optI:Option Nat->Int
 | some k=>(k:Int)
 | none=>-1
def Vi(u t:List Int×Wd):Int:=optI (stepL u.1 u.2 t.1 t.2 0)
theorem d9v{x y:Wd}{k:Nat}(f:k<x.length)(h:k<a.length)(A:k<y.length)(D:k<b.length):stepL (x.drop k) (a.drop k) (y.drop k) (b.drop k) k=if x[k]=y[k] then (if a[k]=b[k] then stepL (x.drop (k+1)) (a.drop (k+1)) (y.drop (k+1)) (b.drop (k+1)) (k+1) else some k) else none:=by
 rw[Xh f,Xh h,Xh A,Xh D];rfl
theorem d9w{x:Wd}{k:Nat}:stepL x a [] b k=none:=by
 cases x with
 | nil=>rfl
 | cons i x=>cases a with
  | nil=>rfl
  | cons o a=>rfl
theorem d9x{I O:Int}{u:List Int×Wd}(hu:u.2.length=u.1.length)(ht:t.2.length=t.1.length)(a8:u.1.length<=256)(a9:t.1.length<=256)(g:Gb)(n:Nat)(s1 s2 U Z:AV)(h1:Al g n u.1 s1)(h2:Al g n u.2 s2)(h3:Al g n t.1 U)(h4:Al g n t.2 Z):
  WC 0 prog 135 [.agg [s1,s2],.agg [U,Z]] ⟨.fn g,n⟩ λr=>r=.ret (.li (Vi u t)) ⟨.fn g,n⟩:=by
 refine X0 rfl ?_;have b0:=@Au prog _ _ _ _ _ h1;have a4:=@Au prog _ _ _ _ _ h2;have b5:=@Au prog _ _ _ _ _ h3;have a5:=@Au prog _ _ _ _ _ h4;have e1:oneC s1=true:=h1.one;have e2:oneC s2=true:=h2.one;have e3:oneC U=true:=h3.one;have e4:oneC Z=true:=h4.one;have b6:allOne [s1,s2]=true:=by simp[e1,e2]
 have b7:allOne [U,Z]=true:=by simp[e3,e4]
 have H1:=Xr h1;have H2:=Xr h2;have H3:=Xr h3;have H4:=Xr h4;clear h1 h2 h3 h4;obtain⟨z,f⟩:∃z,z=Vi u t:=⟨_,rfl⟩;rw[<- f];have HZ:=Xr f;clear f;rw[hu] at a4;rw[ht] at a5;by_cases b8:(t.1.length:Int)<(u.1.length:Int)
 all_goals
  refine ent pl135 func135 ?_
  iterate 8 all_goals try first|apply spl<;>intro h|simp (disch:=first|assumption|omega|simp) [*]
  refine Xv (λm gf H'=>∃(k:Nat),k<=u.1.length/\k<=t.1.length/\m=u.1.length-k/\H'=⟨.fn (Ak (Ak g n (some (.cells [s1,s2] true 0))) (n+1) (some (.cells [U,Z] true 0))),n+1+1⟩ /\
   Aa (z=optI (stepL (u.1.drop k) (u.2.drop k) (t.1.drop k) (t.2.drop k) k))/\gf 2=some (.ptr n 0)/\gf 3=some (.ptr (n+1) 0)/\gf 5=some (.li k)) (m0:=u.1.length) ?_ ?_
  .exact⟨0,W3 _,W3 _,rfl,rfl,HZ,by simp[*]⟩
  rintro m gf H' ⟨k,b9,c0,rfl,rfl,D,w2,w3,w5⟩ ih;refine rnd pl135 ?_;by_cases a2:k<u.1.length
  .have a6:(k:Int)<(u.1.length:Int):=by omega
   by_cases a3:k<t.1.length
   .have a7:(k:Int)<(t.1.length:Int):=by omega
    obtain⟨b1,o1,c1,c2,c6⟩:=X5 H1.out a2;obtain⟨b2,o2,c7,c8,c9⟩:=X5 H2.out (by omega:k<u.2.length);obtain⟨b3,o3,hb3,e0,e5⟩:=X5 H3.out a3;obtain⟨b4,o4,hb4,e6,e7⟩:=X5 H4.out (by omega:k<t.2.length);have A:=Xr (D.out.trans (congrArg optI (d9v a2 (by omega:k<u.2.length) a3 (by omega:k<t.2.length))));generalize u.1[k]=i at *;generalize u.2[k]=a at *;generalize t.1[k]=j at *;generalize t.2[k]=b at *;by_cases a0:i=j
    .rw[if_pos a0] at A;subst a0;by_cases a1:a=b
     .rw[if_pos a1] at A;subst a1
      iterate 8 all_goals try first|apply spl<;>intro h|simp (disch:=first|assumption|omega|simp) [*]
      exact ih.out (u.1.length-(k+1)) _ _ (by omega) ⟨k+1,by omega,by omega,rfl,rfl,A,by simp[*]⟩
     .rw[if_neg a1] at A;have f:z=k:=A.out;clear A D HZ;subst f
      iterate 8 all_goals try first|apply spl<;>intro h|simp (disch:=first|assumption|omega|simp) [*]
      all_goals exact⟨by show n<=n+1+1;omega,λb (Q:b<n)=>(Ad (by omega)).trans (Ad Q)⟩
    .rw[if_neg a0] at A;have f:z = -1:=A.out;clear A D HZ;subst f
     iterate 8 all_goals try first|apply spl<;>intro h|simp (disch:=first|assumption|omega|simp) [*]
     all_goals exact⟨by show n<=n+1+1;omega,λb (Q:b<n)=>(Ad (by omega)).trans (Ad Q)⟩
   .have a7:¬(k:Int)<(t.1.length:Int):=by omega
    have f:z = -1:=by rw[D.out,e6f (by omega:t.1.length<=k)];rw[d9w];rfl
    try (exfalso;omega)
    all_goals clear D HZ
    all_goals subst f
    iterate 8 all_goals try first|apply spl<;>intro h|simp (disch:=first|assumption|omega|simp) [*]
    all_goals exact⟨by show n<=n+1+1;omega,λb (Q:b<n)=>(Ad (by omega)).trans (Ad Q)⟩
  .have a6:¬(k:Int)<(u.1.length:Int):=by omega
   have f:z = -1:=by rw[D.out,e6f (by omega:u.1.length<=k)];rfl
   try (exfalso;omega)
   all_goals clear D HZ
   all_goals subst f
   iterate 8 all_goals try first|apply spl<;>intro h|simp (disch:=first|assumption|omega|simp) [*]
   all_goals exact⟨by show n<=n+1+1;omega,λb (Q:b<n)=>(Ad (by omega)).trans (Ad Q)⟩
theorem Af.cut{g:Gb}{b len:Nat}{sv:AV}(h:Af g b sv len cs)(U:Av sv){t:TypeId}(f:(Bp prog t).map (·.1)=some none){k sz:Nat}(Z:k<=len)(h0:0<len):
  ∃A,(∀{H:Mem}{ev:Ev}{d:Option Tmp}{ty:TypeId}{p:String} {af:Array Edge} {gd:Option (Nat×Bool)} {x hi:Operand} {hx:ev x=some sv} {hh:ev hi=some (.li (k:Int))},
   ex2 prog H ev ⟨d,.slice t x none (some hi) none,ty,p,af,gd⟩ x hi (some sv) (some (.li (k:Int))) hx hh=.val A H)/\Af g b A k (cs.take (k*sz)):=by
 rcases h with⟨h1,_⟩|⟨a,off,D,⟨c,rfl⟩|⟨c,rfl⟩,Q⟩
 .omega
 .have a0:=U _ _ _ _ rfl;refine⟨.sl a off k c,?_,.inr ⟨a,off,D,.inl ⟨c,rfl⟩,Q.takes _⟩⟩;intro H ev d ty p af gd x hi hx hh;rw[Ui f (by omega) (by omega) (by omega)];simp
 .refine⟨.slq a off k c,?_,.inr ⟨a,off,D,.inr ⟨c,rfl⟩,Q.takes _⟩⟩;intro H ev d ty p af gd x hi hx hh;rw[Uj f (by omega) (by omega) (by omega)];simp
theorem el22:(Bp prog 52).map (·.1)=some none:=by kernel_rfl
theorem Du.cut{g:Gb}{n:Nat}{ts:Lq}{sv:AV}(h:Du g n ts sv)(Q:Av sv){k:Nat}(A:k<=ts.length)(U:0<ts.length):
  ∃f,(∀{H:Mem}{ev:Ev}{d:Option Tmp}{ty:TypeId}{p:String} {af:Array Edge} {gd:Option (Nat×Bool)} {x hi:Operand} {hx:ev x=some sv} {hh:ev hi=some (.li (k:Int))},
   ex2 prog H ev ⟨d,.slice 52 x none (some hi) none,ty,p,af,gd⟩ x hi (some sv) (some (.li (k:Int))) hx hh=.val f H)/\Du g n (ts.take k) f:=by
 obtain⟨cs,Z,D⟩:=h;obtain⟨f,h3,h4⟩:=Z.cut Q el22 (sz:=2) A U;refine⟨f,h3,cs.take (k*2),by rw[Xa,e6i A];exact h4,?_,λj hj=>?_⟩
 .rw[Xa,Xa,D.1];omega
 .have a0:j<k/\j<ts.length:=by rw[Xa] at hj;omega
  obtain⟨s1,s2,e1,e2,e3,e4⟩:=D.2 j a0.2;exact⟨s1,s2,by rw[e7r,if_pos (by omega)];exact e1,by rw[e7r,if_pos (by omega)];exact e2,by rw[e7q];exact e3,by rw[e7q];exact e4⟩
theorem d9y{ts:Lq}{k:Nat}(f:k<ts.length):Dv ts (ts.drop k) k=match Fk (ts[k]) (ts.take k) 0 with
  | some (a,j)=>some (a,k,j)
  | none=>Dv ts (ts.drop (k+1)) (k+1):=by
 rw[Xh f];rfl
theorem d9z{us:Lq}{j:Nat}(f:j<us.length):Fk t (us.drop j) j=match stepL (us[j]).1 (us[j]).2 t.1 t.2 0 with
  | some k=>some (j,k)
  | none=>Fk t (us.drop (j+1)) (j+1):=by
 rw[Xh f];rfl
def conC:Option (Nat×Nat×Nat)->AV
 | some (a,b,k)=>.agg [.li a,.li b,.li k]
 | none=>.agg [.li 0,.li 0,.li 0]
theorem b4d{I O:Int}{ts:Lq}(hL:Cc I O ts)(g:Gb)(n:Nat)(sv:AV)(hT:Du g n ts sv)(a9:Av sv):
  WC 0 prog 103 [.agg [.li I,.li O,sv]] ⟨.fn g,n⟩ λr=>∃Q n',r=.ret (.tup [conC (Dv ts ts 0),.lit (.bool (Dv ts ts 0).isSome),.li 0]) ⟨.fn Q,n'⟩/\n<=n'/\∀b,b<n->Q b=g b:=by
 have h5:=@Au prog _ _ _ _ _ hT.choose_spec.1;have c0:=hT.choose_spec.1.one;have h6:allOne [.li I,.li O,sv]=true:=by simp[c0]
 have b0:=Xr λ(Q:Gb)(n2:Nat)(hn:n<=n2)(hX:∀b,b<n->Q b=g b)=>b3t I O ts hL.small Q n2 sv (hT.mono hn hX);rw[hL.err] at b0;have HT:=Xr hT;have HL:=Xr hL;have c1:=Xr a9;have h7:=hL.len;clear hT hL a9;obtain⟨D,hD⟩:∃D,D=Dv ts ts 0:=⟨_,rfl⟩;rw[<- hD];have HD:=Xr hD;clear hD;refine ent [] func103 ?_;simp (disch:=first|omega|simp) [*];refine Xs (b0.out _ _ (by omega) λb (h:b<n)=>by simp (disch:=omega) only[Ad]) ?_;rintro _ rfl;simp (disch:=first|omega|simp) [*];refine Xv (λm f H'=>∃(k n' : Nat)(gL:Gb),k<=ts.length/\m=ts.length-k/\H'=⟨.fn gL,n'⟩/\n+1+1<=n'/\Aa (∀b,b<n->gL b=g b)/\gL n=some (.cells [.li I,.li O,sv] true 0)/\gL (n+1)=some (.cells [.li 0,.li 0,.li 0] true 0) /\
  Aa (D=Dv ts (ts.drop k) k)/\f 1=some (.ptr n 0)/\f 2=some (.ptr (n+1) 0)/\f 18=some sv/\f 19=some (.li ts.length)/\f 20=some (.li k)) (m0:=ts.length) ?_ ?_
 .refine⟨0,_,_,W3 _,rfl,rfl,Wy _,⟨λb h=>?_⟩,?_,Ah,⟨HD.out⟩,by simp[*]⟩
  .simp (disch:=omega) only[Ad]
  .simp (disch:=omega) only[Ad,Ah]
 rintro m f H' ⟨k,n',gL,hk,rfl,rfl,h8,HG,c2,c6,HP,w1,w2,b1,b2,b3⟩ ih;refine rnd [] ?_;by_cases a4:k<ts.length
 .have c7:(k:Int)<(ts.length:Int):=by omega
  obtain⟨a2,off,r1,r2,b4⟩:=(HT.out.mono (show n<=n' by omega) HG.out).at a4;have U:=Xr b4;clear b4;have h9:∀{H:Mem}{ev:Ev}{o:Oper}{ty:TypeId},iaS prog H ev o ty (some (none,2)) (some sv) (some (.li (k:Int)))=.val (.ptr a2 (off+k*2)) H:=λ{H ev o ty}=>U.out.ia;have i0:a2<n':=U.out.an;have i1:=U.out.agg;have c8:oneC r1=true:=U.out.r1.one;have c9:oneC r2=true:=U.out.r2.one;have i2:allOne [r1,r2]=true:=by simp[c8,c9]
  obtain⟨b5,i3,a6⟩:=HT.out.cut c1.out (Xp a4) (by omega);have e0:=@Au prog _ _ _ _ _ a6.choose_spec.1;rw[Xa,e6i hk] at e0;have e1:=Xr (a6.mono (show n<=n' by omega) HG.out);have a7:=Xr (HP.out.trans (d9y a4));have e5:=Xr (HL.out.lens (W2 a4));have e6:=Xr (HL.out.wl _ (W2 a4));have e7:=Xr U.out.r1;have e8:=Xr U.out.r2;clear U a6;generalize ts[k]=t at *;simp (disch:=first|omega|simp) [*];refine Xv (λm f H'=>∃(j n2:Nat)(g2:Gb),j<=k/\m=k-j/\H'=⟨.fn g2,n2⟩/\n'+1<=n2/\Aa (∀b,b<n'->g2 b=gL b)/\g2 n'=some (.cells [r1,r2] true 0)/\Aa (Fk t (ts.take k) 0=Fk t ((ts.take k).drop j) j) /\
   f 1=some (.ptr n 0)/\f 2=some (.ptr (n+1) 0)/\f 18=some sv/\f 19=some (.li ts.length)/\f 20=some (.li k)/\f 6=some (.li k)/\f 7=some (.ptr n' 0)/\f 28=some b5/\f 29=some (.li k)/\f 30=some (.li j)) (m0:=k) ?_ ?_
  .refine⟨0,_,_,W3 _,rfl,rfl,Wy _,⟨λb h=>?_⟩,Ah,⟨rfl⟩,by simp[*]⟩;exact Ad h
  clear w1 w2 b1 b2 b3;rintro m f H' ⟨j,n2,g2,hj,rfl,rfl,i4,Z,e9,b6,w1,w2,b1,b2,b3,w6,w7,i5,i6,i7⟩ g0;have g1:=(Z.out n (by omega)).trans c2;have g3:=(Z.out (n+1) (by omega)).trans c6;refine rnd [] ?_;by_cases i8:j<k
  .have g4:(j:Int)<(k:Int):=by omega
   have a8:j<(ts.take k).length:=by rw[Xa];omega
   obtain⟨a3,o3,s1,s2,b7⟩:=(e1.out.mono (show n'<=n2 by omega) Z.out).at a8;have a0:=Xr b7;clear b7;have i9:∀{H:Mem}{ev:Ev}{o:Oper}{ty:TypeId},iaS prog H ev o ty (some (none,2)) (some b5) (some (.li (j:Int)))=.val (.ptr a3 (o3+j*2)) H:=λ{H ev o ty}=>a0.out.ia;have j0:a3<n2:=a0.out.an;have j1:=a0.out.agg;have g5:oneC s1=true:=a0.out.r1.one;have g6:oneC s2=true:=a0.out.r2.one;have j2:allOne [s1,s2]=true:=by simp[g5,g6]
   have b8:Aa ((ts.take k)[j]∈ts):=⟨e6p (W2 a8)⟩;have g7:=Xr (HL.out.lens b8.out);have g8:=Xr (HL.out.wl _ b8.out);have a1:=Xr (b6.out.trans (d9z a8));have g9:=Xr a0.out.r1;have h0:=Xr a0.out.r2;clear a0;generalize (ts.take k)[j]=u at *;have h1:=Xr λ(Q:Gb)(n3:Nat)(hn:n2<=n3)(hX:∀b,b<n2->Q b=g2 b)=>d9x (I:=I) (O:=O) g7.out.1 e5.out.1 g8.out e6.out Q n3 s1 s2 r1 r2 (Xw hn hX g9.out) (Xw hn hX h0.out) (Xw (by omega) (λb h=>(hX b (by omega)).trans (Z.out b h)) e7.out) (Xw (by omega) (λb h=>(hX b (by omega)).trans (Z.out b h)) e8.out);have a5:Aa (Vi u t=optI (stepL u.1 u.2 t.1 t.2 0)):=⟨rfl⟩;generalize Vi u t=z at *;simp (disch:=first|omega|simp) [*];refine Xs (h1.out _ _ (by omega) λb h=>by simp (disch:=omega) only[Ad]) ?_;rintro _ rfl
   cases hq:stepL u.1 u.2 t.1 t.2 0 with
   | none =>
    have hz:z = -1:=by rw[a5.out,hq];rfl
    rw[hq] at a1;have h2:Aa (Fk t (ts.take k) 0=Fk t ((ts.take k).drop (j+1)) (j+1)):=⟨a1.out⟩;clear a1 hq a5;subst hz;simp (disch:=first|omega|simp) [*];refine g0.out (k-(j+1)) _ _ (by omega) ⟨j+1,_,_,by omega,rfl,rfl,?_,⟨λb h=>?_⟩,?_,h2,by simp[*]⟩
    .omega
    .simp (disch:=omega) only[Ad];exact Z.out b h
    .simp (disch:=omega) only[Ad];exact e9
   | some v =>
    have hz:z=v:=by rw[a5.out,hq];rfl
    rw[hq] at a1;have A:=a7.out;rw[a1.out] at A;have h3:D=some (j,k,v):=A;clear a1 hq a5 A a7 HD HP;subst hz h3;simp (disch:=first|omega|simp) [*];refine⟨_,_,⟨rfl,rfl,rfl⟩,by omega,λb h=>?_⟩;simp (disch:=omega) only[Ad];exact(Z.out b (by omega)).trans (HG.out b h)
  .have g4:¬(j:Int)<(k:Int):=by omega
   have b9:=b6.out.trans (by rw[e6f (by rw[Xa];omega)];rfl:_=none);have A:=a7.out;rw[b9] at A;have h4:Aa (D=Dv ts (ts.drop (k+1)) (k+1)):=⟨A⟩;clear A b9;simp (disch:=first|omega|simp) [*];refine ih.out (ts.length-(k+1)) _ _ (by omega) ⟨k+1,n2,g2,by omega,rfl,rfl,by omega,⟨λb h=>(Z.out b (by omega)).trans (HG.out b h)⟩,g1,g3,h4,by simp[*]⟩
 .have c7:¬(k:Int)<(ts.length:Int):=by omega
  have A:D=none:=by rw[HP.out,e6f (by omega)];rfl
  clear HP HD;subst A;simp (disch:=first|omega|simp) [*];refine⟨_,_,⟨rfl,rfl,rfl⟩,by omega,λb h=>?_⟩;simp (disch:=omega) only[Ad];exact HG.out b h
theorem sl57:Jr prog 65=true:=by kernel_rfl
theorem equal57nil:Ap prog (Op.equal 65 (.slice none 0 0) (.slice none 0 0))=some true:=by kernel_rfl
theorem e0a{ev:Ev}{d:Option Tmp}{ty f:TypeId}{p:String}{af:Array Edge}{g:Option (Nat×Bool)}{x:Operand}(hx:ev x=some (.nl))(hy:ev (.const (.slice none 0 0))=some (.nl)):
  Fx prog H ev ⟨d,.binOp .eql 65 x (.const (.slice none 0 0)) f,ty,p,af,g⟩ .eql 65 (some (.nl)) (some (.nl))=.val (.lit (.bool true)) H:=by
 show Bc prog H ev ⟨d,.binOp .eql 65 x (.const (.slice none 0 0)) f,ty,p,af,g⟩ .eql 65 (some (.nl)) (some (.nl))=_;refine Ni rfl ?_;have D:(Op.operands (.binOp .eql 65 x (.const (.slice none 0 0)) f)).toList=[x,.const (.slice none 0 0)]:=rfl;unfold A3;dsimp only;rw[D];have A:toLit (.nl)=some (.slice none 0 0):=rfl;simp only[e8a,List.all_nil,hx,hy,A,e7s,if_true];have Q:∀h:Operand->Value,h x=.slice none 0 0->h (.const (.slice none 0 0))=.slice none 0 0->Ap prog (execOp h ⟨d,.binOp .eql 65 x (.const (.slice none 0 0)) f,ty,p,af,g⟩)=some (.value (.bool true)):=by
  intro h U e2;refine Nj U e2 ?_ ?_
  .unfold eqGuard;kernel_rfl
  .show Ap prog (do pure (Value.bool (<- Op.equal 65 _ _)))=_;exact(Bi equal57nil).trans rfl
 rw[Q _ (by simp only[hx,A]) (by simp only[hy,A])]
attribute [simp] sl57 e0a
def N2(g:Gb)(lo n:Nat)(w:Wd)(sv:AV):Prop:=
 (w=[]/\(sv=.nl\/∃m,lo<=m/\m<n/\sv=.sl m 0 0 0/\g m=some (.cells [] true 0)))\/(0<w.length/\∃m,lo<=m/\m<n/\sv=.slq m 0 w.length 0/\g m=some (.cells (wdC w) true 1))
theorem Pm(w:Wd)(a3:w.length<=1000000)(g:Gb)(n:Nat)(sv:AV)(f:Al g n w sv):
  WC 0 prog 94 [sv] ⟨.fn g,n⟩ λr=>∃D g' n',r=.ret D ⟨.fn g',n'⟩/\n<=n'/\(∀b,b<n->g' b=g b)/\N2 g' n n' w D:=by
 have U:(w=[]/\sv=.nl)\/((∃a o k c,sv=.sl a o k c)\/(∃a o k c,sv=.slq a o k c)\/sv=.es):=by
  rcases f with⟨Z,_,rfl|rfl⟩|⟨a,off,_,⟨c,rfl⟩|⟨c,rfl⟩,_⟩
  .exact .inl ⟨e6x.1 Z,rfl⟩
  .exact .inr (.inr (.inr rfl))
  .exact .inr (.inl ⟨_,_,_,_,rfl⟩)
  .exact .inr (.inr (.inl ⟨_,_,_,_,rfl⟩))
 rcases U with⟨h,rfl⟩|Q
 .subst h;clear f;refine ent [] func94 ?_;simp (disch:=first|omega|simp) [*];refine⟨_,_,_,⟨rfl,rfl,rfl⟩,Wy _,λb A=>rfl,.inl ⟨rfl,.inl rfl⟩⟩
 .by_cases hl:w.length=0
  .have h:w=[]:=e6x.1 hl;subst h;have a0:=λ{H:Mem}{ev:Ev}{d:Option Tmp}{ty:TypeId}{p:String} {af:Array Edge} {gd:Option (Nat×Bool)} {x y:Operand} {s t:TypeId} {a off:Nat} {hx:ev x=some (.sl a off 0 0)} {hy:ev y=some sv} (hp:(apI prog s t).isSome=true)=>Af.ap00 (P:=prog) f (H:=H) (ev:=ev) (d:=d) (ty:=ty) (p:=p) (af:=af) (gd:=gd) (x:=x) (y:=y) (a:=a) (off:=off) (hx:=hx) (hy:=hy) hp;clear f;rcases Q with⟨a,o,k,c,rfl⟩|⟨a,o,k,c,rfl⟩|rfl
   all_goals
    refine ent [] func94 ?_;simp (disch:=first|omega|simp) [*];refine⟨_,_,_,⟨rfl,rfl,rfl⟩,by omega,λb A=>?_,.inl ⟨rfl,.inr ⟨n,Wy _,by omega,rfl,Ah⟩⟩⟩;exact Ad A
  .obtain⟨a2,blk,a4,a5,a0⟩:=Yr (P:=prog) (sz:=1) f (by omega) (by omega) (by rw[Cb];omega);clear f;have a1:0<w.length:=by omega
   rcases Q with⟨a,o,k,c,rfl⟩|⟨a,o,k,c,rfl⟩|rfl
   all_goals
    refine ent [] func94 ?_;simp (disch:=first|omega|simp) [*];refine⟨_,_,_,⟨rfl,rfl,rfl⟩,by omega,λb A=>?_,.inr ⟨a1,n+1,by omega,by omega,rfl,Ah⟩⟩;simp (disch:=omega) only[Ad]
theorem e0b{a b:Int}(A:0<=a)(D:a<=b)(Q:b<=1048576):Fy prog H 65 (mkI prog 65) (some (.li a)) (some (.li b))=.val (.sl H.next 0 a.toNat b.toNat) (H.add (.cells (rep [.li 0] b.toNat) true 0)):=by
 have hx:Ec prog H 65 (some (.li a)) (some (.li b))=_:=Pa (e:=3) (size:=1) (bytes:=8) (z:=[.li 0]) (by kernel_rfl) (by decide) (by decide) (by kernel_rfl) A D Q;unfold Fy;split
 .rename_i v a' b' f U e2;cases U;cases e2;split
  .rename_i h;obtain⟨rfl,h3,h4⟩:=h;have Z:mkI prog 65=some (.li 0):=by kernel_rfl
   rw[Z] at f;cases f;rw[Rk]
  .exact hx
 .exact hx
theorem e0c{a b:Int}(f:0<=a)(h:a<=b)(A:b<=1048576):Fy prog H 52 none (some (.li a)) (some (.li b))=.val (.sl H.next 0 a.toNat b.toNat) (H.add (.cells (rep [.nl,.nl] b.toNat) true 0)):=
 Pa (e:=84) (size:=2) (bytes:=48) (z:=[.nl,.nl]) (by kernel_rfl) (by decide) (by decide) (by kernel_rfl) f h A
theorem e0d{a b:Int}(f:0<=a)(A:a<=b)(D:b<=1048576):Fy prog H 65 (some (.li 0)) (some (.li a)) (some (.li b))=.val (.sl H.next 0 a.toNat b.toNat) (H.add (.cells (rep [.li 0] b.toNat) true 0)):=by
 have h:=e0b (H:=H) f A D
 rwa [mkI57] at h
theorem mkI22:mkI prog 52=none:=by kernel_rfl
attribute [simp] e0c mkI22 e0d
def Cd(g:Gb)(n:Nat)(l:Wq)(lv:AV):Prop:=∃svs,Af g n lv l.length svs/\RowsW g n l svs
theorem Cd.mono{g:Gb}{n:Nat}(h:Cd g n l lv)(f:n<=n')(A:∀a,a<n->g' a=g a):Cd g' n' l lv:=
 let ⟨D,Q,U⟩:=h;⟨D,Q.mono f A,U.ext f λa x Z hx=>(A a Z).trans hx⟩
theorem Cd.at{g:Gb}{n:Nat}(h:Cd g n l lv){k:Nat}(f:k<l.length):∃a off q,a<n/\(∀{H:Mem}{ev:Ev}{o:Oper}{t:TypeId},iaS prog H ev o t (some (none,1)) (some lv) (some (.li (k:Int)))=.val (.ptr a (off+k)) H)/\Bf (some (false,1)) (g a) (off+k)=some q/\Al g n l[k] q:=by
 obtain⟨Z,A,h2,D⟩:=h;obtain⟨q,e1,e2⟩:=D k f;obtain⟨a,off,ha,Q,U⟩:=A.ia (P:=prog) f 1;simp only[Xk] at U;have hc:=Q.one (k:=k) (s:=1) (by omega);grind
theorem el93:(Bp prog 22).map (·.1)=some none:=by kernel_rfl
theorem Cd.cut{g:Gb}{n:Nat}(h:Cd g n l lv)(Q:Av lv):
  ∃f,(∀{H:Mem}{ev:Ev}{d:Option Tmp}{ty:TypeId}{p:String} {af:Array Edge} {gd:Option (Nat×Bool)} {x hi:Operand} {hx:ev x=some lv} {hh:ev hi=some (.li (l.length:Int))},
   ex2 prog H ev ⟨d,.slice 22 x none (some hi) none,ty,p,af,gd⟩ x hi (some lv) (some (.li (l.length:Int))) hx hh=.val f H)/\Cd g n l f:=by
 obtain⟨U,Z,A⟩:=h;obtain⟨f,h3,D,_⟩:=Af.cutP (P:=prog) Z Q el93 (k:=l.length) (sz:=1) (Wy _);refine⟨f,h3,U,?_,A⟩;rw[Xk,<- A.1,Xl] at D;rw[A.1] at D;grind
theorem Al.safe{g:Gb}{n B:Nat}{w:Wd}{sv:AV}(h:Al g n w sv)(f:n<=n')(D:n<=B)(Q:∀a,a<n->g' a=g a):A8 g' 0 n' B w sv:=
 ⟨λa=>if a<n then g a else none,⟨λa z U=>(by
  grind),Xx f (λa x A hx=>(if_pos A).trans hx) h⟩⟩
theorem A8.nil{g:Gb}{lo n B:Nat}:A8 g lo n B [] (.nl):=⟨λ_=>none,λa z h=>(by cases h),.inl ⟨rfl,rfl,.inl rfl⟩⟩
structure a4r (g:Gb) (n B c k:Nat) (ts:Lq) (R:List AV):Prop where
 blk:g B=some (.cells R true 0)
 len:R.length=c*2
 kl:k<=c
 rows:RowsF g 0 n B ts (R.take (k*2))
 tl:ts.length=k
theorem a4r.log{g:Gb}{n B len:Nat}{ts:Lq}{R:List AV}(h:a4r g n B len len ts R)(A:B<n):Du g n ts (.sl B 0 len len):=by
 have f:=h.rows;rw[<- h.len,Xl] at f;exact⟨R,.inr ⟨B,0,A,.inl ⟨len,by rw[h.tl]⟩,R,true,0,h.blk,by simp[*]⟩,f.rows⟩
def Gv(M:Az)(l:Wq)(k:Nat):Lq:=(l.take k).map (λw=>(w,Bl M 0 w))++(l.drop k).map (λw=>(w,[]))
theorem a4s:Gv M l 0=l.map λw=>(w,[]):=by rfl
theorem a4t{k:Nat}:(Gv M l k).length=l.length:=by grind[Gv]
theorem e0e{k:Nat}(h:l.length<=k):Gv M l k=l.map λw=>(w,Bl M 0 w):=by grind[Gv,List.take_of_length_le]
theorem e0f{k:Nat}(h:k<l.length):(Gv M l k)[k]'(by grind[a4t])=(l[k],[]):=by
 grind[Gv]
theorem e0g{k:Nat}(h:k<l.length):Gv M l (k+1)=(Gv M l k).set k (l[k],Bl M 0 l[k]):=by
 unfold Gv;rw[Df h,e6z,e8e _ _ (by grind)];have e:l.drop k=l[k]::l.drop (k+1):=Xh h;rw[e,e6c,Xa,e6i (Xp h),e6n,e5z];rfl
theorem RowsF.upd{g:Gb}{lo n B:Nat}{ts:Lq}{f:List AV}(h:RowsF g lo n B ts cs){i:Nat}{t:List Int×Wd}{s1 s2:AV}(D:f.length=cs.length)(Q:f[i*2]?=some s1)(U:f[i*2+1]?=some s2)(Z:∀j,j≠i*2->j≠i*2+1->f[j]?=cs[j]?)(w1:A8 g lo n B t.1 s1)(w2:A8 g lo n B t.2 s2):RowsF g lo n B (ts.set i t) f:=by
 refine⟨by rw[D,Xe];exact h.1,λk A=>?_⟩;rw[Xe] at A;by_cases a0:i=k
 .grind
 .obtain⟨r1,r2,e1,e2,e3,e4⟩:=h.2 k A;grind
theorem A8.sl{g:Gb}{lo n B m len c:Nat}{w:Wd}{own:Bool}{z:Nat}(h:g m=some (.cells (wdC w) own z))(f:len=w.length)(D:lo<=m)(A:m<n)(Q:m≠B):A8 g lo n B w (.sl m 0 len c):=by
 subst f;exact⟨λa=>if a=m then g a else none,⟨λa z U=>(by
  grind),.inr ⟨m,0,A,.inl ⟨c,rfl⟩,wdC w,own,z,(if_pos rfl).trans h,by simp[*]⟩⟩⟩
theorem N2.keep{g:Gb}{lo n:Nat}{w:Wd}{sv:AV}(h:N2 g lo n w sv)(Q:∀a,lo<=a->a<n->g' a=g a):N2 g' lo n w sv:=by
 rcases h with⟨rfl,rfl|⟨m,f,A,rfl,D⟩⟩|⟨U,m,f,A,rfl,D⟩
 .exact .inl ⟨rfl,.inl rfl⟩
 .exact .inl ⟨rfl,.inr ⟨m,f,A,rfl,(Q m f A).trans D⟩⟩
 .exact .inr ⟨U,m,f,A,rfl,(Q m f A).trans D⟩
theorem N2.one{g:Gb}{lo n:Nat}{w:Wd}{sv:AV}(h:N2 g lo n w sv):oneC sv=true/\cellsOf sv=[sv]:=by
 rcases h with⟨rfl,rfl|⟨m,f,A,rfl,D⟩⟩|⟨Q,m,f,A,rfl,D⟩<;>exact⟨rfl,rfl⟩
theorem RowsF.extG{g:Gb}{lo n B:Nat}{ts:Lq}(h:RowsF g lo n B ts cs)(A:∀a x,g a=some x->g' a=some x):RowsF g' lo n B ts cs:=
 have key:∀{w:Wd}{sv:AV},A8 g lo n B w sv->A8 g' lo n B w sv:=λ⟨D,Q,U⟩=>⟨D,λa z Z=>let ⟨f,e2⟩:=Q a z Z;⟨A a z f,e2⟩,U⟩
 ⟨h.1,λk hk=>let ⟨s1,s2,f,e2,e3,e4⟩:=h.2 k hk;⟨s1,s2,f,e2,key e3,key e4⟩⟩
def Ky(I:Int)(l:Wq):Int:=if l.all (λw=>decide (w.length<=256))=true then (if l.all (λw=>inW w I)=true then 0 else 1) else 3
def valT:Lq->Wd->Option Int
 | [],_=>none
 | t::ts,w=>if w≠[]/\w.length<=t.1.length/\t.1.take w.length=w then some (t.2.getD (w.length-1) 0) else valT ts w
def A0(V:Wd->Option Int)(ws:Wq)(w:Wd)(i:Nat):Int×Int:=match V (w++[(i:Int)]) with
 | none=>(-1,-1)
 | some o=>if o = -1 then (-1,-2) else (((ws.idxOf (w++[(i:Int)]):Nat):Int),o)
def Bb(V:Wd->Option Int)(ws:Wq)(I:Nat)(w:Wd):List (Int×Int):=(List.range I).map (A0 V ws w)
def Bg(V:Wd->Option Int)(ws:Wq)(I:Nat):Tq:=ws.map (Bb V ws I)
structure Nod (V:Wd->Option Int) (ws:Wq):Prop where
 nd:ws.Nodup
 mem:∀w,w∈ws↔w=[]\/∃o,V w=some o/\o ≠ -1
 clo:∀x j o,V (x++[j])=some o->x=[]\/∃o',V x=some o'/\(o ≠ -1->o' ≠ -1)
theorem Si{V:Wd->Option Int}{ws:Wq}{I:Nat}{w:Wd}:(Bb V ws I w).length=I:=by simp[Bb]
theorem Pn{V:Wd->Option Int}{ws:Wq}{I:Nat}{w:Wd}{i:Nat}(h:i<I):(Bb V ws I w)[i]?=some (A0 V ws w i):=by
 grind[Bb]
theorem G7{V:Wd->Option Int}{ws:Wq}{I:Nat}:(Bg V ws I).length=ws.length:=by simp[Bg]
theorem Vj{V:Wd->Option Int}{ws:Wq}{I k:Nat}(h:k<ws.length):(Bg V ws I).getD k []=Bb V ws I ws[k]:=by
 grind[Bg]
theorem Mk{ws:Wq}{w:Wd}(h:w∈ws):∃f:ws.idxOf w<ws.length,ws[ws.idxOf w]=w:=by
 grind
theorem b4e{ws us:Wq}{w:Wd}(h:w∈ws):(ws++us).idxOf w=ws.idxOf w:=by
 grind
theorem e0h{ws:Wq}{w:Wd}(h:w ∉ ws):(ws++[w]).idxOf w=ws.length:=by
 grind
def B3(V:Wd->Option Int)(x:Wd)(o:Int):Wd->Option Int:=λy=>if y=x then some ((V x).getD o) else V y
theorem Sj{V:Wd->Option Int}{x:Wd}{o f:Int}(h:V x=some f):B3 V x o=V:=by
 grind[B3]
theorem Sk{V:Wd->Option Int}{x:Wd}{o:Int}(h:V x=none):B3 V x o x=some o:=by unfold B3;grind
theorem F5{V:Wd->Option Int}{x y:Wd}{o:Int}(h:y≠x):B3 V x o y=V y:=if_neg h
theorem b4f{V:Wd->Option Int}{ws us:Wq}{x w:Wd}{o:Int}{i:Nat}(hN:Nod V ws)(f:w++[(i:Int)]≠x):A0 (B3 V x o) (ws++us) w i=A0 V ws w i:=by
 unfold A0;rw[F5 f]
 cases h:V (w++[(i:Int)]) with
 | none=>rfl
 | some A =>
  dsimp only;split
  .rfl
  .rename_i D;rw[b4e ((hN.mem _).2 (.inr ⟨A,h,D⟩))]
theorem Jx{i j:Int}(h:a++[i]=b++[j]):a=b/\i=j:=by
 simp_all
theorem e0i{V:Wd->Option Int}{ws us:Wq}{I:Nat}{w:Wd}{i:Int}{o:Int}(hN:Nod V ws)(f:w≠p):Bb (B3 V (p++[i]) o) (ws++us) I w=Bb V ws I w:=by
 grind[Bb,List.map_congr_left,Jx,b4f]
theorem e0j{V:Wd->Option Int}{ws us:Wq}{I:Nat}{i:Nat}{o:Int}(hN:Nod V ws)(hi:i<I):Bb (B3 V (p++[(i:Int)]) o) (ws++us) I p=(Bb V ws I p).set i (A0 (B3 V (p++[(i:Int)]) o) (ws++us) p i):=by
 apply e8d;intro j;by_cases h:i=j
 .grind[Pn,Si]
 .rw[e6k h];by_cases f:j<I
  .rw[Pn f,Pn f,b4f hN];grind[Jx]
  grind[Si]
theorem b4g{V:Wd->Option Int}{ws:Wq}{I:Nat}{i:Nat}{o:Int}(us:Wq)(hN:Nod V ws)(D:p∈ws)(hi:i<I):
  ws.map (Bb (B3 V (p++[(i:Int)]) o) (ws++us) I)=(Bg V ws I).set (ws.idxOf p) (((Bg V ws I).getD (ws.idxOf p) []).set i (A0 (B3 V (p++[(i:Int)]) o) (ws++us) p i)):=by
 obtain⟨A,Q⟩:=Mk D;apply e8d;intro k;by_cases f:ws.idxOf p=k
 .subst f;rw[e7g (by grind[G7]),e6j,W5 A,Vj A,Q];simp_all[e0j]
 .rw[e6k f];by_cases U:k<ws.length
  .unfold Bg;rw[e6j,e6j,W5 U];refine congrArg some (e0i hN λh=>f ?_);have:ws[ws.idxOf p]=ws[k]:=by grind
   exact(List.getElem_inj hN.nd).1 this
  grind[G7]
theorem Nod.none_of{V:Wd->Option Int}{ws:Wq}(hN:Nod V ws){x:Wd}(hx:x≠[])(h:V x=none)(j:Int):V (x++[j])=none:=by
 cases f:V (x++[j]) with
 | none=>rfl
 | some o =>
  rcases hN.clo x j o f with A|⟨D,A,_⟩
  all_goals grind
theorem Nod.up{V:Wd->Option Int}{ws:Wq}(hN:Nod V ws){x:Wd}{j:Int}(h:x++[j]∈ws):x∈ws:=by
 rcases (hN.mem _).1 h with A|⟨o,A,D⟩
 .simp_all
 .rcases hN.clo x j o A with f|⟨Q,f,U⟩
  .exact(hN.mem x).2 (.inl f)
  .exact(hN.mem x).2 (.inr ⟨Q,f,U D⟩)
theorem Nod.pre{V:Wd->Option Int}{ws:Wq}(hN:Nod V ws){x:Wd}:∀(n:Nat)(u:Wd),u.length=n->x++u∈ws->x∈ws
 | 0,u,f,h=>by
  grind
 | n+1,u,f,h=>by
  have A:u≠[]:=λe=>by grind
  have e:=e8b A;rw[<- e,<- e5z] at h;exact hN.pre n u.dropLast (by grind) (hN.up h)
theorem Nod.updDead{V:Wd->Option Int}{ws:Wq}(hN:Nod V ws){p:Wd}{i:Int}(U:p∈ws)(h:V (p++[i])=none):Nod (B3 V (p++[i]) (-1)) ws:=by
 refine⟨hN.nd,λw=>?_,λy j o hy=>?_⟩
 .by_cases D:w=p++[i]
  .subst D;rw[Sk h];constructor
   .intro f;rcases (hN.mem _).1 f with A|⟨o,A,_⟩
    all_goals grind
   simp
  .rw[F5 D];exact hN.mem w
 .by_cases Q:y++[j]=p++[i]
  .obtain⟨rfl,rfl⟩:=Jx Q;rcases (hN.mem _).1 U with f|⟨Z,f,A⟩
   all_goals simp_all[F5]
  .rw[F5 Q] at hy;rcases hN.clo y j o hy with f|⟨Z,f,A⟩
   all_goals grind[F5]
theorem Nod.updNew{V:Wd->Option Int}{ws:Wq}(hN:Nod V ws){p:Wd}{i o:Int}(Z:p∈ws)(h:V (p++[i])=none)(ho:o ≠ -1):Nod (B3 V (p++[i]) o) (ws++[p++[i]]):=by
 have hx:p++[i] ∉ ws:=λf=>by
  rcases (hN.mem _).1 f with A|⟨o,A,_⟩
  all_goals simp_all
 refine⟨?_,λw=>?_,λy j D hy=>?_⟩
 .rw[List.nodup_append];refine⟨hN.nd,by simp,λa ha b hb e=>?_⟩;grind
 .rw[W9,Xf];by_cases Q:w=p++[i]
  .subst Q;rw[Sk h];grind
  .rw[F5 Q];constructor
   .rintro (f|f)
    .exact(hN.mem w).1 f
    grind
   .intro f;exact .inl ((hN.mem w).2 f)
 .by_cases U:y++[j]=p++[i]
  .obtain⟨rfl,rfl⟩:=Jx U;rcases (hN.mem _).1 Z with f|⟨D,f,A⟩
   all_goals simp_all[F5]
  .rw[F5 U] at hy;rcases hN.clo y j D hy with f|⟨a0,f,A⟩
   all_goals grind[F5]
def addV:(Wd->Option Int)->Wd->Wd->Wd->Wd->Option Int
 | V,p,i::w,o::r=>addV (B3 V (p++[i]) o) (p++[i]) w r
 | V,_,_,_=>V
theorem addV_keep:∀(w r:Wd)(V:Wd->Option Int)(p y:Wd)(o:Int),V y=some o->addV V p w r y=some o
 | [],_,_,_,_,_,h=>h
 | _::_,[],_,_,_,_,h=>h
 | i::w,f::r,V,p,y,o,h=>by
  refine addV_keep w r _ _ y o ?_;by_cases hy:y=p++[i]
  .rw[Sj (hy ▸ h)];exact h
  .rw[F5 hy];exact h
theorem b4h{i:Int}{w:Wd}{k:Nat}:p++(i::w).take (k+1)=(p++[i])++w.take k:=by
 grind
theorem addV_some:∀(w r:Wd)(V:Wd->Option Int)(p:Wd)(k:Nat),r.length=w.length->k<w.length->∃o,addV V p w r (p++w.take (k+1))=some o
 | [],_,_,_,_,_,h=>by cases h
 | _::_,[],_,_,_,h,_=>by cases h
 | i::w,o::r,V,p,0,_,_=>by
  simp[B3,addV,addV_keep]
 | i::w,o::r,V,p,k+1,A,D=>by
  show ∃f,addV (B3 V (p++[i]) o) (p++[i]) w r _=some f;rw[b4h];exact addV_some w r _ _ k (by grind) (by grind)
theorem addV_dead:∀(w r:Wd)(V:Wd->Option Int)(p y:Wd),r.length=w.length->(∀k,k<r.length->r.getD k 0 = -1)->addV V p w r y=V y\/(V y=none/\addV V p w r y=some (-1)/\∃k,k<w.length/\y=p++w.take (k+1))
 | [],_,_,_,_,_,_=>.inl rfl
 | _::_,[],_,_,_,h,_=>by cases h
 | i::w,o::r,V,p,y,Q,f=>by
  have A:o = -1:=f 0 (by simp);subst A;show addV (B3 V (p++[i]) (-1)) (p++[i]) w r y=V y\/(V y=none/\addV (B3 V (p++[i]) (-1)) (p++[i]) w r y=some (-1)/\_);rcases addV_dead w r (B3 V (p++[i]) (-1)) (p++[i]) y (by grind) (λk D=>f (k+1) (by grind)) with h|⟨U,Z,k,D,h3⟩
  .by_cases hy:y=p++[i]
   .cases hv:V y with
    | none =>
     refine .inr ⟨rfl,?_,0,by simp,by grind⟩;grind[Sk]
    | some o=>simp_all[Sj]
   grind[F5]
  .have hy:y≠p++[i]:=λe=>by
    simp_all
   (simp_all[F5];grind)
theorem a4u{O:Int}:∀(r:Wd)(k:Nat),okR O true r=true->k<r.length->r.getD k 0 = -1
 | [],_,_,f=>by grind
 | o::r,0,h,_=>(N1 h).2.2.1 rfl
 | o::r,k+1,h,f=>by
  obtain⟨_,_,D,A⟩:=N1 h;rw[D rfl] at A;exact a4u r k A (by simpa using f)
theorem e0k{V:Wd->Option Int}{ws:Wq}{I:Nat}(hN:Nod V ws){x w r:Wd}(hx:V x=some (-1))(a1:x≠[])(D:r.length=w.length)(U:∀k,k<r.length->r.getD k 0 = -1):Bg (addV V x w r) ws I=Bg V ws I/\Nod (addV V x w r) ws:=by
 have a0:x ∉ ws:=λh=>by
  rcases (hN.mem _).1 h with f|⟨o,f,A⟩
  all_goals grind
 have key:∀v∈ws,∀j:Int,addV V x w r (v++[j])=V (v++[j]):=λv Z j=>by
  rcases addV_dead w r V x (v++[j]) D U with h|⟨f,A,k,hk,h3⟩
  .exact h
  .exfalso;have Q:v=x++w.take k:=by
    grind[Df,Jx]
   rw[Q] at Z;exact a0 (hN.pre _ _ rfl Z)
 constructor
 .grind[Bg,List.map_congr_left,Bb,A0]
 .refine⟨hN.nd,λv=>?_,λy j o hy=>?_⟩
  .rw[hN.mem v];rcases addV_dead w r V x v D U with h|⟨f,A,_⟩
   all_goals grind
  .rcases addV_dead w r V x (y++[j]) D U with h|⟨f,A,k,hk,h3⟩
   .rw[h] at hy;rcases hN.clo y j o hy with f|⟨o',f,A⟩
    all_goals grind[addV_keep]
   .rw[A] at hy;cases hy;have Q:y=x++w.take k:=by
     grind[Df,Jx]
    cases k with
    | zero =>
     rw[List.take_zero,e5x] at Q;rw[Q];exact .inr ⟨-1,addV_keep _ _ _ _ _ _ hx,λh=>absurd rfl h⟩
    | succ k =>
     obtain⟨o',a2⟩:=addV_some w r V x k D (by omega);grind
def F6(I:Nat):Tq->Nat->Wd->Wd->Tq
 | rows,at',i::w,o::r =>
  if o = -1 then rows.set at' ((rows.getD at' []).set i.toNat (-1,-2))
  else if ((rows.getD at' []).getD i.toNat (-1,-1)).1 = -1 then F6 I (rows.set at' ((rows.getD at' []).set i.toNat ((rows.length:Int),o))++[List.replicate I (-1,-1)]) rows.length w r
  else F6 I rows ((rows.getD at' []).getD i.toNat (-1,-1)).1.toNat w r
 | rows,_,_,_=>rows
theorem a4v{O:Int}{I:Nat}:∀(w r:Wd)(V:Wd->Option Int)(ws:Wq)(p:Wd),Nod V ws->p∈ws->inW w I=true->okR O false r=true->r.length=w.length ->
  (∀k,k<w.length->∀f,V (p++w.take (k+1))=some f->f=r.getD k 0)->∃us,Nod (addV V p w r) (ws++us)/\F6 I (Bg V ws I) (ws.idxOf p) w r=Bg (addV V p w r) (ws++us) I
 | [],_,V,ws,p,hN,_,_,_,_,_=>⟨[],by rw[e5x];exact hN,by rw[e5x];rfl⟩
 | _::_,[],_,_,_,_,_,_,_,h,_=>by cases h
 | i::w,o::r,V,ws,p,hN,D,Q,hr,hl,hc=>by
  unfold inW at Q;rw[e8a,W0] at Q;have hi:=of_decide_eq_true Q.1;obtain⟨a,rfl⟩:∃a:Nat,i=a:=⟨i.toNat,by omega⟩;have ha:a<I:=by omega
  obtain⟨b1,b2,_,b3⟩:=N1 hr;have a0:r.length=w.length:=by grind
  obtain⟨b4,b5⟩:=Mk D;have a4:∀f,V (p++[(a:Int)])=some f->f=o:=λf h=>by
   have:=hc 0 (by simp) f (by grind);grind
  have a5:(Bg V ws I).getD (ws.idxOf p) []=Bb V ws I p:=by grind[Vj]
  have a8:(Bb V ws I p).getD a (-1,-1)=A0 V ws p a:=by grind[Pn]
  have a6:p++[(a:Int)]≠[]:=by simp
  have a1:∀k,k<w.length->∀f,B3 V (p++[(a:Int)]) o ((p++[(a:Int)])++w.take (k+1))=some f->f=r.getD k 0:=λk hk f h=>by
   rw[F5 (λe=>by have h4:=congrArg List.length e;grind)] at h;have:=hc (k+1) (by grind) f (by grind);grind
  show ∃us,Nod (addV (B3 V (p++[(a:Int)]) o) (p++[(a:Int)]) w r) (ws++us)/\(if o = -1 then (Bg V ws I).set (ws.idxOf p) (((Bg V ws I).getD (ws.idxOf p) []).set (a:Int).toNat (-1,-2))
   else if (((Bg V ws I).getD (ws.idxOf p) []).getD (a:Int).toNat (-1,-1)).1 = -1 then F6 I ((Bg V ws I).set (ws.idxOf p) (((Bg V ws I).getD (ws.idxOf p) []).set (a:Int).toNat (((Bg V ws I).length:Int),o))++[List.replicate I (-1,-1)]) (Bg V ws I).length w r
   else F6 I (Bg V ws I) (((Bg V ws I).getD (ws.idxOf p) []).getD (a:Int).toNat (-1,-1)).1.toNat w r)=Bg (addV (B3 V (p++[(a:Int)]) o) (p++[(a:Int)]) w r) (ws++us) I
  rw[e7b];by_cases Z:o = -1
  .subst Z;rw[if_pos rfl];have hd:∀k,k<r.length->r.getD k 0 = -1:=λk hk=>a4u r k (by assumption) hk;have a9:B3 V (p++[(a:Int)]) (-1) (p++[(a:Int)])=some (-1):=by
    cases h:V (p++[(a:Int)]) with
    | none=>exact Sk h
    | some f=>rw[Sj h,h,a4 f h]
   have a2:Nod (B3 V (p++[(a:Int)]) (-1)) ws:=by
    cases h:V (p++[(a:Int)]) with
    | none=>exact hN.updDead D h
    | some f=>grind[Sj]
   obtain⟨d1,d2⟩:=e0k (I:=I) a2 a9 a6 a0 hd;refine⟨[],by grind,?_⟩;rw[e5x,d1];have A:=b4g (I:=I) (o:=-1) [] hN D ha;rw[e5x] at A;have U:A0 (B3 V (p++[(a:Int)]) (-1)) ws p a=(-1,-2):=by grind[A0]
   rw[U] at A;exact A.symm
  .rw[if_neg Z,a5,a8];have a7:okR O false r=true:=by grind
   cases h:V (p++[(a:Int)]) with
   | none =>
    have he:A0 V ws p a=(-1,-1):=by grind[A0]
    rw[he,if_pos rfl];have a3:p++[(a:Int)] ∉ ws:=λA=>by
     rcases (hN.mem _).1 A with U|⟨f,U,_⟩
     all_goals grind
    have a2:=hN.updNew D h Z;have A:=b4g (I:=I) (o:=o) [p++[(a:Int)]] hN D ha;have U:A0 (B3 V (p++[(a:Int)]) o) (ws++[p++[(a:Int)]]) p a=((ws.length:Int),o):=by
     unfold A0;rw[Sk h];grind
    rw[U,a5] at A;have h3:Bb (B3 V (p++[(a:Int)]) o) (ws++[p++[(a:Int)]]) I (p++[(a:Int)])=List.replicate I (-1,-1):=by
     unfold Bb;rw[List.eq_replicate_iff];refine⟨by simp,λb hb=>?_⟩;obtain⟨j,_,rfl⟩:=Xc.1 hb;unfold A0;rw[F5 (by simp),hN.none_of a6 h]
    have h4:(Bg V ws I).set (ws.idxOf p) ((Bb V ws I p).set a (((Bg V ws I).length:Int),o))++[List.replicate I (-1,-1)]=Bg (B3 V (p++[(a:Int)]) o) (ws++[p++[(a:Int)]]) I:=by
     grind[Bg]
    rw[h4];have h5:(Bg V ws I).length=(ws++[p++[(a:Int)]]).idxOf (p++[(a:Int)]):=by rw[G7,e0h a3]
    rw[h5];obtain⟨us,e1,e2⟩:=a4v w r _ _ (p++[(a:Int)]) a2 (by simp) Q.2 a7 a0 a1;grind
   | some f =>
    have b0:=a4 f h;subst b0;have a3:p++[(a:Int)]∈ws:=(hN.mem _).2 (.inr ⟨f,h,Z⟩);have he:A0 V ws p a=(((ws.idxOf (p++[(a:Int)]):Nat):Int),f):=by unfold A0;grind
    rw[he,if_neg (by grind)];rw[Sj h] at a1 |-;obtain⟨us,e1,e2⟩:=a4v w r V ws (p++[(a:Int)]) hN a3 Q.2 a7 a0 a1;grind[Int.toNat_natCast]
theorem b4i(t:List Int×Wd)(w:Wd):∀(ts:Lq),valT (ts++[t]) w=match valT ts w with
  | some o=>some o
  | none=>if w≠[]/\w.length<=t.1.length/\t.1.take w.length=w then some (t.2.getD (w.length-1) 0) else none
 | []=>rfl
 | u::ts=>by
  (simp_all[valT,b4i];grind)
theorem addV_eq:∀(w r:Wd)(V:Wd->Option Int)(p y:Wd),r.length=w.length->addV V p w r y=match V y with
  | some o=>some o
  | none=>if p.length<y.length/\y.length<=p.length+w.length/\(p++w).take y.length=y then some (r.getD (y.length-p.length-1) 0) else none
 | [],_,V,p,y,_=>by
  show V y=_;grind
 | _::_,[],_,_,_,h=>by cases h
 | i::w,o::r,V,p,y,f=>by
  show addV (B3 V (p++[i]) o) (p++[i]) w r y=_;rw[addV_eq w r _ _ y (by grind)];have A:(p++[i]).length=p.length+1:=by simp
  by_cases hy:y=p++[i]
  ·(simp_all[B3];grind)
  .rw[F5 hy];grind
theorem e0l{ts:Lq}(f:t.2.length=t.1.length):addV (valT ts) [] t.1 t.2=valT (ts++[t]):=by
 funext y;rw[addV_eq _ _ _ _ _ f,b4i];grind
def Ej(ts:Lq):Prop:=∀u∈ts,∀t∈ts,∀k,k<u.1.length->k<t.1.length->u.1.take (k+1)=t.1.take (k+1)->u.2.getD k 0=t.2.getD k 0
theorem stepL_iff:∀(x a y b:Wd)(k:Nat),a.length=x.length->b.length=y.length->(stepL x a y b k=none↔∀j,j<x.length->j<y.length->x.take (j+1)=y.take (j+1)->a.getD j 0=b.getD j 0)
 | [],_,_,_,_,_,_=>⟨λ_ j h=>(by cases h),λ_=>rfl⟩
 | _::_,[],_,_,_,h,_=>by cases h
 | _::_,_::_,[],_,_,_,_=>⟨λ_ j _ h=>(by cases h),λ_=>rfl⟩
 | _::_,_::_,_::_,[],_,_,h=>by cases h
 | i::x,p::a,j::y,q::b,k,Q,U=>by
  have A:=stepL_iff x a y b (k+1) (by grind) (by grind);show ((if i=j then (if p=q then stepL x a y b (k+1) else some k) else none)=none↔_);by_cases h:i=j
  .subst h;rw[if_pos rfl];by_cases f:p=q
   .subst f;rw[if_pos rfl,A]
    (simp_all;grind)
   .rw[if_neg f];constructor
    .grind
    .intro D;exact absurd (D 0 (by simp) (by simp) (by simp)) f
  grind
theorem a4w(t:List Int×Wd):∀(us:Lq)(a:Nat),Fk t us a=none↔∀u∈us,stepL u.1 u.2 t.1 t.2 0=none
 | [],_=>⟨λ_ u f=>(by grind),λ_=>rfl⟩
 | u::us,a=>by
  have h:=a4w t us (a+1);have e:Fk t (u::us) a=match stepL u.1 u.2 t.1 t.2 0 with|some k=>some (a,k)|none=>Fk t us (a+1):=rfl
  grind
theorem b4j(ts:Lq):∀(us:Lq)(b:Nat),Dv ts us b=none↔∀(i:Nat)(h:i<us.length),∀u∈ts.take (b+i),stepL u.1 u.2 us[i].1 us[i].2 0=none
 | [],_=>⟨λ_ i hi=>(by grind),λ_=>rfl⟩
 | t::us,b=>by
  have D:=b4j ts us (b+1);have e:Dv ts (t::us) b=match Fk t (ts.take b) 0 with|some (a,k)=>some (a,b,k)|none=>Dv ts us (b+1):=rfl
  rw[e]
  cases h:Fk t (ts.take b) 0 with
  | some x =>
   constructor
   .grind
   .intro f;have Q:=(a4w t (ts.take b) 0).2 λu A=>f 0 (by simp) u A;grind
  | none =>
   (simp_all[a4w];grind)
theorem Sl{ts:Lq}(D:∀t∈ts,t.2.length=t.1.length):Dv ts ts 0=none↔Ej ts:=by
 rw[b4j];constructor
 .intro h;have key:∀(a b:Nat)(Q:a<ts.length)(f:b<ts.length),a<b->∀k,k<ts[a].1.length->k<ts[b].1.length->ts[a].1.take (k+1)=ts[b].1.take (k+1)->ts[a].2.getD k 0=ts[b].2.getD k 0:=λa b Q f a0=>by
   have Z:=h b f ts[a] (by
    (simp_all[e6a];grind))
   grind[stepL_iff]
  intro u A t ht k Z h2 h3;obtain⟨a,Q,rfl⟩:=e6a.1 A;obtain⟨b,f,rfl⟩:=e6a.1 ht;grind
 .intro h i hi u A;have U:=e6p A;exact(stepL_iff _ _ _ _ _ (D _ U) (D _ (W2 hi))).2 λj=>h u U _ (W2 hi) j
theorem Jy{w:Wd}{o:Int}:∀{ts:Lq},valT ts w=some o->∃u∈ts,w≠[]/\w.length<=u.1.length/\u.1.take w.length=w/\o=u.2.getD (w.length-1) 0
 | [],h=>by cases h
 | t::ts,h=>by
  by_cases f:w≠[]/\w.length<=t.1.length/\t.1.take w.length=w
  .have e:valT (t::ts) w=some (t.2.getD (w.length-1) 0):=if_pos f;grind
  .have e:valT (t::ts) w=valT ts w:=if_neg f;rw[e] at h;obtain⟨u,A,D⟩:=Jy h;exact⟨u,by simp[A],D⟩
theorem a4x{ts:Lq}(Z:Ej ts){t:List Int×Wd}(A:t∈ts){k:Nat}(hk:k<t.1.length):valT ts (t.1.take (k+1))=some (t.2.getD k 0):=by
 have a0:(t.1.take (k+1)).length=k+1:=by grind
 have a2:t.1.take (k+1)≠[]:=λe=>by grind
 have a1:∀us:Lq,t∈us->∃o,valT us (t.1.take (k+1))=some o:=by
  intro us
  induction us with
  | nil=>grind
  | cons u us ih =>
   intro h;by_cases D:t.1.take (k+1)≠[]/\(t.1.take (k+1)).length<=u.1.length/\u.1.take (t.1.take (k+1)).length=t.1.take (k+1)
   .exact⟨_,if_pos D⟩
   .rcases Xb.1 h with rfl|h
    .grind
    .obtain⟨o,f⟩:=ih h;exact⟨o,(if_neg D).trans f⟩
 obtain⟨o,f⟩:=a1 ts A;obtain⟨u,h1,_,h3,Q,U⟩:=Jy f;rw[a0] at h3 Q U;rw[f,U,Nat.add_sub_cancel];exact congrArg some (Z u h1 t A k (by omega) hk Q)
theorem Ej.sub{ts us:Lq}(h:Ej us)(f:∀t∈ts,t∈us):Ej ts:=λu A t D=>h u (f u A) t (f t D)
def Po(I:Nat)(ts:Lq):Tq:=ts.foldl (λrows t=>F6 I rows 0 t.1 t.2) [List.replicate I (-1,-1)]
theorem a4y{I:Nat}{O:Int}:∀(n:Nat)(ts:Lq),ts.length=n->Ej ts->(∀t∈ts,B0 I O t=true)->∃us,Nod (valT ts) ([]::us)/\Po I ts=Bg (valT ts) ([]::us) I
 | 0,ts,A,_,_=>by
  have e:=e6x.1 A;subst e;refine⟨[],⟨by simp,λw=>?_,λx j o h=>by cases h⟩,?_⟩
  .rw[Xf];constructor
   .grind
   .rintro (h|⟨o,h,_⟩)
    .exact h
    .cases h
  .show [List.replicate I (-1,-1)]=[Bb (valT []) [[]] I []];congr 1;unfold Bb;symm;rw[List.eq_replicate_iff];refine⟨by simp,λb hb=>?_⟩;obtain⟨j,_,rfl⟩:=Xc.1 hb;rfl
 | n+1,ts,A,D,Q=>by
  have U:ts≠[]:=λe=>by grind
  have e:=e8b U;generalize ts.getLast U=t at e;generalize ts.dropLast=us at e;subst e;have a0:us.length=n:=by grind
  obtain⟨vs,h1,h2⟩:=a4y n us a0 (D.sub λt ht=>by grind) λt ht=>Q t (by grind);have f:=Q t (by simp);unfold B0 at f;rw[W0,W0] at f;have a1:=of_decide_eq_true f.1.1;obtain⟨ks,h3,h4⟩:=a4v (O:=O) (I:=I) t.1 t.2 (valT us) ([]::vs) [] h1 (by simp) f.1.2 f.2 a1 λk hk o' Z=>by
   rw[List.nil_append] at Z;obtain⟨u,g1,_,g3,g4,g5⟩:=Jy Z;have a2:(t.1.take (k+1)).length=k+1:=by grind
   rw[a2] at g3 g4 g5;rw[g5,Nat.add_sub_cancel];exact D u (by grind) t (by simp) k (by omega) hk g4
  grind[e0l,Po]
def Bt(ws:Wq):Prop:=∀(a b:Nat)(ha:a<ws.length)(hb:b<ws.length),a<b->SL ws[a] ws[b]
theorem Bt.nodup{ws:Wq}(h:Bt ws):ws.Nodup:=
 List.pairwise_iff_getElem.2 λi j hi f A e=>by
  have D:=h i j hi f A;grind[SL.irrefl]
theorem Bt.snoc{ws:Wq}(h:Bt ws){x:Wd}(hx:∀w∈ws,SL w x):Bt (ws++[x]):=by
 intro a b A D Q;rw[W1,Xj] at A D;by_cases f:b<ws.length
 .rw[e6b (by omega),e6b f];exact h a b (by omega) f Q
 grind
def chL(V:Wd->Option Int)(w:Wd):List Nat->Wq
 | []=>[]
 | i::l=>match V (w++[(i:Int)]) with
  | none=>chL V w l
  | some o=>if o = -1 then chL V w l else (w++[(i:Int)])::chL V w l
theorem Sm{V:Wd->Option Int}{w x:Wd}:∀{l:List Nat},x∈chL V w l↔∃i∈l,x=w++[(i:Int)]/\∃o,V x=some o/\o ≠ -1
 | []=>by simp[chL]
 | i::l=>by
  have f:=@Sm V w x l;unfold chL;grind
def numE:Nat->List (Int×Int)->List (Int×Int)
 | _,[]=>[]
 | k,e::es=>if e.1 = -1 then e::numE k es else ((k:Int),e.2)::numE (k+1) es
def oldE:List (Int×Int)->Wd
 | []=>[]
 | e::es=>if e.1 = -1 then oldE es else e.1::oldE es
theorem b4k{V:Wd->Option Int}{ws:Wq}{w:Wd}:∀(l:List Nat),oldE (l.map (A0 V ws w))=(chL V w l).map λx=>((ws.idxOf x:Nat):Int)
 | []=>rfl
 | i::l=>by
  have A:=@b4k V ws w l;rw[e6o];unfold chL
  cases h:V (w++[(i:Int)]) with
  | none =>
   have f:A0 V ws w i=(-1,-1):=by grind[A0]
   rw[f];exact A
  | some o =>
   dsimp only;by_cases D:o = -1
   .have f:A0 V ws w i=(-1,-2):=by simp_all[A0]
    rw[if_pos D,f];exact A
   .have f:A0 V ws w i=(((ws.idxOf (w++[(i:Int)]):Nat):Int),o):=by simp_all[A0]
    rw[if_neg D,f,e6o,<- A];rfl
theorem Vk{V:Wd->Option Int}{ws:Wq}{w:Wd}:∀(l:List Nat)(f:Wq),l.Nodup->(∀i∈l,w++[(i:Int)] ∉ f)->numE f.length (l.map (A0 V ws w))=l.map (A0 V (f++chL V w l) w)
 | [],_,_,_=>rfl
 | i::l,f,Z,a0=>by
  have D:=List.nodup_cons.1 Z;rw[e6o,e6o];unfold chL
  cases h:V (w++[(i:Int)]) with
  | none =>
   have A:∀us,A0 V us w i=(-1,-1):=λus=>by unfold A0;rw[h]
   rw[A,A];show (-1,-1)::numE f.length (l.map (A0 V ws w))=_;rw[Vk l f D.2 λj Q=>a0 j (by simp[Q])]
  | some o =>
   dsimp only;by_cases ho:o = -1
   .simp_all[A0,numE,Vk]
   .rw[if_neg ho];have A:∀us,A0 V us w i=(((us.idxOf (w++[(i:Int)]):Nat):Int),o):=λus=>by simp_all[A0]
    rw[A,A];have e2:(f++(w++[(i:Int)])::chL V w l).idxOf (w++[(i:Int)])=f.length:=by
     grind
    rw[e2];have e3:numE f.length ((((ws.idxOf (w++[(i:Int)]):Nat):Int),o)::l.map (A0 V ws w))=((f.length:Int),o)::numE (f.length+1) (l.map (A0 V ws w)):=by
     rfl
    rw[e3];have ih:=Vk (V:=V) (ws:=ws) (w:=w) l (f++[w++[(i:Int)]]) D.2 λj Q hm=>by
     rcases W9.1 hm with U|U
     .grind
     .have:=(Jx (Xf.1 U)).2;have e:j=i:=by omega
      grind
    grind
theorem Vl{O:Int}{V:Wd->Option Int}{ws:Wq}{w:Wd}(A:∀x o,V x=some o->o ≠ -1->0<=o/\o<O):∀(l:List Nat)(k:Nat),goE O (numE k (l.map (A0 V ws w))) k=some (k+(chL V w l).length)
 | [],_=>rfl
 | i::l,k=>by
  rw[e6o];unfold chL
  cases h:V (w++[(i:Int)]) with
  | none =>
   have f:A0 V ws w i=(-1,-1):=by grind[A0]
   rw[f];show goE O ((-1,-1)::numE k (l.map (A0 V ws w))) k=_;exact Vl A l k
  | some o =>
   dsimp only;by_cases D:o = -1
   .rw[if_pos D];have f:A0 V ws w i=(-1,-2):=by simp_all[A0]
    rw[f];show goE O ((-1,-2)::numE k (l.map (A0 V ws w))) k=_;exact Vl A l k
   .rw[if_neg D];have f:A0 V ws w i=(((ws.idxOf (w++[(i:Int)]):Nat):Int),o):=by simp_all[A0]
    rw[f];have e3:numE k ((((ws.idxOf (w++[(i:Int)]):Nat):Int),o)::l.map (A0 V ws w))=((k:Int),o)::numE (k+1) (l.map (A0 V ws w)):=by
     rfl
    rw[e3];have Q:=A _ _ h D;have e4:Cy O k ((k:Int),o)=some (k+1):=by
     unfold Cy;grind
    show (match Cy O k ((k:Int),o) with|none=>none|some nx=>goE O (numE (k+1) (l.map (A0 V ws w))) nx)=_;rw[e4];dsimp only;rw[Vl A l (k+1),Xi];congr 1;omega
theorem b4l{I O:Int}{r:List (Int×Int)}:∀(l:Tq)(n f k A:Nat),goT I O l n f=some k->(r.length:Int)=I->n+l.length<k->goE O r k=some A->goT I O (l++[r]) n f=some A
 | [],n,f,k,A,h,Q,U,Z=>by
  have e:f=k:=Option.some.inj h;simp_all[goT]
 | a::l,n,f,k,A,h,Q,U,Z=>by
  have D:(if (a.length:Int)=I/\n<f then (match goE O a f with|none=>none|some q=>goT I O l (n+1) q) else none)=some k:=h;show (if (a.length:Int)=I/\n<f then (match goE O a f with|none=>none|some q=>goT I O (l++[r]) (n+1) q) else none)=_;split at D
  .rename_i hc;rw[if_pos hc]
   cases hq:goE O a f with
   | none=>rw[hq] at D;cases D
   | some q =>
    rw[hq] at D;exact b4l l (n+1) q k A D Q (by rw[Xi] at U;omega) Z
  grind
structure Bfs (V:Wd->Option Int) (ws:Wq) (I:Nat) (O:Int) (n:Nat) (os:Wq):Prop where
 srt:Bt os
 sub:∀x∈os,x∈ws
 le:n<=os.length
 hd:os[0]?=some []
 ch:∀(m:Nat)(h:m<os.length),m<n->∀x∈chL V os[m] (List.range I),x∈os
 par:∀x∈os,x=[]\/∃(m:Nat)(h:m<os.length),m<n/\∃i:Int,x=os[m]++[i]
 go:goT I O ((os.take n).map (Bb V os I)) 0 1=some os.length
theorem Bfs.zero{V:Wd->Option Int}{ws:Wq}{I:Nat}{O:Int}(h:[]∈ws):Bfs V ws I O 0 [[]]:=
 ⟨λa b f A D=>by grind,λx hx=>by grind,by simp,rfl,λm h Q=>by omega,λx hx=>.inl (Xf.1 hx),rfl⟩
theorem Vm{V:Wd->Option Int}{w:Wd}:∀(l:List Nat)(f:Wq),Bt f->l.Pairwise (· < ·)->(∀x∈f,∀i∈l,SL x (w++[(i:Int)]))->Bt (f++chL V w l)
 | [],f,h,_,_=>by grind[chL]
 | i::l,f,h,Z,hx=>by
  have Q:=List.pairwise_cons.1 Z;unfold chL
  cases hv:V (w++[(i:Int)]) with
  | none=>exact Vm l f h Q.2 λx A j D=>hx x A j (by simp[D])
  | some o =>
   dsimp only;split
   .exact Vm l f h Q.2 λx A j D=>hx x A j (by simp[D])
   .have h1:=Vm (V:=V) (w:=w) l (f++[w++[(i:Int)]]) (h.snoc λx A=>hx x A i (by simp)) Q.2 λx A j D=>by
     rcases W9.1 A with U|U
     .exact hx x U j (by simp[D])
     .rw[Xf.1 U];exact Y0 w (by have:=Q.1 j D;omega)
    rwa [e5z] at h1
theorem b4m{V:Wd->Option Int}{f us:Wq}{I:Nat}{w:Wd}(h:∀x∈chL V w (List.range I),x∈f):Bb V (f++us) I w=Bb V f I w:=by
 unfold Bb;apply e7j;intro i hi;unfold A0
 cases A:V (w++[(i:Int)]) with
 | none=>rfl
 | some o =>
  dsimp only;split
  .rfl
  .rename_i D;rw[b4e (h _ (Sm.2 ⟨i,hi,rfl,o,A,D⟩))]
theorem Bfs.step{V:Wd->Option Int}{ws:Wq}{I:Nat}{O:Int}{n:Nat}{f:Wq}(h:Bfs V ws I O n f)(hN:Nod V ws)(hV:∀x o,V x=some o->o ≠ -1->0<=o/\o<O)(hn:n<f.length):
  Bfs V ws I O (n+1) (f++chL V f[n] (List.range I))/\numE f.length (Bb V ws I f[n])=Bb V (f++chL V f[n] (List.range I)) I f[n]:=by
 have Z:∀x∈f,∀i∈List.range I,SL x (f[n]++[(i:Int)]):=λx hx i _=>by
  rcases h.par x hx with rfl|⟨m,A,U,j,rfl⟩
  .grind[SL.nil]
  .exact(h.srt m n A hn U).app j i
 have a1:∀i∈List.range I,f[n]++[(i:Int)] ∉ f:=λi hi A=>X7 (Z _ A i hi);have a0:=Vk (V:=V) (ws:=ws) (w:=f[n]) (List.range I) f List.nodup_range a1;have a2:numE f.length (Bb V ws I f[n])=Bb V (f++chL V f[n] (List.range I)) I f[n]:=a0;refine⟨⟨Vm _ _ h.srt List.pairwise_lt_range Z,λx hx=>?_,?_,?_,λm A U x hx=>?_,λx hx=>?_,?_⟩,a0⟩
 .rcases W9.1 hx with D|D
  .exact h.sub x D
  .obtain⟨i,_,_,o,Q,h3⟩:=Sm.1 D;exact(hN.mem x).2 (.inr ⟨o,Q,h3⟩)
 .grind
 .rw[e5v (by omega)];exact h.hd
 .rw[W9];by_cases a3:m<n
  .rw[e6b (by omega)] at hx;exact .inl (h.ch m (by omega) a3 x hx)
  grind
 .rcases W9.1 hx with D|D
  .rcases h.par x D with Q|⟨m,A,U,j,Q⟩
   .grind
   .exact .inr ⟨m,by grind,by omega,j,by grind⟩
  .obtain⟨i,_,Q,_⟩:=Sm.1 D;exact .inr ⟨n,by grind,by omega,i,by grind⟩
 .have e1:(f++chL V f[n] (List.range I)).take (n+1)=f.take n++[f[n]]:=by
   grind[Df]
  have e2:(f.take n).map (Bb V (f++chL V f[n] (List.range I)) I)=(f.take n).map (Bb V f I):=by
   apply e7j;intro w hw;obtain⟨m,A,rfl⟩:=e6a.1 hw;rw[Xa] at A;rw[e7q];exact b4m λx hx=>h.ch m (by omega) (by omega) x hx
  rw[e1,e6z,e2,List.map_singleton,<- a2];refine b4l _ 0 1 f.length _ h.go ?_ ?_ ?_
  .grind[Si]
  .grind
  .rw[W1];exact Vl hV _ _
theorem Bfs.rows{V:Wd->Option Int}{ws:Wq}{I:Nat}{O:Int}{n:Nat}{f:Wq}(h:Bfs V ws I O n f)(us:Wq):(f.take n).map (Bb V (f++us) I)=(f.take n).map (Bb V f I):=by
 apply e7j;intro w A;obtain⟨m,D,rfl⟩:=e6a.1 A;rw[Xa] at D;rw[e7q];exact b4m λx hx=>h.ch m (by omega) (by omega) x hx
theorem nodup_len:∀{a b:Wq},a.Nodup->(∀x∈a,x∈b)->a.length<=b.length
 | [],b,_,_=>W3 _
 | x::a,b,A,f=>by
  have h:=List.nodup_cons.1 A;have hx:=f x (by simp);have D:=@nodup_len a (b.erase x) h.2 λy hy=>(List.mem_erase_of_ne (λe=>h.1 (by grind))).2 (f y (by grind));grind
theorem Bfs.len{V:Wd->Option Int}{ws:Wq}{I:Nat}{O:Int}{n:Nat}{f:Wq}(h:Bfs V ws I O n f):f.length<=ws.length:=nodup_len h.srt.nodup h.sub
theorem Bfs.done{V:Wd->Option Int}{ws:Wq}{I:Nat}{O:Int}{f:Wq}(h:Bfs V ws I O f.length f)(hN:Nod V ws)(U:∀(x:Wd)(i o:Int),V (x++[i])=some o->0<=i/\i<(I:Int)):Nod V f:=by
 have Z:∀(k:Nat)(x:Wd),x.length=k->x∈ws->x∈f:=by
  intro k
  induction k with
  | zero =>
   intro x hx _;rw[e6x.1 hx];exact e5w h.hd
  | succ k ih =>
   intro x hx hm;have A:x≠[]:=λe=>by grind
   have e:=e8b A;have hd:x.dropLast∈f:=ih x.dropLast (by grind) (hN.up (by rw[e];grind));obtain⟨m,D,a0⟩:=e6a.1 hd;rcases (hN.mem x).1 hm with Q|⟨o,Q,h2⟩
   .grind
   .have h3:=U x.dropLast (x.getLast A) o (by grind);refine h.ch m D D x (Sm.2 ⟨(x.getLast A).toNat,?_,?_,o,Q,h2⟩)
    all_goals grind
 refine⟨h.srt.nodup,λw=>?_,hN.clo⟩;rw[<- hN.mem w];exact⟨h.sub w,Z _ w rfl⟩
theorem srt_eq:∀{a b:Wq},Bt a->Bt b->(∀x,x∈a↔x∈b)->a=b
 | [],[],_,_,_=>rfl
 | [],y::b,_,_,h=>by have:=(h y).2 (by simp);grind
 | x::a,[],_,_,h=>by have:=(h x).1 (by simp);grind
 | x::a,y::b,U,Z,h=>by
  have a0:∀z∈a,SL x z:=λz A=>by
   obtain⟨i,hi,rfl⟩:=e6a.1 A;exact U 0 (i+1) (by simp) (by grind) (by omega)
  have a1:∀z∈b,SL y z:=λz A=>by
   obtain⟨i,hi,rfl⟩:=e6a.1 A;exact Z 0 (i+1) (by simp) (by grind) (by omega)
  have e:x=y:=by
   rcases Xb.1 ((h x).1 (by simp)) with f|f
   .exact f
   .rcases Xb.1 ((h y).2 (by simp)) with D|D
    .exact D.symm
    .exact absurd ((a1 x f).trans (a0 y D)) X7
  subst e;have ta:Bt a:=λi j hi Q a2=>U (i+1) (j+1) (by simpa using hi) (by simpa using Q) (by omega);have tb:Bt b:=λi j hi Q a2=>Z (i+1) (j+1) (by simpa using hi) (by simpa using Q) (by omega);rw[srt_eq ta tb λz=>?_];constructor
  .intro A;rcases Xb.1 ((h z).1 (by simp[A])) with f|f
   .subst f;exact absurd (a0 z A) X7
   .exact f
  .intro A;rcases Xb.1 ((h z).2 (by simp[A])) with f|f
   .subst f;exact absurd (a1 z A) X7
   .exact f
theorem lexC_zero:∀ {a b:Wd},a.length=b.length→lexC a b=0→a=b
 | [],[],_,_=>rfl
 | [],_ :: _,h,_=>by grind
 | _ :: _,[],h,_=>by grind
 | x :: a,y :: b,hl,h=>by
  unfold lexC at h;by_cases h1:x < y
  ·grind
  ·rw [if_neg h1] at h;by_cases h2:y < x
   ·grind
   ·rw [if_neg h2] at h;rw [lexC_zero (by simpa using hl) h,show x=y by omega]
theorem lexC_pos:∀ {a b:Wd},a.length=b.length→0 < lexC a b→LL b a
 | [],[],_,h=>by grind [lexC]
 | [],_ :: _,h,_=>by grind
 | _ :: _,[],h,_=>by grind
 | x :: a,y :: b,hl,h=>by
  unfold lexC at h;by_cases h1:x < y
  ·grind
  ·rw [if_neg h1] at h;by_cases h2:y < x
   ·exact .inl h2
   ·rw [if_neg h2] at h;exact .inr ⟨by omega,lexC_pos (by grind) h⟩
theorem Vn(h:Bx a b=0):a=b:=by
 grind[Bx,lexC_zero]
theorem Vo(h:0<Bx a b):SL b a:=by
 unfold Bx at h;split at h
 .omega
 .split at h
  .rename_i f;exact .inl f
  .exact .inr ⟨by omega,lexC_pos (by omega) h⟩
def Ek(w:Wd):Wq->Wq
 | []=>[w]
 | x::l=>if Bx w x<0 then w::x::l else if Bx w x=0 then x::l else x::Ek w l
theorem Sp{w:Wd}:∀{l:Wq}{x:Wd},x∈Ek w l↔x=w\/x∈l
 | [],x=>by simp[Ek]
 | y::l,x=>by
  have f:=@Sp w l x;unfold Ek;split
  .grind
  .split
   .rename_i h;rw[Vn h];grind
   grind
theorem Pp{x:Wd}:Bt (x::l)↔(∀y∈l,SL x y)/\Bt l:=by
 constructor
 .intro h;refine⟨λy hy=>?_,λa b f A D=>h (a+1) (b+1) (by grind) (by grind) (by omega)⟩;obtain⟨i,hi,rfl⟩:=e6a.1 hy;exact h 0 (i+1) (by simp) (by grind) (by omega)
 .rintro⟨U,Q⟩ a b f A D
  cases b with
  | zero=>omega
  | succ b =>
   cases a with
   | zero=>grind
   | succ a=>exact Q a b (by grind) (by grind) (by omega)
theorem Vp{w:Wd}:∀{l:Wq},Bt l->Bt (Ek w l)
 | [],_=>λa b U Z a0=>by grind[Ek]
 | y::l,h=>by
  obtain⟨A,D⟩:=Pp.1 h;unfold Ek;split
  .rename_i Q;refine Pp.2 ⟨λz f=>?_,h⟩;rcases Xb.1 f with rfl|f
   .grind[Ho]
   .exact(Ho.1 Q).trans (A z f)
  .split
   .exact h
   .refine Pp.2 ⟨λz f=>?_,Vp D⟩;rcases Sp.1 f with rfl|f
    all_goals grind[Vo]
def nodW:Wq->Wd->Wd->Wd->Wq
 | out,p,i::w,o::r=>if o = -1 then out else nodW (Ek (p++[i]) out) (p++[i]) w r
 | out,_,_,_=>out
theorem nodW_srt:∀(w r:Wd)(f:Wq)(p:Wd),Bt f->Bt (nodW f p w r)
 | [],_,_,_,h=>h
 | _::_,[],_,_,h=>h
 | i::w,o::r,f,p,h=>by
  unfold nodW;split
  .exact h
  .exact nodW_srt w r _ _ (Vp h)
theorem b4n{O:Int}:∀(w r:Wd)(A:Wq)(p x:Wd),r.length=w.length->okR O false r=true->(x∈nodW A p w r↔x∈A\/∃k,k<w.length/\r.getD k 0 ≠ -1/\x=p++w.take (k+1))
 | [],_,_,_,_,_,_=>⟨λh=>.inl h,λh=>h.elim id λ⟨k,U,_⟩=>by grind⟩
 | _::_,[],_,_,_,h,_=>by cases h
 | i::w,o::r,A,p,x,hl,Z=>by
  obtain⟨_,_,_,D⟩:=N1 Z;unfold nodW;by_cases f:o = -1
  .rw[if_pos f];rw[decide_eq_true f] at D;constructor
   .grind
   .rintro (h|⟨k,U,Q,_⟩)
    .exact h
    .cases k with
     | zero=>grind
     | succ k=>exact absurd (a4u r k D (by grind)) Q
  .rw[if_neg f,b4n w r _ _ x (by grind) (by rw[decide_eq_false f] at D;omega),Sp];constructor
   .rintro ((h|h)|⟨k,U,Q,h3⟩)
    .exact .inr ⟨0,by simp,f,by grind⟩
    .grind
    .exact .inr ⟨k+1,by grind,Q,by grind⟩
   grind[b4h]
def Dm(ts:Lq):Wq:=ts.foldl (λout t=>nodW out [] t.1 t.2) [[]]
theorem N3{I O:Int}{ts:Lq}(hv:∀t∈ts,B0 I O t=true):Bt (Dm ts)/\∀x,x∈Dm ts↔x=[]\/∃t∈ts,∃k,k<t.1.length/\t.2.getD k 0 ≠ -1/\x=t.1.take (k+1):=by
 have key:∀(us:Lq)(f:Wq),(∀t∈us,B0 I O t=true)->Bt f->Bt (us.foldl (λf t=>nodW f [] t.1 t.2) f)/\∀x,x∈us.foldl (λf t=>nodW f [] t.1 t.2) f↔x∈f\/∃t∈us,∃k,k<t.1.length/\t.2.getD k 0 ≠ -1/\x=t.1.take (k+1):=by
  intro us
  induction us with
  | nil=>grind
  | cons t us ih =>
   intro f A Q;rw[List.foldl_cons];have D:=A t (by simp);unfold B0 at D;rw[W0,W0] at D;obtain⟨h3,h4⟩:=ih (nodW f [] t.1 t.2) (λu U=>A u (by grind)) (nodW_srt _ _ _ _ Q);refine⟨h3,λx=>?_⟩;rw[h4 x,b4n t.1 t.2 f [] x (of_decide_eq_true D.1.1) D.2];constructor
   .rintro ((h|⟨k,Z,h6,h7⟩)|⟨u,U,Z⟩)
    all_goals grind
   .rintro (h|⟨u,U,k,Z⟩)
    all_goals grind
 obtain⟨A,Q⟩:=key ts [[]] hv λa b ha hb a0=>by grind
 refine⟨A,λx=>?_⟩;rw[show Dm ts=ts.foldl (λf t=>nodW f [] t.1 t.2) [[]] from rfl,Q x,Xf]
theorem Pq{I O:Int}{ts:Lq}(A:∀t∈ts,B0 I O t=true)(Q:Ej ts)(x:Wd):x∈Dm ts↔x=[]\/∃o,valT ts x=some o/\o ≠ -1:=by
 rw[(N3 A).2 x];constructor
 .rintro (h|⟨t,U,k,f,D,rfl⟩)
  all_goals simp_all[a4x]
 .rintro (h|⟨o,f,D⟩)
  .grind
  .obtain⟨u,Z,g2,g3,g4,g5⟩:=Jy f;grind
def Aj(I:Nat)(ts:Lq):Tq:=Bg (valT ts) (Dm ts) I
theorem Vq{I O:Int}{ts:Lq}(A:∀t∈ts,B0 I O t=true){x:Wd}{i o:Int}(h:valT ts (x++[i])=some o):(0<=i/\i<I)/\(o ≠ -1->0<=o/\o<O):=by
 obtain⟨u,D,g2,Q,U,Z⟩:=Jy h;have f:=A u D;unfold B0 at f;rw[W0,W0] at f;have hl:=of_decide_eq_true f.1.1;rw[W1,Xj] at Q U Z;constructor
 .have hm:i∈u.1:=by
   grind[List.mem_of_mem_take]
  exact of_decide_eq_true (W7.1 f.1.2 i hm)
 .intro ho;have h1:=b3y u.2 (x.length+1-1) false f.2 (by omega);grind
theorem b4o{I O:Int}{ts:Lq}(f:∀t∈ts,B0 I O t=true){x:Wd}{o:Int}(h:valT ts x=some o):o ≠ -1->0<=o/\o<O:=by
 obtain⟨u,D,A,Q,U,Z⟩:=Jy h;have e:=e8b A;rw[<- e] at h;exact(Vq f h).2
theorem b4p{I:Nat}{O:Int}{ts:Lq}{ws f:Wq}(A:∀t∈ts,B0 I O t=true)(U:Ej ts)(hN:Nod (valT ts) ws)(h:Bfs (valT ts) ws I O f.length f):f=Dm ts/\Nod (valT ts) f/\goT I O (Aj I ts) 0 1=some (Aj I ts).length:=by
 have D:=h.done hN λx i o hx=>(Vq A hx).1;have e:f=Dm ts:=srt_eq h.srt (N3 A).1 λx=>(D.mem x).trans (Pq A U x).symm;refine⟨e,D,?_⟩;have Q:=h.go;rw[Xl] at Q;unfold Aj;rw[G7,<- e];exact Q
theorem mkI81:mkI prog 98=none:=by kernel_rfl
theorem e0m{a b:Int}(f:0<=a)(h:a<=b)(A:b<=1048576):Fy prog H 98 none (some (.li a)) (some (.li b))=.val (.sl H.next 0 a.toNat b.toNat) (H.add (.cells (rep [.li 0,.li 0] b.toNat) true 0)):=
 Pa (e:=97) (size:=2) (bytes:=16) (z:=[.li 0,.li 0]) (by kernel_rfl) (by decide) (by decide) (by kernel_rfl) f h A
attribute [simp] mkI81 e0m
theorem b4q{row:List (Int×Int)}{i:Nat}(hi:i<row.length)(e:Int×Int):Am (Ar row) (i*2) [.li e.1,.li e.2]=Ar (row.set i e):=by
 have A:=rowC_len row;apply e8d;intro j;by_cases hj:j<row.length*2
 .have U:j / 2<row.length:=by omega
  have D:i*2+([.li e.1,.li e.2]:List AV).length<=(Ar row).length:=by rw[A];simp;omega
  have h:=O9 (row.set i e) (j / 2) (by rw[Xe];exact U);have Z:=O9 row (j / 2) U;by_cases a0:i=j / 2
  .subst a0;simp only[List.getElem_set_self] at h;rcases Nat.mod_two_eq_zero_or_one j with Q|Q
   .have f:j=j / 2*2:=by omega
    rw[show (Am (Ar row) (j / 2*2) [.li e.1,.li e.2])[j]?=(Am (Ar row) (j / 2*2) [.li e.1,.li e.2])[j / 2*2]? from congrArg _ f,a3a (by simpa using D),show (Ar (row.set (j / 2) e))[j]?=(Ar (row.set (j / 2) e))[j / 2*2]? from congrArg _ f,h.1]
   .have f:j=j / 2*2+1:=by omega
    rw[show (Am (Ar row) (j / 2*2) [.li e.1,.li e.2])[j]?=(Am (Ar row) (j / 2*2) [.li e.1,.li e.2])[j / 2*2+1]? from congrArg _ f,a3b (by simpa using D),show (Ar (row.set (j / 2) e))[j]?=(Ar (row.set (j / 2) e))[j / 2*2+1]? from congrArg _ f,h.2]
  .rw[Pb D (by simp;omega)];simp only[List.getElem_set_ne a0] at h;rcases Nat.mod_two_eq_zero_or_one j with Q|Q
   .have f:j=j / 2*2:=by omega
    rw[show (Ar row)[j]?=(Ar row)[j / 2*2]? from congrArg _ f,show (Ar (row.set i e))[j]?=(Ar (row.set i e))[j / 2*2]? from congrArg _ f,Z.1,h.1]
   .have f:j=j / 2*2+1:=by omega
    rw[show (Ar row)[j]?=(Ar row)[j / 2*2+1]? from congrArg _ f,show (Ar (row.set i e))[j]?=(Ar (row.set i e))[j / 2*2+1]? from congrArg _ f,Z.2,h.2]
 .rw[e7a (by rw[C7 (by rw[A];simp;omega),A];omega),e7a (by rw[rowC_len,Xe];omega)]
theorem a4z(I:Nat)(hI:I<=16)(g:Gb)(n:Nat):
  WC 0 prog 105 [.li I] ⟨.fn g,n⟩ λr=>r=.ret (.sl n 0 I I) ⟨.fn (Ak g n (some (.cells (Ar (List.replicate I (-1,-1))) true 0))),n+1⟩:=by
 have a2:(I:Int)<=1048576:=by omega
 refine ent [] func105 ?_;simp (disch:=first|omega|simp) [*];refine Xv (λm f H'=>∃(k:Nat)(L:List AV),k<=I/\m=I-k/\H'=⟨.fn (Ak g n (some (.cells L true 0))),n+1⟩/\L.length=I*2/\Aa (L.take (k*2)=Ar (List.replicate k (-1,-1)))/\f 3=some (.sl n 0 I I)/\f 8=some (.li I)/\f 9=some (.li k)) (m0:=I) ?_ ?_
 .exact⟨0,rep [.li 0,.li 0] I,W3 _,rfl,by simp,by rw[Fj];rfl,⟨rfl⟩,by simp[*]⟩
 rintro m f H' ⟨k,L,hk,rfl,rfl,A,D,w3,w8,w9⟩ ih;refine rnd [] ?_;by_cases a3:k<I
 .have a0:(k:Int)<(I:Int):=by omega
  have a1:k*2+2<=L.length:=by omega
  have Q:Aa ((Am L (k*2) [.li (-1),.li (-1)]).length=I*2/\(Am L (k*2) [.li (-1),.li (-1)]).take ((k+1)*2)=Ar (List.replicate (k+1) (-1,-1))):=⟨by
   have U:k*2+([.li (-1),.li (-1)]:List AV).length<=L.length:=a1;refine⟨by rw[C7 U];exact A,?_⟩;rw[List.replicate_succ',b1j,<- D.out,<- Eg U,show (k+1)*2=k*2+2 by omega];rfl⟩
  simp (disch:=first|omega|simp) [*];exact ih.out (I-(k+1)) _ _ (by omega) ⟨k+1,Am L (k*2) [.li (-1),.li (-1)],by omega,rfl,by simp[Am],Q.out.1,⟨Q.out.2⟩,by simp[*]⟩
 .have a0:¬(k:Int)<(I:Int):=by omega
  have Z:k=I:=by omega
  have HE:Aa (L=Ar (List.replicate I (-1,-1))):=⟨by
   have h:=D.out;rw[Z,<- A,Xl] at h;exact h⟩
  clear Z;simp (disch:=first|omega|simp) [*];rw[HE.out]
def Ce(I:Nat)(bs:List Nat):List AV:=bs.map λb=>.sl b 0 I I
theorem Pr{I:Nat}{f:List Nat}:(Ce I f).length=f.length:=by simp[Ce]
theorem a5a{I:Nat}{f:List Nat}{k:Nat}(h:k<f.length):(Ce I f)[k]'(by rw[Pr];exact h)=.sl f[k] 0 I I:=by simp[Ce]
structure RowsB (g:Gb) (lo n I:Nat) (rows:Tq) (bs:List Nat):Prop where
 len:bs.length=rows.length
 nd:bs.Nodup
 at' : ∀(k:Nat)(h:k<bs.length)(h' : k<rows.length),lo<=bs[k]/\bs[k] < n/\g bs[k]=some (.cells (Ar rows[k]) true 0)/\rows[k].length=I
structure F7 (g:Gb) (lo n T I:Nat) (rows:Tq) (bs:List Nat) (B:Nat) (sv:AV):Prop where
 rb:RowsB g lo n I rows bs
 pos:0<rows.length
 bl:lo<=B/\B<n
 tl:lo<=T/\T<n
 tb:T≠B
 tn:T ∉ bs
 bn:B ∉ bs
 gt:g T=some (.cells [sv] true 0)
 gb:(rows.length=1/\sv=.sl B 0 1 1/\g B=some (.cells (Ce I bs) true 0))\/(sv=.slq B 0 rows.length 0/\g B=some (.cells (Ce I bs) true 1))
def Ir(I:Nat)(rows:Tq):Prop:=∀row∈rows,row.length=I/\∀e∈row,e.1 = -1\/(0<=e.1/\e.1<rows.length)
theorem Ir.set{I:Nat}{rows:Tq}(h:Ir I rows){a i:Nat}(Q:a<rows.length){e:Int×Int}(f:e.1 = -1\/(0<=e.1/\e.1<rows.length)):Ir I (rows.set a ((rows.getD a []).set i e)):=by
 intro row U;rcases e7z U with Z|rfl
 .obtain⟨A,D⟩:=h row Z;exact⟨A,λe f=>by rw[Xe];exact D e f⟩
 .have hm:=(G6 (d:=[]) Q).1;obtain⟨A,D⟩:=h _ hm;refine⟨by rw[Xe];exact A,λe' a0=>?_⟩;rw[Xe];rcases e7z a0 with h4|rfl
  .exact D e' h4
  .exact f
theorem Ir.new{I:Nat}{rows:Tq}(h:Ir I rows){a i:Nat}(ha:a<rows.length){o:Int}:Ir I (rows.set a ((rows.getD a []).set i ((rows.length:Int),o))++[List.replicate I (-1,-1)]):=by
 intro row f;rw[W1,Xe,Xj];rcases W9.1 f with f|f
 .rcases e7z f with h1|rfl
  .obtain⟨D,Q⟩:=h row h1;exact⟨D,λe U=>by rcases Q e U with A|A;exact .inl A;exact .inr ⟨A.1,by omega⟩⟩
  .have hm:=(G6 (d:=[]) ha).1;obtain⟨D,Q⟩:=h _ hm;refine⟨by rw[Xe];exact D,λe' a0=>?_⟩;rcases e7z a0 with A|rfl
   .rcases Q e' A with Z|Z
    .exact .inl Z
    .exact .inr ⟨Z.1,by omega⟩
   .exact .inr ⟨by show (0:Int)<=rows.length;omega,by show (rows.length:Int)<_;omega⟩
 .rw[Xf.1 f];exact⟨by simp,λe U=>.inl (by rw[(e9g.1 U).2])⟩
theorem F7.keep{g:Gb}{lo n T I:Nat}{rows:Tq}{D:List Nat}{B:Nat}{sv:AV}(h:F7 g lo n T I rows D B sv)(Z:n<=n')(A:∀a,lo<=a->a<n->g' a=g a):F7 g' lo n' T I rows D B sv:=
 ⟨⟨h.rb.len,h.rb.nd,λk Q U=>let ⟨f,e2,e3,e4⟩:=h.rb.at' k Q U;⟨f,by omega,(A _ f e2).trans e3,e4⟩⟩,h.pos,⟨h.bl.1,by have:=h.bl.2;omega⟩,⟨h.tl.1,by have:=h.tl.2;omega⟩,h.tb,h.tn,h.bn,(A _ h.tl.1 h.tl.2).trans h.gt,h.gb.imp (λ⟨f,e2,e3⟩=>⟨f,e2,(A _ h.bl.1 h.bl.2).trans e3⟩) λ⟨f,e2⟩=>⟨f,(A _ h.bl.1 h.bl.2).trans e2⟩⟩
theorem F7.store{g:Gb}{lo n T I:Nat}{rows:Tq}{f:List Nat}{B:Nat}{sv:AV}(h:F7 g lo n T I rows f B sv){a:Nat}(ha:a<rows.length)(a0:a<f.length){row:List (Int×Int)}(hl:row.length=I)(hb:g' f[a]=some (.cells (Ar row) true 0))(D:∀b,b≠f[a]->g' b=g b):F7 g' lo n T I (rows.set a row) f B sv:=by
 have U:∀x,x ∉ f->x≠f[a]:=λx hx e=>hx (e ▸ W2 a0);refine⟨⟨by rw[Xe];exact h.rb.len,h.rb.nd,λk h1 Z=>?_⟩,by rw[Xe];exact h.pos,h.bl,h.tl,h.tb,h.tn,h.bn,(D _ (U _ h.tn)).trans h.gt,?_⟩
 .rw[Xe] at Z;obtain⟨A,e2,e3,e4⟩:=h.rb.at' k h1 Z;by_cases Q:a=k
  .subst Q;exact⟨A,e2,by simpa using hb,by simpa using hl⟩
  .have a1:f[k]≠f[a]:=λe=>Q ((List.getElem_inj h.rb.nd).1 e).symm;exact⟨A,e2,by rw[List.getElem_set_ne Q];exact(D _ a1).trans e3,by rw[List.getElem_set_ne Q];exact e4⟩
 .rw[Xe];exact h.gb.imp (λ⟨A,e2,e3⟩=>⟨A,e2,(D _ (U _ h.bn)).trans e3⟩) λ⟨A,e2⟩=>⟨A,(D _ (U _ h.bn)).trans e2⟩
theorem F7.push{g:Gb}{lo n T I:Nat}{rows:Tq}{f:List Nat}{B B' b:Nat}{sv:AV}(h:F7 g lo n T I rows f B sv){row:List (Int×Int)}(Z:row.length=I)(hb:n<=b)(a0:b<n')(hB:n<=B')(a1:B' < n')(a2:b≠B')(h1:g' b=some (.cells (Ar row) true 0))(h2:g' B'=some (.cells (Ce I (f++[b])) true 1))(h3:g' T=some (.cells [.slq B' 0 (rows.length+1) 0] true 0))(hg:∀x∈f,g' x=g x):F7 g' lo n' T I (rows++[row]) (f++[b]) B' (.slq B' 0 (rows.length+1) 0):=by
 have Q:∀x∈f,lo<=x/\x<n:=λx hx=>by
  obtain⟨k,A,rfl⟩:=e6a.1 hx;obtain⟨D,e2,_⟩:=h.rb.at' k A (by have:=h.rb.len;omega);exact⟨D,e2⟩
 have a3:=h.tl;have a4:=h.bl;refine⟨⟨by rw[W1,W1,h.rb.len];rfl,?_,λk k1 k2=>?_⟩,by simp,⟨by omega,a1⟩,⟨a3.1,by omega⟩,by omega,?_,?_,h3,.inr ⟨by rw[W1];rfl,h2⟩⟩
 .rw[List.nodup_append];refine⟨h.rb.nd,by simp,λx hx y hy e=>?_⟩;rw[Xf] at hy;have:=Q x hx;omega
 .rw[W1,Xj] at k1;by_cases A:k<f.length
  .have U:k<rows.length:=by have:=h.rb.len;omega
   obtain⟨D,e2,e3,e4⟩:=h.rb.at' k A U;rw[e6b A,e6b U];exact⟨D,by omega,(hg _ (W2 A)).trans e3,e4⟩
  .have e:k=f.length:=by omega
   have e2:k=rows.length:=by have:=h.rb.len;omega
   rw[e7e (by omega),e7e (by omega)];simp;exact⟨by omega,a0,h1,Z⟩
 .rw[W9,Xf];rintro (hx|hx)
  .exact h.tn hx
  .omega
 .rw[W9,Xf];rintro (hx|hx)
  .have:=Q _ hx;omega
  .exact a2 hx.symm
theorem e0n{I:Nat}{rows:Tq}{f k:Nat}{w r:Wd}(h:k<w.length)(A:k<r.length):F6 I rows f (w.drop k) (r.drop k)=if r[k] = -1 then rows.set f ((rows.getD f []).set (w[k]).toNat (-1,-2))
  else if ((rows.getD f []).getD (w[k]).toNat (-1,-1)).1 = -1 then F6 I (rows.set f ((rows.getD f []).set (w[k]).toNat ((rows.length:Int),r[k]))++[List.replicate I (-1,-1)]) rows.length (w.drop (k+1)) (r.drop (k+1))
  else F6 I rows ((rows.getD f []).getD (w[k]).toNat (-1,-1)).1.toNat (w.drop (k+1)) (r.drop (k+1)):=by
 rw[Xh h,Xh A];rfl
theorem e0o{I:Nat}(hI:I<=16){Oo:Int}{w r:Wd}(hl:r.length=w.length)(hw:inW w I=true)(h9:w.length<=256)(lo n T Lg:Nat)(g:Gb){rows:Tq}{bs:List Nat}{B:Nat}{sv lv s1 s2:AV}
  (hT:F7 g lo n T I rows bs B sv) (c0:Ir I rows) (i0:rows.length+w.length<=100000) (e9:Lg<lo) (g0:g Lg=some (.cells [.li I,.li Oo,lv] true 0)) (i1:lo<=n) (h1:Al g lo w s1) (h2:Al g lo r s2) :
  WC 0 prog 106 [.agg [s1,s2],.ptr T 0,.ptr Lg 0] ⟨.fn g,n⟩ λq=>∃g' n' g4 B' g5,q=.ret (.tup []) ⟨.fn g',n'⟩/\n<=n'/\(∀b,b<lo->g' b=g b)/\F7 g' lo n' T I (F6 I rows 0 w r) g4 B' g5/\Ir I (F6 I rows 0 w r)/\(F6 I rows 0 w r).length<=rows.length+w.length:=by
 have i2:=@Au prog _ _ _ _ _ h1;have e1:oneC s1=true:=h1.one;have e2:oneC s2=true:=h2.one;have i3:allOne [s1,s2]=true:=by simp[e1,e2]
 have H1:=Xr h1;have H2:=Xr h2;have A:=Xr hT;have a0:=Xr c0;have HW:=Xr hw;have b4:=hT.tl;clear h1 h2 hT c0 hw;obtain⟨c6,b5⟩:∃x,x=F6 I rows 0 w r:=⟨_,rfl⟩;rw[<- b5];have a6:=Xr b5;clear b5;refine ent pl106 func106 ?_;simp (disch:=first|omega|simp) [*];refine Xv (λm gf H'=>∃(k n' : Nat)(gL:Gb)(f:Tq)(D:Nat)(Q:List Nat) (B:Nat) (sv:AV),k<=w.length/\m=w.length-k/\H'=⟨.fn gL,n'⟩/\n+1<=n'/\Aa (∀b,b<lo->gL b=g b)/\gL n=some (.cells [s1,s2] true 0)/\Aa (F7 gL lo n' T I f Q B sv)/\Aa (n ∉ Q/\n≠B) /\
  Aa (Ir I f)/\D < f.length/\f.length<=rows.length+k/\Aa (c6=F6 I f D (w.drop k) (r.drop k))/\gf 1=some (.ptr T 0)/\gf 2=some (.ptr Lg 0)/\gf 3=some (.ptr n 0)/\gf 4=some (.li D)/\gf 9=some s1/\gf 10=some (.li w.length)/\gf 11=some (.li k)) (m0:=w.length) ?_ ?_
 .refine⟨0,n+1,_,rows,0,bs,B,sv,W3 _,rfl,rfl,Wy _,⟨λb hb=>Ad (by omega)⟩,Ah,⟨A.out.keep (by omega) λa h1 h2=>Ad h2⟩,⟨λhm=>?_,by have:=A.out.bl.2;omega⟩,a0,A.out.pos,by omega,a6,by simp[*]⟩;obtain⟨j,hj,e⟩:=e6a.1 hm;have:=(A.out.rb.at' j hj (by have:=A.out.rb.len;omega)).2.1;omega
 clear A a0 a6 B sv bs;rintro m gf H' ⟨k,n',gL,f,D,Q,B,sv,hk,rfl,rfl,i4,HG,b2,A,a5,a0,a3,i5,a6,q1,q2,q3,q4,q9,i6,i7⟩ ih;refine rnd pl106 ?_;by_cases b6:k<w.length
 .have g6:(k:Int)<(w.length:Int):=by omega
  obtain⟨a1,o1,i8,i9,j0⟩:=X5 (n:=lo) (Xw (Wy lo) HG.out H1.out) b6;obtain⟨a2,o2,j1,j2,j3⟩:=X5 (n:=lo) (Xw (Wy lo) HG.out H2.out) (by omega:k<r.length);have U:=Xr (a6.out.trans (e0n b6 (by omega:k<r.length)));have j4:=of_decide_eq_true (W7.1 HW.out _ (W2 b6));generalize w[k]=x at *;generalize r[k]=o at *;obtain⟨i,rfl⟩:∃i:Nat,x=i:=⟨x.toNat,by omega⟩;have j5:i<I:=by omega
  rw[e7b] at U;have g7:=A.out.rb.len;have a7:D < Q.length:=by omega
  obtain⟨l1,l2,l3,l4⟩:=A.out.rb.at' D a7 a3;have b3:Aa (f.getD D []=f[D]):=⟨(G6 (d:=[]) a3).2⟩;rw[b3.out] at U;have a4:=(a0.out _ (W2 a3)).2;have g8:=a5a (I:=I) a7;have b7:Aa (Q[D]∈Q):=⟨W2 a7⟩;have b8:=Xr λ(g' : Gb)(n2:Nat)(row:List (Int×Int)) (h1:n'<=n2) (h2:row.length=I) (h3:g' Q[D]=some (.cells (Ar row) true 0)) (h4:∀b,b≠Q[D]->b<n'->g' b=gL b)=>show F7 g' lo n2 T I (f.set D row) Q B sv from
   ((A.out.store (g':=λz=>if z=Q[D] then g' z else gL z) a3 a7 h2 ((if_pos rfl).trans h3) λb hb=>if_neg hb).keep h1 λa k1 k2=>by
    by_cases ha:a=Q[D]
    .rw[if_pos ha]
    .rw[if_neg ha];exact h4 a ha k2)
  generalize f[D]=row at *;generalize Q[D]=b at *;have a8:i<row.length:=by omega
  have g9:(Ar row)[i*2]'(by rw[rowC_len];omega)=.lit (.int .i64 row[i].1):=(W8.1 (O9 row i a8).1).2;have j6:(Ar row).length=I*2:=by rw[rowC_len,l4]
  have a9:=a4 _ (W2 a8);have h0:Aa (row.getD i (-1,-1)=row[i]):=⟨(G6 (d:=(-1,-1)) a8).2⟩;rw[h0.out] at U;generalize row[i]=e at *;have c7:b≠T:=λh=>A.out.tn (h ▸ b7.out);have c8:b≠B:=λh=>A.out.bn (h ▸ b7.out);have h6:b≠n:=λh=>a5.out.1 (h ▸ b7.out);have j7:=A.out.gt;have c9:=A.out.tb;have j8:=A.out.tl;have j9:=A.out.bl;have h7:=a5.out.2;have h8:T≠n:=by omega
  have k0:∀p q:Int,List.take (i*2) (Ar row)++.li p::.li q::List.drop (i*2+2) (Ar row)=Ar (row.set i (p,q)):=λp q=>by
   have:=b4q a8 (p,q);unfold Am at this;simpa using this
  have k3:i*2+2<=(Ar row).length:=by omega
  have k4:i*2<(Ar row).length:=by omega
  have e5:D < (Ce I Q).length:=by rw[Pr];exact a7
  by_cases ho:o = -1
  .rw[if_pos ho] at U;subst ho;rcases A.out.gb with⟨g1,g2,g3⟩|⟨g2,g3⟩
   .subst g2;obtain rfl:D=0:=by omega
    clear a4;simp (disch:=first|omega|simp) [*];refine⟨_,_,⟨rfl,rfl⟩,by omega,λc Z=>?_,⟨_,_,_,U.out ▸ b8.out _ _ _ (Wy _) (by rw[Xe];exact l4) Ah λc Z _=>Ae Z⟩,?_,?_⟩
    .rw[Ad (by omega)];exact HG.out c Z
    .rw[U.out,<- b3.out];exact a0.out.set a3 (.inl rfl)
    .rw[U.out,Xe];omega
   .subst g2;clear a4;simp (disch:=first|omega|simp) [*];refine⟨_,_,⟨rfl,rfl⟩,by omega,λc Z=>?_,⟨_,_,_,U.out ▸ b8.out _ _ _ (Wy _) (by rw[Xe];exact l4) Ah λc Z _=>Ae Z⟩,?_,?_⟩
    .rw[Ad (by omega)];exact HG.out c Z
    .rw[U.out,<- b3.out];exact a0.out.set a3 (.inl rfl)
    .rw[U.out,Xe];omega
  .rw[if_neg ho] at U;have k5:gL Lg=some (.cells [.li I,.li Oo,lv] true 0):=(HG.out Lg e9).trans g0;have k6:∀(p q:Int),(Ar (row.set i (p,q)))[i*2]?=some (.li p):=λp q=>by
    have h1:=(O9 (row.set i (p,q)) i (by rw[Xe];exact a8)).1;rw[List.getElem_set_self] at h1;exact h1
   have k7:∀p q:Int,(Ar (row.set i (p,q))).length=I*2:=λp q=>by rw[rowC_len,Xe,l4]
   have k8:∀(X:AV),(Ce I Q++[X])[D]?=some (.sl b 0 I I):=λX=>by rw[e5v e5,W5 e5,g8]
   have k9:∀(G:Gb)(x:Option Blk),Ak G b x T=G T:=λG x=>Ae (Ne.symm c7);have l0:∀(G:Gb)(x:Option Blk),Ak G b x B=G B:=λG x=>Ae (Ne.symm c8);have l5:∀(G:Gb)(x:Option Blk),Ak G b x n=G n:=λG x=>Ae (Ne.symm h6);have e6:∀(G:Gb)(x:Option Blk),Ak G B x b=G b:=λG x=>Ae c8;have e7:∀(G:Gb)(x:Option Blk),Ak G T x b=G b:=λG x=>Ae c7;have l6:∀(G:Gb)(x:Option Blk),Ak G T x B=G B:=λG x=>Ae (Ne.symm c9);have l7:∀(G:Gb)(x:Option Blk),Ak G B x T=G T:=λG x=>Ae c9;have l8:∀(G:Gb)(x:Option Blk),Ak G B x n=G n:=λG x=>Ae h7;have l9:∀(G:Gb)(x:Option Blk),Ak G T x n=G n:=λG x=>Ae (Ne.symm h8);have e8:(Ce I Q).length=f.length:=by rw[Pr];exact g7
   have m1:f.length<=1000000:=by omega
   have b0:Aa (Ir I (f.set D (row.set i ((f.length:Int),o))++[List.replicate I (-1,-1)])):=⟨by rw[<- b3.out];exact a0.out.new a3⟩;have b1:=Xr λ(gF:Gb)(h1:gF n'=some (.cells (Ar (List.replicate I (-1,-1))) true 0)) (h2:gF (n'+1+1)=some (.cells (Ce I Q++[.sl n' 0 I I]) true 1)) (h3:gF T=some (.cells [.slq (n'+1+1) 0 (f.length+1) 0] true 0)) (h4:gF b=some (.cells (Ar (row.set i ((f.length:Int),o))) true 0)) (h5:∀c,c≠b->c≠T->c≠B->c<n'->gF c=gL c)=>show F7 gF lo (n'+1+1+1) T I (f.set D (row.set i ((f.length:Int),o))++[List.replicate I (-1,-1)]) (Q++[n']) (n'+1+1) (.slq (n'+1+1) 0 (f.length+1) 0) from by
    have hS:=b8.out (Ak gL b (some (.cells (Ar (row.set i ((f.length:Int),o))) true 0))) n' (row.set i ((f.length:Int),o)) (Wy _) (by rw[Xe];exact l4) Ah λc Z _=>Ae Z;have hP:=hS.push (g':=gF) (n':=n'+1+1+1) (b:=n') (B':=n'+1+1) (row:=List.replicate I (-1,-1)) (by simp) (Wy _) (by omega) (by omega) (by omega) (by omega) h1 (by rw[h2];simp[Ce]) (by rw[h3,Xe]) λx hx=>by
     by_cases b9:x=b
     .subst b9;rw[h4,Ah]
     .rw[Ae b9];obtain⟨j,hj,e⟩:=e6a.1 hx;have:=(A.out.rb.at' j hj (by have:=A.out.rb.len;omega)).2.1;exact h5 x b9 (λh=>A.out.tn (h ▸ hx)) (λh=>A.out.bn (h ▸ hx)) (by omega)
    rw[Xe] at hP;exact hP
   by_cases he:e.1 = -1
   .rw[if_pos he] at U;rcases A.out.gb with⟨g1,g2,g3⟩|⟨g2,g3⟩
    .subst g2;have m2:(Ce I Q).length=1:=by rw[e8];exact g1
     have m3:List.take 1 (Ce I Q)=Ce I Q:=Xn (by omega);have m4:(D:Int)<1:=by omega
     have m5:D < 1:=by omega
     have m6:((f.length:Nat):Int)=1:=by omega
     have HZ:=Xr g1;rw[g1] at U b1 b0;clear a4 a9 e8;simp (disch:=first|omega|simp) [*];refine Xs (a4z I hI _ _) ?_;rintro _ rfl;simp (disch:=first|omega|simp) [*];refine ih.out (w.length-(k+1)) _ _ (by omega) ⟨k+1,n'+1+1+1,_,_,1,Q++[n'],n'+1+1,.slq (n'+1+1) 0 (1+1) 0,by omega,rfl,rfl,by omega,⟨λc Z=>?_⟩,?_,⟨b1.out _ ?_ ?_ ?_ ?_ ?_⟩,⟨λhm=>?_,by omega⟩,b0,by rw[W1,Xe,HZ.out];simp,by rw[W1,Xe,HZ.out];simp;omega,U,by simp[*]⟩
     .simp (disch:=omega) only[Ad,Ae];exact HG.out c Z
     .simp (disch:=omega) only[Ad,Ae];exact b2
     .simp (disch:=omega) only[Ad,Ae,Ah]
     .simp (disch:=omega) only[Ae,Ah]
     .simp (disch:=omega) only[Ah]
     .simp (disch:=omega) only[Ae,e6,e7,Ah];rfl
     .intro c c1 c2 c3 c4;simp (disch:=omega) only[Ae]
     .rcases W9.1 hm with h|h
      .exact a5.out.1 h
      .have:=Xf.1 h;omega
    .subst g2;clear a4 a9;simp (disch:=first|omega|simp) [*];refine Xs (a4z I hI _ _) ?_;rintro _ rfl;simp (disch:=first|omega|simp) [*];refine ih.out (w.length-(k+1)) _ _ (by omega) ⟨k+1,n'+1+1+1,_,_,f.length,Q++[n'],n'+1+1,.slq (n'+1+1) 0 (f.length+1) 0,by omega,rfl,rfl,by omega,⟨λc Z=>?_⟩,?_,⟨b1.out _ ?_ ?_ ?_ ?_ ?_⟩,⟨λhm=>?_,by omega⟩,b0,by rw[W1,Xe];simp,by rw[W1,Xe];simp;omega,U,by simp[*]⟩
     .simp (disch:=omega) only[Ad,Ae];exact HG.out c Z
     .simp (disch:=omega) only[Ad,Ae];exact b2
     .simp (disch:=omega) only[Ad,Ae,Ah]
     .simp (disch:=omega) only[Ae,Ah]
     .simp (disch:=omega) only[Ah]
     .simp (disch:=omega) only[Ae,e6,e7,Ah]
     .intro c c1 c2 c3 c4;simp (disch:=omega) only[Ae]
     .rcases W9.1 hm with h|h
      .exact a5.out.1 h
      .have:=Xf.1 h;omega
   .rw[if_neg he] at U;obtain⟨e0,e1⟩:0<=e.1/\e.1<f.length:=by rcases a9 with h|h;exact absurd h he;exact h
    obtain⟨t,ht⟩:∃t:Nat,e.1=(t:Int):=⟨e.1.toNat,by omega⟩;rw[ht] at g9 he e1 U;rw[e7b] at U;have b4:t<f.length:=by omega
    rcases A.out.gb with⟨g1,g2,g3⟩|⟨g2,g3⟩
    .subst g2;obtain rfl:D=0:=by omega
     clear a4 a9 b1 b0 ht;simp (disch:=first|omega|simp) [*];exact ih.out (w.length-(k+1)) _ _ (by omega) ⟨k+1,n',gL,f,t,Q,B,_,by omega,rfl,rfl,by omega,HG,b2,A,a5,a0,b4,by omega,U,by simp[*]⟩
    .subst g2;clear a4 a9 b1 b0 ht;simp (disch:=first|omega|simp) [*];exact ih.out (w.length-(k+1)) _ _ (by omega) ⟨k+1,n',gL,f,t,Q,B,_,by omega,rfl,rfl,by omega,HG,b2,A,a5,a0,b4,by omega,U,by simp[*]⟩
 .have g6:¬(k:Int)<(w.length:Int):=by omega
  have m7:c6=f:=by
   rw[a6.out,e6f (by omega)];cases r.drop k<;>rfl
  simp (disch:=first|omega|simp) [*];refine⟨_,_,⟨rfl,rfl⟩,by omega,HG.out,⟨_,_,_,A.out⟩,a0.out,by omega⟩
theorem sl81:Jr prog 98=true:=by kernel_rfl
attribute [simp] sl81
theorem e0p{row:List (Int×Int)}(h:0<row.length)(Q:row.length<=1000)(g:Gb)(n b:Nat)(A:b<n)(D:g b=some (.cells (Ar row) true 0)):
  WC 0 prog 122 [.sl b 0 row.length row.length] ⟨.fn g,n⟩ λr=>∃g',r=.ret (.slq (n+1) 0 row.length 0) ⟨.fn g',n+1+1⟩/\(∀x,x<n->g' x=g x)/\g' (n+1)=some (.cells (Ar row) true 2):=by
 have f:Af g n (.sl b 0 row.length row.length) row.length (Ar row):=Ez D A;obtain⟨U,blk,Z,a0,a1⟩:=Yr (P:=prog) (sz:=2) f h (by omega) (by rw[rowC_len]);clear f;refine ent [] func122 ?_;simp (disch:=first|omega|simp) [*];intro x hx;simp (disch:=omega) only[Ad]
theorem b4r{len a:Nat}(f:0<len)(H:Mem):WC 0 prog 121 [.slq a 0 len 0] H λr=>r=.ret (.sl a 0 len len) H:=by
 refine Yz ?_;refine ent [] func121 ?_;simp (disch:=first|omega|simp) [*]
theorem mkI36:mkI prog 23=some (.nl):=by kernel_rfl
theorem e0q{a b:Int}(f:0<=a)(A:a<=b)(D:b<=1048576):Fy prog H 23 (some (.nl)) (some (.li a)) (some (.li b))=.val (.sl H.next 0 a.toNat b.toNat) (H.add (.cells (rep [.nl] b.toNat) true 0)):=by
 have hx:Ec prog H 23 (some (.li a)) (some (.li b))=_:=Pa (e:=98) (size:=1) (bytes:=24) (z:=[.nl]) (by kernel_rfl) (by decide) (by decide) (by kernel_rfl) f A D;unfold Fy;dsimp only;split
 .rename_i h;obtain⟨rfl,Q,U⟩:=h;rw[Rk]
 .exact hx
attribute [simp] mkI36 e0q
theorem a5b{e:Int×Int}:∀(l:List (Int×Int)) (k:Nat),numE k (l++[e])=numE k l++[if e.1 = -1 then e else (((k+(oldE l).length:Nat):Int),e.2)]
 | [],k=>by
  show numE k [e]=_;unfold numE oldE;split
  .rfl
  .rfl
 | a::l,k=>by
  rw[e8r];unfold numE oldE;split
  .rw[a5b l k];rfl
  .rw[a5b l (k+1),Xi,show k+1+(oldE l).length=k+((oldE l).length+1) by omega];rfl
theorem a5c{e:Int×Int}:∀(l:List (Int×Int)),oldE (l++[e])=oldE l++(if e.1 = -1 then [] else [e.1])
 | []=>by
  show oldE [e]=_;unfold oldE;split<;>rfl
 | a::l=>by
  rw[e8r];unfold oldE;split
  .exact a5c l
  .rw[a5c l];rfl
theorem numE_len:∀(l:List (Int×Int)) (k:Nat),(numE k l).length=l.length
 | [],_=>rfl
 | a::l,k=>by
  unfold numE;split
  .rw[Xi,Xi,numE_len l k]
  .rw[Xi,Xi,numE_len l (k+1)]
def El(k:Nat)(row:List (Int×Int))(i:Nat):List (Int×Int):=numE k (row.take i)++row.drop i
theorem b4s{k:Nat}{row:List (Int×Int)}{i:Nat}:(El k row i).length=row.length:=by
 unfold El;rw[W1,numE_len,Xa,e8j];omega
theorem e0r{k:Nat}{row:List (Int×Int)}{i:Nat}(h:i<row.length):(El k row i)[i]'(by rw[b4s];exact h)=row[i]:=by
 unfold El;have f:(numE k (row.take i)).length=i:=by rw[numE_len,Xa];omega
 rw[e7e (by omega)];simp[f]
theorem e0s{k:Nat}{row:List (Int×Int)}{i:Nat}(h:i<row.length):El k row (i+1)=if row[i].1 = -1 then El k row i else (El k row i).set i (((k+(oldE (row.take i)).length:Nat):Int),row[i].2):=by
 unfold El;have A:(numE k (row.take i)).length=i:=by rw[numE_len,Xa];omega
 have f:row.drop i=row[i]::row.drop (i+1):=Xh h;rw[Df h,a5b,e5z];split
 .rw[f];rfl
 .rw[e8e _ _ (by omega),A,e6n,f];rfl
theorem e0t{l:List AV}{off:Nat}{u v:AV}(h:l[off+1]?=some v):Am l off [u,v]=l.set off u:=by
 obtain⟨f,A⟩:=W8.1 h;unfold Am;rw[List.set_eq_take_append_cons_drop,if_pos (by omega),e5z];congr 1;show u::v::l.drop (off+2)=_;rw[Xh f,A]
theorem e0u{row:List (Int×Int)}{i:Nat}(hi:i<row.length)(p:Int):(Ar row).set (i*2) (.li p)=Ar (row.set i (p,row[i].2)):=by
 rw[<- b4q hi (p,row[i].2)];exact(e0t (O9 row i hi).2).symm
theorem oldE_take:∀(row:List (Int×Int)) (i:Nat),(oldE (row.take i)).length<=(oldE row).length
 | [],i=>by rw[List.take_nil];exact Wy _
 | e::row,0=>W3 _
 | e::row,i+1=>by
  rw[List.take_succ_cons];unfold oldE;have:=oldE_take row i;split
  .exact this
  .rw[Xi,Xi];omega
end Go.Ai
