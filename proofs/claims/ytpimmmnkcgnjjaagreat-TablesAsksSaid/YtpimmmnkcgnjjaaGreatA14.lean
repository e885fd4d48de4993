/- Parts of an interpreter and of a proof. No condition. -/
import Derived.Test.YtpimmmnkcgnjjaaGreatA13
import Derived.Test.YtpimmmnkcgnjjaaGreatA06
set_option linter.all false
set_option maxHeartbeats 40000000
set_option maxRecDepth 10000
open Go.Proofs Go.Proofs.Tryz
namespace Go.Ai
variable {g g':Gb}{n x y z B n' a:Nat}{l:Wq}{sv lv:AV}{ts:Lq}
def Iz(x y z:Nat)(g:Gb):Gb:=λa=>if a=x\/a=y\/a=z then none else g a
theorem b5o{u:Blk}(h:Iz x y z g a=some u):g a=some u:=by
 unfold Iz at h;split at h
 .cases h
 .exact h
theorem Pt(h:a≠x)(A:a≠y)(D:a≠z):Iz x y z g a=g a:=if_neg (by omega)
theorem e2k(h:a≠x->a≠y->a≠z->g' a=g a):Iz x y z g' a=Iz x y z g a:=by
 unfold Iz;split
 .rfl
 .exact h (by omega) (by omega) (by omega)
def Bb(g:Gb)(n:Nat)(l:Wq)(sv:AV):Prop:=∃svs,Af g n sv l.length svs/\RowsW g n l svs/\∀q∈svs,Ay q
theorem Bb.ext(h:Bb g n l sv)(A:n<=n')(D:∀a x,a<n->g a=some x->g' a=some x):Bb g' n' l sv:=
 let ⟨svs,Q,U,Z⟩:=h;⟨svs,Xz A D Q,U.ext A D,Z⟩
theorem Bb.listV(h:Bb g n l sv):Bs g n l sv:=let ⟨svs,A,D,_⟩:=h;⟨svs,A,D⟩
theorem Bb.one(h:Bb g n l sv):oneC sv=true:=let ⟨_,A,_⟩:=h;A.one
theorem Bb.cell(h:Bb g n l sv):cellsOf sv=[sv]:=let ⟨_,A,_⟩:=h;A.cell
theorem Al.ofq{k c:Nat}{w:Wd}{own:Bool}(h:g B=some (.cells (wdC w) own z))(A:B<n)(D:k=w.length):Al g n w (.slq B 0 k c):=by
 subst D;exact .inr ⟨B,0,A,.inr ⟨c,rfl⟩,wdC w,own,z,h,by simp[*]⟩
abbrev Yr:=@Al.ofq
theorem Bb.hid(h:Bb (Bl x y z g) n l sv)(A:n<=n')(D:∀a,a<n->x<a->a≠y->a≠z->g' a=g a):Bb (Bl x y z g') n' l sv:=
 h.ext A λa w Q U=>(a5h λZ h2 h3=>D a Q Z h2 h3).trans U
theorem b5p(a1:l.length<=30000){w:Wd}(a2:w.length<=1000)(a3:∀x∈l,x.length<=1000)(x y z:Nat)(g:Gb)(n:Nat)(hx:x<n)(hy:y<n)(hz:z<n)(lv A:AV)(hl:Bb (Bl x y z g) n l lv)(hw:Al (Bl x y z g) n w A)(hc:Ay A):
  WC 0 prog 60 [lv,A] ⟨.fn g,n⟩ λr=>∃D g' n',r=.ret D ⟨.fn g',n'⟩/\n<=n'/\(∀b,b<n->g' b=g b)/\Bb (Bl x y z g') n' (Em l w) D:=by
 obtain⟨svs,h1,U,h3⟩:=hl;refine Xv (e2h a1 a2 a3 g (Bl x y z g) (λa z h=>Mz h) n lv A svs h1 U hw) ?_;rintro _ ⟨D,g',n',rfl,Q,Z,a4⟩;refine⟨D,g',n',rfl,Q,Z,?_⟩;rcases a4 with⟨e,rfl⟩|⟨e,B,a5⟩
 .rw[e];exact Bb.hid ⟨svs,h1,U,h3⟩ Q λa ha _ _ _=>Z a ha
 .have a0:∀a u,a<n->Bl x y z g a=some u->Bl x y z g' a=some u:=λa u ha hz=>(a5h λ_ _ _=>Z a ha).trans hz;refine⟨svs++[A],?_,?_,?_⟩
  .refine Xz (Wy _) (λa u _ hu=>?_) a5.slice;split at hu
   .rename_i h;rw[Gz (by omega) (by omega) (by omega)];exact hu
   .cases hu
  .rw[e];exact Yq (U.ext Q a0) (Xz Q a0 hw)
  .intro q hq;rcases W9.1 hq with h|h
   .exact h3 q h
   .rw[Xh.1 h];exact hc
theorem RowsT.snocT{cs:List AV}(h:RowsT g n ts cs){t:List Int×Wd}{s1 s2:AV}(Q:Al g n t.1 s1)(U:Al g n t.2 s2):RowsT g n (ts++[t]) (cs++[s1,s2]):=by
 have A:=h.1;refine⟨by simp[A];omega,λk Z=>?_⟩;rw[W0,Xg] at Z;by_cases D:k<ts.length
 .obtain⟨u1,u2,e1,e2,e3,e4⟩:=h.2 k D;rw[e6f D];exact⟨u1,u2,by rw[Xs (by omega)];exact e1,by rw[Xs (by omega)];exact e2,e3,e4⟩
 .have a0:k=ts.length:=by omega
  subst a0;refine⟨s1,s2,?_,?_,?_,?_⟩
  .rw[Xq (by omega),A,e6h];rfl
  .rw[Xq (by omega),A,show ts.length*2+1-ts.length*2=1 by omega];rfl
  .simpa using Q
  .simpa using U
def Fc(g:Gb)(lo n x y B:Nat)(ts:Lq)(lv:AV):Prop:=∃cs,A6 g lo n B lv ts.length 2 cs/\RowsT (Iz x y B g) n ts cs/\∀v∈cs,Ay v
theorem Fc.one{lo:Nat}(h:Fc g lo n x y B ts lv):oneC lv=true:=let ⟨_,A,_⟩:=h;A.one
theorem Fc.keep{lo:Nat}(h:Fc g lo n x y B ts lv)(A:n<=n')(D:B≠x/\B≠y)(Q:∀a,a<n->a≠x->a≠y->g' a=g a):Fc g' lo n' x y B ts lv:=by
 obtain⟨cs,U,Z,h3⟩:=h;refine⟨cs,U.keep A λ_ h5=>Q B h5 D.1 D.2,Z.ext A λa z ha hz=>?_,h3⟩;exact(e2k λk1 k2 _=>Q a ha k1 k2).trans hz
theorem Fc.logX{lo:Nat}(h:Fc g lo n x y B ts lv):F6 g n ts lv:=by
 obtain⟨cs,D,Q,U⟩:=h;refine⟨cs,Xz (Wy _) (λa z _ A=>?_) D.slice,Q.ext (Wy _) λa z _ A=>b5o A,U⟩;split at A
 .exact A
 .cases A
theorem Fc.snoc{lo B': Nat}{cs:List AV}{t:List Int×Wd}{s1 s2:AV}(U:RowsT (Iz x y B g) n ts cs)(Z:∀v∈cs,Ay v)(a0:cs.length=ts.length*2)(hn:n<=n')(Q:n<=B'/\B' < n'/\lo<=B')(hg:∀a,a<n->a≠x->a≠y->a≠B->g' a=g a)(hb:g' B'=some (.cells (cs++[s1,s2]) true 2))
  (k1:Al (Iz x y B' g') n' t.1 s1) (k2:Al (Iz x y B' g') n' t.2 s2) (c1:Ay s1) (c2:Ay s2) {len:Nat} (hl:len=ts.length):Fc g' lo n' x y B' (ts++[t]) (.slq B' 0 (len+1) 0):=by
 subst hl;refine⟨cs++[s1,s2],?_,RowsT.snocT (U.ext hn λa z ha D=>?_) k1 k2,?_⟩
 .rw[W0,Xg];exact .mk hb Q.2.2 Q.2.1 (by rw[W0,a0];simp;omega)
 .have A:a≠x/\a≠y/\a≠B:=by
   unfold Iz at D;split at D
   .cases D
   .omega
  rw[Pt A.1 A.2.1 (by omega),hg a ha A.1 A.2.1 A.2.2];exact b5o D
 .intro v hv;rcases W9.1 hv with h|h
  .exact Z v h
  .rcases Xb.1 h with rfl|h
   .exact c1
   .rw[Xh.1 h];exact c2
theorem e2l{st b3 b6:Nat}{part:Bool}{es:List Nat}{ev:AV}{ws:List (List Nat)}{wv:AV}(ia ib ic:Int){sb:List Nat}(q7:∀b∈sb,b<256){eb:List (List Nat)}(q8:∀w∈eb,∀b∈w,b<256)(full:Bool)(g:Gb)(n:Nat)(hI:InG g n st b3 b6 es ev ws wv)(k4 k5:AV)(hS:Hz g n sb k4)(hE:Jz g n eb k5):
  WC 0 prog 16 [.agg [.lit (.int .u8 st),.lit (.int .u8 b3),.lit (.int .u8 b6),.lit (.bool part),ev,wv,.lit (.int .u8 ia),.lit (.int .u8 ib),.lit (.int .u8 ic),k4,k5,.lit (.bool full)]] ⟨.fn g,n⟩ λr=>∃sv e2 tv g' n',r=.ret (.agg [.lit (.int .i64 (Bz st b3 b6 part es).inp),.lit (.int .i64 (Bz st b3 b6 part es).out),sv,e2,.lit (.int .i64 (Bz st b3 b6 part es).inp),.lit (.int .i64 (Bz st b3 b6 part es).out),tv]) ⟨.fn g',n'⟩/\n<=n'/\(∀b,b<n->g' b=g b)/\Bb (B9 n g') n' (qSx (Bz st b3 b6 part es) sb) sv/\Bb (B9 n g') n' (qEx (Bz st b3 b6 part es) eb) e2/\Dv (B9 n g') n' (Aj (Bz st b3 b6 part es).inp.toNat (qLx (Bz st b3 b6 part es) ws full (qSx (Bz st b3 b6 part es) sb) (qEx (Bz st b3 b6 part es) eb))) tv:=by
 have y2:=hI.se.one;have y3:=hI.sw.choose_spec.1.one;have y4:=hS.one;have y5:=hE.choose_spec.1.one;have bo:allOne [.lit (.int .u8 st),.lit (.int .u8 b3),.lit (.int .u8 b6),.lit (.bool part),ev,wv,.lit (.int .u8 ia),.lit (.int .u8 ib),.lit (.int .u8 ic),k4,k5,.lit (.bool full)]=true:=by simp[y2,y3,y4,y5]
 have HI:=Xu hI;have hM:=Un st b3 b6 part es;have y6:(Bz st b3 b6 part es).inp<=3:=by show 1+((b3 % 3:Nat):Int)<=3;omega
 have q9:=Xu λ(gX:Gb)(n2:Nat)(hn:n<=n2)(hX:∀b,b<n->gX b=g b)=>a4j st b3 b6 part es ev gX n2 hI.b0 hI.b1 hI.b2 (hI.se.mono hn hX) hI.eb;have r0:=Xu λ(gX:Gb)(n2:Nat)(hn:n<=n2)(hX:∀b,b<n->gX b=g b)=>e2j (part:=part) ia ib ic gX n2 (hI.mono hn hX);have bp:=@Ap prog _ _ _ _ _ hS;have bq:=@Ap prog _ _ _ _ _ hE.choose_spec.1;have y7:=Xu hS;have y8:=Xu hE;have y9:=Xu q7;have z0:=Xu q8;clear hI hS hE q7 q8;generalize Bz st b3 b6 part es=M at *;have HM:=Xu hM;obtain⟨I,hI⟩:∃I:Nat,M.inp=I:=⟨M.inp.toNat,by have:=hM.1;omega⟩;obtain⟨O,hO⟩:∃O:Int,M.out=O:=⟨_,rfl⟩;have br:I<=3:=by omega
 have bs:1<=I:=by have:=hM.1;omega
 obtain⟨SS,i6⟩:∃x,x=qSx M sb:=⟨_,rfl⟩;obtain⟨EE,i7⟩:∃x,x=qEx M eb:=⟨_,rfl⟩;obtain⟨LL,k6⟩:∃x,x=qLx M ws full SS EE:=⟨_,rfl⟩;rw[<- i6,<- i7,<- k6];have c2:Aa (QOK M SS EE LL):=⟨by rw[i6,i7,k6,i6,i7];exact b5g hM y6 ws sb eb full⟩;have r1:Aa (LL=D9 M ws++if full=true then (H7 (Am I SS) EE).map (runT M) else []):=⟨by rw[k6];unfold qLx;rw[hI];rfl⟩;have z1:Aa (SS=qS I (sb.take 5) [[]]):=⟨by rw[i6];unfold qSx;rw[hI];rfl⟩;have z2:Aa (EE=qE ((eb.take 3).map λx=>C0 x I 4) (qE0 I)):=⟨by rw[i7];unfold qEx;rw[hI];rfl⟩;clear i6 i7 k6 hM;refine ent pl16 func16 ?_;simp (disch:=first|omega|simp) [*];refine Xv (q9.out _ _ (by omega) λb hb=>?_) ?_
 .simp (disch:=omega) only[Ad]
 rintro _ ⟨cs,g1,n1,rfl,bt,k7,n7⟩;obtain⟨rv,rfl,z3⟩:=n7.rep.one;rw[hI,hO];have bu:allOne [.li I,.li O,rv]=true:=by simp[z3]
 have i8:Aa (∀b,b<n->g1 b=g b):=⟨λb hb=>(k7 b (by omega)).trans (by simp (disch:=omega) only[Ad])⟩;have r2:g1 n=some (.cells [.lit (.int .u8 st),.lit (.int .u8 b3),.lit (.int .u8 b6),.lit (.bool part),ev,wv,.lit (.int .u8 ia),.lit (.int .u8 ib),.lit (.int .u8 ic),k4,k5,.lit (.bool full)] true 0):=(k7 n (by omega)).trans (by simp (disch:=omega) only[Ad,Ag]);have z4:Aa (g1 (n+1)=some (.cells [.li 0,.li 0,.nl,.nl,.li 0,.li 0,.nl] true 0)):=⟨(k7 (n+1) (by omega)).trans Ag⟩;have z5:=Xu n7;clear k7 n7 q9;simp (disch:=first|omega|simp) [*];refine Xv (r0.out _ _ (by omega) λb hb=>?_) ?_
 .simp (disch:=omega) only[Ad];exact i8.out b hb
 rintro _ ⟨lv,g2,n2,B2,rfl,n8,n9,o0⟩;have bw:allOne [.li I,.li O,lv]=true:=by simp[o0.one]
 rw[hI,hO];have g7:Aa (∀b,b<n1->g2 b=g1 b):=⟨λb hb=>(n9 b (by omega)).trans (by simp (disch:=omega) only[Ad])⟩;have r3:=(g7.out n (by omega)).trans r2;have r4:g2 n1=some (.cells [.li I,.li O,rv] true 0):=(n9 n1 (by omega)).trans Ag;have r5:=Xu o0;have i9:=Xu r3;have k8:=Xu r4;clear n9 o0 r2 r0;simp (disch:=first|omega|simp) [*];obtain⟨D,bx,z6,z7,r6⟩:∃D,D<=n2/\n1+1<=D/\Aa (D=n2/\lv=.nl\/D<n2)/\Aa (∃cs,A6 g2 (n1+1) n2 D lv (D9 M ws).length 2 cs/\RowsT (Dc D g2) n2 (D9 M ws) cs/\∀v∈cs,Ay v):=by
  obtain⟨cs,k1,k2,k3⟩:=r5.out;have c6:RowsT (Dc B2 g2) n2 (D9 M ws) cs:=⟨k2.1,λk hk=>by
   obtain⟨s1,s2,e1,e2,e3,e4⟩:=k2.2 k hk;refine⟨s1,s2,e1,e2,?_,?_⟩
   .obtain⟨gk,q1,q2⟩:=e3;exact Xz (Wy _) (λa z _ hz=>by rw[Ew (q1 a z hz).2.2.2];exact(q1 a z hz).1) q2
   .obtain⟨gk,q1,q2⟩:=e4;exact Xz (Wy _) (λa z _ hz=>by rw[Ew (q1 a z hz).2.2.2];exact(q1 a z hz).1) q2⟩
  rcases k1 with⟨e1,e2,e3⟩|k1
  .refine⟨n2,Wy _,n8,⟨.inl ⟨rfl,e3⟩⟩,⟨cs,.inl ⟨e1,e2,e3⟩,⟨c6.1,λk hk=>by omega⟩,k3⟩⟩
  .exact⟨B2,Xr k1.2.2.2.1,k1.2.2.1,⟨.inr k1.2.2.2.1⟩,⟨cs,.inr k1,c6,k3⟩⟩
 clear r5;refine Xy (λm A H'=>∃(i nc B:Nat)(gL:Gb)(e2:AV)(cs:List AV),i<=I/\m=I-i/\H'=⟨.fn gL,nc⟩/\n2+1+1+1+1<=nc/\Aa (∀b,b<n2->gL b=g2 b)/\gL n2=some (.cells [.li I,.li O,lv] true 0)/\gL (n2+1)=some (.cells [] true 0)/\gL (n2+1+1)=some (.cells [.sl (n2+1) 0 0 0] true 0) /\
  gL (n2+1+1+1)=some (.cells [.li I,.li O,.sl (n2+1+1) 0 1 1,e2,.li 0,.li 0,.nl] true 0)/\Aa (A6 gL (n2+1+1+1+1) nc B e2 i 1 cs)/\Aa (RowsW (Dc B (Bl n2 (n2+1+1+1) D gL)) nc (qE0 i) cs)/\Aa (∀q∈cs,Ay q) /\
  A 1=some (.ptr n 0)/\A 2=some (.ptr (n+1) 0)/\A 3=some (.ptr n1 0)/\A 4=some (.ptr n2 0)/\A 5=some (.ptr (n2+1+1+1) 0)/\A 6=some (.li i)) (m0:=I) ?_ ?_
 .refine⟨0,_,0,_,.nl,[],W3 _,rfl,rfl,Wy _,⟨λb hb=>?_⟩,?_,?_,?_,Ag,⟨.inl ⟨rfl,rfl,rfl⟩⟩,⟨⟨rfl,λk hk=>by cases hk⟩⟩,⟨λq hq=>by cases hq⟩,by simp[*]⟩
  .simp (disch:=omega) only[Ad]
  .simp (disch:=omega) only[Ad,Ag]
  .simp (disch:=omega) only[Ad,Ag]
  .simp (disch:=omega) only[Ad,Ag]
 clear r3 r4;rintro m A H' ⟨i,nc,B,gL,e2,cs,hi,rfl,rfl,bz,Q,a0,k9,l0,a4,l1,o1,o2,w1,w2,w3,w4,w5,w6⟩ ih;have e5:=(Q.out n1 (by omega)).trans k8.out;have ca:oneC e2=true:=l1.out.one;refine rnd pl16 ?_;by_cases b8:i<I
 .have e6:(i:Int)<(I:Int):=by omega
  have r7:Aa (qE0 (i+1)=qE0 i++[[(i:Int)]]):=⟨by unfold qE0;rw[e8z,e6m];rfl⟩;rcases l1.out with⟨h6,e7,b9⟩|⟨h6,b9,r8,r9,h5,s0⟩
  .subst b9;have HZ:=Xu (And.intro h6 e7);clear h6 e7;simp (disch:=first|omega|simp) [*];have h0:cs=[]:=HZ.out.2;refine ih.out (I-(i+1)) _ _ (by omega) ⟨i+1,nc+1+1+1,nc+1+1,_,.slq (nc+1+1) 0 1 0,[.sl nc 0 1 1],by omega,rfl,rfl,by omega,⟨λb hb=>?_⟩,?_,?_,?_,Ag,⟨?_⟩,⟨?_⟩,⟨λq hq=>?_⟩,by simp[*]⟩
   .simp (disch:=omega) only[Ad,Ae];exact Q.out b hb
   .simp (disch:=omega) only[Ad,Ae];exact a0
   .simp (disch:=omega) only[Ad,Ae];exact k9
   .simp (disch:=omega) only[Ad,Ae];exact l0
   .rw[HZ.out.1];refine .mk ?_ (by omega) (by omega) (by simp);simp (disch:=omega) only[Ad,Ae,Ag]
   .rw[r7.out,HZ.out.1];refine Yq (l:=[]) (svs:=[]) ⟨rfl,λk hk=>by cases hk⟩ (Yj (own:=true) (z:=0) (w:=[(0:Int)]) ?_ (by omega));rw[Ew (by omega),Gz (by omega) (by omega) (by omega)];simp (disch:=omega) only[Ad,Ae,Ag];rfl
   .rw[Xh.1 hq];exact λ_ _ _ _ e=>by cases e;exact Wy _
  .subst b9;simp (disch:=first|omega|simp) [*];refine ih.out (I-(i+1)) _ _ (by omega) ⟨i+1,nc+1+1+1,nc+1+1,_,.slq (nc+1+1) 0 (i+1) 0,cs++[.sl nc 0 1 1],by omega,rfl,rfl,by omega,⟨λb hb=>?_⟩,?_,?_,?_,Ag,⟨?_⟩,⟨?_⟩,⟨λq hq=>?_⟩,by simp[*]⟩
   .simp (disch:=omega) only[Ad,Ae];exact Q.out b hb
   .simp (disch:=omega) only[Ad,Ae];exact a0
   .simp (disch:=omega) only[Ad,Ae];exact k9
   .simp (disch:=omega) only[Ad,Ae];exact l0
   .refine .mk ?_ (by omega) (by omega) (by simp;omega);simp (disch:=omega) only[Ad,Ae,Ag]
   .rw[r7.out];refine Yq (o1.out.ext (by omega) λa x ha hx=>?_) (Yj (own:=true) (z:=0) (w:=[(i:Int)]) ?_ (by omega))
    .by_cases cb:a<=n2
     .have:=Oe (Js hx);omega
     have s3:n2<a:=by omega
     by_cases s4:a=n2+1+1+1
     .have:=Oe (Js hx);omega
     by_cases s5:a=D
     .have:=Oe (Js hx);omega
     by_cases j0:a=B
     .subst j0;exact absurd hx (by unfold Dc;simp)
     rw[Ew (by omega),Gz s3 s4 s5];rw[Ew j0,Gz s3 s4 s5] at hx;simp (disch:=omega) only[Ad,Ae];exact hx
    .rw[Ew (by omega),Gz (by omega) (by omega) (by omega)];simp (disch:=omega) only[Ad,Ae,Ag];rfl
   .rcases W9.1 hq with h|h
    .exact o2.out q h
    .rw[Xh.1 h];exact λ_ _ _ _ e=>by cases e;exact Wy _
 .have e6:¬(i:Int)<(I:Int):=by omega
  have o4:i=I:=by omega
  have s6:Aa (Bb (Bl n2 (n2+1+1+1) D gL) nc (qE0 I) e2):=⟨by
   have h7:=l1.out;rw[o4] at h7;have z8:(qE0 I).length=I:=by simp[qE0]
   refine⟨cs,?_,?_,o2.out⟩
   .rw[z8];refine Xz (Wy _) (λa x _ hx=>?_) h7.slice;split at hx
    .rename_i h;rw[Gz (by omega) (by omega) (by omega)];exact hx
    .cases hx
   .have:=o1.out;rw[o4] at this;exact this.ext (Wy _) λa x _ hx=>Js hx⟩
  have s7:Aa (Bb (Bl n2 (n2+1+1+1) D gL) nc [[]] (.sl (n2+1+1) 0 1 1)):=⟨by
   refine⟨[.sl (n2+1) 0 0 0],Gm (own:=true) (z:=0) ((Gz (by omega) (by omega) (by omega)).trans l0) (by omega),?_,λq hq=>?_⟩
   .exact Yq (l:=[]) (svs:=[]) ⟨rfl,λk hk=>by cases hk⟩ (Yj (own:=true) (z:=0) (w:=[]) ((Gz (by omega) (by omega) (by omega)).trans k9) (by omega))
   .rw[Xh.1 hq];exact λ_ _ _ _ e=>by cases e;exact Wy _⟩
  clear k9 l0 l1 o1 o2;simp (disch:=first|omega|simp) [*];clear ih hi b8 e6 o4;refine Yn (K:=Jw 2 λA gN a1=>∃sv,nc<=a1/\Aa (∀b,b<n2->gN b=g2 b)/\gN n2=some (.cells [.li I,.li O,lv] true 0)/\gN (n2+1+1+1)=some (.cells [.li I,.li O,sv,e2,.li 0,.li 0,.nl] true 0)/\Aa (Bb (Bl n2 (n2+1+1+1) D gN) a1 SS sv)/\Aa (Bb (Bl n2 (n2+1+1+1) D gN) a1 (qE0 I) e2)/\A 1=some (.ptr n 0)/\A 2=some (.ptr (n+1) 0)/\A 3=some (.ptr n1 0)/\A 4=some (.ptr n2 0)/\A 5=some (.ptr (n2+1+1+1) 0)) ?_ ?_
  rotate_left
  .rintro _ ⟨A,gN,a1,rfl,sv,h8,Q,a0,a4,a6,b4,w1,w2,w3,w4,w5⟩;simp (disch:=first|omega|simp) [*];have e8:=(Q.out n (by omega)).trans i9.out;refine Yn (K:=Jw 4 λA gN a1=>∃e2,nc<=a1/\Aa (∀b,b<n2->gN b=g2 b)/\gN n2=some (.cells [.li I,.li O,lv] true 0)/\gN (n2+1+1+1)=some (.cells [.li I,.li O,sv,e2,.li 0,.li 0,.nl] true 0)/\Aa (Bb (Bl n2 (n2+1+1+1) D gN) a1 SS sv)/\Aa (Bb (Bl n2 (n2+1+1+1) D gN) a1 EE e2)/\A 1=some (.ptr n 0)/\A 2=some (.ptr (n+1) 0)/\A 3=some (.ptr n1 0)/\A 4=some (.ptr n2 0)/\A 5=some (.ptr (n2+1+1+1) 0)) ?_ ?_
   rotate_left
   .clear Q a0 a4 a6 b4 w1 w2 w3 w4 w5 e8 h8;rintro _ ⟨A,gN,a1,rfl,e3,h8,Q,a0,a4,a6,b4,w1,w2,w3,w4,w5⟩;simp (disch:=first|omega|simp) [*];have cc:=c2.out.s.len;have s8:=c2.out.e.len;rw[hI,e6i] at s8;refine Xv (e1x n2 (n2+1+1+1) D (I:=I) (by omega) (S:=SS) (by omega) c2.out.s.pos (λw hw=>by have:=(c2.out.s.wl w hw).1;omega) (.li O) e3 (.li 0) (.li 0) (.nl) rfl b4.out.one rfl rfl rfl gN a1 (by omega) (by omega) (by omega) sv a6.out.listV) ?_;rintro _ ⟨ov,g3,n3,rfl,h9,b5,BW,z9,s9,u0⟩;have cd:(Am I SS).length<=24:=by
     unfold Am;rw[W0,Vx];have:SS.length*I<=6*3:=e5x (by omega) (by omega);omega
    have o5:Aa (Bs (Bl n2 (n2+1+1+1) D g3) n3 (Am I SS) ov):=⟨⟨z9,Xz (Wy _) (λa z _ hz=>by
     split at hz
     .rename_i h;rw[Gz (by omega) (by omega) (by omega)];exact hz
     .cases hz) s9.slice,u0⟩⟩
    have u1:Aa (Bb (Bl n2 (n2+1+1+1) D g3) n3 SS sv):=⟨a6.out.hid h9 λa ha _ _ _=>b5 a ha⟩;have l2:Aa (Bb (Bl n2 (n2+1+1+1) D g3) n3 EE e3):=⟨b4.out.hid h9 λa ha _ _ _=>b5 a ha⟩;have a5:Aa (∀b,b<n2->g3 b=g2 b):=⟨λb hb=>(b5 b (by omega)).trans (Q.out b hb)⟩;have c7:=(b5 n2 (by omega)).trans a0;have e9:=(b5 (n2+1+1+1) (by omega)).trans a4;have u5:Aa (Fc g3 (n1+1) n3 n2 (n2+1+1+1) D (D9 M ws) lv):=⟨by
     obtain⟨cs,q1,q2,q3⟩:=r6.out;refine⟨cs,q1.keep (by omega) λ_ h=>a5.out D h,q2.ext (by omega) λa z ha hz=>?_,q3⟩;have j0:a≠D:=λe=>by subst e;exact absurd hz (by unfold Dc;simp)
     rw[Ew j0] at hz;rw[Pt (by omega) (by omega) j0];exact(a5.out a ha).trans hz⟩
    have aa:Aa (∀w∈Am I SS,w.length<=6/\inW w I=true):=⟨λw hw=>by
     have Z:=c2.out.s;rw[hI,e6i] at Z;exact Vy Z w hw⟩
    have g0:Aa (∀e∈EE,0<e.length/\e.length<=4/\inW e I=true):=⟨λw hw=>by
     have Z:=c2.out.e;rw[hI,e6i] at Z;exact Z.wl w hw⟩
    clear s9 u0 b5 Q a0 a4 a6 b4;have ce:=@Ap prog _ _ _ _ _ o5.out.choose_spec.1;have cf:=@Ap prog _ _ _ _ _ l2.out.choose_spec.1;have cg:=o5.out.choose_spec.1.one;have ab:=l2.out.one;have o6:=u1.out.one;generalize Am I SS=WW at *;simp (disch:=first|omega|simp) [*];refine Yn (K:=Jw 6 λA gN a1=>∃l3 B,n3<=a1/\Aa (∀b,b<n3->b≠n2->b≠(n2+1+1+1)->b≠D->gN b=g3 b)/\gN n2=some (.cells [.li I,.li O,l3] true 0)/\gN (n2+1+1+1)=some (.cells [.li I,.li O,sv,e3,.li 0,.li 0,.nl] true 0)/\Aa (Fc gN (n1+1) a1 n2 (n2+1+1+1) B LL l3)/\A 1=some (.ptr n 0)/\A 2=some (.ptr (n+1) 0)/\A 3=some (.ptr n1 0)/\A 4=some (.ptr n2 0)/\A 5=some (.ptr (n2+1+1+1) 0)) ?_ ?_
    rotate_left
    .rintro _ ⟨A,gN,a1,rfl,l3,B,h8,Q,a0,a4,ac,w1,w2,w3,w4,w5⟩;simp (disch:=first|omega|simp) [*];have ad:Cg I O LL:=⟨by have:=c2.out.len;omega,by omega,by omega,by have:=HM.out.2.2.1;omega,by have:=HM.out.2.2.2.1;omega,λt ht=>by have:=c2.out.wl t ht;omega,by have:=c2.out.runs.valid HM.out;rw[hI,hO] at this;exact this⟩;refine Xv (e0w ad c2.out.runs.cons gN a1 l3 ac.out.logX) ?_;rintro _ ⟨tv,g5,n5,rfl,ch,i1,l4⟩;have u6:=l4.choose_spec.1.one;have ci:=l4.choose_spec.1.cell;have cj:=(i1 n2 (by omega)).trans a0;have ck:=(i1 (n2+1+1+1) (by omega)).trans a4;have cm:=(i1 (n+1) (by omega)).trans ((Q.out (n+1) (by omega) (by omega) (by omega) (by omega)).trans ((a5.out (n+1) (by omega)).trans ((g7.out (n+1) (by omega)).trans z4.out)));have ae:Aa (∀b,b<n->g5 b=g b):=⟨λb hb=>(i1 b (by omega)).trans ((Q.out b (by omega) (by omega) (by omega) (by omega)).trans ((a5.out b (by omega)).trans ((g7.out b (by omega)).trans (i8.out b hb))))⟩;have u7:Aa (∀b,b<n3->b≠n2->b≠(n2+1+1+1)->b≠D->g5 b=g3 b):=⟨λb Z U h3 h4=>(i1 b (by omega)).trans (Q.out b Z U h3 h4)⟩;have ag:=Xu l4;have cn:allOne [.li I,.li O,tv]=true:=by simp[u6]
     have cp:allOne [.li I,.li O,sv,e3,.li I,.li O,tv]=true:=by simp[u6,o6,ab]
     clear l4 i1 a0 a4;simp (disch:=first|omega|simp) [*];refine⟨_,_,_,_,_,⟨⟨rfl,rfl,rfl⟩,rfl,rfl⟩,by omega,λb hb=>?_,?_,?_,?_⟩
     .simp (disch:=omega) only[Ae];exact ae.out b hb
     .refine u1.out.ext (by omega) λa z ha hz=>?_;obtain⟨Z,U,h3⟩:=Oe hz;rw[De (by omega)];simp (disch:=omega) only[Ae];exact(u7.out a ha (by omega) U h3).trans (Mz hz)
     .refine l2.out.ext (by omega) λa z ha hz=>?_;obtain⟨Z,U,h3⟩:=Oe hz;rw[De (by omega)];simp (disch:=omega) only[Ae];exact(u7.out a ha (by omega) U h3).trans (Mz hz)
     .obtain⟨svs,q1,q2⟩:=ag.out;refine⟨svs,Xz (Wy _) (λa z _ hz=>?_) q1,q2.ext (Wy _) λa z _ hz=>?_⟩
      .obtain⟨Z,U⟩:=Gy hz;rw[De (by omega)];simp (disch:=omega) only[Ae];exact U
      .obtain⟨Z,U⟩:=Gy hz;rw[De (by omega)];simp (disch:=omega) only[Ae];exact U
    have cq:(D9 M ws).length<=12:=by unfold D9;rw[Xl,W4];omega
    have u9:=(a5.out n (by omega)).trans i9.out
    cases full with
    | false =>
     have l5:Aa (Fc g3 (n1+1) n3 n2 (n2+1+1+1) D LL lv):=⟨by
      have e:LL=D9 M ws:=by rw[r1.out];simp
      rw[e];exact u5.out⟩
     have HK:Aa (∀b,b<n3->b≠n2->b≠(n2+1+1+1)->b≠D->g3 b=g3 b):=⟨λ_ _ _ _ _=>rfl⟩;refine rnd pl16 ?_;by_cases hw:0<WW.length
     .have ah:(0:Int)<(WW.length:Int):=by omega
      simp (disch:=first|omega|simp) [*];exact⟨⟨trivial⟩,D,l5⟩
     .have ah:¬(0:Int)<(WW.length:Int):=by omega
      simp (disch:=first|omega|simp) [*];exact⟨⟨trivial⟩,D,l5⟩
    | true =>
     have HK:Aa (∀b,b<n3->b≠n2->b≠(n2+1+1+1)->b≠D->g3 b=g3 b):=⟨λ_ _ _ _ _=>rfl⟩;have ai:Aa (D≠n2\/D9 M ws=[]):=⟨by
      rcases z7.out with⟨Z,U⟩|Z
      .right;obtain⟨cs,q1,_⟩:=r6.out;rcases q1 with⟨e1,_⟩|⟨_,e2,_⟩
       .exact e6j.1 e1
       .rw[U] at e2;cases e2
      .left;omega⟩
     refine Xy (λm A H'=>∃(k nP B:Nat)(gP:Gb)(c8:AV)(ts:Lq),k<=WW.length/\m=WW.length-k/\H'=⟨.fn gP,nP⟩/\n3<=nP/\ts.length<=12+k*6/\n1+1<=B/\B≠(n2+1+1+1)/\B<nP/\Aa (B≠n2\/ts=[])/\Aa (∀b,b<n3->b≠n2->b≠(n2+1+1+1)->b≠D->gP b=g3 b)/\gP n2=some (.cells [.li I,.li O,c8] true 0)/\gP (n2+1+1+1)=some (.cells [.li I,.li O,sv,e3,.li 0,.li 0,.nl] true 0)/\Aa (Fc gP (n1+1) nP n2 (n2+1+1+1) B ts c8)/\Aa (ts=D9 M ws++(H7 (WW.take k) EE).map (runT M))/\Aa (B=D\/n3<=B) /\
      A 1=some (.ptr n 0)/\A 2=some (.ptr (n+1) 0)/\A 3=some (.ptr n1 0)/\A 4=some (.ptr n2 0)/\A 5=some (.ptr (n2+1+1+1) 0)/\A 11=some ov/\A 12=some (.li k)) (m0:=WW.length) ?_ ?_
     .exact⟨0,n3,D,g3,lv,D9 M ws,W3 _,rfl,rfl,Wy _,by omega,z6,by omega,by omega,ai,HK,c7,e9,u5,⟨by simp[H7]⟩,⟨.inl rfl⟩,by simp[*]⟩
     clear c7 e9 w1 w2 w3 w4 w5 u9;rintro m A H' ⟨k,nP,B,gP,c8,ts,hk,rfl,rfl,o7,v0,l6,i2,l7,i3,Q,a0,a4,c0,c1,g6,w1,w2,w3,w4,w5,v1,v2⟩ ih;have e8:=(Q.out n (by omega) (by omega) (by omega) (by omega)).trans ((a5.out n (by omega)).trans i9.out);refine rnd pl16 ?_;by_cases b8:k<WW.length
     .have e6:(k:Int)<(WW.length:Int):=by omega
      obtain⟨aW,oW,qa,aj,cr,v3,v4⟩:=o5.out.at b8;obtain⟨ct,ak,al,v5⟩:=a5i v3;have am:=Xu v4;have v6:=Xu (aa.out _ (W2 b8));have an:Aa (H7 (WW.take (k+1)) EE=H7 (WW.take k) EE++EE.map λe=>WW[k]++e):=⟨by
       unfold H7;rw[Bv b8,e9i];simp⟩
      clear v4 v3;generalize WW[k]=w at *;simp (disch:=first|omega|simp) [*];refine Xy (λm A H'=>∃(i nP B:Nat)(gP:Gb)(c8:AV)(ts:Lq),i<=EE.length/\m=EE.length-i/\H'=⟨.fn gP,nP⟩/\n3<=nP/\ts.length<=12+k*6+i/\n1+1<=B/\B≠(n2+1+1+1)/\B<nP/\Aa (B≠n2\/ts=[])/\Aa (∀b,b<n3->b≠n2->b≠(n2+1+1+1)->b≠D->gP b=g3 b)/\gP n2=some (.cells [.li I,.li O,c8] true 0)/\gP (n2+1+1+1)=some (.cells [.li I,.li O,sv,e3,.li 0,.li 0,.nl] true 0)/\Aa (Fc gP (n1+1) nP n2 (n2+1+1+1) B ts c8)/\Aa (ts=D9 M ws++(H7 (WW.take k) EE).map (runT M)++((EE.take i).map λe=>w++e).map (runT M))/\Aa (B=D\/n3<=B) /\
      A 1=some (.ptr n 0)/\A 2=some (.ptr (n+1) 0)/\A 3=some (.ptr n1 0)/\A 4=some (.ptr n2 0)/\A 5=some (.ptr (n2+1+1+1) 0)/\A 11=some ov/\A 12=some (.li k)/\A 13=some (.li i)) (m0:=EE.length) ?_ ?_
      .exact⟨0,nP,B,gP,c8,ts,W3 _,rfl,rfl,o7,by omega,l6,i2,l7,i3,Q,a0,a4,c0,⟨by rw[c1.out];simp⟩,g6,by simp[*]⟩
      clear a0 a4 w1 w2 w3 w4 w5 v1 v2 Q c0 c1 g6 i3 e8 l6 i2 l7 v0 o7;rintro m A H' ⟨i,nQ,B,gQ,c8,ts,hi,rfl,rfl,o7,v0,l6,i2,l7,i3,Q,a0,a4,c0,c1,g6,w1,w2,w3,w4,w5,v1,v2,cu⟩ l8;have e5:=(Q.out n1 (by omega) (by omega) (by omega) (by omega)).trans ((a5.out n1 (by omega)).trans k8.out);have cv:=c0.out.one;refine rnd pl16 ?_;by_cases o8:i<EE.length
      .have ao:(i:Int)<(EE.length:Int):=by omega
       obtain⟨aE,oE,qb,ap,cw,v7,v8⟩:=l2.out.listV.at o8;obtain⟨cx,aq,ar,v9⟩:=a5i v7;have l9:=g0.out _ (W2 o8);have m1:Aa ((EE.take (i+1)).map (λe=>w++e)=(EE.take i).map (λe=>w++e)++[w++EE[i]]):=⟨by rw[Bv o8,e6m];rfl⟩;have cy:A5 (some (false,1)) (gQ aW) (oW+k)=some qa:=by rw[Q.out aW aj (by omega) ak al];exact v5
       have cz:A5 (some (false,1)) (gQ aE) (oE+i)=some qb:=by rw[Q.out aE ap (by omega) aq ar];exact v9
       have m2:Al gQ nQ w qa:=Xz (by omega) (λa z ha hz=>by
        obtain⟨Z,U,h3⟩:=Oe hz;exact(Q.out a ha (by omega) U h3).trans (Mz hz)) am.out
       have m3:Al gQ nQ EE[i] qb:=Xz (by omega) (λa z ha hz=>by
        obtain⟨Z,U,h3⟩:=Oe hz;exact(Q.out a ha (by omega) U h3).trans (Mz hz)) v8
       clear v7 v8 v5 v9;generalize EE[i]=e at *;have w8:=l9.1;have au:=Xu l9.2;have da:=l9.2.1;have db:=v6.out.1;have o9:=Xu λ(gX:Gb)(nX:Nat)(uv:AV)(hn:nQ<=nX)(hX:∀b,b<nQ->gX b=gQ b) (hu:Al gX nX (w++e) uv)=>b5m HM.out (w++e) (by rw[W0];omega) (by rw[hI];exact Iy v6.out.2 au.out.2) gX nX [.li M.inp,.li M.out,rv] uv (z5.out.rep.mono (by omega) λb hb=>(hX b (by omega)).trans ((Q.out b (by omega) (by omega) (by omega) (by omega)).trans ((a5.out b (by omega)).trans (g7.out b (by omega))))) hu;rw[hI,hO] at o9;clear l9;by_cases g8:w.length=0
       .have x0:Af gQ nQ qa 0 (wdC w):=by have h:Af gQ nQ qa w.length (wdC w):=m2;rw[g8] at h;exact h
        have av:=λ{H:Mem}{ev:Ev}{d:Option Tmp}{ty:TypeId}{p:String} {af:Array Edge} {gd:Option (Nat×Bool)} {x y:Operand} {s t:TypeId} {a off:Nat} {hx:ev x=some (.sl a off 0 0)} {hy:ev y=some qa} (hp:(apI prog s t).isSome=true)=>Yp (P:=prog) x0 (H:=H) (ev:=ev) (d:=d) (ty:=ty) (p:=p) (af:=af) (gd:=gd) (x:=x) (y:=y) (a:=a) (off:=off) (hx:=hx) (hy:=hy) hp;obtain⟨a9,blk,x1,x2,aw⟩:=Yc (P:=prog) (sz:=1) m3 w8 (by omega) (by rw[A9,Xj]);have m4:Aa (w=[]):=⟨e6j.1 g8⟩;clear x0 m2 m3;simp (disch:=first|omega|simp) [*];refine Xv (o9.out _ (nQ+1+1) (.slq (nQ+1) 0 e.length 0) (by omega) (λb Z=>?_) (Yr (own:=true) (z:=1) (w:=w++e) (by simp (disch:=omega) only[Ad,Ae,Ag];simp[wdC,m4.out]) (by omega) (by simp[m4.out]))) ?_
        .simp (disch:=omega) only[Ad,Ae]
        rintro _ ⟨zv,g4,n4,rfl,x3,g9,c9,j1⟩;have a7:Aa (∀b,b<nQ->g4 b=gQ b):=⟨λb hb=>(g9 b (by omega)).trans (by simp (disch:=omega) only[Ad,Ae])⟩;have j2:Aa (g4 (nQ+1)=some (.cells (wdC (w++e)) true 1)):=⟨(g9 (nQ+1) (by omega)).trans (by simp (disch:=omega) only[Ad,Ae,Ag];simp[wdC,m4.out])⟩;have p0:=(a7.out n2 (by omega)).trans a0;have i4:=(a7.out (n2+1+1+1) (by omega)).trans a4;have ax:=(a7.out n1 (by omega)).trans e5;have p1:=c9.rep.one;have ay:=c9.rep.cell;have az:allOne [.slq (nQ+1) 0 e.length 0,zv]=true:=by simp[p1]
        have p2:=Xu c9;have p3:=Xu j1;obtain⟨cs,h7,c6,j3⟩:=c0.out;have p4:=c6.1;have p5:=Xu c6;have p6:=Xu j3;have j4:=Xu λ(gF:Gb)(Z:∀a,a<nQ->a≠n2->a≠(n2+1+1+1)->a≠B->gF a=gQ a) (U:gF (n4+1)=some (.cells (cs++[.slq (nQ+1) 0 e.length 0,zv]) true 2)) (h3:gF (nQ+1)=some (.cells (wdC (w++e)) true 1)) (h4:∀a,nQ+1+1<=a->a<n4->gF a=g4 a)=>Fc.snoc (t:=runT M (w++e)) (n':=n4+1+1) (lo:=n1+1) p5.out p6.out p4 (by omega) (B':=n4+1) ⟨by omega,by omega,by omega⟩ Z U (Yr (own:=true) (z:=1) ((Pt (by omega) (by omega) (by omega)).trans h3) (by omega) (by simp[runT,m4.out])) (by
         obtain⟨gk,q1,q2⟩:=p2.out;exact Xz (by omega) (λa u _ hu=>by
          obtain⟨e1,e2,e3⟩:=q1 a u hu;rw[Pt (by omega) (by omega) (by omega),h4 a e2 e3];exact e1) q2) (λ_ _ _ _ h=>by cases h) p3.out rfl
        clear g9 c9 j1 c6 j3 c0;rcases h7 with⟨h6,e7,b9⟩|⟨h6,b9,r8,r9,h5,s0⟩
        .subst b9;have HZ:=Xu (And.intro h6 e7);clear h6 e7;simp (disch:=first|omega|simp) [*];refine l8.out (EE.length-(i+1)) _ _ (by omega) ⟨i+1,n4+1+1,n4+1,_,.slq (n4+1) 0 (ts.length+1) 0,ts++[runT M (w++e)],by omega,rfl,rfl,by omega,by rw[W0,Xg];omega,by omega,by omega,by omega,⟨.inl (by omega)⟩,⟨λb Z U h3 h4=>?_⟩,by rw[HZ.out.1];exact Ag,?_,⟨j4.out _ (λa Z U h3 h4=>?_) ?_ ?_ λa Z U=>?_⟩,⟨by rw[c1.out,m1.out];simp⟩,⟨.inr (by omega)⟩,by simp[*]⟩
         .have p7:b≠B:=by rcases g6.out with h|h<;>omega
          simp (disch:=omega) only[Ad,Ae];exact(a7.out b (by omega)).trans (Q.out b Z U h3 h4)
         .simp (disch:=omega) only[Ad,Ae];exact i4
         .simp (disch:=omega) only[Ad,Ae];exact a7.out a Z
         .rw[HZ.out.2];simp (disch:=omega) only[Ad,Ae,Ag];rfl
         .simp (disch:=omega) only[Ad,Ae];exact j2.out
         .simp (disch:=omega) only[Ad,Ae]
        .subst b9;have p8:B≠n2:=i3.out.resolve_right λh=>by rw[h] at h6;cases h6
         have p9:n2≠B:=λh=>p8 h.symm;have ba:=(a7.out B (by omega)).trans h5;have bb:∀(G:Gb)(x:Option Blk),Ak G B x n2=G n2:=λG x=>Ae p9;have bc:∀(G:Gb)(x:Option Blk),Ak G B x (n2+1+1+1)=G (n2+1+1+1):=λG x=>Ae (λh=>i2 h.symm);clear h5;simp (disch:=first|omega|simp) [*];refine l8.out (EE.length-(i+1)) _ _ (by omega) ⟨i+1,n4+1+1,n4+1,_,.slq (n4+1) 0 (ts.length+1) 0,ts++[runT M (w++e)],by omega,rfl,rfl,by omega,by rw[W0,Xg];omega,by omega,by omega,by omega,⟨.inl (by omega)⟩,⟨λb Z U h3 h4=>?_⟩,Ag,?_,⟨j4.out _ (λa Z U h3 h4=>?_) ?_ ?_ λa Z U=>?_⟩,⟨by rw[c1.out,m1.out];simp⟩,⟨.inr (by omega)⟩,by simp[*]⟩
         .have p7:b≠B:=by rcases g6.out with h|h<;>omega
          simp (disch:=omega) only[Ad,Ae];exact(a7.out b (by omega)).trans (Q.out b Z U h3 h4)
         .simp (disch:=omega) only[Ad,Ae];exact i4
         .simp (disch:=omega) only[Ad,Ae];exact a7.out a Z
         .simp (disch:=omega) only[Ad,Ae,Ag]
         .simp (disch:=omega) only[Ad,Ae];exact j2.out
         .simp (disch:=omega) only[Ad,Ae]
       .obtain⟨a8,dc,dd,de,av⟩:=Yc (P:=prog) (sz:=1) m2 (by omega) (by omega) (by rw[A9,Xj]);obtain⟨a9,blk,x1,x2,aw⟩:=Af.apq (P:=prog) (sz:=1) m3 w8 (by omega) (by rw[A9,Xj]);have df:(wdC w).length=w.length*1:=by rw[A9,Xj]
        have dg:=wdC_one e;clear m2 m3;simp (disch:=first|omega|simp) [*];refine Xv (o9.out _ (nQ+1+1+1) (.slq (nQ+1+1) 0 (w.length+e.length) 0) (by omega) (λb Z=>?_) (Yr (own:=true) (z:=1) (w:=w++e) (by simp (disch:=omega) only[Ad,Ae,Ag];simp[wdC]) (by omega) (by simp))) ?_
        .simp (disch:=omega) only[Ad,Ae]
        rintro _ ⟨zv,g4,n4,rfl,x3,g9,c9,j1⟩;have a7:Aa (∀b,b<nQ->g4 b=gQ b):=⟨λb hb=>(g9 b (by omega)).trans (by simp (disch:=omega) only[Ad,Ae])⟩;have j2:Aa (g4 (nQ+1+1)=some (.cells (wdC (w++e)) true 1)):=⟨(g9 (nQ+1+1) (by omega)).trans (by simp (disch:=omega) only[Ad,Ae,Ag];simp[wdC])⟩;have p0:=(a7.out n2 (by omega)).trans a0;have i4:=(a7.out (n2+1+1+1) (by omega)).trans a4;have ax:=(a7.out n1 (by omega)).trans e5;have p1:=c9.rep.one;have ay:=c9.rep.cell;have az:allOne [.slq (nQ+1+1) 0 (w.length+e.length) 0,zv]=true:=by simp[p1]
        have p2:=Xu c9;have p3:=Xu j1;obtain⟨cs,h7,c6,j3⟩:=c0.out;have p4:=c6.1;have p5:=Xu c6;have p6:=Xu j3;have j4:=Xu λ(gF:Gb)(Z:∀a,a<nQ->a≠n2->a≠(n2+1+1+1)->a≠B->gF a=gQ a) (U:gF (n4+1)=some (.cells (cs++[.slq (nQ+1+1) 0 (w.length+e.length) 0,zv]) true 2)) (h3:gF (nQ+1+1)=some (.cells (wdC (w++e)) true 1)) (h4:∀a,nQ+1+1+1<=a->a<n4->gF a=g4 a)=>Fc.snoc (t:=runT M (w++e)) (n':=n4+1+1) (lo:=n1+1) p5.out p6.out p4 (by omega) (B':=n4+1) ⟨by omega,by omega,by omega⟩ Z U (Yr (own:=true) (z:=1) ((Pt (by omega) (by omega) (by omega)).trans h3) (by omega) (by simp[runT])) (by
         obtain⟨gk,q1,q2⟩:=p2.out;exact Xz (by omega) (λa u _ hu=>by
          obtain⟨e1,e2,e3⟩:=q1 a u hu;rw[Pt (by omega) (by omega) (by omega),h4 a e2 e3];exact e1) q2) (λ_ _ _ _ h=>by cases h) p3.out rfl
        clear g9 c9 j1 c6 j3 c0;rcases h7 with⟨h6,e7,b9⟩|⟨h6,b9,r8,r9,h5,s0⟩
        .subst b9;have HZ:=Xu (And.intro h6 e7);clear h6 e7;simp (disch:=first|omega|simp) [*];refine l8.out (EE.length-(i+1)) _ _ (by omega) ⟨i+1,n4+1+1,n4+1,_,.slq (n4+1) 0 (ts.length+1) 0,ts++[runT M (w++e)],by omega,rfl,rfl,by omega,by rw[W0,Xg];omega,by omega,by omega,by omega,⟨.inl (by omega)⟩,⟨λb Z U h3 h4=>?_⟩,by rw[HZ.out.1];exact Ag,?_,⟨j4.out _ (λa Z U h3 h4=>?_) ?_ ?_ λa Z U=>?_⟩,⟨by rw[c1.out,m1.out];simp⟩,⟨.inr (by omega)⟩,by simp[*]⟩
         .have p7:b≠B:=by rcases g6.out with h|h<;>omega
          simp (disch:=omega) only[Ad,Ae];exact(a7.out b (by omega)).trans (Q.out b Z U h3 h4)
         .simp (disch:=omega) only[Ad,Ae];exact i4
         .simp (disch:=omega) only[Ad,Ae];exact a7.out a Z
         .rw[HZ.out.2];simp (disch:=omega) only[Ad,Ae,Ag];rfl
         .simp (disch:=omega) only[Ad,Ae];exact j2.out
         .simp (disch:=omega) only[Ad,Ae]
        .subst b9;have p8:B≠n2:=i3.out.resolve_right λh=>by rw[h] at h6;cases h6
         have p9:n2≠B:=λh=>p8 h.symm;have ba:=(a7.out B (by omega)).trans h5;have bb:∀(G:Gb)(x:Option Blk),Ak G B x n2=G n2:=λG x=>Ae p9;have bc:∀(G:Gb)(x:Option Blk),Ak G B x (n2+1+1+1)=G (n2+1+1+1):=λG x=>Ae (λh=>i2 h.symm);clear h5;simp (disch:=first|omega|simp) [*];refine l8.out (EE.length-(i+1)) _ _ (by omega) ⟨i+1,n4+1+1,n4+1,_,.slq (n4+1) 0 (ts.length+1) 0,ts++[runT M (w++e)],by omega,rfl,rfl,by omega,by rw[W0,Xg];omega,by omega,by omega,by omega,⟨.inl (by omega)⟩,⟨λb Z U h3 h4=>?_⟩,Ag,?_,⟨j4.out _ (λa Z U h3 h4=>?_) ?_ ?_ λa Z U=>?_⟩,⟨by rw[c1.out,m1.out];simp⟩,⟨.inr (by omega)⟩,by simp[*]⟩
         .have p7:b≠B:=by rcases g6.out with h|h<;>omega
          simp (disch:=omega) only[Ad,Ae];exact(a7.out b (by omega)).trans (Q.out b Z U h3 h4)
         .simp (disch:=omega) only[Ad,Ae];exact i4
         .simp (disch:=omega) only[Ad,Ae];exact a7.out a Z
         .simp (disch:=omega) only[Ad,Ae,Ag]
         .simp (disch:=omega) only[Ad,Ae];exact j2.out
         .simp (disch:=omega) only[Ad,Ae]
      .have ao:¬(i:Int)<(EE.length:Int):=by omega
       have bd:Aa (ts=D9 M ws++(H7 (WW.take (k+1)) EE).map (runT M)):=⟨by
        rw[c1.out,an.out,Xi (l:=EE) (by omega)];simp⟩
       clear c1;simp (disch:=first|omega|simp) [*];exact ih.out (WW.length-(k+1)) _ _ (by omega) ⟨k+1,nQ,B,gQ,c8,ts,by omega,rfl,rfl,by omega,by omega,l6,i2,l7,i3,Q,a0,a4,c0,bd,g6,by simp[*]⟩
     .have e6:¬(k:Int)<(WW.length:Int):=by omega
      have l5:Aa (Fc gP (n1+1) nP n2 (n2+1+1+1) B LL c8):=⟨by
       have e:LL=ts:=by rw[r1.out,c1.out,Xi (by omega)];simp
       rw[e];exact c0.out⟩
      clear c0 c1;simp (disch:=first|omega|simp) [*];exact⟨B,l5⟩
   refine Xy (λm A H'=>∃(k nd:Nat)(gM:Gb)(e3:AV)(E:Wq),k<=eb.length/\k<=3/\m=3-k/\H'=⟨.fn gM,nd⟩/\nc<=nd/\Aa (∀b,b<n2->gM b=g2 b)/\gM n2=some (.cells [.li I,.li O,lv] true 0) /\
    gM (n2+1+1+1)=some (.cells [.li I,.li O,sv,e3,.li 0,.li 0,.nl] true 0)/\Aa (Bb (Bl n2 (n2+1+1+1) D gM) nd SS sv)/\Aa (Bb (Bl n2 (n2+1+1+1) D gM) nd E e3)/\Aa (EE=qE (((eb.take 3).drop k).map λx=>C0 x I 4) E)/\Aa (EOK I k 4 E) /\
    A 1=some (.ptr n 0)/\A 2=some (.ptr (n+1) 0)/\A 3=some (.ptr n1 0)/\A 4=some (.ptr n2 0)/\A 5=some (.ptr (n2+1+1+1) 0)/\A 9=some (.li k)) (m0:=3) ?_ ?_
   .exact⟨0,a1,gN,e2,qE0 I,W3 _,W3 _,rfl,rfl,h8,Q,a0,a4,a6,b4,⟨by rw[z2.out];rfl⟩,⟨EOK.base (by omega)⟩,by simp[*]⟩
   clear Q a0 a4 a6 b4 w1 w2 w3 w4 w5 e8 h8;rintro m A H' ⟨k,nd,gM,e3,E,hk,dh,rfl,rfl,di,Q,a0,a4,a6,b4,g0,m5,w1,w2,w3,w4,w5,w9⟩ ih;have e8:=(Q.out n (by omega)).trans i9.out;have e5:=(Q.out n1 (by omega)).trans k8.out;have o6:=a6.out.one;have be:=b4.out.one;refine rnd pl16 ?_;by_cases b8:k<eb.length
   .have e6:(k:Int)<(eb.length:Int):=by omega
    by_cases bf:k<3
    .have q0:(k:Int)<3:=by omega
     obtain⟨a2,off,q,q4,bg,j5,x4⟩:=y8.out.at b8;have bh:A5 (some (false,1)) (gM a2) (off+k)=some q:=(congrArg (λz=>A5 (some (false,1)) z (off+k)) ((Q.out a2 (by omega)).trans ((g7.out a2 (by omega)).trans (i8.out a2 q4)))).trans j5;have m6:Aa (((eb.take 3).drop k).map (λx=>C0 x I 4)=C0 eb[k] I 4::((eb.take 3).drop (k+1)).map (λx=>C0 x I 4)):=⟨by
      rw[Xd (show k<(eb.take 3).length by rw[W4];omega),e7i,e6v]⟩
     have q5:=Xu (λ(gX:Gb)(n2:Nat)(n8:n<=n2)(hX:∀b,b<n->gX b=g b)=>b5n eb[k] (z0.out _ (W2 b8)) (I:Int) 4 (by omega) (by omega) (by decide) 4 rfl gX n2 q (X0 n8 hX x4));have j6:Aa ((C0 eb[k] I 4).length<=4/\inW (C0 eb[k] I 4) I=true):=⟨Vg,by
      have:=Vf (b:=eb[k]) (m:=4) (I:=(I:Int)) (by omega)
      rwa [e6i] at this⟩
     rw[e6i] at q5;clear j5 x4;generalize C0 eb[k] I 4=w at *;simp (disch:=first|omega|simp) [*];refine Xv (q5.out _ _ (by omega) λb hb=>(Q.out b (by omega)).trans ((g7.out b (by omega)).trans (i8.out b hb))) ?_;rintro _ ⟨uv,g3,n3,rfl,h9,b5,q6⟩;have a5:=Xu b5;have c7:=(b5 n2 (by omega)).trans a0;have e9:=(b5 (n2+1+1+1) (by omega)).trans a4;have dj:=(b5 n1 (by omega)).trans e5;have u9:=(b5 n (by omega)).trans e8;have dk:=@Ap prog _ _ _ _ _ q6.1.rep;have x5:=Xu q6;clear b5 q6 a0 a4 e5 e8 q5;by_cases g8:w.length=0
     .have j7:Aa (EE=qE (((eb.take 3).drop (k+1)).map λx=>C0 x I 4) E/\EOK I (k+1) 4 E):=⟨by
       have U:=m5.out.step (w:=w) j6.out.1 j6.out.2;rw[if_pos g8] at U;refine⟨?_,U⟩;rw[g0.out,m6.out,qE,if_pos g8]⟩
      simp (disch:=first|omega|simp) [*];refine ih.out (3-(k+1)) _ _ (by omega) ⟨k+1,n3,g3,e3,E,by omega,by omega,rfl,rfl,by omega,⟨λb hb=>(a5.out b (by omega)).trans (Q.out b hb)⟩,c7,e9,⟨a6.out.hid (by omega) λa ha _ _ _=>a5.out a ha⟩,⟨b4.out.hid (by omega) λa ha _ _ _=>a5.out a ha⟩,⟨j7.out.1⟩,⟨j7.out.2⟩,by simp[*]⟩
     .have j7:Aa (EE=qE (((eb.take 3).drop (k+1)).map λx=>C0 x I 4) (Em E w)/\EOK I (k+1) 4 (Em E w)):=⟨by
       have U:=m5.out.step (w:=w) j6.out.1 j6.out.2;rw[if_neg g8] at U;refine⟨?_,U⟩;rw[g0.out,m6.out,qE,if_neg g8]⟩
      have dl:0<w.length:=by omega
      have s8:=m5.out.len;have m7:=Xu (b5p (l:=E) (w:=w) (by omega) (by have:=j6.out.1;omega) (λx hx=>by have:=(m5.out.wl x hx).2.1;omega) n2 (n2+1+1+1) D g3 n3 (by omega) (by omega) (by omega) e3 uv (b4.out.hid h9 λa ha _ _ _=>a5.out a ha) (by
       obtain⟨gk,q1,q2⟩:=x5.out.1;exact Xz (Wy _) (λa z _ hz=>by rw[Gz (by have:=(q1 a z hz).2.1;omega) (by have:=(q1 a z hz).2.1;omega) (by have:=(q1 a z hz).2.1;omega)];exact(q1 a z hz).1) q2) x5.out.2)
      simp (disch:=first|omega|simp) [*];refine Xv m7.out ?_;rintro _ ⟨ov,g4,n4,rfl,x3,a0,b7⟩;have a7:=Xu a0;have p0:=(a0 n2 (by omega)).trans c7;have i4:=(a0 (n2+1+1+1) (by omega)).trans e9;have x6:=b7.one;have x7:=b7.cell;have j8:=Xu b7;clear a0 b7 c7 e9;simp (disch:=first|omega|simp) [*];refine ih.out (3-(k+1)) _ _ (by omega) ⟨k+1,n4,_,ov,Em E w,by omega,by omega,rfl,rfl,by omega,⟨λb hb=>?_⟩,?_,Ag,⟨a6.out.hid (by omega) λa ha _ h _=>(Ae h).trans ((a7.out a (by omega)).trans (a5.out a ha))⟩,⟨j8.out.hid (Wy _) λa _ _ h _=>Ae h⟩,⟨j7.out.1⟩,⟨j7.out.2⟩,by simp[*]⟩
      .rw[Ae (by omega)];exact(a7.out b (by omega)).trans ((a5.out b (by omega)).trans (Q.out b hb))
      .rw[Ae (by omega)];exact p0
    .have q0:¬(k:Int)<3:=by omega
     have bi:Aa (Bb (Bl n2 (n2+1+1+1) D gM) nd EE e3):=⟨by
      have e:EE=E:=by rw[g0.out,Xt (by rw[W4];omega)];rfl
      rw[e];exact b4.out⟩
     clear g0 b4;simp (disch:=first|omega|simp) [*]
   .have e6:¬(k:Int)<(eb.length:Int):=by omega
    have bi:Aa (Bb (Bl n2 (n2+1+1+1) D gM) nd EE e3):=⟨by
     have e:EE=E:=by rw[g0.out,Xt (by rw[W4];omega)];rfl
     rw[e];exact b4.out⟩
    clear g0 b4;simp (disch:=first|omega|simp) [*]
  refine Xy (λm A H'=>∃(k a1:Nat)(gN:Gb)(sv:AV)(S:Wq),k<=sb.length/\k<=5/\m=5-k/\H'=⟨.fn gN,a1⟩/\nc<=a1/\Aa (∀b,b<n2->gN b=g2 b)/\gN n2=some (.cells [.li I,.li O,lv] true 0) /\
   gN (n2+1+1+1)=some (.cells [.li I,.li O,sv,e2,.li 0,.li 0,.nl] true 0)/\Aa (Bb (Bl n2 (n2+1+1+1) D gN) a1 S sv)/\Aa (Bb (Bl n2 (n2+1+1+1) D gN) a1 (qE0 I) e2)/\Aa (SS=qS I ((sb.take 5).drop k) S)/\Aa (SOK I k S) /\
   A 1=some (.ptr n 0)/\A 2=some (.ptr (n+1) 0)/\A 3=some (.ptr n1 0)/\A 4=some (.ptr n2 0)/\A 5=some (.ptr (n2+1+1+1) 0)/\A 7=some (.li k)) (m0:=5) ?_ ?_
  .exact⟨0,nc,gL,_,[[]],W3 _,W3 _,rfl,rfl,Wy _,Q,a0,a4,s7,s6,⟨by rw[z1.out];rfl⟩,⟨SOK.base⟩,by simp[*]⟩
  clear Q a0 a4 s7 s6 e5 w1 w2 w3 w4 w5 w6;rintro m A H' ⟨k,a1,gN,sv,S,hk,dm,rfl,rfl,h8,Q,a0,a4,a6,b4,i5,j9,w1,w2,w3,w4,w5,w7⟩ ih;have e8:=(Q.out n (by omega)).trans i9.out;have e5:=(Q.out n1 (by omega)).trans k8.out;have o6:=a6.out.one;have be:=b4.out.one;refine rnd pl16 ?_;by_cases b8:k<sb.length
  .have e6:(k:Int)<(sb.length:Int):=by omega
   by_cases bf:k<5
   .have q0:(k:Int)<5:=by omega
    obtain⟨a2,off,q4,bg,j5⟩:=y7.out.at b8;have bh:A5 (some (false,1)) (gN a2) (off+k)=some (.lit (.int .u8 ((sb[k]:Nat):Int))):=(congrArg (λz=>A5 (some (false,1)) z (off+k)) ((Q.out a2 (by omega)).trans ((g7.out a2 (by omega)).trans (i8.out a2 q4)))).trans j5;have dp:=y9.out _ (W2 b8);have m6:Aa ((sb.take 5).drop k=sb[k]::(sb.take 5).drop (k+1)):=⟨by
     rw[Xd (show k<(sb.take 5).length by rw[W4];omega),e7i]⟩
    clear j5;generalize sb[k]=b at *;have bj:=j9.out.pos;have dq:=@Ap prog _ _ _ _ _ a6.out.choose_spec.1;obtain⟨j,hj⟩:∃j,j=b / 8 % S.length:=⟨_,rfl⟩;obtain⟨i0,m8⟩:∃i0,i0=b % I:=⟨_,rfl⟩;have m9:j<S.length:=by rw[hj];exact Xp _ bj
    have bk:i0<I:=by rw[m8];exact Xp _ (by omega)
    obtain⟨a3,o3,qv,dr,dt,x8,hq⟩:=a6.out.listV.at m9;have du:=(a5i x8).2.2.2;have HQ:=Xu hq;have n6:Aa (SS=qS I ((sb.take 5).drop (k+1)) (Em S (S[j]++[(i0:Int)]))/\SOK I (k+1) (Em S (S[j]++[(i0:Int)]))):=⟨by
     have x9:S.getD j []=S[j]:=by rw[Xo,W6 m9];rfl
     have U:=j9.out.step m9 bk;rw[x9] at U;refine⟨?_,U⟩;rw[i5.out,m6.out,qS,<- hj,<- m8,x9]⟩
    have bl:=Xu (j9.out.wl _ (W2 m9));have dv:((b:Int) / 8).tmod (S.length:Int)=(j:Int):=by
     rw[hj,Int.tmod_eq_emod_of_nonneg (by omega)];simp
    have dw:(b:Int).tmod (I:Int)=(i0:Int):=by
     rw[m8,Int.tmod_eq_emod_of_nonneg (by omega)];simp
    have dx:=hq.one;clear x8 hq hj m8 i5;generalize S[j]=fr at *;have dy:fr.length<=5:=by have:=bl.out.1;omega
    have dz:=j9.out.len;have m7:=Xu λ(gX:Gb)(nX:Nat)(wv:AV)(hn:a1<=nX)(hX:∀b,b<a1->gX b=gN b) (hw:Al (Bl n2 (n2+1+1+1) D gX) nX (fr++[(i0:Int)]) wv) (hc:Ay wv)=>b5p (l:=S) (by omega) (by rw[W0,Xg];omega) (λx hx=>by have:=(j9.out.wl x hx).1;omega) n2 (n2+1+1+1) D gX nX (by omega) (by omega) (by omega) sv wv (a6.out.hid hn λa ha _ _ _=>hX a ha) hw hc;by_cases y0:fr.length=0
    .have k0:Af gN a1 qv 0 (wdC fr):=by
      have h:=Xz (Wy _) (λa x _ hx=>Mz hx) HQ.out;rw[y0] at h;exact h
     have bm:=λ{H:Mem}{ev:Ev}{d:Option Tmp}{ty:TypeId}{p:String} {af:Array Edge} {gd:Option (Nat×Bool)} {x y:Operand} {s t:TypeId} {a off:Nat} {hx:ev x=some (.sl a off 0 0)} {hy:ev y=some qv} (hp:(apI prog s t).isSome=true)=>Yp (P:=prog) k0 (H:=H) (ev:=ev) (d:=d) (ty:=ty) (p:=p) (af:=af) (gd:=gd) (x:=x) (y:=y) (a:=a) (off:=off) (hx:=hx) (hy:=hy) hp;have y1:Aa (fr=[]):=⟨e6j.1 y0⟩;clear k0;simp (disch:=first|omega|simp) [*];refine Xv (m7.out _ _ _ (by omega) (λb hb=>?_) (Yr (own:=true) (z:=1) (w:=fr++[(i0:Int)]) ?_ (by omega) ?_) λ_ _ _ _ e=>by cases e) ?_
     .simp (disch:=omega) only[Ad]
     .rw[Gz (by omega) (by omega) (by omega),Ag];simp[wdC,y1.out]
     .simp[y1.out]
     rintro _ ⟨ov,g3,n3,rfl,h9,b5,b7⟩;have e0:∀b,b<a1->g3 b=gN b:=λb hb=>(b5 b (by omega)).trans (by simp (disch:=omega) only[Ad]);have a5:=Xu e0;have c7:=(e0 n2 (by omega)).trans a0;have e9:=(e0 (n2+1+1+1) (by omega)).trans a4;have x6:=b7.one;have x7:=b7.cell;have j8:=Xu b7;clear b5 e0 b7;simp (disch:=first|omega|simp) [*];refine ih.out (5-(k+1)) _ _ (by omega) ⟨k+1,n3,_,ov,Em S (fr++[(i0:Int)]),by omega,by omega,rfl,rfl,by omega,⟨λb hb=>?_⟩,?_,Ag,⟨j8.out.hid (Wy _) λa _ _ h _=>Ae h⟩,⟨b4.out.hid (by omega) λa ha _ h _=>(Ae h).trans (a5.out a ha)⟩,⟨n6.out.1⟩,⟨n6.out.2⟩,by simp[*]⟩
     .rw[Ae (by omega)];exact(a5.out b (by omega)).trans (Q.out b hb)
     .rw[Ae (by omega)];exact c7
    .have k0:Al gN a1 fr qv:=Xz (Wy _) (λa x _ hx=>Mz hx) HQ.out;obtain⟨a9,blk,x1,x2,bm⟩:=Yc (P:=prog) (sz:=1) k0 (by omega) (by omega) (by rw[A9,Xj]);have ea:(wdC fr).length=fr.length*1:=by rw[A9,Xj]
     clear k0;simp (disch:=first|omega|simp) [*];refine Xv (m7.out _ _ _ (by omega) (λb hb=>?_) (Yr (own:=true) (z:=1) (w:=fr++[(i0:Int)]) ?_ (by omega) ?_) λ_ _ _ _ e=>by cases e) ?_
     .simp (disch:=omega) only[Ad]
     .rw[Gz (by omega) (by omega) (by omega),Ag];simp[wdC]
     .simp
     rintro _ ⟨ov,g3,n3,rfl,h9,b5,b7⟩;have e0:∀b,b<a1->g3 b=gN b:=λb hb=>(b5 b (by omega)).trans (by simp (disch:=omega) only[Ad]);have a5:=Xu e0;have c7:=(e0 n2 (by omega)).trans a0;have e9:=(e0 (n2+1+1+1) (by omega)).trans a4;have x6:=b7.one;have x7:=b7.cell;have j8:=Xu b7;clear b5 e0 b7;simp (disch:=first|omega|simp) [*];refine ih.out (5-(k+1)) _ _ (by omega) ⟨k+1,n3,_,ov,Em S (fr++[(i0:Int)]),by omega,by omega,rfl,rfl,by omega,⟨λb hb=>?_⟩,?_,Ag,⟨j8.out.hid (Wy _) λa _ _ h _=>Ae h⟩,⟨b4.out.hid (by omega) λa ha _ h _=>(Ae h).trans (a5.out a ha)⟩,⟨n6.out.1⟩,⟨n6.out.2⟩,by simp[*]⟩
     .rw[Ae (by omega)];exact(a5.out b (by omega)).trans (Q.out b hb)
     .rw[Ae (by omega)];exact c7
   .have q0:¬(k:Int)<5:=by omega
    have bn:Aa (Bb (Bl n2 (n2+1+1+1) D gN) a1 SS sv):=⟨by
     have e:SS=S:=by rw[i5.out,Xt (by rw[W4];omega)];rfl
     rw[e];exact a6.out⟩
    clear i5 a6;simp (disch:=first|omega|simp) [*]
  .have e6:¬(k:Int)<(sb.length:Int):=by omega
   have bn:Aa (Bb (Bl n2 (n2+1+1+1) D gN) a1 SS sv):=⟨by
    have e:SS=S:=by rw[i5.out,Xt (by rw[W4];omega)];rfl
    rw[e];exact a6.out⟩
   clear i5 a6;simp (disch:=first|omega|simp) [*]
theorem e2m{st h A:Nat}{part:Bool}{es:List Nat}{ev:AV}{ws:List (List Nat)}{wv:AV}(ia ib ic:Int){D:List Nat}(a1:∀b∈D,b<256){Q:List (List Nat)}(a2:∀w∈Q,∀b∈w,b<256)(full:Bool)(g:Gb)(n:Nat)(hI:InG g n st h A es ev ws wv)(Z a0:AV)(hS:Hz g n D Z)(hE:Jz g n Q a0):
  WC 0 prog 16 [.agg [.lit (.int .u8 st),.lit (.int .u8 h),.lit (.int .u8 A),.lit (.bool part),ev,wv,.lit (.int .u8 ia),.lit (.int .u8 ib),.lit (.int .u8 ic),Z,a0,.lit (.bool full)]] ⟨.fn g,n⟩ λr=>∃sv e2 U g' n',r=.ret (.agg [.lit (.int .i64 (Bz st h A part es).inp),.lit (.int .i64 (Bz st h A part es).out),sv,e2,.lit (.int .i64 (Bz st h A part es).inp),.lit (.int .i64 (Bz st h A part es).out),U]) ⟨.fn g',n'⟩/\n<=n'/\(∀b,b<n->g' b=g b)/\Bb g' n' (qSx (Bz st h A part es) D) sv/\Bb g' n' (qEx (Bz st h A part es) Q) e2/\Dv g' n' (Aj (Bz st h A part es).inp.toNat (qLx (Bz st h A part es) ws full (qSx (Bz st h A part es) D) (qEx (Bz st h A part es) Q))) U:=by
 refine Xv (e2l (part:=part) ia ib ic a1 a2 full g n hI Z a0 hS hE) ?_;rintro _ ⟨sv,e2,U,g',n',h0,h1,h2,h3,h4,svs,h5,h6⟩;have hx:∀a x,a<n'->B9 n g' a=some x->g' a=some x:=λa x _ hx=>(Gy hx).2;exact⟨sv,e2,U,g',n',h0,h1,h2,h3.ext (Wy _) hx,h4.ext (Wy _) hx,svs,Xz (Wy _) hx h5,h6.ext (Wy _) hx⟩
end Go.Ai
