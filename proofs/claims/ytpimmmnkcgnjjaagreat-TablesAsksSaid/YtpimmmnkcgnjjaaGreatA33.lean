/- Parts of an interpreter and of a proof. No condition. -/
import Derived.Test.YtpimmmnkcgnjjaaGreatA28
import Derived.Test.YtpimmmnkcgnjjaaGreatA32
set_option linter.all false
set_option maxHeartbeats 40000000
set_option maxRecDepth 10000
open Go.Proofs Go.Proofs.Tryz
namespace Go.Ai
variable {g:Gb}{n:Nat}
theorem Cg.appT{I O:Int}{a b:Lq}(h:Cg I O a)(Q:Cg I O b)(U:a.length+b.length<=200):Cg I O (a++b):=by
 refine⟨by rw[W0];exact U,h.i1,h.i2,h.o1,h.o2,λt D=>?_,λt D=>?_⟩
 .rcases W9.1 D with A|A
  .exact h.wl t A
  .exact Q.wl t A
 .rcases W9.1 D with A|A
  .exact h.ok t A
  .exact Q.ok t A
def Cl(I:Nat)(L:Lq):Lq:=(rbk (Bd (Aj I L)) [] (endsM (Aj I L) 0)).map λw=>(w,Bm (Aj I L) 0 w)
def M8(I:Nat)(O I2 O2:Int)(U:Lq):Int:=if I2=I/\O2=O then (if Ea U U 0=none then 0 else 18) else 5
theorem Af.apl0{P:Program}{g:Gb}{b:Nat}{sv:AV}{cs:List AV}(h:Af g b sv 0 cs):
  ∀{H:Mem}{ev:Ev}{d:Option Tmp}{ty:TypeId}{p:String} {af:Array Edge} {gd:Option (Nat×Bool)} {x y:Operand} {s t:TypeId} {a off k c:Nat} {hx:ev x=some (.sl a off k c)} {hy:ev y=some sv},(apI P s t).isSome=true ->
   ex2 P H ev ⟨d,.call ⟨.builtin .append,#[x,y],#[s,t]⟩,ty,p,af,gd⟩ x y (some (.sl a off k c)) (some sv) hx hy=.val (.sl a off k c) H:=by
 intro H ev d ty p af gd x y s t a off k c hx hy A;have Q:lenOf sv=some 0:=by
  rcases h with⟨_,_,rfl|rfl⟩|⟨a,off,_,⟨c,rfl⟩|⟨c,rfl⟩,_⟩<;>rfl
 cases D:apI P s t with
 | none=>rw[D] at A;cases A
 | some q =>
  obtain⟨U,Z⟩:=q;show opV P H ev _=_;rw[G9 hx hy D];unfold En;rw[Q];rfl
theorem RowsT.app{a b:Lq}{Q U:List AV}(h:RowsT g n a Q)(Z:RowsT g n b U):RowsT g n (a++b) (Q++U):=by
 have hl:=h.1;refine⟨by simp[h.1,Z.1];omega,λk hk=>?_⟩;by_cases A:k<a.length
 .obtain⟨s1,s2,D,e2,e3,e4⟩:=h.2 k A;refine⟨s1,s2,?_,?_,?_,?_⟩
  .rw[Xs (by omega)];exact D
  .rw[Xs (by omega)];exact e2
  .rw[e6f A];exact e3
  .rw[e6f A];exact e4
 .rw[W0] at hk;obtain⟨s1,s2,D,e2,e3,e4⟩:=Z.2 (k-a.length) (by omega);refine⟨s1,s2,?_,?_,?_,?_⟩
  .rw[Xq (by omega),<- D];congr 1;omega
  .rw[Xq (by omega),<- e2];congr 1;omega
  .rw[e7c (by omega)];exact e3
  .rw[e7c (by omega)];exact e4
theorem e4h(g:Gb)(n b k c:Nat)(h:0<k)(A:k<=100000)(D:k<=c):WC 0 prog 68 [.sl b 0 k c] ⟨.fn g,n⟩ λr=>r=.ret (.sl b 0 k k) ⟨.fn g,n⟩:=by
 refine ent [] func68 ?_;simp (disch:=first|omega|simp) [*]
theorem Dv.from'{g': Gb}{lo n': Nat}{rows:Tq}{Q:AV}(h:Dv (B9 lo g) n rows Q)(U:n<=n')(Z:∀a,lo<=a->a<n->g' a=g a):Dv g' n' rows Q:=by
 have hx:∀a x,a<n->B9 lo g a=some x->g' a=some x:=λa x ha hx=>by
  obtain⟨A,D⟩:=Gy hx;exact(Z a A ha).trans D
 obtain⟨svs,A,D,h3⟩:=h;exact⟨svs,Xz U hx A,D,λk hk=>let ⟨q,e1,e2⟩:=h3 k hk;⟨q,e1,Xz U hx e2⟩⟩
theorem D3.from'{g': Gb}{lo n': Nat}{S E:Wq}{T:Tq}{sv ev D:AV}(h:D3 (B9 lo g) n S E T sv ev D)(A:n<=n')(Q:∀a,lo<=a->a<n->g' a=g a):D3 g' n' S E T sv ev D:=by
 have hx:∀a x,a<n->B9 lo g a=some x->g' a=some x:=λa x U hx=>by
  obtain⟨Z,h2⟩:=Gy hx;exact(Q a Z U).trans h2
 exact⟨h.s.ext A hx,h.e.ext A hx,h.t.from' A Q⟩
theorem RowsC.from'{lo I:Nat}{rows:Tq}{A:List Nat}(h:RowsC g lo n I rows A):RowsC (B9 lo g) lo n I rows A:=
 ⟨h.len,λk D Q=>let ⟨a,b,c,d⟩:=h.at' k D Q;⟨a,b,(De a).trans c,d⟩⟩
theorem e4i{I:Nat}{O:Int}{S E:Wq}{L ts:Lq}(Z:G0 I O S E (Aj I L))(hL:Cg I O L)(hC:Eb L){I2 O2:Int}(a6:Cg I2 O2 ts)(l4:L.length+ts.length<=196)(g:Gb)(n:Nat)(sv ev tv lv:AV)(hT:D3 g n S E (Aj I L) sv ev tv)(hl:F6 g n ts lv)(l5:Ay lv):
  WC 0 prog 22 [.agg [.li I,.li O,sv,ev,.li I,.li O,tv],.agg [.li I2,.li O2,lv]] ⟨.fn g,n⟩ λr=>∃rv g' n',r=.ret (.tup [rv,.li (M8 I O I2 O2 (Cl I L++ts))]) ⟨.fn g',n'⟩/\n<=n'/\(∀b,b<n->g' b=g b)/\e3o I O (M8 I O I2 O2 (Cl I L++ts)) S E (Aj I (Cl I L++ts)) (B9 n g') n' rv:=by
 have h8:=hT.s.one;have h9:=hT.e.one;have i0:=hT.t.choose_spec.1.one;have i3:oneC lv=true:=hl.choose_spec.1.one;have l6:allOne [.li I,.li O,sv,ev,.li I,.li O,tv]=true:=by simp[h8,h9,i0]
 have l7:allOne [.li I2,.li O2,lv]=true:=by simp[i3]
 have b5:=Z.go;have a1:=BF.of hL hC b5;have c7:=Z.i1;have l8:=Z.i2;have i4:=Z.o1;have i5:=Z.o2;have b6:=Xu λ(us:Lq)(i6:us.Perm (bkM (Aj I L) (Bd (Aj I L)))) (hs:∀(i j:Nat)(_:i<j)(hj:j<us.length),¬ A4 us[j].1 (us[i]'(by omega)).1<0)=>BF.us hL a1 i6 hs;have i7:(endsM (Aj I L) 0).length+ts.length<=198:=by
  have h1:=TL.count hL.o1 a1.tl (X:=(bkM (Aj I L) (Bd (Aj I L))).map λu=>u.1) (λx hx=>by
   obtain⟨u,hu,rfl⟩:=Xc.1 hx;exact((bkM_of u).1 hu).1) a1.lab.nodup
  simp only[Xl,bkM] at h1;omega
 have c8:0<(endsM (Aj I L) 0).length:=a5r (I:=I) (O:=O) a1.lab a1.ne (λr hr e he=>(Z.ok r hr).2 e he);have c9:=Xu λ(A:Gb)(n2:Nat)(hn:n<=n2)(hX:∀b,b<n->A b=g b)=>Z.check (hT.mono hn hX);have b7:=Xu λ(A:Gb)(n2:Nat)(hn:n<=n2)(hX:∀b,b<n->A b=g b)=>b3m I2 O2 ts a6.small A n2 lv (hl.mono hn hX).log;rw[a6.err] at b7;have e1:=Xu λ(A:Gb)(n2:Nat)(hn:n<=n2)(hX:∀b,b<n->A b=g b)=>e4g (I:=I) (O:=O) c7 (by omega) i4 i5 a1.ne (by have:=Z.tl;omega) b5 a1.lab (by omega) a1.wl a1.el a1.sum A n2 tv (hT.t.mono hn hX);have e5:=Xu λ(A:Gb)(n2:Nat)(hn:n<=n2)(hX:∀b,b<n->A b=g b)=>e2q (I:=I) c7 (by omega) Z.s0 (by have:=Z.sl;omega) (λy hy=>by have:=(Z.sw y hy).1;omega) (E:=E) (T:=Aj I L) Z.e0 (by have:=Z.el;omega) (λy hy=>by have:=(Z.ew y hy).2.1;omega) Z.t0 (by have:=Z.tl;omega) (λr hr=>(Z.ok r hr).1) (.li I) (.li O) (.li I) (.li O) (by simp) A n2 sv ev tv (hT.mono hn hX);have i8:=Xu hl;have i9:=Xu a6;have e6:Aa (∀us:Lq,(rbk (Bd (Aj I L)) [] (endsM (Aj I L) 0)).map (λw=>(w,Bm (Aj I L) 0 w))=us->Cl I L=us):=⟨λus h=>h⟩;clear a1 b5 hL hC hT hl a6 Z;by_cases a7:I2=I/\O2=O
 .obtain⟨rfl,rfl⟩:=a7;refine ent pl22 func22 ?_;simp (disch:=first|omega|simp) [*];refine Xv (c9.out _ _ (by omega) λb hb=>by simp (disch:=omega) only[Ad]) ?_;rintro _ rfl;simp (disch:=first|omega|simp) [*];refine Xv (b7.out _ _ (by omega) λb hb=>by simp (disch:=omega) only[Ad]) ?_;rintro _ rfl;simp (disch:=first|omega|simp) [*];refine Xv (e1.out _ _ (by omega) λb hb=>by simp (disch:=omega) only[Ad]) ?_;rintro _ ⟨us,cs,B,g3,Q,rfl,e7,e8,l9,a4,m1,j0,j1,b8,e9⟩;obtain⟨g0,j2,j3,g1,g2,j4⟩:=b6.out us e7 e8;rw[e6.out us g1];rw[<- g2] at i7 c8 |-;clear e7 e8 g1 j2 j3 g2 j4 b6;have m2:=b8.rows.1;have g4:=Xu b8.rows;have m3:=Xu e9;have a8:Aa (∀b,b<n->g3 b=g b):=⟨λb hb=>(a4 b (by omega)).trans (by simp (disch:=omega) only[Ad])⟩;have g7:=a4 n (by omega);have j5:=a4 (n+1) (by omega);have b9:=a4 (n+1+1) (by omega);simp (disch:=omega) only[Ad,Ag,Ae] at g7 j5 b9;have c0:=Xu (g0.appT i9.out (by omega));obtain⟨cl,a9,c1,g8⟩:=i8.out;have j6:=c1.1;have j7:=Xu c1;have m4:=Xu g8;have g9:=Xu (e4h (b:=B) (k:=us.length) (c:=us.length) · · c8 (by omega) (Wy _));clear a4 b8 e9 g0 c1 g8;by_cases j8:ts.length=0
  focus
   have j9:ts=[]:=List.eq_nil_of_length_eq_zero j8;subst j9;have k0:=@Af.apl0 prog _ _ _ _ a9;clear a9;rw[e6b] at c0 |-;simp (disch:=first|omega|simp) [*];refine Xv (g9.out _ _) ?_;rintro _ rfl;simp (disch:=first|omega|simp) [*];obtain⟨A,a0⟩:∃A:Gb,A=Ak g3 Q (some (.cells [.li I,.li O2,.sl B 0 us.length us.length] true 0)):=⟨_,rfl⟩;have a3:Aa (∀b,b<Q->A b=g3 b):=⟨λb hb=>by rw[a0];simp (disch:=omega) only[Ad]⟩;have c2:Aa (El A (Q+1) (us) (.sl B 0 us.length us.length)):=⟨by
    refine⟨cs,Gm (own:=true) (z:=0) (by rw[a0,Ad j0];exact j1) (by omega),Zb g4.out (by omega) λa x ha hx=>by rw[a0,Ad ha];exact hx⟩⟩
   have c6:Aa (Ay (.sl B 0 us.length us.length)):=⟨λa o k c e=>by cases e<;>exact Wy _⟩;have k1:oneC (.sl B 0 us.length us.length)=true:=rfl;have k2:Q<Q+1:=by omega
   have k3:A Q=some (.cells [.li I,.li O2,.sl B 0 us.length us.length] true 0):=by rw[a0];simp (disch:=omega) only[Ag,Ad]
   rw[<- a0];clear a0;generalize (AV.sl B 0 us.length us.length)=lu at *;generalize Q+1=nX at *;generalize us=U at *
  rotate_left
  focus
   obtain⟨aL,m5,k4,k5,k0⟩:=Af.apo (P:=prog) (sz:=2) a9 (by omega) (by omega) j6;clear a9;have m6:=(a8.out aL k4).trans k5;simp (disch:=first|omega|simp) [*];refine Xv (g9.out _ _) ?_;rintro _ rfl;simp (disch:=first|omega|simp) [*];obtain⟨A,a0⟩:∃A:Gb,A=Ak (Ak (Ak g3 Q (some (.cells [.li I,.li O2,.sl B 0 us.length us.length] true 0))) (Q+1) (some (.cells (List.take (us.length*2) cs++cl) true 2))) Q (some (.cells [.li I,.li O2,.slq (Q+1) 0 (us.length+ts.length) 0] true 0)):=⟨_,rfl⟩;have a3:Aa (∀b,b<Q->A b=g3 b):=⟨λb hb=>by rw[a0];simp (disch:=omega) only[Ad]⟩;have c2:Aa (El A (Q+1+1) (us++ts) (.slq (Q+1) 0 (us.length+ts.length) 0)):=⟨by
    refine⟨cs++cl,?_,RowsT.app (Zb g4.out (by omega) λa x ha hx=>by rw[a0];simp (disch:=omega) only[Ad];exact hx) (Zb j7.out (by omega) λa x ha hx=>by rw[a0];simp (disch:=omega) only[Ad];rw[a8.out a ha];exact hx)⟩;rw[W0];refine .inr ⟨Q+1,0,by omega,.inr ⟨0,rfl⟩,cs++cl,true,2,?_,by simp,by rw[e7r,Xn]⟩;rw[a0,Ae (by omega),Ag,Xi (by omega)]⟩
   have c6:Aa (Ay (.slq (Q+1) 0 (us.length+ts.length) 0)):=⟨λa o k c e=>by cases e<;>exact Wy _⟩;have k1:oneC (.slq (Q+1) 0 (us.length+ts.length) 0)=true:=rfl;have k2:Q<Q+1+1:=by omega
   have k3:A Q=some (.cells [.li I,.li O2,.slq (Q+1) 0 (us.length+ts.length) 0] true 0):=by rw[a0];simp (disch:=omega) only[Ag,Ad]
   rw[<- a0];clear a0;generalize (AV.slq (Q+1) 0 (us.length+ts.length) 0)=lu at *;generalize Q+1+1=nX at *;generalize us++ts=U at *
  all_goals
   obtain⟨er,a5⟩:∃er,er=M8 I O2 I O2 U:=⟨_,rfl⟩;rw[<- a5]
   cases hD:Ea U U 0 with
   | some D =>
    have he:er=18:=by rw[a5];unfold M8;rw[if_pos ⟨rfl,rfl⟩,if_neg (by rw[hD];simp)]
    subst he;clear a5;refine Xv (e0n c0.out hD A nX lu c2.out c6.out) ?_;rintro _ ⟨g5,n5,rfl,k6,a2⟩;have b0:Aa (∀b,b<n->g5 b=g b):=⟨λb hb=>(a2 b (by omega)).trans ((a3.out b (by omega)).trans (a8.out b hb))⟩;have h0:=(a2 (n+1+1) (by omega)).trans ((a3.out _ (by omega)).trans b9);clear hD a2;simp (disch:=first|omega|simp) [*];exact⟨_,_,_,⟨rfl,rfl,rfl⟩,by omega,λb hb=>by simp (disch:=omega) only[Ad];exact b0.out b hb,.inl ⟨by decide,rfl⟩⟩
   | none =>
    have he:er=0:=by rw[a5];unfold M8;rw[if_pos ⟨rfl,rfl⟩,if_pos hD]
    subst he;clear a5;refine Xv (e0l c0.out hD A nX lu c2.out c6.out) ?_;rintro _ ⟨g5,n5,bs,B5,rfl,k6,a2,k7,k8,h3,h4,k9⟩;have b0:Aa (∀b,b<n->g5 b=g b):=⟨λb hb=>(a2 b (by omega)).trans ((a3.out b (by omega)).trans (a8.out b hb))⟩;have l0:=Xu (RowsC.tree h3.from' k8 ((De k7).trans h4));have h0:=(a2 (n+1+1) (by omega)).trans ((a3.out _ (by omega)).trans b9);have m7:=(a2 n (by omega)).trans ((a3.out _ (by omega)).trans g7);clear hD a2 h3 h4 k9;generalize Aj I U=TU at *;simp (disch:=first|omega|simp) [*];refine Xv (e5.out _ _ (by omega) λb hb=>by simp (disch:=omega) only[Ad];exact b0.out b hb) ?_;rintro _ ⟨b1,b2,b3,g6,n6,rfl,m8,b4,h5⟩;have h6:=Xu b4;have m9:=(b4 (n+1+1) (by omega)).trans (by simp (disch:=omega) only[Ad];exact h0);have l1:=b4 n5 (by omega);simp (disch:=omega) only[Ag,Ad] at l1;have l2:=Xu h5;clear b4 h5;simp (disch:=first|omega|simp) [*];have h7:=l2.out.from' (g':=B9 n (Ak (Ak g6 n6 (some (.cells [.li I,.li O2,.sl b1 0 S.length S.length,.sl b2 0 E.length E.length,.li I,.li O2,.sl B5 0 TU.length TU.length] true 0))) (n+1+1) (some (.cells [.li I,.li O2,.sl b1 0 S.length S.length,.sl b2 0 E.length E.length,.li I,.li O2,.sl B5 0 TU.length TU.length] true 0)))) (n':=n6+1) (by omega) (λa h1 h2=>by rw[De (by omega),Ae (by omega),Ad (by omega)]);refine⟨_,_,_,⟨rfl,rfl,rfl⟩,by omega,λb hb=>?_,.inr ⟨rfl,_,_,_,rfl,⟨h7.s,h7.e,l0.out.from' (by omega) λa h1 h2=>?_⟩,.inr ⟨b1,0,rfl⟩,.inr ⟨b2,0,rfl⟩⟩⟩
    .rw[Ad (by omega),Ad (by omega),h6.out b (by omega),Ad (by omega)];exact b0.out b hb
    .rw[De (by omega),Ae (by omega),Ad (by omega),h6.out a (by omega),Ad (by omega)]
 .have he:M8 I O I2 O2 (Cl I L++ts)=5:=if_neg a7;rw[he];have l3:¬I2=I\/(I2=I/\¬O2=O):=by
   by_cases h:I2=I
   .exact .inr ⟨h,λh2=>a7 ⟨h,h2⟩⟩
   .exact .inl h
  clear he a7 b6 e1 e5 e6;rcases l3 with hd|⟨rfl,hd⟩
  all_goals
   refine ent pl22 func22 ?_;simp (disch:=first|omega|simp) [*];refine Xv (c9.out _ _ (by omega) λb hb=>by simp (disch:=omega) only[Ad]) ?_;rintro _ rfl;simp (disch:=first|omega|simp) [*];refine Xv (b7.out _ _ (by omega) λb hb=>by simp (disch:=omega) only[Ad]) ?_;rintro _ rfl;simp (disch:=first|omega|simp) [*];exact⟨_,_,_,⟨rfl,rfl,rfl⟩,by omega,λb hb=>by simp (disch:=omega) only[Ad],.inl ⟨by decide,rfl⟩⟩
end Go.Ai
