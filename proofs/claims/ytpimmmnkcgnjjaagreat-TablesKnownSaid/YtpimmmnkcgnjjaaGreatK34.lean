/- Parts of an interpreter and of a proof. No condition. -/
import Derived.Test.YtpimmmnkcgnjjaaGreatK25
import Derived.Test.YtpimmmnkcgnjjaaGreatK10
import Derived.Test.YtpimmmnkcgnjjaaGreatK33
import Derived.Test.YtpimmmnkcgnjjaaGreatK27
import Derived.Test.YtpimmmnkcgnjjaaGreatK23
import Derived.Test.YtpimmmnkcgnjjaaGreatK30
import Derived.Test.YtpimmmnkcgnjjaaGreatK15
set_option linter.all false
set_option maxHeartbeats 40000000
set_option maxRecDepth 10000
open Go.Proofs Go.Proofs.Tryz
namespace Go.Ai
variable {l:Wq}{g:Gb}{n I B:Nat}{w:Wd}{ts:Lq}{cs:List AV}{O:Int}{M:Az}
def Cv(l:Wq):Wq:=l.foldl (λa w=>Ek w a) []
theorem b6s:Cv (l++[w])=Ek w (Cv l):=by grind[Cv]
theorem b6t(l:Wq):Bt (Cv l):=by
 refine Pz (P:=λl=>Bt (Cv l)) (λa b f=>by cases f) (λl x h=>?_) l;grind[b6s,Vp]
theorem K2{x:Wd}:x∈Cv l↔x∈l:=by
 refine Pz (P:=λl=>x∈Cv l↔x∈l) Iff.rfl (λl y f=>?_) l;rw[b6s,Sp,f,W9,Xf,or_comm]
theorem b6u {w:Wd} : ∀ {l:Wq},(Ek w l).length≤l.length+1
 | []=>by simp [Ek]
 | x :: l=>by
  have:=b6u (w:=w) (l:=l);unfold Ek;split
  ·simp
  ·split <;> simp <;> omega
theorem b6v(l:Wq):(Cv l).length<=l.length:=by
 refine Pz (P:=λl=>(Cv l).length<=l.length) (Wy _) (λl y f=>?_) l;grind[Cv,b6u]
theorem e3x(h:∀(i j:Nat)(_:i<j)(f:j<l.length),0<=Bx l[j] (l[i]'(by omega))):Bt (A6 l):=by
 revert h;refine Pz (P:=λl=>(∀(i j:Nat)(_:i<j)(f:j<l.length),0<=Bx l[j] (l[i]'(by omega)))->Bt (A6 l)) (λ_ a b ha=>by cases ha) (λl x ih h=>?_) l;have A:=ih λi j a2 f=>by
  grind
 rw[Wb];split
 .grind
 .rename_i a0;refine A.snoc λw D=>?_;have hx:∀i (hi:i<l.length),0<=Bx x l[i]:=λi hi=>by
   grind
  have Q:∀v∈l,SL v x\/v=x:=λv hv=>by
   obtain⟨i,hi,rfl⟩:=e6l hv;grind[Vn,Vo]
  rcases Q w (Wc.1 D) with h3|rfl
  .grind
  .exfalso;apply a0
   cases hl:(A6 l).getLast? with
   | none =>
    grind
   | some z =>
    have hz:z∈A6 l:=List.mem_of_getLast? hl;obtain⟨i,hi,e⟩:=e6l D;have a1:(A6 l)[(A6 l).length-1]'(by omega)=z:=by
     grind
    by_cases a3:i=(A6 l).length-1
    .grind
    .exfalso;have U:=A i ((A6 l).length-1) hi (by omega) (by omega);rw[e,a1] at U;rcases Q z (Wc.1 hz) with Z|Z
     .exact X7 (U.trans Z)
     grind
theorem b6w{f:Wq}(A:f.Perm l)(h:∀(i j:Nat)(_:i<j)(D:j<f.length),0<=Bx f[j] (f[i]'(by omega))):A6 f=Cv l:=
 srt_eq (e3x h) (b6t l) λx=>by grind[K2,Wc]
def RowsR(R:Wd->AV->Prop)(l:Wq)(svs:List AV):Prop:=svs.length=l.length/\∀(k:Nat)(h:k<l.length),∃q,svs[k]?=some q/\R l[k] q
theorem RowsR.snoc{R:Wd->AV->Prop}{f:List AV}(h:RowsR R l f){x:Wd}{q:AV}(Q:R x q):RowsR R (l++[x]) (f++[q]):=by
 have A:=h.1;refine⟨by simp[A],λk U=>?_⟩;rw[W1,Xj] at U;by_cases D:k<l.length
 .obtain⟨Z,e1,e2⟩:=h.2 k D;refine⟨Z,?_,?_⟩
  .rw[e5v (by omega)];exact e1
  .rw[e6b D];exact e2
 .have a0:k=l.length:=by omega
  subst a0;refine⟨q,?_,?_⟩
  .rw[Xm (by omega),A,e6n];rfl
  .simpa using Q
theorem RowsR.mono{R f:Wd->AV->Prop}{A:List AV}(h:RowsR R l A)(D:∀x q,R x q->f x q):RowsR f l A:=⟨h.1,λk Q=>let ⟨q,U,e2⟩:=h.2 k Q;⟨q,U,D _ _ e2⟩⟩
def b6x(g:Gb)(n:Nat)(l:Wq)(v:AV):Prop:=∃svs,Af g n v l.length svs/\RowsR (WCR g n) l svs
theorem b6x.two{c d:Nat}{v:AV}(h:b6x (Mu c d g) n l v):∃f,Af g n v l.length f/\RowsR (WCR (Mu c d g) n) l f:=
 let ⟨f,A,D⟩:=h;⟨f,Xx (Wy _) (λa x _ hx=>b6m a x hx) A,D⟩
def RowsP(R:Wd->AV->Prop)(lo:Nat)(g:Gb)(n B:Nat)(ts:Lq)(cs:List AV):Prop:=
 cs.length=ts.length*2/\∀(k:Nat)(h:k<ts.length),∃s1 s2,cs[k*2]?=some s1/\cs[k*2+1]?=some s2/\R ts[k].1 s1/\A8 g lo n B ts[k].2 s2/\Av s2
theorem RowsP.keep{R:Wd->AV->Prop}{g': Gb}{lo n' B': Nat}(h:RowsP R lo g n B ts cs)(f:n<=n')(A:n<=B'\/B'=B\/B' < lo)(D:∀a,lo<=a->a<n->a≠B->g' a=g a):RowsP R lo g' n' B' ts cs:=
 ⟨h.1,λk Q=>let ⟨s1,s2,U,Z,h4,h5,h6⟩:=h.2 k Q;⟨s1,s2,U,Z,h4,h5.keep (Wy _) f A D,h6⟩⟩
theorem RowsP.snoc{R:Wd->AV->Prop}{lo:Nat}(h:RowsP R lo g n B ts cs){t:List Int×Wd}{s1 s2:AV}(D:R t.1 s1)(Q:A8 g lo n B t.2 s2)(U:Av s2):RowsP R lo g n B (ts++[t]) (cs++[s1,s2]):=by
 have f:=h.1;refine⟨by simp[f];omega,λk Z=>?_⟩;rw[W1,Xj] at Z;by_cases A:k<ts.length
 .obtain⟨t1,t2,e1,e2,e3,e4,e5⟩:=h.2 k A;refine⟨t1,t2,?_,?_,?_,?_,e5⟩
  .rw[e5v (by omega)];exact e1
  .rw[e5v (by omega)];exact e2
  .rw[e6b A];exact e3
  .rw[e6b A];exact e4
 .have a0:k=ts.length:=by omega
  subst a0;refine⟨s1,s2,?_,?_,?_,?_,U⟩
  .rw[Xm (by omega),f,e6n];rfl
  .rw[Xm (by omega),f,show ts.length*2+1-ts.length*2=1 by omega];rfl
  .simpa using D
  .simpa using Q
def noB(B:Nat)(g:Gb):Gb:=λa=>if a=B then none else g a
theorem RowsP.rows{c d:Nat}{f g': Gb}{lo:Nat}(h:RowsP (WCR (Mu c d f) lo) lo g n B ts cs)(Q:lo<=n)(hB:lo<=B)(U:∀a,a<lo->c<a->a≠d->g' a=f a)(Z:∀a,lo<=a->a<n->g' a=g a):RowsT (noB B g') n ts cs:=
 ⟨h.1,λk hk=>let ⟨s1,s2,h1,h3,h4,⟨gk,h5,h6⟩,_⟩:=h.2 k hk;⟨s1,s2,h1,h3,Xx Q (λa x A hx=>by
  unfold Mu at hx;split at hx
  .rename_i D;unfold noB;rw[if_neg (by omega),U a A D.1 D.2];exact hx
  .cases hx) h4.1,Xx (Wy _) (λa x A hx=>by
  obtain⟨e1,e2,e3,e4⟩:=h5 a x hx;unfold noB;rw[if_neg e4,Z a e2 e3];exact e1) h6⟩⟩
theorem b6y{V A:Wd->Option Int}(h:∀p o,V p=some o->A p=some o):∀(w p:Wd)(d:Bool)(r:Wd),knM V d p w=some r->knM A d p w=some r
 | [],p,d,r,f=>by assumption
 | i::w,p,true,r,f=>by grind[Sq]
 | i::w,p,false,r,f=>by
  unfold knM at f |-
  cases D:V (p++[i]) with
  | none=>grind
  | some o =>
   rw[D] at f;rw[h _ _ D];obtain⟨q,Q,rfl⟩:=Xq.1 f;show Option.map _ _=_;rw[b6y h w _ _ q Q];rfl
theorem b6z{V:Wd->Option Int}:∀(a b p:Wd)(d:Bool)(r:Wd),knM V d p (a++b)=some r->(knM V d p a).isSome=true
 | [],b,p,d,r,_=>by rfl
 | i::a,b,p,true,r,h=>by grind[Sq]
 | i::a,b,p,false,r,h=>by
  rw[e8r] at h;unfold knM at h |-
  cases f:V (p++[i]) with
  | none=>grind
  | some o =>
   rw[f] at h;obtain⟨q,A,rfl⟩:=Xq.1 h;have:=b6z a b _ _ q A;show (Option.map _ _).isSome=true;rw[Option.isSome_map];exact this
theorem e3y{a b:Lq}{p:Wd}{o:Int}:valT a p=some o->valT (a++b) p=some o:=by
 induction a with
 | nil=>intro h;cases h
 | cons t a f =>
  (simp_all[valT];grind)
theorem b7a{O:Int}{L:Lq}:Gw (Aj I L) (Bk (Aj I L)) (En I L):=by
 have f:∀x,x∈rbk (Bk (Aj I L)) [] (endsM (Aj I L) 0)↔∃s∈endsM (Aj I L) 0,x=eW (Bk (Aj I L)) s:=λx=>by
  grind[a5v]
 intro u;unfold En;rw[Xc];constructor
 .rintro⟨w,h,rfl⟩;exact⟨(f w).1 h,rfl⟩
 .rintro⟨A,D⟩;exact⟨u.1,(f _).2 A,by grind⟩
theorem b7b{L:Lq}(f:Cc I O L)(hC:Ej L)(h:goT I O (Aj I L) 0 1=some (Aj I L).length):Aj I (En I L)=Aj I L:=
 (BF.of f hC h).tl.rowsU f.o1 (b7a (O:=O))
theorem e3z(U:M.ok){I:Nat}{O:Int}(hI:M.inp=I){L:Lq}(f:Cc I O L)(Z:Fm M L)(a0:goT I O (Aj I L) 0 1=some (Aj I L).length):Fm M (En I L):=by
 have hC:=Z.cons;have A:=BF.of f hC a0;have D:=b7a (I:=I) (O:=O) (L:=L);have hv:=A.tl.valid f.o1 D;have hc:=A.tl.cons f.o1 D;intro u Q;obtain⟨h1,h2⟩:=(D u).1 Q;obtain⟨_,_,_,h6⟩:=A.tl.endr f.o1 h1;have h7:=b5a hc Q (hv u Q);rw[<- Vt hv hc h6,b7b f hC a0,Vt f.ok hC h6] at h7;have h8:inW u.1 M.inp=true:=by grind
 refine⟨?_,h8⟩;have hr:=U.2.2.2.2.1;exact b4y U (λt ht=>(Z t ht).1) u.1 [] u.2 false (.inr ⟨0,rfl,by omega⟩) h8 (λh=>by cases h) h7
theorem long_ex2:∀ {l:Wq},0 < l.length→∃ w∈l,∀ v∈l,v.length≤w.length
 | [],h=>by cases h
 | [x],_=>⟨x,by simp,fun v hv=>by grind⟩
 | x :: y :: l,_=>by
  obtain ⟨w,hw,h⟩:=long_ex2 (l:=y :: l) (by simp);grind
theorem e4a(f:w∈l):∃v∈Em l,w.length<=v.length/\v.take w.length=w:=by
 have h:0<(l.filter λv=>decide (w.length<=v.length/\v.take w.length=w)).length:=e7k (e6t.2 ⟨f,decide_eq_true ⟨Wy _,Xl⟩⟩);obtain⟨v,A,hm⟩:=long_ex2 h;obtain⟨D,Q⟩:=e6t.1 A;obtain⟨U,Z⟩:=of_decide_eq_true Q;refine⟨v,e6t.2 ⟨D,?_⟩,U,Z⟩
 cases hf:Fo l v with
 | false=>rfl
 | true =>
  unfold Fo at hf;grind
def E3(M:Az)(l:Wq):Lq:=(Em (Cv l)).map (runT M)
theorem Sy{T:Tq}{E W:Wq}{x:Wd}:x∈A2 T E W↔∃w∈W,∃e∈E,x=w++e/\Bd T 0 x=none:=by
 unfold A2 F9;rw[e6v];constructor
 .rintro⟨w,f,h⟩;obtain⟨A,Q⟩:=e6t.1 h;obtain⟨e,D,rfl⟩:=Xc.1 A;exact⟨w,f,e,D,rfl,by simp_all⟩
 grind
theorem b7c(f:M.inp=I){S E:Wq}{T:Tq}(h:∀w∈Aq I S,inW w I=true)(A:∀e∈E,inW e I=true):Fm M (E3 M (A2 T E (Aq I S))):=by
 intro t D;obtain⟨x,hx,rfl⟩:=Xc.1 D;obtain⟨w,Q,e,U,rfl,_⟩:=Sy.1 (K2.1 (e6t.1 hx).1);exact⟨rfl,by rw[f];exact N5 (h w Q) (A e U)⟩
theorem e4b(A:M.ok){I:Nat}{O:Int}(f:M.inp=I){S E:Wq}{L:Lq}(Z:Cc I O L)(hR:Fm M L)(a0:goT I O (Aj I L) 0 1=some (Aj I L).length)(hw:∀w∈Aq I S,inW w I=true)(he:∀e∈E,inW e I=true):
  Fm M (En I L++E3 M (A2 (Aj I L) E (Aq I S)))/\A2 (Aj I (En I L++E3 M (A2 (Aj I L) E (Aq I S)))) E (Aq I S)=[]:=by
 have D:=e3z A f Z hR a0;have hT:=b7c f (S:=S) (E:=E) (T:=Aj I L) hw he;have Q:Fm M (En I L++E3 M (A2 (Aj I L) E (Aq I S))):=λt ht=>by
  rcases W9.1 ht with h|h
  .exact D t h
  .exact hT t h
 refine⟨Q,?_⟩;have U:=Q.valid A;rw[f] at U;have a1:=D.valid A;rw[f] at a1;have hc:=Q.cons;rw[List.eq_nil_iff_forall_not_mem];intro x hx;obtain⟨w,h1,e,h2,rfl,h3⟩:=Sy.1 hx;have a2:inW (w++e) I=true:=N5 (hw w h1) (he e h2);rw[Vt U hc a2] at h3
 cases hk:Bd (Aj I L) 0 (w++e) with
 | some r =>
  rw[<- b7b Z hR.cons a0,Vt a1 D.cons a2] at hk;grind[e3y,b6y]
 | none =>
  obtain⟨v,a3,a4,a5⟩:=e4a (K2.2 (Sy.2 ⟨w,h1,e,h2,rfl,hk⟩));have hm:runT M v∈En I L++E3 M (A2 (Aj I L) E (Aq I S)):=List.mem_append_right _ (Xc.2 ⟨v,a3,rfl⟩);have h4:=b5a hc hm (U _ hm);grind[List.take_append_drop,runT,b6z]
theorem Mr.listC {g:Gb} {lo n:Nat} {l:Wq} {rv:AV} (h:Mr g lo n l rv) : Cu g n l rv:=by
 obtain⟨B,cs,rfl,h1,h2,⟨z,h3⟩,h4,h5⟩:=h
 have hl:=h4.1
 exact⟨cs,.inr ⟨B,0,h2,.inl ⟨_,rfl⟩,cs,true,z,h3,by simp,by simp⟩,h4.ext (Nat.le_refl _) fun a x _ hx=>(B8 hx).2,h5⟩
theorem Mr.capQ{lo:Nat}{f:AV}(h:Mr g lo n l f):∃B,f=.sl B 0 l.length l.length:=by
 obtain⟨B,cs,rfl,_⟩:=h;exact⟨B,rfl⟩
theorem e4c{S E:Wq}{T:Tq}(f:Hw I O S E T)(a0:∀w∈S,w.length<=100)(a1:∀e∈E,e.length<=100)(g:Gb)(n:Nat)(sv ev tv:AV)(h:A7 g n S E T sv ev tv):
  WC 0 prog 14 [.agg [.li I,.li O,sv,ev,.li I,.li O,tv]] ⟨.fn g,n⟩ λr=>∃Z g' n',r=.ret (.tup [Z,.li 0]) ⟨.fn g',n'⟩/\n<=n'/\(∀b,b<n->g' b=g b)/\Mr g' n n' (Em (Cv (A2 T E (Aq I S)))) Z:=by
 have a2:=h.s.one;have a3:=h.e.one;have a4:=h.t.choose_spec.1.one;have a5:=f.i2;have hU:∀w∈A2 T E (Aq I S),w.length<=300/\N8 w:=λw Q=>by
  obtain⟨u,hu,Q⟩:=e6v.1 Q;obtain⟨e,he,rfl⟩:=Xc.1 (e6t.1 Q).1;obtain⟨k,hk⟩:=e8t hu;have D:=Sv f.sw hk;have A:=f.ew e he;have h3:=a1 e he;have h4:u.length<=101:=by
   unfold Aq at hu;rcases W9.1 hu with h|h
   .have:=a0 u h;omega
   .obtain⟨s,hs,h⟩:=e6v.1 h;obtain⟨i,_,rfl⟩:=Xc.1 h;have:=a0 s hs;rw[W1,Xj];omega
  refine⟨by rw[W1];omega,λi hi=>?_⟩;have h5:inW (u++e) I=true:=N5 D.2 A.2.2;have h6:0<=i/\i<(I:Int):=by simpa using W7.1 h5 i hi
  omega
 have hb:(A2 T E (Aq I S)).length<=1600:=by
  have D:=Sw (T:=T) (E:=E) (ws:=Aq I S);have A:(Aq I S).length<=80:=by
   rw[Pw];have:=e6m f.sl f.i2;have:=f.sl;omega
  have:=e6m A f.el;omega
 refine Xs (b6b _ _ _ _ _ _ _ (by simp[a2,a3,a4]) (λl=>A6 l=A6 l/\l=Cv (A2 T E (Aq I S))) (λl hl=>?_) g n (λgX n2 U hX=>f.check (h.mono U hX)) (λgX n2 U hX=>Xs (a5x f.i1 (by omega) (by have:=f.sl;omega) f.sw (by have:=f.el;omega) (W6 (e6m (Nat.add_le_add f.sl (e6m f.sl f.i2)) f.el) (by decide)) f.ew f.t0 f.ok (.li O) (.li I) (.li O) rfl gX n2 sv ev tv (h.mono U hX).s.listV (h.mono U hX).e.listV (h.mono U hX).t) ?_)) ?_
 .obtain⟨_,rfl⟩:=hl;exact⟨by have:=b6v (A2 T E (Aq I S));omega,λw Q=>hU w (K2.1 Q)⟩
 .rintro _ ⟨l',ov,g',n',rfl,D,A,h3,h4,h5⟩;exact⟨A6 l',ov,g',n',rfl,⟨rfl,b6w h3 h4⟩,D,A,h5⟩
 .rintro _ ⟨l,Z,g',n',rfl,⟨_,rfl⟩,D,A,h3⟩;exact⟨Z,g',n',rfl,D,A,h3⟩
end Go.Ai
