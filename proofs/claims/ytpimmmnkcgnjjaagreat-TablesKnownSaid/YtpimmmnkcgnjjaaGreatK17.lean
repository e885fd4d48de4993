/- Parts of an interpreter and of a proof. No condition. -/
import Derived.Shelf.SlSortCmp.WholeK
import Derived.Test.YtpimmmnkcgnjjaaGreatProg
import Derived.Shelf.SlSortCmp.Whole1
import Derived.Test.YtpimmmnkcgnjjaaGreatRows
import Derived.Test.YtpimmmnkcgnjjaaGreatK16
import Derived.Test.YtpimmmnkcgnjjaaGreatK10
import Derived.Test.YtpimmmnkcgnjjaaGreatK07
import Derived.Test.YtpimmmnkcgnjjaaGreatK15
set_option linter.all false
set_option maxHeartbeats 40000000
set_option maxRecDepth 100000
open Go.Proofs Go.Proofs.Tryz
namespace Go.Ai
variable {l E:Wq}{w:Wd}{T:Tq}{g gL:Gb}{X:Nat→Prop}{n2:Nat}
theorem b5p(f h A c3 c4 c5 D:AV)(Q:allOne [f,h,A,c3,c4,c5,D]=true)(g:Gb)(n:Nat):
  WC 0 prog 108 [.agg [f,h,A,c3,c4,c5,D]] ⟨.fn g,n⟩ λr=>r=.ret (.func (.func 136) [] [.ptr n 0]) ⟨.fn (Ak g n (some (.cells [f,h,A,c3,c4,c5,D] true 0))),n+1⟩:=by
 refine ent [] func108 ?_;simp (disch:=first|omega|simp) [*]
def F9(T:Tq)(E:Wq)(w:Wd):Wq:=(E.map (w ++ ·)).filter λx=>(Bd T 0 x).isNone
def A2(T:Tq)(E:Wq)(ws:Wq):Wq:=ws.flatMap (F9 T E)
theorem e2e{k:Nat}(h:k<E.length):F9 T (E.take (k+1)) w=F9 T (E.take k) w++(if (Bd T 0 (w++E[k])).isNone then [w++E[k]] else []):=by
 unfold F9;rw[e7h h,e6z,List.filter_append];congr 1;by_cases f:(Bd T 0 (w++E[k])).isNone=true<;>simp[f]
theorem e2f{ws:Wq}{k:Nat}(h:ws[k]?=some w):A2 T E (ws.take (k+1))=A2 T E (ws.take k)++F9 T E w:=by
 unfold A2;obtain⟨f,rfl⟩:=W8.1 h;rw[e7h f,List.flatMap_append];simp
def E2(g:Gb)(lo B:Nat):Gb:=λa=>if lo<=a/\a≠B then g a else none
theorem K0{lo B a:Nat}{z:Blk}(h:E2 g lo B a=some z):lo<=a/\a≠B/\g a=some z:=by
 unfold E2 at h;split at h
 .rename_i f;exact⟨f.1,f.2,h⟩
 .cases h
theorem V2{lo B a:Nat}(f:lo<=a)(h:a≠B):E2 g lo B a=g a:=if_pos ⟨f,h⟩
def Iw(X:Nat->Prop)(gL:Gb)(lo n2:Nat)(l:Wq)(ov:AV):Prop:=
 (l=[]/\ov=.nl)\/(0<l.length/\∃B cs,ov=.slq B 0 l.length 0/\lo<=B/\B<n2/\X B/\gL B=some (.cells cs true 1)/\cs.length=l.length/\RowsW (E2 gL lo B) n2 l cs/\∀q∈cs,Av q)
theorem Iw.keep{Y:Nat->Prop}{g': Gb}{lo n': Nat}{A:AV}(h:Iw X gL lo n2 l A)(hX:∀b,lo<=b->b<n2->X b->Y b)(Z:n2<=n')(D:∀b,lo<=b->b<n2->g' b=gL b):Iw Y g' lo n' l A:=by
 rcases h with h|⟨h0,B,cs,h1,f,Q,h9,h4,h5,h7,h8⟩
 .exact .inl h
 .refine .inr ⟨h0,B,cs,h1,f,by omega,hX _ f Q h9,(D B f Q).trans h4,h5,h7.ext Z λa z ha hz=>?_,h8⟩;obtain⟨U,e2,e3⟩:=K0 hz;rw[V2 U e2,D a U ha];exact e3
theorem Iw.push{gN:Gb}{lo f:Nat}{x:Wd}{cs:List AV}{A:AV}(B:Nat)(U:RowsW (E2 gL lo B) n2 l cs)(Z:∀q∈cs,Av q)(hn:n2<=f)(a3:lo<=n2)(hg:∀b,lo<=b->b<n2->b≠B->gN b=gL b)(a0:E0 gN n2 f x A)(a1:Av A)(a2:gN (f+1)=some (.cells (cs++[A]) true 1))(hX:X (f+1)):Iw X gN lo (f+1+1) (l++[x]) (.slq (f+1) 0 (l.length+1) 0):=by
 refine .inr ⟨by simp,f+1,cs++[A],by simp,by omega,by omega,hX,a2,by simp[U.1],RowsW.snoc (U.ext (by omega) λa z ha Q=>?_) ?_,λq hq=>?_⟩
 .obtain⟨D,e2,e3⟩:=K0 Q;rw[V2 D (by omega),hg a D ha e2];exact e3
 .obtain⟨gk,h1,h2⟩:=a0;refine Xx (by omega) (λa z _ Q=>?_) h2;obtain⟨D,e2,e3⟩:=h1 a z Q;rw[V2 (by omega) (by omega)];exact D
 .rcases W9.1 hq with h|h
  .exact Z q h
  .rw[Xf.1 h];exact a1
def J2(X:Nat->Prop)(g:Gb)(n:Nat)(tc:List AV)(l:Wq)(gL:Gb)(n2:Nat):Prop:=
 (∀b,b<n->gL b=g b)/\n+3<=n2/\gL n=some (.cells tc true 0)/\gL (n+2)=some (.cells tc true 0)/\∃ov,gL (n+1)=some (.cells [ov] true 0)/\Iw X gL (n+3) n2 l ov
theorem J2.keep{Y:Nat->Prop}{g': Gb}{n n': Nat}{D:List AV}(h:J2 X g n D l gL n2)(hX:∀b,n+3<=b->b<n2->X b->Y b)(Q:n2<=n')(f:∀b,b<n2->g' b=gL b):J2 Y g n D l g' n':=by
 obtain⟨U,h2,Z,h4,ov,h5,h6⟩:=h;exact⟨λb A=>(f b (by omega)).trans (U b A),by omega,(f _ (by omega)).trans Z,(f _ (by omega)).trans h4,ov,(f _ (by omega)).trans h5,h6.keep hX Q λb _ A=>f b A⟩
theorem b5q{I i:Nat}(h:inW w I=true)(hi:i<I):inW (w++[(i:Int)]) I=true:=N5 h (by simp[inW];omega)
theorem Sv{I:Nat}{S:Wq}(A:∀w∈S,w.length<=300/\inW w I=true){k:Nat}{w:Wd}(h:(Aq I S)[k]?=some w):w.length<=301/\inW w I=true:=by
 have D:=e5w h;rcases W9.1 D with f|f
 .have:=A w f;exact⟨by omega,this.2⟩
 .obtain⟨s,Q,U⟩:=e6v.1 f;obtain⟨i,hi,rfl⟩:=Xc.1 U;have:=A s Q;exact⟨by rw[W1,Xj];omega,b5q this.2 (e6u.1 hi)⟩
theorem b5r:(F9 T E w).length<=E.length:=by
 unfold F9;exact W6 (List.length_filter_le _ _) (by simp)
theorem Sw {T:Tq} {E:Wq} : ∀ {ws:Wq},(A2 T E ws).length≤ws.length * E.length
 | []=>by simp [A2]
 | w :: ws=>by
  have h1:=Sw (T:=T) (E:=E) (ws:=ws);have h2:=b5r (T:=T) (E:=E) (w:=w);unfold A2 at h1 ⊢;rw [e7i,W1,Xi,e6d]; omega
def cI(x y:Int):Int:=if x<y then -1 else if y<x then 1 else 0
theorem b5s(x:Int)(g:Gb)(n:Nat):WC 0 prog 158 [.li x] ⟨.fn g,n⟩ λr=>r=.ret (.lit (.bool false)) ⟨.fn g,n⟩:=by
 refine ent [] func158 ?_;simp (disch:=first|omega|simp) [*]
theorem b5t(x y:Int)(g:Gb)(n:Nat):WC 0 prog 140 [.li x,.li y] ⟨.fn g,n⟩ λr=>r=.ret (.li (cI x y)) ⟨.fn g,n⟩:=by
 obtain⟨U,f⟩:∃c,c=cI x y:=⟨_,rfl⟩;rw[<- f];unfold cI at f;have A:=Xr (b5s x g n);have D:=Xr (b5s y g n);rcases Int.lt_trichotomy x y with h|h|h
 .rw[if_pos h] at f;refine ent [] func140 ?_;simp (disch:=first|omega|simp) [*];refine Xs A.out ?_;rintro _ rfl;simp (disch:=first|omega|simp) [*];refine Xs D.out ?_;rintro _ rfl;simp (disch:=first|omega|simp) [*]
 .subst h;rw[if_neg (by omega),if_neg (by omega)] at f;refine ent [] func140 ?_;simp (disch:=first|omega|simp) [*];refine Xs A.out ?_;rintro _ rfl;simp (disch:=first|omega|simp) [*];refine Xs D.out ?_;rintro _ rfl;simp (disch:=first|omega|simp) [*]
 .have Q:¬x<y:=by omega
  rw[if_neg Q,if_pos h] at f;refine ent [] func140 ?_;simp (disch:=first|omega|simp) [*];refine Xs A.out ?_;rintro _ rfl;simp (disch:=first|omega|simp) [*];refine Xs D.out ?_;rintro _ rfl;simp (disch:=first|omega|simp) [*]
theorem e2g(x y:Int)(g:Gb)(n B:Nat)(hB:g B=some (.cells [.li x,.li y] true 0))(a1:B<n):WC 0 prog 139 [.sl B 0 2 2] ⟨.fn g,n⟩ λr=>r=.ret (.li (if x=0 then y else x)) ⟨.fn g,n⟩:=by
 obtain⟨U,Z⟩:∃c,c=if x=0 then y else x:=⟨_,rfl⟩;rw[<- Z];have Q:=Xr Z;clear Z;refine ent [] func139 ?_;simp (disch:=first|omega|simp) [*];refine Xv (λm f H'=>∃k:Nat,k<=2/\m=2-k/\H'=⟨.fn g,n⟩/\(k=1->x=0)/\(k=2->x=0/\y=0)/\f 3=some (.li 0)/\f 6=some (.sl B 0 2 2)/\f 7=some (.li 2)/\f 8=some (.li k)) (m0:=2) ?_ ?_
 .exact⟨0,by omega,rfl,rfl,λh=>by omega,λh=>by omega,by simp[*]⟩
 rintro m f H' ⟨k,hk,rfl,rfl,h1,h2,w3,w6,w7,A⟩ ih;have HX:=Xr (And.intro h1 h2);clear h1 h2;refine rnd [] ?_;rcases (by omega:k=0\/k=1\/k=2) with rfl|rfl|rfl
 .have a0:f 8=some (.li 0):=A;clear A hk;by_cases hx:x=0
  .have a2:=Xr hx;subst hx;simp (disch:=first|omega|simp) [*];exact ih.out 1 _ _ (by omega) ⟨1,by omega,rfl,rfl,λ_=>rfl,λh=>by omega,by simp[*]⟩
  .have D:U=x:=by rw[Q.out,if_neg hx]
   subst D;simp (disch:=first|omega|simp) [*]
 .have a0:f 8=some (.li 1):=A;have hx:=HX.out.1 rfl;clear A hk;subst hx;have D:U=y:=by rw[Q.out,if_pos rfl]
  clear Q HX;by_cases hy:y=0
  .subst hy;simp (disch:=first|omega|simp) [*];exact ih.out 0 _ _ (by omega) ⟨2,by omega,rfl,rfl,λh=>by omega,λ_=>⟨rfl,rfl⟩,by simp[*]⟩
  .subst D;simp (disch:=first|omega|simp) [*]
 .have a0:f 8=some (.li 2):=A;obtain⟨hx,hy⟩:=HX.out.2 rfl;clear A hk;have D:U=0:=by rw[Q.out,hx,hy];rfl
  subst D;simp (disch:=first|omega|simp) [*]
def slcM:Wd->Wd->Int
 | [],[]=>0
 | [],_::_=>-1
 | _::_,[]=>1
 | x::a,y::b=>if cI x y=0 then slcM a b else cI x y
theorem slcM_lex:∀(a b:Wd),a.length=b.length->slcM a b=lexC a b
 | [],[],_=>rfl
 | [],_::_,h=>by cases h
 | _::_,[],h=>by cases h
 | x::a,y::b,h=>by
  show (if cI x y=0 then slcM a b else cI x y)=if x<y then -1 else if y<x then 1 else lexC a b;rw[slcM_lex a b (by simpa using h)];unfold cI;by_cases f:x<y
  .simp[f]
  .by_cases A:y<x
   .simp[f,A]
   .simp[f,A]
theorem e2h(a b:Wd)(a8:a.length<=1000000)(a9:b.length<=1000000)(g:Gb)(n:Nat)(Q sb:AV)(ha:Al g n a Q)(hb:Al g n b sb):
  WC 0 prog 141 [Q,sb] ⟨.fn g,n⟩ λr=>r=.ret (.li (slcM a b)) ⟨.fn g,n⟩:=by
 have b0:=@Au prog _ _ _ _ _ ha;have b1:=@Au prog _ _ _ _ _ hb;have HA:=Xr ha;have HB:=Xr hb;clear ha hb;obtain⟨A,a0⟩:∃c,c=slcM a b:=⟨_,rfl⟩;rw[<- a0];have a5:=Xr a0;clear a0;refine ent [] func141 ?_;simp (disch:=first|omega|simp) [*];refine Xv (λm h H'=>∃k:Nat,k<=a.length/\k<=b.length/\m=a.length-k/\H'=⟨.fn g,n⟩/\Aa (A=slcM (a.drop k) (b.drop k))/\h 0=some Q/\h 1=some sb/\h 9=some Q/\h 10=some (.li a.length)/\h 11=some (.li k)) (m0:=a.length) ?_ ?_
 .exact⟨0,W3 _,W3 _,rfl,rfl,⟨a5.out⟩,by simp[*]⟩
 clear a5;rintro m h H' ⟨k,hk,b2,rfl,rfl,D,w0,w1,w9,b3,b4⟩ ih;refine rnd [] ?_;by_cases a6:k<a.length
 .have a7:(k:Int)<(a.length:Int):=by omega
  obtain⟨a1,o1,b5,b6,b7⟩:=X5 HA.out a6;have a3:Aa (a.drop k=a[k]::a.drop (k+1)):=⟨Xh a6⟩;by_cases U:k<b.length
  .have a4:¬(b.length:Int)<=(k:Int):=by omega
   obtain⟨a2,o2,b8,b9,c0⟩:=X5 HB.out U;have Z:Aa (A=if cI a[k] b[k]=0 then slcM (a.drop (k+1)) (b.drop (k+1)) else cI a[k] b[k]):=⟨by
    rw[D.out,a3.out,Xh U];rfl⟩
   have HC:=Xr (b5t a[k] b[k] g n);clear D a3;generalize cI a[k] b[k]=c at *;generalize a[k]=x at *;generalize b[k]=y at *;simp (disch:=first|omega|simp) [*];refine Xs HC.out ?_;rintro _ rfl;by_cases hc:c=0
   .rw[if_pos hc] at Z;subst hc;simp (disch:=first|omega|simp) [*];exact ih.out (a.length-(k+1)) _ _ (by omega) ⟨k+1,by omega,by omega,rfl,rfl,Z,by simp[*]⟩
   .rw[if_neg hc] at Z;have f:=Z.out;subst f;simp (disch:=first|omega|simp) [*]
  .have a4:(b.length:Int)<=(k:Int):=by omega
   have f:A=1:=by rw[D.out,a3.out,e6f (by omega:b.length<=k)];rfl
   subst f;simp (disch:=first|omega|simp) [*]
 .have a7:¬(k:Int)<(a.length:Int):=by omega
  have c1:k=a.length:=by omega
  by_cases U:k<b.length
  .have a4:(a.length:Int)<(b.length:Int):=by omega
   have f:A = -1:=by rw[D.out,e6f (by omega:a.length<=k),Xh U];rfl
   subst f;simp (disch:=first|omega|simp) [*]
  .have a4:¬(a.length:Int)<(b.length:Int):=by omega
   have f:A=0:=by rw[D.out,e6f (by omega:a.length<=k),e6f (by omega:b.length<=k)];rfl
   subst f;simp (disch:=first|omega|simp) [*]
theorem e2i(a b:Wd):(if cI (a.length:Int) (b.length:Int)=0 then slcM a b else cI (a.length:Int) (b.length:Int))=Bx a b:=by
 unfold Bx;rcases Nat.lt_trichotomy a.length b.length with h|h|h
 .have:cI (a.length:Int) (b.length:Int) = -1:=by unfold cI;rw[if_pos (by omega)]
  rw[this,if_neg (by decide),if_pos h]
 .have:cI (a.length:Int) (b.length:Int)=0:=by unfold cI;rw[if_neg (by omega),if_neg (by omega)]
  rw[this,if_pos rfl,slcM_lex a b h,if_neg (by omega),if_neg (by omega)]
 .have:cI (a.length:Int) (b.length:Int)=1:=by unfold cI;rw[if_neg (by omega),if_pos (by omega)]
  rw[this,if_neg (by decide),if_neg (by omega),if_pos h]
theorem b5u(a b:Wd)(Q:a.length<=1000000)(U:b.length<=1000000)(g:Gb)(n:Nat)(h A:AV)(D:Al g n a h)(f:Al g n b A):
  WC 0 prog 110 [h,A] ⟨.fn g,n⟩ λr=>r=.ret (.li (Bx a b)) ⟨.fn g,n⟩:=by
 refine X0 rfl ?_;have a1:=@Au prog _ _ _ _ _ D;have a2:=@Au prog _ _ _ _ _ f;have Z:=Xr (e2h a b Q U g n h A D f);have HL:=Xr (b5t a.length b.length g n);have a0:=Xr (e2i a b);clear D f;generalize Bx a b=a3 at *;generalize slcM a b=c2 at *;generalize cI (a.length:Int) (b.length:Int)=c1 at *;refine ent [] func110 ?_;simp (disch:=first|omega|simp) [*];refine Xs HL.out ?_;rintro _ rfl;simp (disch:=first|omega|simp) [*];refine Xs Z.out ?_;rintro _ rfl;simp (disch:=first|omega|simp) [*];refine Xs (e2g c1 c2 _ _ n Ah (by omega)) ?_;rintro _ rfl;rw[a0.out];simp (disch:=first|omega|simp) [*];exact⟨W4 n,λb f=>Ad f⟩
theorem Px(l:Wd)(i:Nat):(wdC l)[i]?=l[i]?.map λ(x:Int)=>AV.li x:=by unfold wdC;simp
def Dh(l:Wd)(k:Nat):Wd:=(List.range l.length).map λp=>if p<k\/l.length-k<=p then l.getD (l.length-1-p) 0 else l.getD p 0
theorem Mp(l:Wd)(k:Nat):(Dh l k).length=l.length:=by unfold Dh;simp
theorem Mq(l:Wd)(k i:Nat)(h:i<l.length):(Dh l k)[i]?=some (if i<k\/l.length-k<=i then l.getD (l.length-1-i) 0 else l.getD i 0):=by
 unfold Dh;simp[h]
theorem b5v(l:Wd):Dh l 0=l:=by
 refine e8d λi=>?_;by_cases h:i<l.length
 .rw[Mq l 0 i h];have:¬(i<0\/l.length-0<=i):=by omega
  rw[if_neg this,Xo,W5 h];rfl
 .rw[e7a (by rw[Mp];omega),e7a (by omega)]
theorem b5w(l:Wd)(k:Nat)(h:l.length<=2*k+1):Dh l k=l.reverse:=by
 refine e8d λi=>?_;by_cases hi:i<l.length
 .rw[Mq l k i hi,List.getElem?_reverse hi];have f:l.getD (l.length-1-i) 0=l[l.length-1-i]'(by omega):=by
   rw[Xo,W5 (by omega)];rfl
  rw[W5 (by omega),<- f];split
  .rfl
  .rename_i A;have:i=l.length-1-i:=by omega
   rw[<- this]
 .rw[e7a (by rw[Mp];omega),e7a (by rw[e7p];omega)]
theorem b5x(l:Wd)(k:Nat)(h:2*k+1<l.length):((wdC (Dh l k)).set k (.li (l.getD (l.length-1-k) 0))).set (l.length-1-k) (.li (l.getD k 0))=wdC (Dh l (k+1)):=by
 refine e8d λi=>?_;by_cases hi:i<l.length
 .rw[Px,Mq l (k+1) i hi];by_cases f:l.length-1-k=i
  .subst f;rw[e7g (by rw[Xe,Cb,Mp];exact hi)];have:l.length-1-k<k+1\/l.length-(k+1)<=l.length-1-k:=by omega
   rw[if_pos this,show l.length-1-(l.length-1-k)=k by omega];rfl
  .rw[e6k f];by_cases A:k=i
   .subst A;rw[e7g (by rw[Cb,Mp];exact hi)];have:k<k+1\/l.length-(k+1)<=k:=by omega
    rw[if_pos this];rfl
   .rw[e6k A,Px,Mq l k i hi];by_cases D:i<k\/l.length-k<=i
    .have:i<k+1\/l.length-(k+1)<=i:=by omega
     rw[if_pos D,if_pos this]
    .have:¬(i<k+1\/l.length-(k+1)<=i):=by omega
     rw[if_neg D,if_neg this]
 .rw[e7a (by simp[Cb,Mp];omega),e7a (by simp[Cb,Mp];omega)]
theorem V3(a d z m:Nat)(l:Wd)(hl:l.length<=1000000)(g:Gb)(hg:g a=some (.cells (wdC l) true z))(ha:a<m):
  WC 0 prog 117 [.slq a 0 l.length d] ⟨.fn g,m⟩ λr=>∃u g',r=.ret u ⟨.fn g',m⟩/\g' a=some (.cells (wdC l.reverse) true z)/\∀b,b≠a->g' b=g b:=by
 refine ent pl117 func117 ?_;simp (disch:=first|omega|simp) [*];refine Xv (λq f H'=>∃(k:Nat)(gL:Gb),2*k<=l.length+1/\q=l.length-k/\H'=⟨.fn gL,m⟩/\gL a=some (.cells (wdC (Dh l k)) true z)/\(∀b,b≠a->gL b=g b) /\
  f 0=some (.slq a 0 l.length d)/\f 2=some (.li (k:Int))/\f 3=some (.li ((l.length:Int)-1-k))) (m0:=l.length) ?_ ?_
 .exact⟨0,g,by omega,by omega,rfl,by rw[b5v];exact hg,λ_ _=>rfl,by simp[*]⟩
 rintro q f H' ⟨k,gL,hk,rfl,rfl,A,D,w0,w2,w3⟩ ih;have Q:=Xr D;have U:=Xr A;clear D A;refine rnd pl117 ?_;by_cases a1:2*k+1<l.length
 .have a2:(k:Int)<(l.length:Int)-1-k:=by omega
  have e1:((l.length:Int)-1-k).toNat=l.length-1-k:=by omega
  have A:=U.out;have c1:(wdC (Dh l k))[k]?=some (.li (l.getD k 0)):=by
   rw[Px,Mq l k k (by omega),if_neg (by omega)];rfl
  have c2:(wdC (Dh l k))[l.length-1-k]?=some (.li (l.getD (l.length-1-k) 0)):=by
   rw[Px,Mq l k _ (by omega),if_neg (by omega)];rfl
  have h5:(wdC (Dh l k)).length=l.length:=by rw[Cb,Mp]
  have h6:k<(wdC (Dh l k)).length:=by omega
  have Z:l.length-1-k<(wdC (Dh l k)).length:=by omega
  have a0:=b5x l k a1;rw[W5 h6,Option.some.injEq] at c1;rw[W5 Z,Option.some.injEq] at c2;generalize wdC (Dh l k)=L at *;generalize l.getD k 0=v1 at *;generalize l.getD (l.length-1-k) 0=v2 at *;have h8:l.length-1-k<(L.set k (.li v2)).length:=by rw[Xe];exact Z
  have HS:=Xr a0;clear a0;simp (disch:=first|omega|simp) [*];refine ih.out (l.length-(k+1)) _ _ (by omega) ⟨k+1,_,by omega,rfl,rfl,?_,?_,?_,?_,?_⟩
  .rw[<- HS.out];simp
  .intro b h;rw[<- Q.out b h];exact if_neg h
  .simp[*]
  .simp
  .simp;omega
 .have a2:¬(k:Int)<(l.length:Int)-1-k:=by omega
  simp (disch:=first|omega|simp) [*];exact⟨_,gL,⟨rfl,rfl⟩,by rw[U.out,b5w l k (by omega)],λb h=>Q.out b h⟩
theorem V4(a d z m:Nat)(l:Wd)(hl:l.length<=1000000)(g:Gb)(hg:g a=some (.cells (wdC l) true z))(ha:a<m):
  WC 0 prog 117 [.sl a 0 l.length d] ⟨.fn g,m⟩ λr=>∃u g',r=.ret u ⟨.fn g',m⟩/\g' a=some (.cells (wdC l.reverse) true z)/\∀b,b≠a->g' b=g b:=by
 refine ent pl117 func117 ?_;simp (disch:=first|omega|simp) [*];refine Xv (λq f H'=>∃(k:Nat)(gL:Gb),2*k<=l.length+1/\q=l.length-k/\H'=⟨.fn gL,m⟩/\gL a=some (.cells (wdC (Dh l k)) true z)/\(∀b,b≠a->gL b=g b) /\
  f 0=some (.sl a 0 l.length d)/\f 2=some (.li (k:Int))/\f 3=some (.li ((l.length:Int)-1-k))) (m0:=l.length) ?_ ?_
 .exact⟨0,g,by omega,by omega,rfl,by rw[b5v];exact hg,λ_ _=>rfl,by simp[*]⟩
 rintro q f H' ⟨k,gL,hk,rfl,rfl,A,D,w0,w2,w3⟩ ih;have Q:=Xr D;have U:=Xr A;clear D A;refine rnd pl117 ?_;by_cases a1:2*k+1<l.length
 .have a2:(k:Int)<(l.length:Int)-1-k:=by omega
  have e1:((l.length:Int)-1-k).toNat=l.length-1-k:=by omega
  have A:=U.out;have c1:(wdC (Dh l k))[k]?=some (.li (l.getD k 0)):=by
   rw[Px,Mq l k k (by omega),if_neg (by omega)];rfl
  have c2:(wdC (Dh l k))[l.length-1-k]?=some (.li (l.getD (l.length-1-k) 0)):=by
   rw[Px,Mq l k _ (by omega),if_neg (by omega)];rfl
  have h5:(wdC (Dh l k)).length=l.length:=by rw[Cb,Mp]
  have h6:k<(wdC (Dh l k)).length:=by omega
  have Z:l.length-1-k<(wdC (Dh l k)).length:=by omega
  have a0:=b5x l k a1;rw[W5 h6,Option.some.injEq] at c1;rw[W5 Z,Option.some.injEq] at c2;generalize wdC (Dh l k)=L at *;generalize l.getD k 0=v1 at *;generalize l.getD (l.length-1-k) 0=v2 at *;have h8:l.length-1-k<(L.set k (.li v2)).length:=by rw[Xe];exact Z
  have HS:=Xr a0;clear a0;simp (disch:=first|omega|simp) [*];refine ih.out (l.length-(k+1)) _ _ (by omega) ⟨k+1,_,by omega,rfl,rfl,?_,?_,?_,?_,?_⟩
  .rw[<- HS.out];simp
  .intro b h;rw[<- Q.out b h];exact if_neg h
  .simp[*]
  .simp
  .simp;omega
 .have a2:¬(k:Int)<(l.length:Int)-1-k:=by omega
  simp (disch:=first|omega|simp) [*];exact⟨_,gL,⟨rfl,rfl⟩,by rw[U.out,b5w l k (by omega)],λb h=>Q.out b h⟩
theorem V5(m:Nat)(g:Gb):WC 0 prog 117 [.nl] ⟨.fn g,m⟩ λr=>∃u,r=.ret u ⟨.fn g,m⟩:=by
 refine ent pl117 func117 ?_;simp (disch:=first|omega|simp) [*];refine Xv (λq f H'=>H'=⟨.fn g,m⟩/\f 2=some (.li 0)/\f 3=some (.li (-1))) (m0:=0) ?_ ?_
 .exact⟨rfl,by simp[*]⟩
 rintro q f H' ⟨rfl,h,A⟩ D;refine rnd pl117 ?_;simp (disch:=first|omega|simp) [*]
end Go.Ai
section
namespace Go.Proofs
open Go.Shelf
def sortT_ren:Go.Shelf.Ren:=⟨λ|6=>118|15=>138|14=>142|28=>156|29=>157|20=>159|21=>160|22=>161|23=>162|24=>163|25=>164|26=>165|27=>166|46=>172|47=>168|48=>169|49=>173|50=>174|57=>176|n=>n,λ|22=>52|24=>84|25=>118|3=>3|39=>172|0=>0|53=>189|55=>191|4=>4|46=>183|45=>182|50=>120|5=>5|9=>9|66=>197|70=>201|76=>205|77=>206|n=>n,λ|n=>n⟩
theorem sortT:Go.Proofs.SlLaysF0.n6 prog sortT_ren:={
 mixed:=by kernel_rfl
 f6:=⟨f118.name,by decide,func118.trans (congrArg some (by kernel_rfl))⟩
 f14:=⟨f142.name,by decide,func142.trans (congrArg some (by kernel_rfl))⟩
 f15:=func138.trans (congrArg some (by kernel_rfl))
 f20:=⟨f159.name,by decide,func159.trans (congrArg some (by kernel_rfl))⟩
 f21:=⟨f160.name,by decide,func160.trans (congrArg some (by kernel_rfl))⟩
 f22:=⟨f161.name,by decide,func161.trans (congrArg some (by kernel_rfl))⟩
 f23:=⟨f162.name,by decide,func162.trans (congrArg some (by kernel_rfl))⟩
 f24:=⟨f163.name,by decide,func163.trans (congrArg some (by kernel_rfl))⟩
 f25:=⟨f164.name,by decide,func164.trans (congrArg some (by kernel_rfl))⟩
 f26:=⟨f165.name,by decide,func165.trans (congrArg some (by kernel_rfl))⟩
 f27:=⟨f166.name,by decide,func166.trans (congrArg some (by kernel_rfl))⟩
 f28:=func156.trans (congrArg some (by kernel_rfl))
 f29:=func157.trans (congrArg some (by kernel_rfl))
 f46:=⟨f172.name,by decide,func172.trans (congrArg some (by kernel_rfl))⟩
 f47:=func168.trans (congrArg some (by kernel_rfl))
 f48:=func169.trans (congrArg some (by kernel_rfl))
 f49:=⟨f173.name,by decide,func173.trans (congrArg some (by kernel_rfl))⟩
 f50:=⟨f174.name,by decide,func174.trans (congrArg some (by kernel_rfl))⟩
 f57:=⟨f176.name,by decide,func176.trans (congrArg some (by kernel_rfl))⟩
 t0:=underlying0
 a0:=isAgg0
 z0:=sizeOf0
 v0:=zeroValue0
 t3:=underlying3
 a3:=isAgg3
 z3:=sizeOf3
 v3:=zeroValue3
 t4:=underlying4
 a4:=isAgg4
 z4:=sizeOf4
 v4:=zeroValue4
 t5:=underlying5
 a5:=isAgg5
 z5:=sizeOf5
 v5:=zeroValue5
 t9:=underlying9
 a9:=isAgg9
 z9:=sizeOf9
 v9:=zeroValue9
 t22:=underlying52
 a22:=isAgg52
 z22:=sizeOf52
 v22:=zeroValue52
 t25:=underlying118
 a25:=isAgg118
 z25:=sizeOf118
 v25:=zeroValue118
 t39:=underlying172
 a39:=isAgg172
 z39:=sizeOf172
 v39:=zeroValue172
 t45:=underlying182
 a45:=isAgg182
 z45:=sizeOf182
 v45:=zeroValue182
 t46:=underlying183
 a46:=isAgg183
 z46:=sizeOf183
 v46:=zeroValue183
 t50:=underlying120
 a50:=isAgg120
 z50:=sizeOf120
 v50:=zeroValue120
 t53:=underlying189
 a53:=isAgg189
 z53:=sizeOf189
 v53:=zeroValue189
 t55:=underlying191
 a55:=isAgg191
 z55:=sizeOf191
 v55:=zeroValue191
 t66:=underlying197
 a66:=isAgg197
 z66:=sizeOf197
 v66:=zeroValue197
 t70:=underlying201
 a70:=isAgg201
 z70:=sizeOf201
 v70:=zeroValue201
 t76:=underlying205
 a76:=isAgg205
 z76:=sizeOf205
 v76:=zeroValue205
 t77:=underlying206
 a77:=isAgg206
 z77:=sizeOf206
 v77:=zeroValue206 }
end Go.Proofs
end
namespace Go.Ai
section
open Go.RowKit Go.Shelf
theorem e2j(a b:Wd)(a0:a.length<=1000000)(a1:b.length<=1000000)(g:Gb)(n:Nat)(f D h Q:AV)(U:Al g n a f)(A:Al g n b h)(h1:oneC D=true)(h2:oneC Q=true):
  WC 0 prog 119 [.agg [f,D],.agg [h,Q]] ⟨.fn g,n⟩ λr=>∃g' n',r=.ret (.li (Bx a b)) ⟨.fn g',n'⟩:=by
 have h3:=U.one;have h4:=A.one;have a2:allOne [f,D]=true:=by simp[h3,h1]
 have a3:allOne [h,Q]=true:=by simp[h4,h2]
 have HC:=Xr λ(Z:Gb)(hX:∀b,b<n->Z b=g b)=>b5u a b a0 a1 Z (n+1+1) f h (Xw (by omega) hX U) (Xw (by omega) hX A);clear U A;refine ent [] func119 ?_;simp (disch:=first|omega|simp) [*];refine Xs (HC.out _ λb A=>by simp (disch:=omega) only[Ad]) ?_;rintro _ rfl;simp (disch:=first|omega|simp) [*]
theorem A8.froz{g:Gb}{lo n B:Nat}{w:Wd}{sv:AV}(h:A8 g lo n B w sv):Al (froz B g) n w sv:=by
 obtain⟨gk,A,f⟩:=h;rcases f with f|⟨a,off,D,Q,l,own,z,U,e2,e3⟩
 .exact .inl f
 .obtain⟨Z,_,_,q2⟩:=A a _ U;exact .inr ⟨a,off,D,Q,l,false,z,b3h q2 Z,e2,e3⟩
theorem b5y(key:Nat->Wd):Go.Sort.SWO (ltOf λi j=>Bx (key i) (key j)):=by
 have Q:∀i j,ltOf (λi j=>Bx (key i) (key j)) i j=decide (Bx (key i) (key j)<0):=λi j=>rfl;refine⟨λx=>?_,λx y z A f=>?_,λx y z A f=>?_⟩
 .rw[Q,decide_eq_false];intro h;exact X7 (Ho.1 h)
 .rw[Q,decide_eq_true_eq] at A f |-;exact Ho.2 ((Ho.1 A).trans (Ho.1 f))
 .rw[Q,decide_eq_false_iff_not] at A f |-;intro D;have D:=Ho.1 D;rcases Int.lt_trichotomy (Bx (key x) (key y)) 0 with h|h|h
  .exact A h
  .rw[Vn h] at D;exact f (Ho.2 D)
  .exact f (Ho.2 ((Vo h).trans D))
theorem pairs_of:∀(m:Nat)(cs:List AV),cs.length=m*2->∃its:List (List AV),its.length=m/\its.flatten=cs/\∀k (h:k<its.length),∃s1 s2,its[k]=[s1,s2]/\cs[k*2]?=some s1/\cs[k*2+1]?=some s2
  | 0, cs, h => ⟨[], rfl, by have:cs = []:= List.eq_nil_of_length_eq_zero (by omega)
                             rw[this];rfl,λk h=>by cases h⟩
  | m+1,[],h=>by simp at h
  | m+1,[_],h=>by simp at h;omega
  | m+1,a::b::cs,h=>by
    obtain⟨its,f,A,D⟩:=pairs_of m cs (by simp at h;omega);refine⟨[a,b]::its,by simp[f],by simp[A],λk Q=>?_⟩
    cases k with
    | zero=>exact⟨a,b,rfl,rfl,rfl⟩
    | succ k =>
      obtain⟨s1,s2,U,e2,e3⟩:=D k (by simpa using Q);refine⟨s1,s2,by simpa using U,?_,?_⟩
      · rw[show (k+1)*2=k*2+2 by omega];simpa using e2
      · rw[show (k+1)*2+1=(k*2+1)+2 by omega];simpa using e3
theorem e2k{us:Lq}{cs:List AV}{g:Gb}{lo n B z c:Nat}(a1:RowsF g lo n B us cs)(a5:g B=some (.cells cs true z))(a7:0<us.length)(a8:us.length<=100000)(hw:∀u∈us,u.1.length<=1000000):
  WC 0 prog 118 [.sl B 0 us.length c,.lit (.func (.func 119) #[] #[])] ⟨.fn g,n⟩ λr=>∃(Q:Lq)(a0:List AV),Q.Perm us/\(∀(i j:Nat)(_:i<j)(U:j<Q.length),¬ Bx Q[j].1 (Q[i]'(by omega)).1<0)/\r=.ret (.tup []) ⟨.fn (Ak g B (some (.cells a0 true z))),n⟩/\RowsF (Ak g B (some (.cells a0 true z))) lo n B Q a0/\∀v∈a0,v∈cs:=by
 obtain⟨its,p1,p2,p3⟩:=pairs_of us.length cs a1.1;have A:∀(k:Nat)(h:k<its.length),∃s1 s2,its[k]=[s1,s2]/\A8 g lo n B (us[k]'(by omega)).1 s1/\A8 g lo n B (us[k]'(by omega)).2 s2:=by
  intro k h;obtain⟨s1,s2,f,e2,e3⟩:=p3 k h;obtain⟨t1,t2,f1,f2,f3,f4⟩:=a1.2 k (by omega);rw[e2] at f1;rw[e3] at f2;cases f1;cases f2;exact⟨s1,s2,f,f3,f4⟩
 have h:=WC.sortK (G:=0) sortT 2 (by decide) isAgg84 sizeOf84 119 (enters_of func119 (by kernel_rfl) rfl) (its:=its) (λx hx=>by
   obtain⟨k,Z,rfl⟩:=e6l hx;obtain⟨s1,s2,f,e2,e3⟩:=A k Z;rw[f];exact⟨rfl,by simp[e2.rep.one,e3.rep.one]⟩) (λi j=>Bx (us.getD i ([],[])).1 (us.getD j ([],[])).1) (b5y λi=>(us.getD i ([],[])).1) (g:=g) (n:=n) (Bn:=B) (z:=z) (by rw[p2];exact a5) (sv:=.sl B 0 us.length c) (.inl ⟨c,by rw[p1]⟩) (by omega) (by omega) (λi j hi U=>by
   obtain⟨s1,s2,f,e2,e3⟩:=A i hi;obtain⟨t1,t2,f1,f2,f3⟩:=A j U;rw[f,f1,(G6 (d:=([],[])) (show i<us.length by omega)).2,(G6 (d:=([],[])) (show j<us.length by omega)).2];exact e2j _ _ (hw _ (W2 _)) (hw _ (W2 _)) _ n s1 s2 t1 t2 e2.froz f2.froz e3.rep.one f3.rep.one)
 refine Xs h ?_;rintro _ ⟨is,hp,hs,rfl⟩;rw[p1] at hp;have a9:is.length=us.length:=by rw[hp.length_eq,e8n]
 have D:∀i∈is,i<us.length:=λi hi=>e6u.1 (hp.mem_iff.1 hi);have b0:∀i,i<us.length->us.getD i ([],[])=us.getD i ([],[]):=λ_ _=>rfl;refine⟨is.map λi=>us.getD i ([],[]),_,?_,λi j a6 U=>?_,rfl,⟨?_,λk Z=>?_⟩,λv hv=>?_⟩
 .have:=hp.map λi=>us.getD i ([],[]);refine this.trans (List.Perm.of_eq ?_);apply e9b
  .simp
  .intro k h1 h2;rw[e6e,List.getElem_range,(G6 (by omega)).2]
 .rw[e6e,e6e];rw[e6c] at U;exact hs i j a6 U
 .rw[U9 (k:=2)]
  .simp
  .intro x hx;obtain⟨i,hi,rfl⟩:=Xc.1 hx;obtain⟨s1,s2,f,_⟩:=A i (by have:=D i hi;omega);rw[Xo,W5 (by have:=D i hi;omega)];show (its[i]'_).length=2;rw[f];rfl
 .rw[e6c] at Z;have b1:=D _ (W2 Z);obtain⟨s1,s2,f,e2,e3⟩:=A is[k] (by omega);have a2:its.getD is[k] []=[s1,s2]:=by
   rw[Xo,W5 (by omega)];exact f
  have a3:=λt (ht:t<2)=>U8 (k:=2) (is.map λi=>its.getD i []) (λx hx=>by
   obtain⟨i,hi,rfl⟩:=Xc.1 hx;obtain⟨s1,s2,f,_⟩:=A i (by have:=D i hi;omega);rw[Xo,W5 (by have:=D i hi;omega)];show (its[i]'_).length=2;rw[f];rfl) k (by simpa using Z) t ht
  refine⟨s1,s2,?_,?_,?_,?_⟩
  .have:=a3 0 (by decide);rw[e6e,a2] at this;exact this
  .have:=a3 1 (by decide);rw[e6e,a2] at this;exact this
  .rw[e6e,(G6 (by omega)).2];exact e2.keep (Wy _) (Wy _) (.inr (.inl rfl)) λa _ _ h=>Ae h
  .rw[e6e,(G6 (by omega)).2];exact e3.keep (Wy _) (Wy _) (.inr (.inl rfl)) λa _ _ h=>Ae h
 .obtain⟨x,hx,hv⟩:=List.mem_flatten.1 hv;obtain⟨i,hi,rfl⟩:=Xc.1 hx;have a4:i<its.length:=by have:=D i hi;omega
  rw[Xo,W5 a4] at hv;rw[<- p2];exact List.mem_flatten.2 ⟨_,W2 a4,hv⟩
end
end Go.Ai
section
namespace Go.Proofs
open Go.Shelf
def sortW_ren:Go.Shelf.Ren:=⟨λ|6=>109|15=>138|14=>137|28=>156|29=>157|20=>148|21=>149|22=>150|23=>151|24=>152|25=>153|26=>154|27=>155|46=>167|47=>168|48=>169|49=>170|50=>171|57=>175|n=>n,λ|22=>22|24=>65|25=>110|3=>3|39=>172|0=>0|53=>189|55=>191|4=>4|46=>183|45=>182|50=>120|5=>5|9=>9|66=>197|70=>201|76=>205|77=>206|n=>n,λ|n=>n⟩
theorem sortW:Go.Proofs.SlLaysF.n6 prog sortW_ren:={
 mixed:=by kernel_rfl
 f6:=⟨f109.name,by decide,func109.trans (congrArg some (by kernel_rfl))⟩
 f14:=⟨f137.name,by decide,func137.trans (congrArg some (by kernel_rfl))⟩
 f15:=func138.trans (congrArg some (by kernel_rfl))
 f20:=⟨f148.name,by decide,func148.trans (congrArg some (by kernel_rfl))⟩
 f21:=⟨f149.name,by decide,func149.trans (congrArg some (by kernel_rfl))⟩
 f22:=⟨f150.name,by decide,func150.trans (congrArg some (by kernel_rfl))⟩
 f23:=⟨f151.name,by decide,func151.trans (congrArg some (by kernel_rfl))⟩
 f24:=⟨f152.name,by decide,func152.trans (congrArg some (by kernel_rfl))⟩
 f25:=⟨f153.name,by decide,func153.trans (congrArg some (by kernel_rfl))⟩
 f26:=⟨f154.name,by decide,func154.trans (congrArg some (by kernel_rfl))⟩
 f27:=⟨f155.name,by decide,func155.trans (congrArg some (by kernel_rfl))⟩
 f28:=func156.trans (congrArg some (by kernel_rfl))
 f29:=func157.trans (congrArg some (by kernel_rfl))
 f46:=⟨f167.name,by decide,func167.trans (congrArg some (by kernel_rfl))⟩
 f47:=func168.trans (congrArg some (by kernel_rfl))
 f48:=func169.trans (congrArg some (by kernel_rfl))
 f49:=⟨f170.name,by decide,func170.trans (congrArg some (by kernel_rfl))⟩
 f50:=⟨f171.name,by decide,func171.trans (congrArg some (by kernel_rfl))⟩
 f57:=⟨f175.name,by decide,func175.trans (congrArg some (by kernel_rfl))⟩
 t0:=underlying0
 a0:=isAgg0
 z0:=sizeOf0
 v0:=zeroValue0
 t3:=underlying3
 a3:=isAgg3
 z3:=sizeOf3
 v3:=zeroValue3
 t4:=underlying4
 a4:=isAgg4
 z4:=sizeOf4
 v4:=zeroValue4
 t5:=underlying5
 a5:=isAgg5
 z5:=sizeOf5
 v5:=zeroValue5
 t9:=underlying9
 a9:=isAgg9
 z9:=sizeOf9
 v9:=zeroValue9
 t22:=underlying22
 a22:=isAgg22
 z22:=sizeOf22
 v22:=zeroValue22
 a24:=isAgg65
 z24:=sizeOf65
 t25:=underlying110
 a25:=isAgg110
 z25:=sizeOf110
 v25:=zeroValue110
 t39:=underlying172
 a39:=isAgg172
 z39:=sizeOf172
 v39:=zeroValue172
 t45:=underlying182
 a45:=isAgg182
 z45:=sizeOf182
 v45:=zeroValue182
 t46:=underlying183
 a46:=isAgg183
 z46:=sizeOf183
 v46:=zeroValue183
 t50:=underlying120
 a50:=isAgg120
 z50:=sizeOf120
 v50:=zeroValue120
 t53:=underlying189
 a53:=isAgg189
 z53:=sizeOf189
 v53:=zeroValue189
 t55:=underlying191
 a55:=isAgg191
 z55:=sizeOf191
 v55:=zeroValue191
 t66:=underlying197
 a66:=isAgg197
 z66:=sizeOf197
 v66:=zeroValue197
 t70:=underlying201
 a70:=isAgg201
 z70:=sizeOf201
 v70:=zeroValue201
 t76:=underlying205
 a76:=isAgg205
 z76:=sizeOf205
 v76:=zeroValue205
 t77:=underlying206
 a77:=isAgg206
 z77:=sizeOf206
 v77:=zeroValue206 }
end Go.Proofs
end
namespace Go.Ai
section
open Go.RowKit Go.Shelf
theorem Al.froz{g:Gb}{lo n B:Nat}{w:Wd}{sv:AV}(h:Al (E2 g lo B) n w sv):Al (froz B g) n w sv:=by
 rcases h with f|⟨a,off,A,D,l,own,z,Q,e2,e3⟩
 .exact .inl f
 .obtain⟨_,U,Z⟩:=K0 Q;exact .inr ⟨a,off,A,D,l,false,z,b3h U Z,e2,e3⟩
theorem e2l{l:Wq}{cs:List AV}{g:Gb}{lo n B:Nat}(f:RowsW (E2 g lo B) n l cs)(a1:g B=some (.cells cs true 1))(a3:0<l.length)(a4:l.length<=100000)(hw:∀w∈l,w.length<=1000000):
  WC 0 prog 109 [.slq B 0 l.length 0,.lit (.func (.func 110) #[] #[])] ⟨.fn g,n⟩ λr=>∃(A:Wq)(Q:List AV),A.Perm l/\(∀(i j:Nat)(_:i<j)(D:j<A.length),¬ Bx A[j] (A[i]'(by omega))<0)/\r=.ret (.tup []) ⟨.fn (Ak g B (some (.cells Q true 1))),n⟩/\RowsW (E2 (Ak g B (some (.cells Q true 1))) lo B) n A Q/\∀v∈Q,v∈cs:=by
 have Z:∀(k:Nat)(h:k<cs.length),Al (E2 g lo B) n (l[k]'(by have:=f.1;omega)) cs[k]:=by
  intro k h;obtain⟨sv,U,e2⟩:=f.2 k (by have:=f.1;omega);rw[W5 h] at U;cases U;exact e2
 have hl:=f.1;have h:=WC.sort1 (G:=0) sortW 110 (enters_of func110 (by kernel_rfl) rfl) (its:=cs) f.allOne (λi j=>Bx (l.getD i []) (l.getD j [])) (b5y λi=>l.getD i []) (g:=g) (n:=n) (Bn:=B) (z:=1) a1 (sv:=.slq B 0 l.length 0) (.inr ⟨0,by rw[hl]⟩) (by omega) (by omega) (λi j hi D=>by
   rw[(G6 (d:=[]) (show i<l.length by omega)).2,(G6 (d:=[]) (show j<l.length by omega)).2];exact Xs (b5u _ _ (hw _ (W2 _)) (hw _ (W2 _)) _ n _ _ (Z i hi).froz (Z j D).froz) λr hr=>⟨_,_,hr⟩)
 refine Xs h ?_;rintro _ ⟨is,hp,hs,rfl⟩;have a5:is.length=l.length:=by rw[hp.length_eq,e8n,hl]
 have a0:∀i∈is,i<l.length:=λi hi=>by have:=e6u.1 (hp.mem_iff.1 hi);omega
 refine⟨is.map λi=>l.getD i [],_,?_,λi j a2 D=>?_,rfl,⟨by simp,λk hk=>?_⟩,λv hv=>?_⟩
 .have:=hp.map λi=>l.getD i [];refine this.trans (List.Perm.of_eq ?_);apply e9b
  .simp[hl]
  .intro k h1 h2;rw[e6e,List.getElem_range,(G6 (by omega)).2]
 .rw[e6e,e6e];rw[e6c] at D;exact hs i j a2 D
 .rw[e6c] at hk;have a6:=a0 _ (W2 hk);refine⟨cs[is[k]]'(by omega),?_,?_⟩
  .rw[e6j,W5 hk,e8l,Xo,W5 (by omega)];rfl
  .rw[e6e,(G6 (by omega)).2];refine Xx (Wy _) (λa z _ hz=>?_) (Z is[k] (by omega));obtain⟨U,e2,e3⟩:=K0 hz;rw[V2 U e2,Ae e2];exact e3
 .obtain⟨i,hi,rfl⟩:=Xc.1 hv;have:=a0 i hi;rw[Xo,W5 (by omega)];exact W2 _
end
theorem RowK.low {g:Gb} {lo lo' n:Nat} {r:Option (Wd)} {rv:AV} (h:RowK g lo n r rv) (hl:lo'≤lo) : RowK g lo' n r rv:=by
 cases r with
 | none=>exact h
 | some r=>exact ⟨h.1.keep hl (Wy _) fun _ _ _=>rfl,h.2⟩
theorem a5l{a b:Wd}(b1:a.length<=100000)(b2:b.length<=100000)(g:Gb)(n:Nat)(D bv:AV)(Q:Al g n a D)(U:Al g n b bv):
  WC 0 prog 112 [D,bv] ⟨.fn g,n⟩ λr=>r=.ret (.lit (.bool (decide (a=b)))) ⟨.fn g,n⟩:=by
 have b3:=@Au prog _ _ _ _ _ Q;have b4:=@Au prog _ _ _ _ _ U;have HA:=Xr Q;have HB:=Xr U;clear Q U;obtain⟨Z,a0⟩:∃x,x=decide (a=b):=⟨_,rfl⟩;rw[<- a0];have a1:=Xr a0;clear a0;by_cases hl:a.length=b.length
 .have a9:(a.length:Int)=(b.length:Int):=by omega
  refine ent pl112 func112 ?_;simp (disch:=first|omega|simp) [*];refine Xv (λm f H'=>∃k:Nat,k<=b.length/\m=b.length-k/\H'=⟨.fn g,n⟩/\Aa (a.take k=b.take k)/\f 0=some D/\f 1=some bv/\f 12=some (.li b.length)/\f 13=some (.li k)) (m0:=b.length) ?_ ?_
  .exact⟨0,W3 _,rfl,rfl,⟨by simp⟩,by simp[*]⟩
  rintro m f H' ⟨k,hk,rfl,rfl,HT,w0,w1,b5,b6⟩ ih;refine rnd pl112 ?_;by_cases a4:k<b.length
  .have b0:(k:Int)<(b.length:Int):=by omega
   have a5:k<a.length:=by omega
   obtain⟨a2,o2,b7,b8,b9⟩:=X5 HA.out a5;obtain⟨a3,o3,c0,c1,c2⟩:=X5 HB.out a4;have a6:=Xr (Df a5);have a7:=Xr (Df a4);generalize a[k]=x at *;generalize b[k]=y at *;by_cases a8:x=y
   .subst a8;simp (disch:=first|omega|simp) [*];exact ih.out (b.length-(k+1)) _ _ (by omega) ⟨k+1,by omega,rfl,rfl,⟨by rw[a6.out,a7.out,HT.out]⟩,by simp[*]⟩
   .have A:Z=false:=by
     rw[a1.out];refine decide_eq_false λh=>a8 ?_;have h1:=a6.out;rw[h,a7.out,<- h,HT.out] at h1;have:=List.append_cancel_left h1;simpa using this.symm
    subst A;simp (disch:=first|omega|simp) [*]
  .have b0:¬(k:Int)<(b.length:Int):=by omega
   have A:Z=true:=by
    rw[a1.out];refine decide_eq_true ?_;have:=HT.out
    rwa [Xn (by omega),Xn (by omega)] at this
   subst A;simp (disch:=first|omega|simp) [*]
 .have a9:¬(a.length:Int)=(b.length:Int):=by omega
  have A:Z=false:=by rw[a1.out];exact decide_eq_false λh=>hl (by rw[h])
  subst A;refine ent pl112 func112 ?_;simp (disch:=first|omega|simp) [*]
theorem e2m {x w:Wd} (hxl:x.length≤100000) (hwl:w.length≤100000) (p:Nat) (g:Gb) (n:Nat) (xv wv:AV) (hp:g p=some (.cells [wv] true 0)) (hx:Al g n x xv) (hw:Al g n w wv) :
  WC 0 prog 128 [xv,.ptr p 0] ⟨.fn g,n⟩ fun r=>r=.ret (.lit (.bool (decide (x=w)))) ⟨.fn g,n⟩:=by
 have HE:=Aa.mk (a5l hxl hwl g n xv wv hx hw);have h1:=hw.one;clear hx hw;obtain ⟨res,hres⟩ : ∃ b,b=decide (x=w):=⟨_,rfl⟩;rw [← hres] at HE ⊢;clear hres;refine ent [] func128 ?_
 iterate 8 all_goals try first|refine spl (fun h=>?_) fun h=>?_|simp (maxSteps:=999999) (disch:=first|assumption|omega|(simp;done)|fail) [*]
 refine WC.mono HE.out ?_;rintro _ rfl;cases res <;> iterate 8 all_goals try first|refine spl (fun h=>?_) fun h=>?_|simp (maxSteps:=999999) (disch:=first|assumption|omega|(simp;done)|fail) [*]
theorem e2n {l:Wq} (hll:l.length≤100000) {w:Wd} (hwl:w.length≤1000) (hwls:∀ x∈l,x.length≤1000) (p:Nat) (g:Gb) (n:Nat) (lv wv:AV) (hp:g p=some (.cells [wv] true 0)) (h1:Cd g n l lv) (hw:Al g n w wv) :
  WC 0 prog 145 [lv,.func (.func 128) [] [.ptr p 0]] ⟨.fn g,n⟩ fun r=>∃ z:Int,r=.ret (.li z) ⟨.fn g,n⟩∧decide (0≤z)=decide (w∈l):=by
 have hlen:=@Au prog _ _ _ _ _ h1.choose_spec.1;have H1:=Aa.mk h1;have HH:=Aa.mk fun (x:Wd) (hx:x∈l) (xv:AV) (hr:Al g n x xv)=>e2m (by have:=hwls x hx; omega) (by omega) p g n xv wv hp hr hw;clear h1 hw hwls hp;obtain ⟨res,hres⟩ : ∃ b,b=decide (w∈l):=⟨_,rfl⟩;rw [← hres];have HRE:=Aa.mk hres;clear hres;refine ent [] func145 ?_
 iterate 8 all_goals try first|refine spl (fun h=>?_) fun h=>?_|simp (maxSteps:=999999) (disch:=first|assumption|omega|(simp;done)|fail) [*]
 refine LX.ind (fun m gf H'=>∃ k:Nat,k≤l.length∧m=l.length - k∧H'=⟨.fn g,n⟩∧Aa (w ∉ l.take k)∧gf 0=some lv∧gf 1=some (.func (.func 128) [] [.ptr p 0])∧gf 7=some (.li l.length)∧gf 8=some (.li k)) (m0:=l.length) ?_ ?_
 ·exact ⟨0,W3 _,rfl,rfl,⟨by simp⟩,by simp [*]⟩
 rintro m gf H' ⟨k,hk,rfl,rfl,HN,w0,w1,w7,w8⟩ ih;refine rnd [] ?_;by_cases hlt:k < l.length
 ·have hltI:(k:Int) < (l.length:Int):=by omega
  obtain ⟨a,off,q,ha,hia,hc,hq⟩:=H1.out.at hlt;have HC:=Aa.mk (HH.out _ (W2 hlt) q hq);have hwk:Aa (w ∉ l.take (k+1)∨l[k]=w):=⟨by
   by_cases h:l[k]=w
   ·exact .inr h
   ·refine .inl ?_;rw [Df hlt,W9,Xf];rintro (h1 | h1)
    ·exact HN.out h1
    ·exact h h1.symm⟩
  have HIX:Aa (l[k]=w→res=true):=⟨fun h=>by rw [HRE.out,← h]; exact decide_eq_true (W2 hlt)⟩;clear hq;generalize l[k]=x at *
  iterate 8 all_goals try first|refine spl (fun h=>?_) fun h=>?_|simp (maxSteps:=999999) (disch:=first|assumption|omega|(simp;done)|fail) [*]
  refine WC.mono HC.out ?_;rintro _ rfl;by_cases hx:x=w
  ·have hix:=HIX.out hx;subst hix;have HX:=Aa.mk hx;simp only [hx,decide_true];clear hx
   iterate 8 all_goals try first|refine spl (fun h=>?_) fun h=>?_|simp (maxSteps:=999999) (disch:=first|assumption|omega|(simp;done)|fail) [*]
  ·have hnm:w ∉ l.take (k+1):=hwk.out.resolve_right hx;have HNM:=Aa.mk hnm;simp only [hx,decide_false];clear hx hnm
   iterate 8 all_goals try first|refine spl (fun h=>?_) fun h=>?_|simp (maxSteps:=999999) (disch:=first|assumption|omega|(simp;done)|fail) [*]
   exact ih.out (l.length - (k+1)) _ _ (by omega) ⟨k+1,by omega,rfl,rfl,HNM,by simp [*]⟩
 ·have hltI:¬(k:Int) < (l.length:Int):=by omega
  have hre:res=false:=by
   have h2:=HN.out;rw [Xn (by omega)] at h2;rw [HRE.out]; exact decide_eq_false h2
  subst hre
  iterate 8 all_goals try first|refine spl (fun h=>?_) fun h=>?_|simp (maxSteps:=999999) (disch:=first|assumption|omega|(simp;done)|fail) [*]
theorem e2o {l:Wq} (hll:l.length≤100000) {w:Wd} (hwl:w.length≤1000) (hwls:∀ x∈l,x.length≤1000) (p:Nat) (g:Gb) (n:Nat) (lv wv:AV) (hp:g p=some (.cells [wv] true 0)) (h1:Cd g n l lv) (hw:Al g n w wv) :
  WC 0 prog 127 [lv,.func (.func 128) [] [.ptr p 0]] ⟨.fn g,n⟩ fun r=>r=.ret (.lit (.bool (decide (w∈l)))) ⟨.fn g,n⟩:=by
 have HI:=Aa.mk (e2n hll hwl hwls p g n lv wv hp h1 hw);clear hp h1 hw hwls;generalize decide (w∈l)=bb at *;refine ent [] func127 ?_
 iterate 8 all_goals try first|refine spl (fun h=>?_) fun h=>?_|simp (maxSteps:=999999) (disch:=first|assumption|omega|(simp;done)|fail) [*]
 refine WC.mono HI.out ?_;rintro _ ⟨z,rfl,hz⟩
 cases bb with
 | true =>
  have hz1:0≤z:=of_decide_eq_true hz;clear hz
  iterate 8 all_goals try first|refine spl (fun h=>?_) fun h=>?_|simp (maxSteps:=999999) (disch:=first|assumption|omega|(simp;done)|fail) [*]
 | false =>
  have hz1:¬0≤z:=of_decide_eq_false hz;clear hz
  iterate 8 all_goals try first|refine spl (fun h=>?_) fun h=>?_|simp (maxSteps:=999999) (disch:=first|assumption|omega|(simp;done)|fail) [*]
theorem b5z {l:Wq} (hll:l.length≤100000) {w:Wd} (hwl:w.length≤1000) (hwls:∀ x∈l,x.length≤1000) (g:Gb) (n:Nat) (lv wv:AV) (h1:Cd g n l lv) (hw:Al g n w wv) :
  WC 0 prog 92 [lv,wv] ⟨.fn g,n⟩ fun r=>r=.ret (.lit (.bool (decide (w∈l)))) ⟨.fn g,n⟩:=by
 refine WC.drop1 rfl ?_;have h1w:=hw.one;have hcw:=hw.cell;have h2w:allOne [wv]=true:=by simp [h1w]
 have HC:=Aa.mk (e2o hll hwl hwls n (Ak g n (some (.cells [wv] true 0))) (n+1) lv wv Ah (h1.mono (by omega) fun b hb=>Ad hb) (Af.mono (by omega) (fun b hb=>Ad hb) hw));clear h1 hw hwls;generalize decide (w∈l)=bb at *;refine ent [] func92 ?_
 iterate 8 all_goals try first|refine spl (fun h=>?_) fun h=>?_|simp (maxSteps:=999999) (disch:=first|assumption|omega|(simp;done)|fail) [*]
 refine WC.mono HC.out ?_;rintro _ rfl;cases bb
 all_goals
  iterate 8 all_goals try first|refine spl (fun h=>?_) fun h=>?_|simp (maxSteps:=999999) (disch:=first|assumption|omega|(simp;done)|fail) [*]
  exact ⟨show n≤n+1 by omega,fun b (hb:b < n)=>Ad hb⟩
def vI(k:IntKind)(n:Nat):AV:=.lit (.int k (Int.ofNat n))
def vM(k:IntKind)(n:Nat):AV:=.lit (.int k (Int.negSucc n))
def bl0:List AV:=[vM .i64 0,vM .i64 0,vM .i64 0,vM .i64 0]
def bl1:List AV:=[.sl 20 0 2 2]
def bl2:List AV:=[vI .i64 1]
def bl3:List AV:=[vI .i64 0]
def bl4:List AV:=[.sl 5 0 1 1,.sl 6 0 1 1]
def bl5:List AV:=[]
def bl6:List AV:=[.sl 1 0 0 0]
def bl7:List AV:=[vI .i64 5,vI .i64 0,vI .i64 6,vI .i64 0]
def bl8:List AV:=[vI .i64 3,vI .i64 1,vI .i64 4,vI .i64 0]
def bl9:List AV:=[vI .i64 1,vI .i64 0,vI .i64 2,vI .i64 0]
def bl10:List AV:=[.sl 495 0 2 2,.sl 502 0 2 2,.sl 509 0 2 2,.sl 516 0 2 2,.sl 521 0 2 2,.sl 526 0 2 2,.sl 531 0 2 2]
def bl11:List AV:=[.sl 546 0 1 1,.sl 548 0 1 1]
def bl12:List AV:=[.sl 544 0 0 0]
def bl13:List AV:=[.sl 724 0 2 2,.sl 726 0 2 2,.sl 728 0 2 2,.sl 730 0 2 2,.sl 732 0 2 2,.sl 734 0 2 2,.sl 736 0 2 2]
def bl14:List AV:=[.sl 720 0 1 1,.sl 722 0 1 1]
def bl15:List AV:=[.sl 718 0 0 0,.sl 739 0 1 1]
def bl16:List AV:=[vI .i64 9,vI .i64 1,vI .i64 10,vI .i64 0]
def bl17:List AV:=[vI .i64 7,vI .i64 0,vI .i64 8,vI .i64 0]
def bl18:List AV:=[.sl 1530 0 2 2,.sl 1537 0 2 2,.sl 1544 0 2 2,.sl 1551 0 2 2,.sl 1558 0 2 2,.sl 1565 0 2 2,.sl 1570 0 2 2,.sl 1575 0 2 2,.sl 1580 0 2 2,.sl 1585 0 2 2,.sl 1590 0 2 2]
def bl19:List AV:=[.sl 1607 0 1 1,.sl 1609 0 1 1]
def bl20:List AV:=[.sl 1603 0 0 0,.sl 1605 0 1 1]
def bl21:List AV:=[vM .i64 0,vM .i64 0]
def bl22:List AV:=[.sl 2881 0 1 1]
def bl23:List AV:=[.sl 2867 0 1 1]
def bl24:List AV:=[.sl 2863 0 0 0]
def bl25:List AV:=[vI .i64 2,vI .i64 0]
def bl26:List AV:=[vI .i64 1,vI .i64 0]
def bl27:List AV:=[.sl 2952 0 1 1,.sl 2957 0 1 1,.sl 2962 0 1 1]
def bl28:List AV:=[.sl 2976 0 1 1]
def bl29:List AV:=[.sl 2974 0 0 0]
def bl30:List AV:=[vI .i64 3,vI .i64 1]
def bl31:List AV:=[.sl 3415 0 1 1,.sl 3420 0 1 1,.sl 3425 0 1 1,.sl 3430 0 1 1]
def bl32:List AV:=[.sl 3444 0 1 1]
def bl33:List AV:=[.sl 3442 0 0 0]
def bl34:List AV:=[vI .i64 0,vI .i64 1,vI .i64 1,vI .i64 0]
def bl35:List AV:=[vI .i64 1,vI .i64 0,vI .i64 0,vI .i64 0]
def bl36:List AV:=[.sl 117 0 2 2,.sl 118 0 2 2]
def bl37:List AV:=[vI .i64 0,vI .i64 0,vI .i64 0]
def bl38:List AV:=[vI .i64 0,vI .i64 1,vI .i64 1]
def bl39:List AV:=[vI .i64 0,vI .i64 0,vI .i64 1]
def bl40:List AV:=[vI .i64 0,vI .i64 1,vI .i64 0]
def bl41:List AV:=[.sl 1110 0 3 3,.sl 1102 0 3 3,.sl 1142 0 3 3,.sl 1134 0 3 3,.sl 1174 0 3 3,.sl 1166 0 3 3,.sl 1206 0 3 3,.sl 1198 0 3 3]
def bl42:List AV:=[.sl 896 0 2 2,.sl 897 0 2 2]
def bl43:List AV:=[vI .i64 0,vI .i64 0]
def glob0:List (Nat×List AV):=[]
noncomputable def H0:Mem:=⟨.tr (baseT glob0 e4),0⟩
theorem hG0:0=prog.globals.size:=by kernel_rfl
def bs0:List (Nat×List AV):=glob0++[(20,bl0),(18,bl1),(6,bl2),(5,bl3),(3,bl4),(1,bl5),(2,bl6)]
def bs1:List (Nat×List AV):=glob0++[(531,bl0),(526,bl0),(521,bl0),(516,bl0),(509,bl7),(502,bl8),(495,bl9),(493,bl10),(548,bl2),(546,bl3),(541,bl11),(544,bl5),(539,bl12)]
def bs2:List (Nat×List AV):=glob0++[(736,bl0),(734,bl0),(732,bl0),(730,bl0),(728,bl7),(726,bl8),(724,bl9),(717,bl13),(722,bl2),(720,bl3),(715,bl14),(739,bl3),(718,bl5),(741,bl15)]
def bs3:List (Nat×List AV):=glob0++[(1590,bl0),(1585,bl0),(1580,bl0),(1575,bl0),(1570,bl0),(1565,bl0),(1558,bl16),(1551,bl17),(1544,bl7),(1537,bl8),(1530,bl9),(1528,bl18),(1609,bl2),(1607,bl3),(1600,bl19),(1605,bl3),(1603,bl5),(1598,bl20)]
def bs4:List (Nat×List AV):=glob0++[(2881,bl21),(2879,bl22),(2867,bl3),(2865,bl23),(2863,bl5),(2864,bl24)]
def bs5:List (Nat×List AV):=glob0++[(2962,bl21),(2957,bl25),(2952,bl26),(2950,bl27),(2976,bl3),(2971,bl28),(2974,bl5),(2969,bl29)]
def bs6:List (Nat×List AV):=glob0++[(3430,bl21),(3425,bl30),(3420,bl25),(3415,bl26),(3413,bl31),(3444,bl3),(3439,bl32),(3442,bl5),(3437,bl33)]
def bs7:List (Nat×List AV):=glob0++[(118,bl34),(117,bl35),(119,bl36),(20,bl0),(18,bl1),(6,bl2),(5,bl3),(3,bl4),(1,bl5),(2,bl6)]
def bs8:List (Nat×List AV):=glob0++[(1198,bl37),(1206,bl38),(1166,bl39),(1174,bl40),(1134,bl40),(1142,bl39),(1102,bl40),(1110,bl37),(1068,bl41),(736,bl0),(734,bl0),(732,bl0),(730,bl0),(728,bl7),(726,bl8),(724,bl9),(717,bl13),(722,bl2),(720,bl3),(715,bl14),(739,bl3),(718,bl5),(741,bl15)]
def bs9:List (Nat×List AV):=glob0++[(897,bl34),(896,bl35),(898,bl42),(736,bl0),(734,bl0),(732,bl0),(730,bl0),(728,bl7),(726,bl8),(724,bl9),(717,bl13),(722,bl2),(720,bl3),(715,bl14),(739,bl3),(718,bl5),(741,bl15)]
def bs10:List (Nat×List AV):=glob0++[(2379,bl43),(2378,bl26),(1590,bl0),(1585,bl0),(1580,bl0),(1575,bl0),(1570,bl0),(1565,bl0),(1558,bl16),(1551,bl17),(1544,bl7),(1537,bl8),(1530,bl9),(1528,bl18),(1609,bl2),(1607,bl3),(1600,bl19),(1605,bl3),(1603,bl5),(1598,bl20)]
end Go.Ai
