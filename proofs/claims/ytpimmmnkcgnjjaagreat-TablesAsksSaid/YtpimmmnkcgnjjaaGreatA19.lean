/- Parts of an interpreter and of a proof. No condition. -/
import Derived.Shelf.SlSortCmp.WholeK
import Derived.Test.YtpimmmnkcgnjjaaGreatProg
import Derived.Shelf.SlSortCmp.Whole1
import Derived.Test.YtpimmmnkcgnjjaaGreatRows
import Derived.Test.YtpimmmnkcgnjjaaGreatA18
import Derived.Test.YtpimmmnkcgnjjaaGreatA10
import Derived.Test.YtpimmmnkcgnjjaaGreatA07
import Derived.Test.YtpimmmnkcgnjjaaGreatA15
set_option linter.all false
set_option maxHeartbeats 40000000
set_option maxRecDepth 100000
open Go.Proofs Go.Proofs.Tryz
namespace Go.Ai
variable {T:Tq}{E l:Wq}{w:Wd}{g gL:Gb}{X:Nat→Prop}{n2:Nat}
theorem e2v(h A D c3 c4 c5 Q:AV)(U:allOne [h,A,D,c3,c4,c5,Q]=true)(g:Gb)(n:Nat):
  WC 0 prog 108 [.agg [h,A,D,c3,c4,c5,Q]] ⟨.fn g,n⟩ λr=>r=.ret (.func (.func 136) [] [.ptr n 0]) ⟨.fn (Ak g n (some (.cells [h,A,D,c3,c4,c5,Q] true 0))),n+1⟩:=by
 refine ent [] func108 ?_;simp (disch:=first|omega|simp) [*]
def Ct(T:Tq)(E:Wq)(w:Wd):Wq:=(E.map (w ++ ·)).filter λx=>(Cj T 0 x).isNone
def Av(T:Tq)(E:Wq)(ws:Wq):Wq:=ws.flatMap (Ct T E)
theorem b5s{k:Nat}(h:k<E.length):Ct T (E.take (k+1)) w=Ct T (E.take k) w++(if (Cj T 0 (w++E[k])).isNone then [w++E[k]] else []):=by
 unfold Ct;rw[e6w h,e6m,List.filter_append];congr 1;by_cases A:(Cj T 0 (w++E[k])).isNone=true<;>simp[A]
theorem b5t{ws:Wq}{k:Nat}(h:ws[k]?=some w):Av T E (ws.take (k+1))=Av T E (ws.take k)++Ct T E w:=by
 unfold Av;obtain⟨A,rfl⟩:=W8.1 h;rw[e6w A,e9i];simp
def Fe(g:Gb)(lo B:Nat):Gb:=λa=>if lo<=a/\a≠B then g a else none
theorem K7{lo B a:Nat}{z:Blk}(h:Fe g lo B a=some z):lo<=a/\a≠B/\g a=some z:=by
 unfold Fe at h;split at h
 .rename_i A;exact⟨A.1,A.2,h⟩
 .cases h
theorem V0{lo B a:Nat}(h:lo<=a)(A:a≠B):Fe g lo B a=g a:=if_pos ⟨h,A⟩
def I0(X:Nat->Prop)(gL:Gb)(lo n2:Nat)(l:Wq)(ov:AV):Prop:=
 (l=[]/\ov=.nl)\/(0<l.length/\∃B cs,ov=.slq B 0 l.length 0/\lo<=B/\B<n2/\X B/\gL B=some (.cells cs true 1)/\cs.length=l.length/\RowsW (Fe gL lo B) n2 l cs/\∀q∈cs,Ay q)
theorem I0.keep{Y:Nat->Prop}{g': Gb}{lo n': Nat}{D:AV}(h:I0 X gL lo n2 l D)(hX:∀b,lo<=b->b<n2->X b->Y b)(hn:n2<=n')(Q:∀b,lo<=b->b<n2->g' b=gL b):I0 Y g' lo n' l D:=by
 rcases h with h|⟨h0,B,cs,h1,A,U,h9,h4,h5,h7,h8⟩
 .exact .inl h
 .refine .inr ⟨h0,B,cs,h1,A,by omega,hX _ A U h9,(Q B A U).trans h4,h5,h7.ext hn λa z ha hz=>?_,h8⟩;obtain⟨Z,e2,e3⟩:=K7 hz;rw[V0 Z e2,Q a Z ha];exact e3
theorem I0.push{gN:Gb}{lo A:Nat}{x:Wd}{cs:List AV}{D:AV}(B:Nat)(Z:RowsW (Fe gL lo B) n2 l cs)(a0:∀q∈cs,Ay q)(hn:n2<=A)(a4:lo<=n2)(hg:∀b,lo<=b->b<n2->b≠B->gN b=gL b)(a1:D8 gN n2 A x D)(a2:Ay D)(a3:gN (A+1)=some (.cells (cs++[D]) true 1))(hX:X (A+1)):I0 X gN lo (A+1+1) (l++[x]) (.slq (A+1) 0 (l.length+1) 0):=by
 refine .inr ⟨by simp,A+1,cs++[D],by simp,by omega,by omega,hX,a3,by simp[Z.1],Yq (Z.ext (by omega) λa z ha U=>?_) ?_,λq hq=>?_⟩
 .obtain⟨Q,e2,e3⟩:=K7 U;rw[V0 Q (by omega),hg a Q ha e2];exact e3
 .obtain⟨gk,h1,h2⟩:=a1;refine Xz (by omega) (λa z _ U=>?_) h2;obtain⟨Q,e2,e3⟩:=h1 a z U;rw[V0 (by omega) (by omega)];exact Q
 .rcases W9.1 hq with h|h
  .exact a0 q h
  .rw[Xh.1 h];exact a2
def J4(X:Nat->Prop)(g:Gb)(n:Nat)(tc:List AV)(l:Wq)(gL:Gb)(n2:Nat):Prop:=
 (∀b,b<n->gL b=g b)/\n+3<=n2/\gL n=some (.cells tc true 0)/\gL (n+2)=some (.cells tc true 0)/\∃ov,gL (n+1)=some (.cells [ov] true 0)/\I0 X gL (n+3) n2 l ov
theorem J4.keep{Y:Nat->Prop}{g': Gb}{n n': Nat}{Q:List AV}(h:J4 X g n Q l gL n2)(hX:∀b,n+3<=b->b<n2->X b->Y b)(U:n2<=n')(A:∀b,b<n2->g' b=gL b):J4 Y g n Q l g' n':=by
 obtain⟨Z,h2,h3,h4,ov,h5,h6⟩:=h;exact⟨λb D=>(A b (by omega)).trans (Z b D),by omega,(A _ (by omega)).trans h3,(A _ (by omega)).trans h4,ov,(A _ (by omega)).trans h5,h6.keep hX U λb _ D=>A b D⟩
theorem e2w{I i:Nat}(h:inW w I=true)(hi:i<I):inW (w++[(i:Int)]) I=true:=Iy h (by simp[inW];omega)
theorem Of{I:Nat}{S:Wq}(D:∀w∈S,w.length<=300/\inW w I=true){k:Nat}{w:Wd}(h:(Am I S)[k]?=some w):w.length<=301/\inW w I=true:=by
 have Q:=e6e h;rcases W9.1 Q with A|A
 .have:=D w A;exact⟨by omega,this.2⟩
 .obtain⟨s,U,Z⟩:=e6x.1 A;obtain⟨i,hi,rfl⟩:=Xc.1 Z;have:=D s U;exact⟨by rw[W0,Xg];omega,e2w this.2 (e8a.1 hi)⟩
theorem a5m:(Ct T E w).length<=E.length:=by
 unfold Ct;exact Xa (List.length_filter_le _ _) (by simp)
theorem Pv {T:Tq} {E:Wq} : ∀ {ws:Wq},(Av T E ws).length≤ws.length * E.length
 | []=>by simp [Av]
 | w :: ws=>by
  have h1:=Pv (T:=T) (E:=E) (ws:=ws);have h2:=a5m (T:=T) (E:=E) (w:=w);unfold Av at h1 ⊢;rw [e7f,W0,Xk,e6g]; omega
def cI(x y:Int):Int:=if x<y then -1 else if y<x then 1 else 0
theorem b5u(x:Int)(g:Gb)(n:Nat):WC 0 prog 158 [.li x] ⟨.fn g,n⟩ λr=>r=.ret (.lit (.bool false)) ⟨.fn g,n⟩:=by
 refine ent [] func158 ?_;simp (disch:=first|omega|simp) [*]
theorem b5v(x y:Int)(g:Gb)(n:Nat):WC 0 prog 140 [.li x,.li y] ⟨.fn g,n⟩ λr=>r=.ret (.li (cI x y)) ⟨.fn g,n⟩:=by
 obtain⟨Z,A⟩:∃c,c=cI x y:=⟨_,rfl⟩;rw[<- A];unfold cI at A;have D:=Xu (b5u x g n);have Q:=Xu (b5u y g n);rcases e8p x y with h|h|h
 .rw[if_pos h] at A;refine ent [] func140 ?_;simp (disch:=first|omega|simp) [*];refine Xv D.out ?_;rintro _ rfl;simp (disch:=first|omega|simp) [*];refine Xv Q.out ?_;rintro _ rfl;simp (disch:=first|omega|simp) [*]
 .subst h;rw[if_neg (by omega),if_neg (by omega)] at A;refine ent [] func140 ?_;simp (disch:=first|omega|simp) [*];refine Xv D.out ?_;rintro _ rfl;simp (disch:=first|omega|simp) [*];refine Xv Q.out ?_;rintro _ rfl;simp (disch:=first|omega|simp) [*]
 .have U:¬x<y:=by omega
  rw[if_neg U,if_pos h] at A;refine ent [] func140 ?_;simp (disch:=first|omega|simp) [*];refine Xv D.out ?_;rintro _ rfl;simp (disch:=first|omega|simp) [*];refine Xv Q.out ?_;rintro _ rfl;simp (disch:=first|omega|simp) [*]
theorem e2x(x y:Int)(g:Gb)(n B:Nat)(hB:g B=some (.cells [.li x,.li y] true 0))(a2:B<n):WC 0 prog 139 [.sl B 0 2 2] ⟨.fn g,n⟩ λr=>r=.ret (.li (if x=0 then y else x)) ⟨.fn g,n⟩:=by
 obtain⟨Z,a0⟩:∃c,c=if x=0 then y else x:=⟨_,rfl⟩;rw[<- a0];have U:=Xu a0;clear a0;refine ent [] func139 ?_;simp (disch:=first|omega|simp) [*];refine Xy (λm A H'=>∃k:Nat,k<=2/\m=2-k/\H'=⟨.fn g,n⟩/\(k=1->x=0)/\(k=2->x=0/\y=0)/\A 3=some (.li 0)/\A 6=some (.sl B 0 2 2)/\A 7=some (.li 2)/\A 8=some (.li k)) (m0:=2) ?_ ?_
 .exact⟨0,by omega,rfl,rfl,λh=>by omega,λh=>by omega,by simp[*]⟩
 rintro m A H' ⟨k,hk,rfl,rfl,h1,h2,w3,w6,w7,D⟩ ih;have HX:=Xu (And.intro h1 h2);clear h1 h2;refine rnd [] ?_;rcases (by omega:k=0\/k=1\/k=2) with rfl|rfl|rfl
 .have a1:A 8=some (.li 0):=D;clear D hk;by_cases hx:x=0
  .have a3:=Xu hx;subst hx;simp (disch:=first|omega|simp) [*];exact ih.out 1 _ _ (by omega) ⟨1,by omega,rfl,rfl,λ_=>rfl,λh=>by omega,by simp[*]⟩
  .have Q:Z=x:=by rw[U.out,if_neg hx]
   subst Q;simp (disch:=first|omega|simp) [*]
 .have a1:A 8=some (.li 1):=D;have hx:=HX.out.1 rfl;clear D hk;subst hx;have Q:Z=y:=by rw[U.out,if_pos rfl]
  clear U HX;by_cases hy:y=0
  .subst hy;simp (disch:=first|omega|simp) [*];exact ih.out 0 _ _ (by omega) ⟨2,by omega,rfl,rfl,λh=>by omega,λ_=>⟨rfl,rfl⟩,by simp[*]⟩
  .subst Q;simp (disch:=first|omega|simp) [*]
 .have a1:A 8=some (.li 2):=D;obtain⟨hx,hy⟩:=HX.out.2 rfl;clear D hk;have Q:Z=0:=by rw[U.out,hx,hy];rfl
  subst Q;simp (disch:=first|omega|simp) [*]
def slcM:Wd->Wd->Int
 | [],[]=>0
 | [],_::_=>-1
 | _::_,[]=>1
 | x::a,y::b=>if cI x y=0 then slcM a b else cI x y
theorem slcM_lex:∀(a b:Wd),a.length=b.length->slcM a b=lexC a b
 | [],[],_=>rfl
 | [],_::_,h=>by cases h
 | _::_,[],h=>by cases h
 | x::a,y::b,h=>by
  show (if cI x y=0 then slcM a b else cI x y)=if x<y then -1 else if y<x then 1 else lexC a b;rw[slcM_lex a b (by simpa using h)];unfold cI;by_cases A:x<y
  .simp[A]
  .by_cases D:y<x
   .simp[A,D]
   .simp[A,D]
theorem e2y(a b:Wd)(a9:a.length<=1000000)(b0:b.length<=1000000)(g:Gb)(n:Nat)(U sb:AV)(ha:Al g n a U)(hb:Al g n b sb):
  WC 0 prog 141 [U,sb] ⟨.fn g,n⟩ λr=>r=.ret (.li (slcM a b)) ⟨.fn g,n⟩:=by
 have b1:=@Ap prog _ _ _ _ _ ha;have b2:=@Ap prog _ _ _ _ _ hb;have HA:=Xu ha;have HB:=Xu hb;clear ha hb;obtain⟨D,a3⟩:∃c,c=slcM a b:=⟨_,rfl⟩;rw[<- a3];have a6:=Xu a3;clear a3;refine ent [] func141 ?_;simp (disch:=first|omega|simp) [*];refine Xy (λm A H'=>∃k:Nat,k<=a.length/\k<=b.length/\m=a.length-k/\H'=⟨.fn g,n⟩/\Aa (D=slcM (a.drop k) (b.drop k))/\A 0=some U/\A 1=some sb/\A 9=some U/\A 10=some (.li a.length)/\A 11=some (.li k)) (m0:=a.length) ?_ ?_
 .exact⟨0,W3 _,W3 _,rfl,rfl,⟨a6.out⟩,by simp[*]⟩
 clear a6;rintro m A H' ⟨k,hk,b3,rfl,rfl,Q,w0,w1,w9,b4,b5⟩ ih;refine rnd [] ?_;by_cases a7:k<a.length
 .have a8:(k:Int)<(a.length:Int):=by omega
  obtain⟨a1,o1,b6,b7,b8⟩:=X6 HA.out a7;have a4:Aa (a.drop k=a[k]::a.drop (k+1)):=⟨Xd a7⟩;by_cases Z:k<b.length
  .have a5:¬(b.length:Int)<=(k:Int):=by omega
   obtain⟨a2,o2,b9,c0,c1⟩:=X6 HB.out Z;have a0:Aa (D=if cI a[k] b[k]=0 then slcM (a.drop (k+1)) (b.drop (k+1)) else cI a[k] b[k]):=⟨by
    rw[Q.out,a4.out,Xd Z];rfl⟩
   have HC:=Xu (b5v a[k] b[k] g n);clear Q a4;generalize cI a[k] b[k]=c at *;generalize a[k]=x at *;generalize b[k]=y at *;simp (disch:=first|omega|simp) [*];refine Xv HC.out ?_;rintro _ rfl;by_cases hc:c=0
   .rw[if_pos hc] at a0;subst hc;simp (disch:=first|omega|simp) [*];exact ih.out (a.length-(k+1)) _ _ (by omega) ⟨k+1,by omega,by omega,rfl,rfl,a0,by simp[*]⟩
   .rw[if_neg hc] at a0;have h:=a0.out;subst h;simp (disch:=first|omega|simp) [*]
  .have a5:(b.length:Int)<=(k:Int):=by omega
   have h:D=1:=by rw[Q.out,a4.out,Xt (by omega:b.length<=k)];rfl
   subst h;simp (disch:=first|omega|simp) [*]
 .have a8:¬(k:Int)<(a.length:Int):=by omega
  have c2:k=a.length:=by omega
  by_cases Z:k<b.length
  .have a5:(a.length:Int)<(b.length:Int):=by omega
   have h:D = -1:=by rw[Q.out,Xt (by omega:a.length<=k),Xd Z];rfl
   subst h;simp (disch:=first|omega|simp) [*]
  .have a5:¬(a.length:Int)<(b.length:Int):=by omega
   have h:D=0:=by rw[Q.out,Xt (by omega:a.length<=k),Xt (by omega:b.length<=k)];rfl
   subst h;simp (disch:=first|omega|simp) [*]
theorem e2z(a b:Wd):(if cI (a.length:Int) (b.length:Int)=0 then slcM a b else cI (a.length:Int) (b.length:Int))=A4 a b:=by
 unfold A4;rcases e9c a.length b.length with h|h|h
 .have:cI (a.length:Int) (b.length:Int) = -1:=by unfold cI;rw[if_pos (by omega)]
  rw[this,if_neg (by decide),if_pos h]
 .have:cI (a.length:Int) (b.length:Int)=0:=by unfold cI;rw[if_neg (by omega),if_neg (by omega)]
  rw[this,if_pos rfl,slcM_lex a b h,if_neg (by omega),if_neg (by omega)]
 .have:cI (a.length:Int) (b.length:Int)=1:=by unfold cI;rw[if_neg (by omega),if_pos (by omega)]
  rw[this,if_neg (by decide),if_neg (by omega),if_pos h]
theorem b5w(a b:Wd)(U:a.length<=1000000)(Z:b.length<=1000000)(g:Gb)(n:Nat)(A D:AV)(Q:Al g n a A)(h:Al g n b D):
  WC 0 prog 110 [A,D] ⟨.fn g,n⟩ λr=>r=.ret (.li (A4 a b)) ⟨.fn g,n⟩:=by
 refine X3 rfl ?_;have a1:=@Ap prog _ _ _ _ _ Q;have a2:=@Ap prog _ _ _ _ _ h;have HC:=Xu (e2y a b U Z g n A D Q h);have HL:=Xu (b5v a.length b.length g n);have a0:=Xu (e2z a b);clear Q h;generalize A4 a b=a3 at *;generalize slcM a b=c2 at *;generalize cI (a.length:Int) (b.length:Int)=c1 at *;refine ent [] func110 ?_;simp (disch:=first|omega|simp) [*];refine Xv HL.out ?_;rintro _ rfl;simp (disch:=first|omega|simp) [*];refine Xv HC.out ?_;rintro _ rfl;simp (disch:=first|omega|simp) [*];refine Xv (e2x c1 c2 _ _ n Ag (by omega)) ?_;rintro _ rfl;rw[a0.out];simp (disch:=first|omega|simp) [*];exact⟨W5 n,λb h=>Ad h⟩
theorem Pw(l:Wd)(i:Nat):(wdC l)[i]?=l[i]?.map λ(x:Int)=>AV.li x:=by unfold wdC;simp
def Dx(l:Wd)(k:Nat):Wd:=(List.range l.length).map λp=>if p<k\/l.length-k<=p then l.getD (l.length-1-p) 0 else l.getD p 0
theorem M0(l:Wd)(k:Nat):(Dx l k).length=l.length:=by unfold Dx;simp
theorem M3(l:Wd)(k i:Nat)(h:i<l.length):(Dx l k)[i]?=some (if i<k\/l.length-k<=i then l.getD (l.length-1-i) 0 else l.getD i 0):=by
 unfold Dx;simp[h]
theorem b5x(l:Wd):Dx l 0=l:=by
 refine e8i λi=>?_;by_cases h:i<l.length
 .rw[M3 l 0 i h];have:¬(i<0\/l.length-0<=i):=by omega
  rw[if_neg this,Xo,W6 h];rfl
 .rw[e7a (by rw[M0];omega),e7a (by omega)]
theorem b5y(l:Wd)(k:Nat)(h:l.length<=2*k+1):Dx l k=l.reverse:=by
 refine e8i λi=>?_;by_cases hi:i<l.length
 .rw[M3 l k i hi,List.getElem?_reverse hi];have A:l.getD (l.length-1-i) 0=l[l.length-1-i]'(by omega):=by
   rw[Xo,W6 (by omega)];rfl
  rw[W6 (by omega),<- A];split
  .rfl
  .rename_i D;have:i=l.length-1-i:=by omega
   rw[<- this]
 .rw[e7a (by rw[M0];omega),e7a (by rw[e7w];omega)]
theorem b5z(l:Wd)(k:Nat)(h:2*k+1<l.length):((wdC (Dx l k)).set k (.li (l.getD (l.length-1-k) 0))).set (l.length-1-k) (.li (l.getD k 0))=wdC (Dx l (k+1)):=by
 refine e8i λi=>?_;by_cases hi:i<l.length
 .rw[Pw,M3 l (k+1) i hi];by_cases A:l.length-1-k=i
  .subst A;rw[e7p (by rw[Xf,A9,M0];exact hi)];have:l.length-1-k<k+1\/l.length-(k+1)<=l.length-1-k:=by omega
   rw[if_pos this,show l.length-1-(l.length-1-k)=k by omega];rfl
  .rw[e6t A];by_cases D:k=i
   .subst D;rw[e7p (by rw[A9,M0];exact hi)];have:k<k+1\/l.length-(k+1)<=k:=by omega
    rw[if_pos this];rfl
   .rw[e6t D,Pw,M3 l k i hi];by_cases Q:i<k\/l.length-k<=i
    .have:i<k+1\/l.length-(k+1)<=i:=by omega
     rw[if_pos Q,if_pos this]
    .have:¬(i<k+1\/l.length-(k+1)<=i):=by omega
     rw[if_neg Q,if_neg this]
 .rw[e7a (by simp[A9,M0];omega),e7a (by simp[A9,M0];omega)]
theorem V1(a d z m:Nat)(l:Wd)(hl:l.length<=1000000)(g:Gb)(hg:g a=some (.cells (wdC l) true z))(ha:a<m):
  WC 0 prog 117 [.slq a 0 l.length d] ⟨.fn g,m⟩ λr=>∃u g',r=.ret u ⟨.fn g',m⟩/\g' a=some (.cells (wdC l.reverse) true z)/\∀b,b≠a->g' b=g b:=by
 refine ent pl117 func117 ?_;simp (disch:=first|omega|simp) [*];refine Xy (λq h H'=>∃(k:Nat)(gL:Gb),2*k<=l.length+1/\q=l.length-k/\H'=⟨.fn gL,m⟩/\gL a=some (.cells (wdC (Dx l k)) true z)/\(∀b,b≠a->gL b=g b) /\
  h 0=some (.slq a 0 l.length d)/\h 2=some (.li (k:Int))/\h 3=some (.li ((l.length:Int)-1-k))) (m0:=l.length) ?_ ?_
 .exact⟨0,g,by omega,by omega,rfl,by rw[b5x];exact hg,λ_ _=>rfl,by simp[*]⟩
 rintro q h H' ⟨k,gL,hk,rfl,rfl,D,Q,w0,w2,w3⟩ ih;have U:=Xu Q;have Z:=Xu D;clear Q D;refine rnd pl117 ?_;by_cases a1:2*k+1<l.length
 .have a2:(k:Int)<(l.length:Int)-1-k:=by omega
  have e1:((l.length:Int)-1-k).toNat=l.length-1-k:=by omega
  have D:=Z.out;have c1:(wdC (Dx l k))[k]?=some (.li (l.getD k 0)):=by
   rw[Pw,M3 l k k (by omega),if_neg (by omega)];rfl
  have c2:(wdC (Dx l k))[l.length-1-k]?=some (.li (l.getD (l.length-1-k) 0)):=by
   rw[Pw,M3 l k _ (by omega),if_neg (by omega)];rfl
  have h5:(wdC (Dx l k)).length=l.length:=by rw[A9,M0]
  have h6:k<(wdC (Dx l k)).length:=by omega
  have h7:l.length-1-k<(wdC (Dx l k)).length:=by omega
  have a0:=b5z l k a1;rw[W6 h6,Option.some.injEq] at c1;rw[W6 h7,Option.some.injEq] at c2;generalize wdC (Dx l k)=L at *;generalize l.getD k 0=v1 at *;generalize l.getD (l.length-1-k) 0=v2 at *;have h8:l.length-1-k<(L.set k (.li v2)).length:=by rw[Xf];exact h7
  have HS:=Xu a0;clear a0;simp (disch:=first|omega|simp) [*];refine ih.out (l.length-(k+1)) _ _ (by omega) ⟨k+1,_,by omega,rfl,rfl,?_,?_,?_,?_,?_⟩
  .rw[<- HS.out];simp
  .intro b A;rw[<- U.out b A];exact if_neg A
  .simp[*]
  .simp
  .simp;omega
 .have a2:¬(k:Int)<(l.length:Int)-1-k:=by omega
  simp (disch:=first|omega|simp) [*];exact⟨_,gL,⟨rfl,rfl⟩,by rw[Z.out,b5y l k (by omega)],λb A=>U.out b A⟩
theorem V2(a d z m:Nat)(l:Wd)(hl:l.length<=1000000)(g:Gb)(hg:g a=some (.cells (wdC l) true z))(ha:a<m):
  WC 0 prog 117 [.sl a 0 l.length d] ⟨.fn g,m⟩ λr=>∃u g',r=.ret u ⟨.fn g',m⟩/\g' a=some (.cells (wdC l.reverse) true z)/\∀b,b≠a->g' b=g b:=by
 refine ent pl117 func117 ?_;simp (disch:=first|omega|simp) [*];refine Xy (λq h H'=>∃(k:Nat)(gL:Gb),2*k<=l.length+1/\q=l.length-k/\H'=⟨.fn gL,m⟩/\gL a=some (.cells (wdC (Dx l k)) true z)/\(∀b,b≠a->gL b=g b) /\
  h 0=some (.sl a 0 l.length d)/\h 2=some (.li (k:Int))/\h 3=some (.li ((l.length:Int)-1-k))) (m0:=l.length) ?_ ?_
 .exact⟨0,g,by omega,by omega,rfl,by rw[b5x];exact hg,λ_ _=>rfl,by simp[*]⟩
 rintro q h H' ⟨k,gL,hk,rfl,rfl,D,Q,w0,w2,w3⟩ ih;have U:=Xu Q;have Z:=Xu D;clear Q D;refine rnd pl117 ?_;by_cases a1:2*k+1<l.length
 .have a2:(k:Int)<(l.length:Int)-1-k:=by omega
  have e1:((l.length:Int)-1-k).toNat=l.length-1-k:=by omega
  have D:=Z.out;have c1:(wdC (Dx l k))[k]?=some (.li (l.getD k 0)):=by
   rw[Pw,M3 l k k (by omega),if_neg (by omega)];rfl
  have c2:(wdC (Dx l k))[l.length-1-k]?=some (.li (l.getD (l.length-1-k) 0)):=by
   rw[Pw,M3 l k _ (by omega),if_neg (by omega)];rfl
  have h5:(wdC (Dx l k)).length=l.length:=by rw[A9,M0]
  have h6:k<(wdC (Dx l k)).length:=by omega
  have h7:l.length-1-k<(wdC (Dx l k)).length:=by omega
  have a0:=b5z l k a1;rw[W6 h6,Option.some.injEq] at c1;rw[W6 h7,Option.some.injEq] at c2;generalize wdC (Dx l k)=L at *;generalize l.getD k 0=v1 at *;generalize l.getD (l.length-1-k) 0=v2 at *;have h8:l.length-1-k<(L.set k (.li v2)).length:=by rw[Xf];exact h7
  have HS:=Xu a0;clear a0;simp (disch:=first|omega|simp) [*];refine ih.out (l.length-(k+1)) _ _ (by omega) ⟨k+1,_,by omega,rfl,rfl,?_,?_,?_,?_,?_⟩
  .rw[<- HS.out];simp
  .intro b A;rw[<- U.out b A];exact if_neg A
  .simp[*]
  .simp
  .simp;omega
 .have a2:¬(k:Int)<(l.length:Int)-1-k:=by omega
  simp (disch:=first|omega|simp) [*];exact⟨_,gL,⟨rfl,rfl⟩,by rw[Z.out,b5y l k (by omega)],λb A=>U.out b A⟩
theorem V3(m:Nat)(g:Gb):WC 0 prog 117 [.nl] ⟨.fn g,m⟩ λr=>∃u,r=.ret u ⟨.fn g,m⟩:=by
 refine ent pl117 func117 ?_;simp (disch:=first|omega|simp) [*];refine Xy (λq h H'=>H'=⟨.fn g,m⟩/\h 2=some (.li 0)/\h 3=some (.li (-1))) (m0:=0) ?_ ?_
 .exact⟨rfl,by simp[*]⟩
 rintro q h H' ⟨rfl,A,D⟩ Q;refine rnd pl117 ?_;simp (disch:=first|omega|simp) [*]
end Go.Ai
section
namespace Go.Proofs
open Go.Shelf
def sortT_ren:Go.Shelf.Ren:=⟨λ|6=>118|15=>138|14=>142|28=>156|29=>157|20=>159|21=>160|22=>161|23=>162|24=>163|25=>164|26=>165|27=>166|46=>172|47=>168|48=>169|49=>173|50=>174|57=>176|n=>n,λ|22=>52|24=>84|25=>118|3=>3|39=>172|0=>0|53=>189|55=>191|4=>4|46=>183|45=>182|50=>120|5=>5|9=>9|66=>197|70=>201|76=>205|77=>206|n=>n,λ|n=>n⟩
theorem sortT:Go.Proofs.SlLaysF0.n6 prog sortT_ren:={
 mixed:=by kernel_rfl
 f6:=⟨f118.name,by decide,func118.trans (congrArg some (by kernel_rfl))⟩
 f14:=⟨f142.name,by decide,func142.trans (congrArg some (by kernel_rfl))⟩
 f15:=func138.trans (congrArg some (by kernel_rfl))
 f20:=⟨f159.name,by decide,func159.trans (congrArg some (by kernel_rfl))⟩
 f21:=⟨f160.name,by decide,func160.trans (congrArg some (by kernel_rfl))⟩
 f22:=⟨f161.name,by decide,func161.trans (congrArg some (by kernel_rfl))⟩
 f23:=⟨f162.name,by decide,func162.trans (congrArg some (by kernel_rfl))⟩
 f24:=⟨f163.name,by decide,func163.trans (congrArg some (by kernel_rfl))⟩
 f25:=⟨f164.name,by decide,func164.trans (congrArg some (by kernel_rfl))⟩
 f26:=⟨f165.name,by decide,func165.trans (congrArg some (by kernel_rfl))⟩
 f27:=⟨f166.name,by decide,func166.trans (congrArg some (by kernel_rfl))⟩
 f28:=func156.trans (congrArg some (by kernel_rfl))
 f29:=func157.trans (congrArg some (by kernel_rfl))
 f46:=⟨f172.name,by decide,func172.trans (congrArg some (by kernel_rfl))⟩
 f47:=func168.trans (congrArg some (by kernel_rfl))
 f48:=func169.trans (congrArg some (by kernel_rfl))
 f49:=⟨f173.name,by decide,func173.trans (congrArg some (by kernel_rfl))⟩
 f50:=⟨f174.name,by decide,func174.trans (congrArg some (by kernel_rfl))⟩
 f57:=⟨f176.name,by decide,func176.trans (congrArg some (by kernel_rfl))⟩
 t0:=underlying0
 a0:=isAgg0
 z0:=sizeOf0
 v0:=zeroValue0
 t3:=underlying3
 a3:=isAgg3
 z3:=sizeOf3
 v3:=zeroValue3
 t4:=underlying4
 a4:=isAgg4
 z4:=sizeOf4
 v4:=zeroValue4
 t5:=underlying5
 a5:=isAgg5
 z5:=sizeOf5
 v5:=zeroValue5
 t9:=underlying9
 a9:=isAgg9
 z9:=sizeOf9
 v9:=zeroValue9
 t22:=underlying52
 a22:=isAgg52
 z22:=sizeOf52
 v22:=zeroValue52
 t25:=underlying118
 a25:=isAgg118
 z25:=sizeOf118
 v25:=zeroValue118
 t39:=underlying172
 a39:=isAgg172
 z39:=sizeOf172
 v39:=zeroValue172
 t45:=underlying182
 a45:=isAgg182
 z45:=sizeOf182
 v45:=zeroValue182
 t46:=underlying183
 a46:=isAgg183
 z46:=sizeOf183
 v46:=zeroValue183
 t50:=underlying120
 a50:=isAgg120
 z50:=sizeOf120
 v50:=zeroValue120
 t53:=underlying189
 a53:=isAgg189
 z53:=sizeOf189
 v53:=zeroValue189
 t55:=underlying191
 a55:=isAgg191
 z55:=sizeOf191
 v55:=zeroValue191
 t66:=underlying197
 a66:=isAgg197
 z66:=sizeOf197
 v66:=zeroValue197
 t70:=underlying201
 a70:=isAgg201
 z70:=sizeOf201
 v70:=zeroValue201
 t76:=underlying205
 a76:=isAgg205
 z76:=sizeOf205
 v76:=zeroValue205
 t77:=underlying206
 a77:=isAgg206
 z77:=sizeOf206
 v77:=zeroValue206 }
end Go.Proofs
end
namespace Go.Ai
section
open Go.RowKit Go.Shelf
theorem e3a(a b:Wd)(a0:a.length<=1000000)(a1:b.length<=1000000)(g:Gb)(n:Nat)(h Q A U:AV)(Z:Al g n a h)(D:Al g n b A)(h1:oneC Q=true)(h2:oneC U=true):
  WC 0 prog 119 [.agg [h,Q],.agg [A,U]] ⟨.fn g,n⟩ λr=>∃g' n',r=.ret (.li (A4 a b)) ⟨.fn g',n'⟩:=by
 have h3:=Z.one;have h4:=D.one;have a2:allOne [h,Q]=true:=by simp[h3,h1]
 have a3:allOne [A,U]=true:=by simp[h4,h2]
 have HC:=Xu λ(gX:Gb)(hX:∀b,b<n->gX b=g b)=>b5w a b a0 a1 gX (n+1+1) h A (X0 (by omega) hX Z) (X0 (by omega) hX D);clear Z D;refine ent [] func119 ?_;simp (disch:=first|omega|simp) [*];refine Xv (HC.out _ λb D=>by simp (disch:=omega) only[Ad]) ?_;rintro _ rfl;simp (disch:=first|omega|simp) [*]
theorem Ba.froz{g:Gb}{lo n B:Nat}{w:Wd}{sv:AV}(h:Ba g lo n B w sv):Al (froz B g) n w sv:=by
 obtain⟨gk,D,A⟩:=h;rcases A with A|⟨a,off,Q,U,l,own,z,Z,e2,e3⟩
 .exact .inl A
 .obtain⟨q1,_,_,q2⟩:=D a _ Z;exact .inr ⟨a,off,Q,U,l,false,z,b3c q2 q1,e2,e3⟩
theorem b6a(key:Nat->Wd):Go.Sort.SWO (ltOf λi j=>A4 (key i) (key j)):=by
 have U:∀i j,ltOf (λi j=>A4 (key i) (key j)) i j=decide (A4 (key i) (key j)<0):=λi j=>rfl;refine⟨λx=>?_,λx y z D A=>?_,λx y z D A=>?_⟩
 .rw[U,decide_eq_false];intro h;exact X9 (Fa.1 h)
 .rw[U,decide_eq_true_eq] at D A |-;exact Fa.2 ((Fa.1 D).trans (Fa.1 A))
 .rw[U,decide_eq_false_iff_not] at D A |-;intro Q;have Q:=Fa.1 Q;rcases e8p (A4 (key x) (key y)) 0 with h|h|h
  .exact D h
  .rw[K4 h] at Q;exact A (Fa.2 Q)
  .exact A (Fa.2 ((Se h).trans Q))
theorem pairs_of:∀(m:Nat)(cs:List AV),cs.length=m*2->∃its:List (List AV),its.length=m/\its.flatten=cs/\∀k (h:k<its.length),∃s1 s2,its[k]=[s1,s2]/\cs[k*2]?=some s1/\cs[k*2+1]?=some s2
  | 0, cs, h => ⟨[], rfl, by have:cs = []:= List.eq_nil_of_length_eq_zero (by omega)
                             rw[this];rfl,λk h=>by cases h⟩
  | m+1,[],h=>by simp at h
  | m+1,[_],h=>by simp at h;omega
  | m+1,a::b::cs,h=>by
    obtain⟨its,A,D,Q⟩:=pairs_of m cs (by simp at h;omega);refine⟨[a,b]::its,by simp[A],by simp[D],λk U=>?_⟩
    cases k with
    | zero=>exact⟨a,b,rfl,rfl,rfl⟩
    | succ k =>
      obtain⟨s1,s2,Z,e2,e3⟩:=Q k (by simpa using U);refine⟨s1,s2,by simpa using Z,?_,?_⟩
      · rw[show (k+1)*2=k*2+2 by omega];simpa using e2
      · rw[show (k+1)*2+1=(k*2+1)+2 by omega];simpa using e3
theorem e3b{us:Lq}{cs:List AV}{g:Gb}{lo n B z c:Nat}(a1:RowsF g lo n B us cs)(a5:g B=some (.cells cs true z))(a7:0<us.length)(a8:us.length<=100000)(hw:∀u∈us,u.1.length<=1000000):
  WC 0 prog 118 [.sl B 0 us.length c,.lit (.func (.func 119) #[] #[])] ⟨.fn g,n⟩ λr=>∃(U:Lq)(a0:List AV),U.Perm us/\(∀(i j:Nat)(_:i<j)(Z:j<U.length),¬ A4 U[j].1 (U[i]'(by omega)).1<0)/\r=.ret (.tup []) ⟨.fn (Ak g B (some (.cells a0 true z))),n⟩/\RowsF (Ak g B (some (.cells a0 true z))) lo n B U a0/\∀v∈a0,v∈cs:=by
 obtain⟨its,p1,p2,p3⟩:=pairs_of us.length cs a1.1;have D:∀(k:Nat)(h:k<its.length),∃s1 s2,its[k]=[s1,s2]/\Ba g lo n B (us[k]'(by omega)).1 s1/\Ba g lo n B (us[k]'(by omega)).2 s2:=by
  intro k h;obtain⟨s1,s2,A,e2,e3⟩:=p3 k h;obtain⟨t1,t2,f1,f2,f3,f4⟩:=a1.2 k (by omega);rw[e2] at f1;rw[e3] at f2;cases f1;cases f2;exact⟨s1,s2,A,f3,f4⟩
 have h:=WC.sortK (G:=0) sortT 2 (by decide) isAgg84 sizeOf84 119 (enters_of func119 (by kernel_rfl) rfl) (its:=its) (λx hx=>by
   obtain⟨k,hk,rfl⟩:=e6p hx;obtain⟨s1,s2,A,e2,e3⟩:=D k hk;rw[A];exact⟨rfl,by simp[e2.rep.one,e3.rep.one]⟩) (λi j=>A4 (us.getD i ([],[])).1 (us.getD j ([],[])).1) (b6a λi=>(us.getD i ([],[])).1) (g:=g) (n:=n) (Bn:=B) (z:=z) (by rw[p2];exact a5) (sv:=.sl B 0 us.length c) (.inl ⟨c,by rw[p1]⟩) (by omega) (by omega) (λi j hi Z=>by
   obtain⟨s1,s2,A,e2,e3⟩:=D i hi;obtain⟨t1,t2,f1,f2,f3⟩:=D j Z;rw[A,f1,(Hc (d:=([],[])) (show i<us.length by omega)).2,(Hc (d:=([],[])) (show j<us.length by omega)).2];exact e3a _ _ (hw _ (W2 _)) (hw _ (W2 _)) _ n s1 s2 t1 t2 e2.froz f2.froz e3.rep.one f3.rep.one)
 refine Xv h ?_;rintro _ ⟨is,hp,hs,rfl⟩;rw[p1] at hp;have a9:is.length=us.length:=by rw[hp.length_eq,e9g]
 have Q:∀i∈is,i<us.length:=λi hi=>e8a.1 (hp.mem_iff.1 hi);have b0:∀i,i<us.length->us.getD i ([],[])=us.getD i ([],[]):=λ_ _=>rfl;refine⟨is.map λi=>us.getD i ([],[]),_,?_,λi j a6 Z=>?_,rfl,⟨?_,λk hk=>?_⟩,λv hv=>?_⟩
 .have:=hp.map λi=>us.getD i ([],[]);refine this.trans (List.Perm.of_eq ?_);apply e9k
  .simp
  .intro k h1 h2;rw[e6k,List.getElem_range,(Hc (by omega)).2]
 .rw[e6k,e6k];rw[Xl] at Z;exact hs i j a6 Z
 .rw[U2 (k:=2)]
  .simp
  .intro x hx;obtain⟨i,hi,rfl⟩:=Xc.1 hx;obtain⟨s1,s2,A,_⟩:=D i (by have:=Q i hi;omega);rw[Xo,W6 (by have:=Q i hi;omega)];show (its[i]'_).length=2;rw[A];rfl
 .rw[Xl] at hk;have b1:=Q _ (W2 hk);obtain⟨s1,s2,A,e2,e3⟩:=D is[k] (by omega);have a2:its.getD is[k] []=[s1,s2]:=by
   rw[Xo,W6 (by omega)];exact A
  have a3:=λt (ht:t<2)=>U1 (k:=2) (is.map λi=>its.getD i []) (λx hx=>by
   obtain⟨i,hi,rfl⟩:=Xc.1 hx;obtain⟨s1,s2,A,_⟩:=D i (by have:=Q i hi;omega);rw[Xo,W6 (by have:=Q i hi;omega)];show (its[i]'_).length=2;rw[A];rfl) k (by simpa using hk) t ht
  refine⟨s1,s2,?_,?_,?_,?_⟩
  .have:=a3 0 (by decide);rw[e6k,a2] at this;exact this
  .have:=a3 1 (by decide);rw[e6k,a2] at this;exact this
  .rw[e6k,(Hc (by omega)).2];exact e2.keep (Wy _) (Wy _) (.inr (.inl rfl)) λa _ _ h=>Ae h
  .rw[e6k,(Hc (by omega)).2];exact e3.keep (Wy _) (Wy _) (.inr (.inl rfl)) λa _ _ h=>Ae h
 .obtain⟨x,hx,hv⟩:=List.mem_flatten.1 hv;obtain⟨i,hi,rfl⟩:=Xc.1 hx;have a4:i<its.length:=by have:=Q i hi;omega
  rw[Xo,W6 a4] at hv;rw[<- p2];exact List.mem_flatten.2 ⟨_,W2 a4,hv⟩
end
end Go.Ai
section
namespace Go.Proofs
open Go.Shelf
def sortW_ren:Go.Shelf.Ren:=⟨λ|6=>109|15=>138|14=>137|28=>156|29=>157|20=>148|21=>149|22=>150|23=>151|24=>152|25=>153|26=>154|27=>155|46=>167|47=>168|48=>169|49=>170|50=>171|57=>175|n=>n,λ|22=>22|24=>65|25=>110|3=>3|39=>172|0=>0|53=>189|55=>191|4=>4|46=>183|45=>182|50=>120|5=>5|9=>9|66=>197|70=>201|76=>205|77=>206|n=>n,λ|n=>n⟩
theorem sortW:Go.Proofs.SlLaysF.n6 prog sortW_ren:={
 mixed:=by kernel_rfl
 f6:=⟨f109.name,by decide,func109.trans (congrArg some (by kernel_rfl))⟩
 f14:=⟨f137.name,by decide,func137.trans (congrArg some (by kernel_rfl))⟩
 f15:=func138.trans (congrArg some (by kernel_rfl))
 f20:=⟨f148.name,by decide,func148.trans (congrArg some (by kernel_rfl))⟩
 f21:=⟨f149.name,by decide,func149.trans (congrArg some (by kernel_rfl))⟩
 f22:=⟨f150.name,by decide,func150.trans (congrArg some (by kernel_rfl))⟩
 f23:=⟨f151.name,by decide,func151.trans (congrArg some (by kernel_rfl))⟩
 f24:=⟨f152.name,by decide,func152.trans (congrArg some (by kernel_rfl))⟩
 f25:=⟨f153.name,by decide,func153.trans (congrArg some (by kernel_rfl))⟩
 f26:=⟨f154.name,by decide,func154.trans (congrArg some (by kernel_rfl))⟩
 f27:=⟨f155.name,by decide,func155.trans (congrArg some (by kernel_rfl))⟩
 f28:=func156.trans (congrArg some (by kernel_rfl))
 f29:=func157.trans (congrArg some (by kernel_rfl))
 f46:=⟨f167.name,by decide,func167.trans (congrArg some (by kernel_rfl))⟩
 f47:=func168.trans (congrArg some (by kernel_rfl))
 f48:=func169.trans (congrArg some (by kernel_rfl))
 f49:=⟨f170.name,by decide,func170.trans (congrArg some (by kernel_rfl))⟩
 f50:=⟨f171.name,by decide,func171.trans (congrArg some (by kernel_rfl))⟩
 f57:=⟨f175.name,by decide,func175.trans (congrArg some (by kernel_rfl))⟩
 t0:=underlying0
 a0:=isAgg0
 z0:=sizeOf0
 v0:=zeroValue0
 t3:=underlying3
 a3:=isAgg3
 z3:=sizeOf3
 v3:=zeroValue3
 t4:=underlying4
 a4:=isAgg4
 z4:=sizeOf4
 v4:=zeroValue4
 t5:=underlying5
 a5:=isAgg5
 z5:=sizeOf5
 v5:=zeroValue5
 t9:=underlying9
 a9:=isAgg9
 z9:=sizeOf9
 v9:=zeroValue9
 t22:=underlying22
 a22:=isAgg22
 z22:=sizeOf22
 v22:=zeroValue22
 a24:=isAgg65
 z24:=sizeOf65
 t25:=underlying110
 a25:=isAgg110
 z25:=sizeOf110
 v25:=zeroValue110
 t39:=underlying172
 a39:=isAgg172
 z39:=sizeOf172
 v39:=zeroValue172
 t45:=underlying182
 a45:=isAgg182
 z45:=sizeOf182
 v45:=zeroValue182
 t46:=underlying183
 a46:=isAgg183
 z46:=sizeOf183
 v46:=zeroValue183
 t50:=underlying120
 a50:=isAgg120
 z50:=sizeOf120
 v50:=zeroValue120
 t53:=underlying189
 a53:=isAgg189
 z53:=sizeOf189
 v53:=zeroValue189
 t55:=underlying191
 a55:=isAgg191
 z55:=sizeOf191
 v55:=zeroValue191
 t66:=underlying197
 a66:=isAgg197
 z66:=sizeOf197
 v66:=zeroValue197
 t70:=underlying201
 a70:=isAgg201
 z70:=sizeOf201
 v70:=zeroValue201
 t76:=underlying205
 a76:=isAgg205
 z76:=sizeOf205
 v76:=zeroValue205
 t77:=underlying206
 a77:=isAgg206
 z77:=sizeOf206
 v77:=zeroValue206 }
end Go.Proofs
end
namespace Go.Ai
section
open Go.RowKit Go.Shelf
theorem Al.froz{g:Gb}{lo n B:Nat}{w:Wd}{sv:AV}(h:Al (Fe g lo B) n w sv):Al (froz B g) n w sv:=by
 rcases h with A|⟨a,off,D,Q,l,own,z,U,e2,e3⟩
 .exact .inl A
 .obtain⟨_,Z,q1⟩:=K7 U;exact .inr ⟨a,off,D,Q,l,false,z,b3c Z q1,e2,e3⟩
theorem e3c{l:Wq}{cs:List AV}{g:Gb}{lo n B:Nat}(A:RowsW (Fe g lo B) n l cs)(a2:g B=some (.cells cs true 1))(a4:0<l.length)(a5:l.length<=100000)(hw:∀w∈l,w.length<=1000000):
  WC 0 prog 109 [.slq B 0 l.length 0,.lit (.func (.func 110) #[] #[])] ⟨.fn g,n⟩ λr=>∃(D:Wq)(U:List AV),D.Perm l/\(∀(i j:Nat)(_:i<j)(Q:j<D.length),¬ A4 D[j] (D[i]'(by omega))<0)/\r=.ret (.tup []) ⟨.fn (Ak g B (some (.cells U true 1))),n⟩/\RowsW (Fe (Ak g B (some (.cells U true 1))) lo B) n D U/\∀v∈U,v∈cs:=by
 have a0:∀(k:Nat)(h:k<cs.length),Al (Fe g lo B) n (l[k]'(by have:=A.1;omega)) cs[k]:=by
  intro k h;obtain⟨sv,Z,e2⟩:=A.2 k (by have:=A.1;omega);rw[W6 h] at Z;cases Z;exact e2
 have hl:=A.1;have h:=WC.sort1 (G:=0) sortW 110 (enters_of func110 (by kernel_rfl) rfl) (its:=cs) A.allOne (λi j=>A4 (l.getD i []) (l.getD j [])) (b6a λi=>l.getD i []) (g:=g) (n:=n) (Bn:=B) (z:=1) a2 (sv:=.slq B 0 l.length 0) (.inr ⟨0,by rw[hl]⟩) (by omega) (by omega) (λi j hi Q=>by
   rw[(Hc (d:=[]) (show i<l.length by omega)).2,(Hc (d:=[]) (show j<l.length by omega)).2];exact Xv (b5w _ _ (hw _ (W2 _)) (hw _ (W2 _)) _ n _ _ (a0 i hi).froz (a0 j Q).froz) λr hr=>⟨_,_,hr⟩)
 refine Xv h ?_;rintro _ ⟨is,hp,hs,rfl⟩;have a6:is.length=l.length:=by rw[hp.length_eq,e9g,hl]
 have a1:∀i∈is,i<l.length:=λi hi=>by have:=e8a.1 (hp.mem_iff.1 hi);omega
 refine⟨is.map λi=>l.getD i [],_,?_,λi j a3 Q=>?_,rfl,⟨by simp,λk hk=>?_⟩,λv hv=>?_⟩
 .have:=hp.map λi=>l.getD i [];refine this.trans (List.Perm.of_eq ?_);apply e9k
  .simp[hl]
  .intro k h1 h2;rw[e6k,List.getElem_range,(Hc (by omega)).2]
 .rw[e6k,e6k];rw[Xl] at Q;exact hs i j a3 Q
 .rw[Xl] at hk;have a7:=a1 _ (W2 hk);refine⟨cs[is[k]]'(by omega),?_,?_⟩
  .rw[e6r,W6 hk,e8s,Xo,W6 (by omega)];rfl
  .rw[e6k,(Hc (by omega)).2];refine Xz (Wy _) (λa z _ hz=>?_) (a0 is[k] (by omega));obtain⟨Z,e2,e3⟩:=K7 hz;rw[V0 Z e2,Ae e2];exact e3
 .obtain⟨i,hi,rfl⟩:=Xc.1 hv;have:=a1 i hi;rw[Xo,W6 (by omega)];exact W2 _
end
def vI(k:IntKind)(n:Nat):AV:=.lit (.int k (Int.ofNat n))
def vM(k:IntKind)(n:Nat):AV:=.lit (.int k (Int.negSucc n))
def bl0:List AV:=[vM .i64 0,vM .i64 0,vM .i64 0,vM .i64 0]
def bl1:List AV:=[.sl 20 0 2 2]
def bl2:List AV:=[vI .i64 1]
def bl3:List AV:=[vI .i64 0]
def bl4:List AV:=[.sl 5 0 1 1,.sl 6 0 1 1]
def bl5:List AV:=[]
def bl6:List AV:=[.sl 1 0 0 0]
def bl7:List AV:=[vI .i64 5,vI .i64 0,vI .i64 6,vI .i64 0]
def bl8:List AV:=[vI .i64 3,vI .i64 1,vI .i64 4,vI .i64 0]
def bl9:List AV:=[vI .i64 1,vI .i64 0,vI .i64 2,vI .i64 0]
def bl10:List AV:=[.sl 495 0 2 2,.sl 502 0 2 2,.sl 509 0 2 2,.sl 516 0 2 2,.sl 521 0 2 2,.sl 526 0 2 2,.sl 531 0 2 2]
def bl11:List AV:=[.sl 546 0 1 1,.sl 548 0 1 1]
def bl12:List AV:=[.sl 544 0 0 0]
def bl13:List AV:=[.sl 724 0 2 2,.sl 726 0 2 2,.sl 728 0 2 2,.sl 730 0 2 2,.sl 732 0 2 2,.sl 734 0 2 2,.sl 736 0 2 2]
def bl14:List AV:=[.sl 720 0 1 1,.sl 722 0 1 1]
def bl15:List AV:=[.sl 718 0 0 0,.sl 739 0 1 1]
def bl16:List AV:=[vI .i64 9,vI .i64 1,vI .i64 10,vI .i64 0]
def bl17:List AV:=[vI .i64 7,vI .i64 0,vI .i64 8,vI .i64 0]
def bl18:List AV:=[.sl 1530 0 2 2,.sl 1537 0 2 2,.sl 1544 0 2 2,.sl 1551 0 2 2,.sl 1558 0 2 2,.sl 1565 0 2 2,.sl 1570 0 2 2,.sl 1575 0 2 2,.sl 1580 0 2 2,.sl 1585 0 2 2,.sl 1590 0 2 2]
def bl19:List AV:=[.sl 1607 0 1 1,.sl 1609 0 1 1]
def bl20:List AV:=[.sl 1603 0 0 0,.sl 1605 0 1 1]
def bl21:List AV:=[vM .i64 0,vM .i64 0]
def bl22:List AV:=[.sl 2881 0 1 1]
def bl23:List AV:=[.sl 2867 0 1 1]
def bl24:List AV:=[.sl 2863 0 0 0]
def bl25:List AV:=[vI .i64 2,vI .i64 0]
def bl26:List AV:=[vI .i64 1,vI .i64 0]
def bl27:List AV:=[.sl 2952 0 1 1,.sl 2957 0 1 1,.sl 2962 0 1 1]
def bl28:List AV:=[.sl 2976 0 1 1]
def bl29:List AV:=[.sl 2974 0 0 0]
def bl30:List AV:=[vI .i64 3,vI .i64 1]
def bl31:List AV:=[.sl 3415 0 1 1,.sl 3420 0 1 1,.sl 3425 0 1 1,.sl 3430 0 1 1]
def bl32:List AV:=[.sl 3444 0 1 1]
def bl33:List AV:=[.sl 3442 0 0 0]
def bl34:List AV:=[vI .i64 0,vI .i64 1,vI .i64 1,vI .i64 0]
def bl35:List AV:=[vI .i64 1,vI .i64 0,vI .i64 0,vI .i64 0]
def bl36:List AV:=[.sl 117 0 2 2,.sl 118 0 2 2]
def bl37:List AV:=[vI .i64 0,vI .i64 0,vI .i64 0]
def bl38:List AV:=[vI .i64 0,vI .i64 1,vI .i64 1]
def bl39:List AV:=[vI .i64 0,vI .i64 0,vI .i64 1]
def bl40:List AV:=[vI .i64 0,vI .i64 1,vI .i64 0]
def bl41:List AV:=[.sl 1110 0 3 3,.sl 1102 0 3 3,.sl 1142 0 3 3,.sl 1134 0 3 3,.sl 1174 0 3 3,.sl 1166 0 3 3,.sl 1206 0 3 3,.sl 1198 0 3 3]
def bl42:List AV:=[.sl 896 0 2 2,.sl 897 0 2 2]
def bl43:List AV:=[vI .i64 0,vI .i64 0]
def glob0:List (Nat×List AV):=[]
noncomputable def H0:Mem:=⟨.tr (baseT glob0 e4),0⟩
theorem hG0:0=prog.globals.size:=by kernel_rfl
def bs0:List (Nat×List AV):=glob0++[(20,bl0),(18,bl1),(6,bl2),(5,bl3),(3,bl4),(1,bl5),(2,bl6)]
def bs1:List (Nat×List AV):=glob0++[(531,bl0),(526,bl0),(521,bl0),(516,bl0),(509,bl7),(502,bl8),(495,bl9),(493,bl10),(548,bl2),(546,bl3),(541,bl11),(544,bl5),(539,bl12)]
def bs2:List (Nat×List AV):=glob0++[(736,bl0),(734,bl0),(732,bl0),(730,bl0),(728,bl7),(726,bl8),(724,bl9),(717,bl13),(722,bl2),(720,bl3),(715,bl14),(739,bl3),(718,bl5),(741,bl15)]
def bs3:List (Nat×List AV):=glob0++[(1590,bl0),(1585,bl0),(1580,bl0),(1575,bl0),(1570,bl0),(1565,bl0),(1558,bl16),(1551,bl17),(1544,bl7),(1537,bl8),(1530,bl9),(1528,bl18),(1609,bl2),(1607,bl3),(1600,bl19),(1605,bl3),(1603,bl5),(1598,bl20)]
def bs4:List (Nat×List AV):=glob0++[(2881,bl21),(2879,bl22),(2867,bl3),(2865,bl23),(2863,bl5),(2864,bl24)]
def bs5:List (Nat×List AV):=glob0++[(2962,bl21),(2957,bl25),(2952,bl26),(2950,bl27),(2976,bl3),(2971,bl28),(2974,bl5),(2969,bl29)]
def bs6:List (Nat×List AV):=glob0++[(3430,bl21),(3425,bl30),(3420,bl25),(3415,bl26),(3413,bl31),(3444,bl3),(3439,bl32),(3442,bl5),(3437,bl33)]
def bs7:List (Nat×List AV):=glob0++[(118,bl34),(117,bl35),(119,bl36),(20,bl0),(18,bl1),(6,bl2),(5,bl3),(3,bl4),(1,bl5),(2,bl6)]
def bs8:List (Nat×List AV):=glob0++[(1198,bl37),(1206,bl38),(1166,bl39),(1174,bl40),(1134,bl40),(1142,bl39),(1102,bl40),(1110,bl37),(1068,bl41),(736,bl0),(734,bl0),(732,bl0),(730,bl0),(728,bl7),(726,bl8),(724,bl9),(717,bl13),(722,bl2),(720,bl3),(715,bl14),(739,bl3),(718,bl5),(741,bl15)]
def bs9:List (Nat×List AV):=glob0++[(897,bl34),(896,bl35),(898,bl42),(736,bl0),(734,bl0),(732,bl0),(730,bl0),(728,bl7),(726,bl8),(724,bl9),(717,bl13),(722,bl2),(720,bl3),(715,bl14),(739,bl3),(718,bl5),(741,bl15)]
def bs10:List (Nat×List AV):=glob0++[(2379,bl43),(2378,bl26),(1590,bl0),(1585,bl0),(1580,bl0),(1575,bl0),(1570,bl0),(1565,bl0),(1558,bl16),(1551,bl17),(1544,bl7),(1537,bl8),(1530,bl9),(1528,bl18),(1609,bl2),(1607,bl3),(1600,bl19),(1605,bl3),(1603,bl5),(1598,bl20)]
end Go.Ai
