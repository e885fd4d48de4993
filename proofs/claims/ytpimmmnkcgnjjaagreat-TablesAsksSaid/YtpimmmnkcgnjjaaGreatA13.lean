/- Parts of an interpreter and of a proof. No condition. -/
import Derived.Test.YtpimmmnkcgnjjaaGreatA12
import Derived.Test.YtpimmmnkcgnjjaaGreatA10
import Derived.Test.YtpimmmnkcgnjjaaGreatA06
import Derived.Test.YtpimmmnkcgnjjaaGreatA05
import Derived.Test.YtpimmmnkcgnjjaaGreatA09
set_option linter.all false
set_option maxHeartbeats 40000000
set_option maxRecDepth 10000
open Go.Proofs Go.Proofs.Tryz
namespace Go.Ai
variable {g:Gb}{n a B x y z k I:Nat}{sv:AV}{l:Wq}{ts:Lq}{T:Tq}
theorem RowsW.len{svs:List AV}(h:RowsW g n l svs):svs.length=l.length:=h.1
theorem RowsW.allOne{svs:List AV}(h:RowsW g n l svs):allOne svs=true:=by
 have key:∀(A:List AV),(∀(k:Nat)(D:k<A.length),oneC A[k]=true)->Go.Ai.allOne A=true:=by
  intro A
  induction A with
  | nil=>intro _;rfl
  | cons x A U =>
   intro hx;have Z:=hx 0 (by simp);have Q:=U λk D=>hx (k+1) (by simpa using D);show (match oneC x with|true=>Go.Ai.allOne A|false=>false)=true;have a0:oneC x=true:=Z;rw[a0];exact Q
 refine key svs λk D=>?_;obtain⟨sv,Q,h2⟩:=h.2 k (by rw[<- h.1];exact D);have:svs[k]=sv:=by rw[W6 D] at Q;exact Option.some.inj Q
 rw[this];exact h2.one
def Od(s:Wd)(i:Nat):Wq:=(List.range i).map λj:Nat=>s++[(j:Int)]
theorem e1u(s:Wd)(i:Nat):Od s (i+1)=Od s i++[s++[(i:Int)]]:=by unfold Od;rw[e8z,e6m];rfl
theorem e1v{q:Nat}{S:Wq}(h:k<S.length):He q (S.take (k+1))=He q (S.take k)++Od S[k] q:=by
 unfold He Od;rw[Bv h,e9i];simp
def Bl(x y z:Nat)(g:Gb):Gb:=λa=>if a<=x\/a=y\/a=z then none else g a
theorem Mz{u:Blk}(h:Bl x y z g a=some u):g a=some u:=by
 unfold Bl at h;split at h
 .cases h
 .exact h
theorem Gz(h:x<a)(A:a≠y)(D:a≠z):Bl x y z g a=g a:=if_neg (by omega)
theorem Oe{u:Blk}(h:Bl x y z g a=some u):x<a/\a≠y/\a≠z:=by
 unfold Bl at h;split at h
 .cases h
 .omega
theorem a5h{g': Gb}(h:x<a->a≠y->a≠z->g' a=g a):Bl x y z g' a=Bl x y z g a:=by
 unfold Bl;split
 .rfl
 .exact h (by omega) (by omega) (by omega)
theorem a5i{q:Option (Bool×Nat)}{o:Nat}{v:AV}(h:A5 q (Bl x y z g a) o=some v):x<a/\a≠y/\a≠z/\A5 q (g a) o=some v:=by
 by_cases hh:a<=x\/a=y\/a=z
 .rw[show Bl x y z g a=none from if_pos hh] at h
  cases q with
  | none=>cases h
  | some q=>obtain⟨A,D⟩:=q;cases A<;>cases h
 .rw[Gz (by omega) (by omega) (by omega)] at h;exact⟨by omega,by omega,by omega,h⟩
theorem e1w{f:Option Blk->Option Blk}{b:Option Blk}(D:∀u,f b=some u->b=some u){q:Option (Bool×Nat)}{o:Nat}{v:AV}(h:A5 q (f b) o=some v):A5 q b o=some v:=by
 cases A:f b with
 | none =>
  rw[A] at h
  cases q with
  | none=>cases h
  | some q=>obtain⟨Q,U⟩:=q;cases Q<;>cases h
 | some u=>rw[A] at h;rw[D u A];exact h
theorem b5h(h:(Gb)->Gb){I:Nat}(hI:I<=16){S:Wq}(h9:S.length<=100)(b6:0<S.length)(b0:∀w∈S,w.length<=300)(U c3 c4 c5 Z:AV)(e6:oneC U=true)(e7:oneC c3=true)(e8:oneC c4=true)(e9:oneC c5=true)(g0:oneC Z=true)(g:Gb)(n:Nat)(b1:∀g a u,h g a=some u->g a=some u)(b7:∀g a,n<=a->h g a=g a)(b8:∀g g' a u,h g a=some u->g' a=g a->h g' a=some u)(sv:AV)(hS:Bs (h g) n S sv):
  WC 0 prog 43 [.agg [.li I,U,sv,c3,c4,c5,Z]] ⟨.fn g,n⟩ λr=>∃ov g' n',r=.ret ov ⟨.fn g',n'⟩/\n<=n'/\(∀b,b<n->g' b=g b)/\∃B cs,A6 g' n n' B ov (Am I S).length 1 cs/\RowsW (h g') n' (Am I S) cs:=by
 have i0:=@Ap prog _ _ _ _ _ hS.choose_spec.1;have g1:=hS.choose_spec.1.one;have i1:allOne [.li I,U,sv,c3,c4,c5,Z]=true:=by simp[g1,e6,e7,e8,e9,g0]
 have b9:=Xu b1;have g2:=Xu b7;have c0:=Xu b8;have HS:=Xu hS;have i2:=Xu b0;obtain⟨svs,c2,a6⟩:=hS;have c7:svs.length=S.length*1:=by rw[a6.1];omega
 have i3:=a6.allOne;obtain⟨a9,blk,i4,i5,i6⟩:=Af.apn (P:=prog) (sz:=1) (Xz (Wy _) (λa u _ hu=>b1 _ _ _ hu) c2) b6 (by omega) c7;have HR:=Xu a6;have HB:=Xu λ(s:Wd)(hs:s∈S)(j:Nat)(gX:Gb)(n2:Nat) (qv bv:AV) (hq:Al gX n2 s qv) (Q:Al gX n2 [(j:Int)] bv)=>b4n (a:=s) (b:=[(j:Int)]) (by have:=b0 s hs;omega) (by simp) (by simp) gX n2 qv bv hq Q;clear c2 a6 b0 b1 b7 b8;refine ent [] func43 ?_;simp (disch:=first|omega|simp) [*];refine Xy (λm A H'=>∃(k n2 B:Nat)(gL:Gb)(cs:List AV)(l:Wq),k<=S.length/\m=S.length-k/\H'=⟨.fn gL,n2⟩/\n+1<=n2/\l.length<=100+k*16/\0<l.length/\Aa (∀b,b<n->gL b=g b)/\gL n=some (.cells [.li I,U,sv,c3,c4,c5,Z] true 0)/\n+1<=B/\B<n2/\gL B=some (.cells cs true 1)/\cs.length=l.length*1/\Aa (l=S++He I (S.take k))/\Aa (RowsW (Dc B (h gL)) n2 l cs) /\
  A 1=some (.ptr n 0)/\A 3=some (.slq B 0 l.length 0)/\A 4=some (.li k)) (m0:=S.length) ?_ ?_
 .refine⟨0,n+1+1,n+1,_,svs,S,W3 _,rfl,rfl,by omega,by omega,b6,⟨λb Q=>?_⟩,?_,Wy _,by omega,Ag,c7,⟨by simp[He]⟩,⟨?_⟩,by simp[*]⟩
  .simp (disch:=omega) only[Ad]
  .simp (disch:=omega) only[Ad,Ag]
  .refine HR.out.ext (by omega) λa x ha hx=>?_;rw[Ew (by omega)];exact c0.out _ _ _ _ hx (by simp (disch:=omega) only[Ad])
 rintro m A H' ⟨k,n2,B,gL,cs,l,hk,rfl,rfl,g5,c8,a3,D,a4,b2,b3,a0,a5,HL,a1,w1,w3,w4⟩ ih;refine rnd [] ?_;by_cases b4:k<S.length
 .have g6:(k:Int)<(S.length:Int):=by omega
  obtain⟨a2,o2,qv,g7,i7,b5,hq⟩:=HS.out.at b4;replace b5:=e1w (f:=λ_=>h g a2) (λu hu=>b9.out _ _ _ hu) b5;have c9:=W2 b4;have HQ:=Xu hq;have g8:=Xu λ(j:Nat)=>HB.out S[k] c9 j;have g9:=Xu (e1v (q:=I) b4);clear hq c9;generalize S[k]=s at *;simp (disch:=first|omega|simp) [*];refine Xy (λm A H'=>∃(i n2 B:Nat)(gL:Gb)(cs:List AV)(l:Wq),i<=I/\m=I-i/\H'=⟨.fn gL,n2⟩/\n+1<=n2/\l.length<=100+k*16+i/\0<l.length/\Aa (∀b,b<n->gL b=g b)/\gL n=some (.cells [.li I,U,sv,c3,c4,c5,Z] true 0)/\n+1<=B/\B<n2/\gL B=some (.cells cs true 1)/\cs.length=l.length*1/\Aa (l=S++He I (S.take k)++Od s i)/\Aa (RowsW (Dc B (h gL)) n2 l cs) /\
   A 1=some (.ptr n 0)/\A 3=some (.slq B 0 l.length 0)/\A 4=some (.li k)/\A 5=some (.li i)) (m0:=I) ?_ ?_
  .exact⟨0,n2,B,gL,cs,l,W3 _,rfl,rfl,g5,by omega,a3,D,a4,b2,b3,a0,a5,⟨by rw[HL.out];simp[Od]⟩,a1,by simp[*]⟩
  clear a0 a5 HL a1 w1 w3 w4 a4 D c8 a3;rintro m2 i8 H2 ⟨i,n3,B2,g3,cs,l,hi,rfl,rfl,h0,c8,a3,D,a4,b2,b3,a0,a5,HL,a1,w1,w3,w4,w5⟩ h3;refine rnd [] ?_;by_cases i9:i<I
  .have h4:(i:Int)<(I:Int):=by omega
   have h5:=b5;rw[<- D.out a2 g7] at h5;simp (disch:=first|omega|simp) [*];refine Xv (g8.out i _ _ _ _ (X0 (by omega) (λb Q=>?_) (Xz (Wy _) (λa u _ hu=>b9.out _ _ _ hu) HQ.out)) (Yj (own:=true) (z:=0) Ag (by omega))) ?_
   .simp (disch:=omega) only[Ad];exact D.out b Q
   rintro _ ⟨uv,g4,n4,rfl,j0,a7,a8⟩;have h6:g4 n=some (.cells [.li I,U,sv,c3,c4,c5,Z] true 0):=by rw[a7 n (by omega)];simp (disch:=omega) only[Ad];exact a4
   have j1:g4 B2=some (.cells cs true 1):=by rw[a7 B2 (by omega)];simp (disch:=omega) only[Ad];exact a0
   have h7:=a8.rep.one;have j2:allOne [uv]=true:=by simp[h7]
   have j3:cellsOf uv=[uv]:=a8.rep.cell;have e0:Aa (∀b,b<n3->g4 b=g3 b):=⟨λb Q=>by rw[a7 b (by omega)];simp (disch:=omega) only[Ad]⟩;have HF:=Xu a8;clear a7 a8;simp (disch:=first|omega|simp) [*];refine h3.out (I-(i+1)) _ _ (by omega) ⟨i+1,n4+1+1,n4+1,_,cs++[uv],l++[s++[(i:Int)]],by omega,rfl,rfl,by omega,by simp;omega,by simp,⟨λb Q=>?_⟩,?_,by omega,by omega,Ag,by simp;omega,⟨by rw[HL.out,e1u];simp⟩,⟨?_⟩,by simp[*]⟩
   .simp (disch:=omega) only[Ad,Ae];exact(e0.out b (by omega)).trans (D.out b Q)
   .simp (disch:=omega) only[Ad,Ae];exact h6
   .refine Yq (a1.out.ext (by omega) λa x ha hx=>?_) (Xz (Wy _) (λa x _ hx=>?_) (HF.out.keep (g':=Dc (n4+1) (h (Ak (Ak (Ak g4 n4 (some (.cells [uv] true 0))) B2 none) (n4+1) (some (.cells (cs++[uv]) true 1))))) (lo':=0) (n':=n4+1+1) (by omega) (by omega) λa h1 h2=>?_).rep)
    .rw[Ew (by omega)];by_cases e1:a=B2
     .subst e1;exact absurd hx (by unfold Dc;simp)
     .rw[Ew e1] at hx;refine c0.out _ _ _ _ hx ?_;simp (disch:=omega) only[Ad,Ae];exact e0.out a ha
    .exact hx
    .rw[Ew (by omega),g2.out _ _ (by omega)];simp (disch:=omega) only[Ad,Ae]
  .have h4:¬(i:Int)<(I:Int):=by omega
   have h8:i=I:=by omega
   subst h8;simp (disch:=first|omega|simp) [*];exact ih.out (S.length-(k+1)) _ _ (by omega) ⟨k+1,n3,B2,g3,cs,l,by omega,rfl,rfl,h0,by omega,a3,D,a4,b2,b3,a0,a5,⟨by rw[HL.out,g9.out];simp⟩,a1,by simp[*]⟩
 .have g6:¬(k:Int)<(S.length:Int):=by omega
  have j4:k=S.length:=by omega
  have e5:Aa (l=Am I S):=⟨by rw[HL.out,Xi (by omega)];rfl⟩;simp (disch:=first|omega|simp) [*];refine⟨_,_,_,⟨rfl,rfl,rfl⟩,by omega,D.out,B,cs,?_,?_⟩
  .rw[<- e5.out];exact .inr ⟨a3,rfl,by omega,by omega,a0,a5⟩
  .rw[<- e5.out];exact a1.out.ext (Wy _) λa x _ hx=>Js hx
theorem e1x(x y z:Nat){I:Nat}(U:I<=16){S:Wq}(Z:S.length<=100)(a0:0<S.length)(a1:∀w∈S,w.length<=300)(A c3 c4 c5 D:AV)(a2:oneC A=true)(a3:oneC c3=true)(a4:oneC c4=true)(a5:oneC c5=true)(a6:oneC D=true)(g:Gb)(n:Nat)(hx:x<n)(hy:y<n)(hz:z<n)(sv:AV)(hS:Bs (Bl x y z g) n S sv):
  WC 0 prog 43 [.agg [.li I,A,sv,c3,c4,c5,D]] ⟨.fn g,n⟩ λr=>∃Q g' n',r=.ret Q ⟨.fn g',n'⟩/\n<=n'/\(∀b,b<n->g' b=g b)/\∃B cs,A6 g' n n' B Q (Am I S).length 1 cs/\RowsW (Bl x y z g') n' (Am I S) cs:=
 b5h (Bl x y z) U Z a0 a1 A c3 c4 c5 D a2 a3 a4 a5 a6 g n (λ_ _ _ h=>Mz h) (λ_ _ h=>Gz (by omega) (by omega) (by omega)) (λg g' a u h e=>(a5h λ_ _ _=>e).trans h) sv hS
theorem e1y(U:I<=16){S:Wq}(Z:S.length<=100)(a0:0<S.length)(a1:∀w∈S,w.length<=300)(A c3 c4 c5 D:AV)(a2:oneC A=true)(a3:oneC c3=true)(a4:oneC c4=true)(a5:oneC c5=true)(a6:oneC D=true)(g:Gb)(n:Nat)(sv:AV)(hS:Bs g n S sv):
  WC 0 prog 43 [.agg [.li I,A,sv,c3,c4,c5,D]] ⟨.fn g,n⟩ λr=>∃Q g' n',r=.ret Q ⟨.fn g',n'⟩/\n<=n'/\(∀b,b<n->g' b=g b)/\∃B cs,A6 g' n n' B Q (Am I S).length 1 cs/\RowsW g' n' (Am I S) cs:=
 b5h id U Z a0 a1 A c3 c4 c5 D a2 a3 a4 a5 a6 g n (λ_ _ _ h=>h) (λ_ _ _=>rfl) (λg g' a u h e=>e.trans h) sv hS
theorem apZ65:Uq prog 65 3=some (1,8,[.li 0]):=by kernel_rfl
theorem e1z(h:0<k)(A:k<=100000)(g:Gb)(n:Nat):
  WC 0 prog 144 [.nl,.li (k:Int)] ⟨.fn g,n⟩ λr=>r=.ret (.slq n 0 0 0) ⟨.fn (Ak g n (some (.cells (rep [.li 0] k) true 1))),n+1⟩:=by
 have D:=λ{H:Mem}{ev:Ev}{d:Option Tmp}{ty:TypeId}{p:String} {af:Array Edge} {gd:Option (Nat×Bool)} {x y:Operand} {hx:ev x=some (.nl)} {hy:ev y=some (.li (k:Int))}=>d5g (P:=prog) (H:=H) (ev:=ev) (d:=d) (ty:=ty) (p:=p) (af:=af) (g:=gd) (x:=x) (y:=y) (hx:=hx) (hy:=hy) 1 8 apZ65 h (by omega) (by omega) (by omega) rfl;have Q:=λ{H:Mem}{ev:Ev}{d:Option Tmp}{ty:TypeId}{p:String} {af:Array Edge} {gd:Option (Nat×Bool)} {x hi:Operand} {hx:ev x=some (.nl)} {hh:ev hi=some (.li 0)}=>b1h (P:=prog) (H:=H) (ev:=ev) (d:=d) (ty:=ty) (p:=p) (af:=af) (g:=gd) (x:=x) (hi:=hi) (hx:=hx) (hh:=hh) (t:=65) (by kernel_rfl);have U:(0:Int)<(k:Int):=by omega
 have Z:¬(k:Int)<0:=by omega
 refine ent [] func144 ?_;simp (disch:=first|omega|simp) [*]
theorem e2a{l new:List AV}(h:new.length<=l.length):Aq l 0 new=new++l.drop new.length:=by simp[Aq]
theorem e2b{a b:Wd}(b0:a.length<=10000)(b1:b.length<=10000)(a1:0<b.length)(g:Gb)(n A:Nat)(hA:A<n)(h bv:AV)(own:Bool)(z:Nat)(hg:g A=some (.cells [h,bv] own z))(Q:Al g n a h)(U:Al g n b bv):
  WC 0 prog 126 [.sl A 0 2 2] ⟨.fn g,n⟩ λr=>∃g' n',r=.ret (.slq n 0 (a.length+b.length) 0) ⟨.fn g',n'⟩/\n<n'/\(∀x,x<n->g' x=g x)/\g' n=some (.cells (wdC (a++b)) true 1):=by
 have b2:=Q.one;have b3:=U.one;have b4:=@Ap prog _ _ _ _ _ Q;have b5:=@Ap prog _ _ _ _ _ U;have a2:=Xu (e1z (k:=a.length+b.length) (by omega) (by omega) g n);have a3:(wdC b).length=b.length*1:=by rw[A9,Xj]
 have Z:(wdC a).length=a.length*1:=by rw[A9,Xj]
 obtain⟨a9,b6,b7,b8,b9⟩:=Af.aps (P:=prog) (sz:=1) U a1 a3;have c0:¬((a.length:Int)+(b.length:Int)<0):=by omega
 have c1:(a.length:Int)<=10000:=by omega
 have c2:(b.length:Int)<=10000:=by omega
 have c6:¬((a.length:Int)<0):=by omega
 clear U;have HA:=Xu Q;clear Q;refine ent [] func126 ?_;simp (disch:=first|omega|simp) [*];refine rnd [] ?_;simp (disch:=first|omega|simp) [*];refine rnd [] ?_;simp (disch:=first|omega|simp) [*];refine rnd [] ?_;simp (disch:=first|omega|simp) [*];refine Xv a2.out ?_;rintro _ rfl;have c7:Ak g n (some (.cells (rep [.li 0] (a.length+b.length)) true 1)) A=some (.cells [h,bv] own z):=(Ad hA).trans hg;simp (disch:=first|omega|simp) [*];refine rnd [] ?_;by_cases a0:a.length=0
 .have D:Af g n h 0 (wdC a):=by have:=HA.out;rw[<- a0];exact this
  have c8:=λ{H:Mem}{ev:Ev}{d:Option Tmp}{ty:TypeId}{p:String} {af:Array Edge} {gd:Option (Nat×Bool)} {x y:Operand} {s t:TypeId} {q off k c:Nat} {hx:ev x=some (.slq q off k c)} {hy:ev y=some h} (hp:(apI prog s t).isSome=true)=>Af.apq0 (P:=prog) D (H:=H) (ev:=ev) (d:=d) (ty:=ty) (p:=p) (af:=af) (gd:=gd) (x:=x) (y:=y) (a:=q) (off:=off) (k:=k) (c:=c) (hx:=hx) (hy:=hy) hp;have a4:Aa (a=[]):=⟨e6j.1 a0⟩;have a5:(rep [AV.li 0] b.length).length=b.length:=by rw[Gn];simp
  have a6:(0+b.length)*1<=(rep [AV.li 0] b.length).length:=by omega
  have a7:=wdC_one b;clear D;simp (disch:=first|omega|simp) [*];refine rnd [] ?_;simp (disch:=first|omega|simp) [*];refine rnd [] ?_;simp (disch:=first|omega|simp) [*];refine⟨_,_,⟨rfl,rfl⟩,by omega,λx hx=>Ad hx,Ag.trans ?_⟩;rw[a4.out,List.nil_append,e2a (by omega),Xt (by omega),e6b]
 .have D:Af g n h a.length (wdC a):=HA.out;obtain⟨a8,c9,e0,e5,e6⟩:=Af.aps (P:=prog) (sz:=1) D (by omega) Z;have a5:(rep [AV.li 0] (a.length+b.length)).length=a.length+b.length:=by rw[Gn];simp
  have a6:(0+a.length)*1<=(rep [AV.li 0] (a.length+b.length)).length:=by omega
  have e7:(a.length+b.length)*1<=(Aq (rep [AV.li 0] (a.length+b.length)) 0 (wdC a)).length:=by rw[D1 (by omega)];omega
  have a7:=wdC_one b;have e8:=wdC_one a;clear D;simp (disch:=first|omega|simp) [*];refine rnd [] ?_;simp (disch:=first|omega|simp) [*];refine rnd [] ?_;simp (disch:=first|omega|simp) [*];refine⟨_,_,⟨rfl,rfl⟩,by omega,λx hx=>Ad hx,Ag.trans ?_⟩;have e1:(Aq (rep [AV.li 0] (a.length+b.length)) 0 (wdC a)).take a.length=wdC a:=by
   have:=Fq (l:=rep [AV.li 0] (a.length+b.length)) (new:=wdC a) (off:=0) (by omega);rw[Z,e6u,Xj] at this;simpa using this
  have e2:(Aq (rep [AV.li 0] (a.length+b.length)) 0 (wdC a)).drop (a.length+(wdC b).length)=[]:=Xt (by rw[D1 (by omega)];omega);have e3:Aq (Aq (rep [AV.li 0] (a.length+b.length)) 0 (wdC a)) a.length (wdC b)=wdC (a++b):=by
   rw[Aq,e1,e2];simp[wdC]
  rw[e3]
theorem e2c(h:0<k)(A:k<=100000)(g:Gb)(n B:Nat):
  WC 0 prog 93 [.slq B 0 k 0] ⟨.fn g,n⟩ λr=>r=.ret (.sl B 0 k k) ⟨.fn g,n⟩:=by
 refine ent [] func93 ?_;simp (disch:=first|omega|simp) [*]
theorem b5i{a b:Wd}(a1:a.length<=10000)(a2:b.length<=10000)(a3:0<b.length)(g:Gb)(n:Nat)(h bv:AV)(A:Al g n a h)(D:Al g n b bv):
  WC 0 prog 85 [h,bv] ⟨.fn g,n⟩ λr=>∃U g' n',r=.ret U ⟨.fn g',n'⟩/\n<=n'/\(∀x,x<n->g' x=g x)/\D8 g' n n' (a++b) U/\Ay U:=by
 have a4:=A.one;have a5:=D.one;have a9:allOne [h,bv]=true:=by simp[a4,a5]
 have b0:=A.cell;have b1:=D.cell;have a6:=Xu (e2b a1 a2 a3 (Ak g n (some (.cells [h,bv] true 0))) (n+1) n (by omega) h bv true 0 Ag (X0 (by omega) (λx hx=>Ad hx) A) (X0 (by omega) (λx hx=>Ad hx) D));clear A D;refine ent [] func85 ?_;simp (disch:=first|omega|simp) [*];refine Xv a6.out ?_;rintro _ ⟨Q,n2,rfl,b2,a0,a7⟩;have a8:=Xu a0;clear a0;simp (disch:=first|omega|simp) [*];refine Xv (e2c (by omega) (by omega) Q n2 (n+1)) ?_;rintro _ rfl;simp (disch:=first|omega|simp) [*];refine⟨_,_,_,⟨rfl,rfl,rfl⟩,by omega,λx hx=>(a8.out x (by omega)).trans (Ad hx),?_,λ_ _ _ _ e=>by cases e;exact Wy _⟩;have h5:(wdC (a++b)).length=a.length+b.length:=by rw[A9,W0]
 refine⟨λx=>if x=n+1 then Q x else none,λx y hx=>?_,?_⟩
 .have Z:(if x=n+1 then Q x else none)=some y:=hx;split at Z
  .exact⟨Z,by omega,by omega⟩
  .cases Z
 .have h6:Al (λx=>if x=n+1 then Q x else none) n2 (a++b) (.sl (n+1) 0 (a++b).length (a.length+b.length)):=Yj (own:=true) (z:=1) ((if_pos rfl).trans a7) (by omega);rw[W0] at h6;exact h6
def Vz(g:Gb)(lo n:Nat):Option (Wd)->AV->Prop
 | none,rv=>rv=.nl
 | some r,rv=>D8 g lo n r rv/\Ay rv
theorem e2d{lo len sz:Nat}{cs:List AV}(h:A6 g lo n B sv len sz cs):Ay sv:=by
 intro a o k c e;rcases h with⟨_,_,A⟩|⟨_,A,_⟩
 .rw[A] at e;cases e
 .rw[A] at e;cases e
theorem b5j{i:Nat}{w:Wd}(h:a<T.length)(hi:i<(T[a]).length):Cj T ((a:Nat):Int) ((i:Int)::w)=if (T[a][i]).1 = -1 then (if (T[a][i]).2 = -2 then some (List.replicate (w.length+1) (-1)) else none) else (Cj T (T[a][i]).1 w).map ((T[a][i]).2 :: ·):=by
 have e:(T.getD ((a:Nat):Int).toNat []).getD ((i:Nat):Int).toNat (-1,-1)=T[a][i]:=by
  rw[e6i,e6i,Xo,Xo,W6 h];simp[hi]
 rw[Cj,e]
def Dw(T:Tq)(x:Int)(r w:Wd):Option (Wd):=if x = -1 then some (r++List.replicate w.length (-1)) else (Cj T x w).map (r ++ ·)
theorem e2e{O:Int}(h0:0<T.length)(b4:∀r∈T,r.length=I/\∀e∈r,e.1 = -1\/(0<=e.1/\e.1<T.length)){w:Wd}(g0:w.length<=1000)(b5:inW w I=true)(g:Gb)(n:Nat)(tv wv:AV)(hT:Dv g n T tv)(hw:Al g n w wv):
  WC 0 prog 63 [.agg [.li I,.li O,tv],wv] ⟨.fn g,n⟩ λr=>∃rv g' n',r=.ret (.tup [rv,.lit (.bool (Cj T 0 w).isSome)]) ⟨.fn g',n'⟩/\n<=n'/\(∀b,b<n->g' b=g b)/\Vz g' n n' (Cj T 0 w) rv:=by
 have g1:=@Ap prog _ _ _ _ _ hw;have c7:=hT.choose_spec.1.one;have g2:allOne [.li I,.li O,tv]=true:=by simp[c7]
 have HT:=Xu hT;have HW:=Xu hw;have c8:=Xu b4;have c9:Aa (∀(k:Nat)(h:k<w.length),∃j:Nat,w[k]=(j:Int)/\j<I):=⟨λk h=>by
  have h2:0<=w[k]/\w[k] < (I:Int):=by simpa using W7.1 b5 _ (W2 h)
  exact⟨(w[k]).toNat,by omega,by omega⟩⟩
 obtain⟨a0,b1⟩:∃x,x=Cj T 0 w:=⟨_,rfl⟩;rw[<- b1];have b6:Aa (a0=Dw T 0 [] w):=⟨by rw[b1];unfold Dw;rw[if_neg (by decide)];cases Cj T 0 w<;>rfl⟩;clear hT hw b4 b5 b1;refine ent pl63 func63 ?_;simp (disch:=first|omega|simp) [*];refine Xy (λm gf H'=>∃(k n2 B:Nat)(gL:Gb)(rv:AV)(r:Wd)(x:Int),k<=w.length/\m=w.length-k/\H'=⟨.fn gL,n2⟩/\n+1<=n2/\r.length<=k/\(x = -1\/(0<=x/\x<T.length))/\Aa (∀b,b<n->gL b=g b)/\gL n=some (.cells [.li I,.li O,tv] true 0)/\Aa (A6 gL (n+1) n2 B rv r.length 1 (wdC r))/\Aa (a0=Dw T x r (w.drop k)) /\
  gf 1=some wv/\gf 2=some (.ptr n 0)/\gf 6=some rv/\gf 7=some (.li x)/\gf 8=some (.li k)) (m0:=w.length) ?_ ?_
 .exact⟨0,n+1,0,_,_,[],0,W3 _,rfl,rfl,Wy _,Wy _,.inr ⟨by decide,by omega⟩,⟨λb A=>Ad A⟩,Ag,⟨.inl ⟨rfl,rfl,rfl⟩⟩,b6,by simp[*]⟩
 clear b6;rintro m gf H' ⟨k,n2,B,gL,rv,r,x,hk,rfl,rfl,g3,g4,hx,D,a6,a7,a8,w1,w2,w6,w7,w8⟩ ih;have g5:(wdC r).length=r.length*1:=by rw[A9,Xj]
 have g6:oneC rv=true:=a7.out.one;refine rnd pl63 ?_;by_cases b0:k<w.length
 .have e0:(k:Int)<(w.length:Int):=by omega
  by_cases e1:x = -1
  .subst e1;have a1:Aa (a0=Dw T (-1) (r++[-1]) (w.drop (k+1))):=⟨by
    rw[a8.out];unfold Dw;rw[if_pos rfl,if_pos rfl,Xd b0,Xk,e7m];simp⟩
   clear a8;rcases a7.out with⟨Q,a5,U⟩|⟨Q,U,b7,b8,b9,c0⟩
   .subst U;have HZ:=Xu (And.intro Q a5);clear Q a5;simp (disch:=first|omega|simp) [*];refine ih.out (w.length-(k+1)) _ _ (by omega) ⟨k+1,n2+1+1,n2+1,_,.slq (n2+1) 0 (r.length+1) 0,r++[-1],-1,by omega,rfl,rfl,by omega,by simp;omega,by omega,⟨λb A=>?_⟩,?_,⟨?_⟩,a1,by simp[*],by simp[*],by simp[HZ.out.1],by simp[*]⟩
    .simp (disch:=omega) only[Ad,Ae];exact D.out b A
    .simp (disch:=omega) only[Ad,Ae];exact a6
    .rw[W0,Xg];refine .mk ?_ (by omega) (by omega) (by rw[A9];simp);rw[Gv,HZ.out.2];simp (disch:=omega) only[Ad,Ae,Ag];rfl
   .subst U;simp (disch:=first|omega|simp) [*];refine ih.out (w.length-(k+1)) _ _ (by omega) ⟨k+1,n2+1+1,n2+1,_,.slq (n2+1) 0 (r.length+1) 0,r++[-1],-1,by omega,rfl,rfl,by omega,by simp;omega,by omega,⟨λb A=>?_⟩,?_,⟨?_⟩,a1,by simp[*]⟩
    .simp (disch:=omega) only[Ad,Ae];exact D.out b A
    .simp (disch:=omega) only[Ad,Ae];exact a6
    .rw[W0,Xg];refine .mk ?_ (by omega) (by omega) (by rw[A9];simp);rw[Gv];simp (disch:=omega) only[Ad,Ae,Ag]
  .obtain⟨a,rfl⟩:∃a:Nat,x=a:=⟨x.toNat,by omega⟩;have b2:a<T.length:=by omega
   have g7:¬(a:Int)<0:=by omega
   obtain⟨j,hj,g8⟩:=c9.out k b0;obtain⟨a2,o2,e5,g9,e6⟩:=X6 HW.out b0;rw[<- D.out a2 e5,hj] at e6;obtain⟨a3,o3,tq,e7,h1,e8,c1⟩:=HT.out.at b2;have c2:=c8.out _ (W2 b2);have b3:j<(T[a]).length:=by omega
   have a9:=Xu (c2.2 _ (W2 b3));obtain⟨a4,o4,e9,h3,c6⟩:=Vq c1 b3;rw[<- D.out a3 e7] at e8;rw[<- D.out a4 e9] at c6;have Z:=Xu (show a0=(if (T[a][j]).1 = -1 then (if (T[a][j]).2 = -2 then some (List.replicate ((w.drop (k+1)).length+1) (-1)) else none) else (Cj T (T[a][j]).1 (w.drop (k+1))).map ((T[a][j]).2 :: ·)).map (r ++ ·) from by
    rw[a8.out];unfold Dw;rw[if_neg (by omega),Xd b0,hj,b5j b2 b3])
   clear hj c2 c1 a8 hx;generalize T[a][j]=e at *;obtain⟨to,eo⟩:=e;dsimp only at Z a9 c6;simp (disch:=first|omega|simp) [*];refine Ab (λht=>?_) (λht=>?_)
   .subst ht;rw[if_pos rfl] at Z;by_cases ho:eo = -2
    .have a1:Aa (a0=Dw T (-1) (r++[-1]) (w.drop (k+1))):=⟨by
      rw[Z.out,if_pos ho];unfold Dw;rw[if_pos rfl,e7m];simp⟩
     clear Z a9;rcases a7.out with⟨Q,a5,U⟩|⟨Q,U,b7,b8,b9,c0⟩
     .subst U;have HZ:=Xu (And.intro Q a5);clear Q a5;simp (disch:=first|omega|simp) [*];refine ih.out (w.length-(k+1)) _ _ (by omega) ⟨k+1,n2+1+1+1,n2+1+1,_,.slq (n2+1+1) 0 (r.length+1) 0,r++[-1],-1,by omega,rfl,rfl,by omega,by simp;omega,by omega,⟨λb A=>?_⟩,?_,⟨?_⟩,a1,by simp[*],by simp[*],by simp[HZ.out.1],by simp[*]⟩
      .simp (disch:=omega) only[Ad,Ae];exact D.out b A
      .simp (disch:=omega) only[Ad,Ae];exact a6
      .rw[W0,Xg];refine .mk ?_ (by omega) (by omega) (by rw[A9];simp);rw[Gv,HZ.out.2];simp (disch:=omega) only[Ad,Ae,Ag];rfl
     .subst U;simp (disch:=first|omega|simp) [*];refine ih.out (w.length-(k+1)) _ _ (by omega) ⟨k+1,n2+1+1+1,n2+1+1,_,.slq (n2+1+1) 0 (r.length+1) 0,r++[-1],-1,by omega,rfl,rfl,by omega,by simp;omega,by omega,⟨λb A=>?_⟩,?_,⟨?_⟩,a1,by simp[*]⟩
      .simp (disch:=omega) only[Ad,Ae];exact D.out b A
      .simp (disch:=omega) only[Ad,Ae];exact a6
      .rw[W0,Xg];refine .mk ?_ (by omega) (by omega) (by rw[A9];simp);rw[Gv];simp (disch:=omega) only[Ad,Ae,Ag]
    .have hR:a0=none:=by rw[Z.out,if_neg ho];rfl
     clear Z a9;subst hR;simp (disch:=first|omega|simp) [*];exact⟨_,_,_,⟨rfl,rfl,rfl⟩,by omega,λb A=>(Ad (by omega)).trans (D.out b A),rfl⟩
   .rw[if_neg ht] at Z;have a1:Aa (a0=Dw T to (r++[eo]) (w.drop (k+1))):=⟨by
     rw[Z.out];unfold Dw;rw[if_neg ht];cases Cj T to (w.drop (k+1))<;>simp⟩
    have h4:0<=to/\to<T.length:=a9.out.resolve_left ht;clear Z a9;rcases a7.out with⟨Q,a5,U⟩|⟨Q,U,b7,b8,b9,c0⟩
    .subst U;have HZ:=Xu (And.intro Q a5);clear Q a5;simp (disch:=first|omega|simp) [*];refine ih.out (w.length-(k+1)) _ _ (by omega) ⟨k+1,n2+1+1+1,n2+1+1,_,.slq (n2+1+1) 0 (r.length+1) 0,r++[eo],to,by omega,rfl,rfl,by omega,by simp;omega,by omega,⟨λb A=>?_⟩,?_,⟨?_⟩,a1,by simp[*],by simp[*],by simp[HZ.out.1],by simp[*]⟩
     .simp (disch:=omega) only[Ad,Ae];exact D.out b A
     .simp (disch:=omega) only[Ad,Ae];exact a6
     .rw[W0,Xg];refine .mk ?_ (by omega) (by omega) (by rw[A9];simp);rw[Gv,HZ.out.2];simp (disch:=omega) only[Ad,Ae,Ag];rfl
    .subst U;simp (disch:=first|omega|simp) [*];refine ih.out (w.length-(k+1)) _ _ (by omega) ⟨k+1,n2+1+1+1,n2+1+1,_,.slq (n2+1+1) 0 (r.length+1) 0,r++[eo],to,by omega,rfl,rfl,by omega,by simp;omega,by omega,⟨λb A=>?_⟩,?_,⟨?_⟩,a1,by simp[*]⟩
     .simp (disch:=omega) only[Ad,Ae];exact D.out b A
     .simp (disch:=omega) only[Ad,Ae];exact a6
     .rw[W0,Xg];refine .mk ?_ (by omega) (by omega) (by rw[A9];simp);rw[Gv];simp (disch:=omega) only[Ad,Ae,Ag]
 .have e0:¬(k:Int)<(w.length:Int):=by omega
  have hR:a0=some r:=by
   rw[a8.out,Xt (by omega)];unfold Dw;split<;>simp[Cj]
  clear a8;subst hR;simp (disch:=first|omega|simp) [*];exact⟨_,_,_,⟨rfl,rfl,rfl⟩,by omega,D.out,⟨(a7.out.fresh rfl).keep (by omega) (Wy _) λ_ _ _=>rfl,e2d a7.out⟩⟩
theorem e2f(h0:0<T.length)(b7:∀r∈T,r.length=I/\∀e∈r,e.1 = -1\/(0<=e.1/\e.1<T.length)){w:Wd}(g6:w.length<=1000)(b8:inW w I=true)(c0 c1 c2 c3 c4 c5:AV)(hc:allOne [c0,c1,c2,c3,c4,c5]=true)(g:Gb)(n:Nat)(tv wv:AV)(hT:Dv g n T tv)(hw:Al g n w wv):
  WC 0 prog 96 [.agg [c0,c1,c2,c3,c4,c5,tv],wv] ⟨.fn g,n⟩ λr=>∃rv g' n',r=.ret (.tup [rv,.lit (.bool (Cj T 0 w).isSome)]) ⟨.fn g',n'⟩/\n<=n'/\(∀b,b<n->g' b=g b)/\Vz g' n n' (Cj T 0 w) rv:=by
 have g7:=@Ap prog _ _ _ _ _ hw;have e0:=hT.choose_spec.1.one;have g8:allOne [c0,c1,c2,c3,c4,c5,tv]=true:=by
  simp only[O5,W1] at hc |-;simp[hc,e0]
 have HT:=Xu hT;have HW:=Xu hw;have e1:=Xu b7;have e5:Aa (∀(k:Nat)(h:k<w.length),∃j:Nat,w[k]=(j:Int)/\j<I):=⟨λk h=>by
  have h2:0<=w[k]/\w[k] < (I:Int):=by simpa using W7.1 b8 _ (W2 h)
  exact⟨(w[k]).toNat,by omega,by omega⟩⟩
 obtain⟨Q,b1⟩:∃x,x=Cj T 0 w:=⟨_,rfl⟩;rw[<- b1];have b9:Aa (Q=Dw T 0 [] w):=⟨by rw[b1];unfold Dw;rw[if_neg (by decide)];cases Cj T 0 w<;>rfl⟩;clear hT hw b7 b8 b1 hc;have g9:(w.length:Int)<=1048576:=by omega
 refine ent [] func96 ?_;simp (disch:=first|omega|simp) [*];refine Xy (λm U H'=>∃(k n2:Nat)(gL:Gb)(A:List AV)(r:Wd)(x:Int),k<=w.length/\m=w.length-k/\H'=⟨.fn gL,n2⟩/\n+1+1<=n2/\(x = -1\/(0<=x/\x<T.length))/\Aa (∀b,b<n->gL b=g b)/\gL n=some (.cells [c0,c1,c2,c3,c4,c5,tv] true 0)/\gL (n+1)=some (.cells A true 0)/\A.length=w.length/\Aa (A.take k=wdC r)/\Aa (r.length=k)/\Aa (Q=Dw T x r (w.drop k)) /\
  U 1=some wv/\U 2=some (.ptr n 0)/\U 6=some (.sl (n+1) 0 k w.length)/\U 7=some (.li x)/\U 14=some wv/\U 15=some (.li w.length)/\U 16=some (.li k)) (m0:=w.length) ?_ ?_
 .refine⟨0,_,_,_,[],0,W3 _,rfl,rfl,Wy _,.inr ⟨by decide,by omega⟩,⟨λb Z=>?_⟩,?_,Ag,?_,⟨rfl⟩,⟨rfl⟩,b9,by simp[*]⟩
  .simp (disch:=omega) only[Ad]
  .simp (disch:=omega) only[Ad,Ag]
  .rw[Gn];simp
 clear b9;rintro m U H' ⟨k,n2,gL,A,r,x,hk,rfl,rfl,h3,hx,HG,b2,e6,b3,a8,a9,a5,w1,w2,w6,w7,h4,h5,h7⟩ ih;refine rnd [] ?_;by_cases b0:k<w.length
 .have e7:(k:Int)<(w.length:Int):=by omega
  obtain⟨j,hj,h8⟩:=e5.out k b0;obtain⟨a2,o2,e8,h9,c6⟩:=X6 HW.out b0;rw[<- HG.out a2 e8] at c6;by_cases e9:x = -1
  .subst e9;have a6:Aa (Q=Dw T (-1) (r++[-1]) (w.drop (k+1))):=⟨by
    rw[a5.out];unfold Dw;rw[if_pos rfl,if_pos rfl,Xd b0,Xk,e7m];simp⟩
   have a0:k+([.li (-1)]:List AV).length<=A.length:=by simp;omega
   have a1:Aa ((Aq A k [.li (-1)]).length=w.length/\(Aq A k [.li (-1)]).take (k+1)=wdC (r++[-1])):=⟨by
    refine⟨by rw[D1 a0];exact b3,?_⟩;have h1:=Fq a0;rw[a8.out] at h1;exact h1.trans (by simp[wdC])⟩
   clear a5;simp (disch:=first|omega|simp) [*];refine ih.out (w.length-(k+1)) _ _ (by omega) ⟨k+1,_,_,Aq A k [.li (-1)],r++[-1],-1,by omega,rfl,rfl,by omega,by omega,⟨λb Z=>?_⟩,?_,?_,a1.out.1,⟨a1.out.2⟩,⟨by simp[a9.out]⟩,a6,by simp[*]⟩
   .simp (disch:=omega) only[Ad,Ae];exact HG.out b Z
   .simp (disch:=omega) only[Ad,Ae];exact b2
   .simp (disch:=omega) only[Ad,Ae,Ag]
  .obtain⟨a,rfl⟩:∃a:Nat,x=a:=⟨x.toNat,by omega⟩;have b4:a<T.length:=by omega
   have i0:¬(a:Int)<0:=by omega
   rw[hj] at c6;obtain⟨a3,o3,tq,g0,i1,g1,c7⟩:=HT.out.at b4;have c8:=e1.out _ (W2 b4);have b5:j<(T[a]).length:=by omega
   have a7:=Xu (c8.2 _ (W2 b5));obtain⟨a4,o4,g2,i2,c9⟩:=Vq c7 b5;rw[<- HG.out a3 g0] at g1;rw[<- HG.out a4 g2] at c9;have D:=Xu (show Q=(if (T[a][j]).1 = -1 then (if (T[a][j]).2 = -2 then some (List.replicate ((w.drop (k+1)).length+1) (-1)) else none) else (Cj T (T[a][j]).1 (w.drop (k+1))).map ((T[a][j]).2 :: ·)).map (r ++ ·) from by
    rw[a5.out];unfold Dw;rw[if_neg (by omega),Xd b0,hj,b5j b4 b5])
   clear hj c8 c7 a5 hx;generalize T[a][j]=e at *;obtain⟨to,eo⟩:=e;dsimp only at D a7 c9;by_cases ht:to = -1
   .subst ht;rw[if_pos rfl] at D;by_cases ho:eo = -2
    .subst ho;have a6:Aa (Q=Dw T (-1) (r++[-1]) (w.drop (k+1))):=⟨by
      rw[D.out,if_pos rfl];unfold Dw;rw[if_pos rfl,e7m];simp⟩
     have a0:k+([.li (-1)]:List AV).length<=A.length:=by simp;omega
     have a1:Aa ((Aq A k [.li (-1)]).length=w.length/\(Aq A k [.li (-1)]).take (k+1)=wdC (r++[-1])):=⟨by
      refine⟨by rw[D1 a0];exact b3,?_⟩;have h1:=Fq a0;rw[a8.out] at h1;exact h1.trans (by simp[wdC])⟩
     clear D a7;simp (disch:=first|omega|simp) [*];refine ih.out (w.length-(k+1)) _ _ (by omega) ⟨k+1,_,_,Aq A k [.li (-1)],r++[-1],-1,by omega,rfl,rfl,by omega,by omega,⟨λb Z=>?_⟩,?_,?_,a1.out.1,⟨a1.out.2⟩,⟨by simp[a9.out]⟩,a6,by simp[*]⟩
     .simp (disch:=omega) only[Ad,Ae];exact HG.out b Z
     .simp (disch:=omega) only[Ad,Ae];exact b2
     .simp (disch:=omega) only[Ad,Ae,Ag]
    .have hR:Q=none:=by rw[D.out,if_neg ho];rfl
     clear D a7;subst hR;simp only[Option.isSome];simp (disch:=first|omega|simp) [*];exact⟨_,_,_,⟨rfl,rfl,rfl⟩,by omega,λb Z=>(Ad (by omega)).trans (HG.out b Z),rfl⟩
   .rw[if_neg ht] at D;have a6:Aa (Q=Dw T to (r++[eo]) (w.drop (k+1))):=⟨by
     rw[D.out];unfold Dw;rw[if_neg ht];cases Cj T to (w.drop (k+1))<;>simp⟩
    have g3:0<=to/\to<T.length:=a7.out.resolve_left ht;have a0:k+([.li (eo)]:List AV).length<=A.length:=by simp;omega
    have a1:Aa ((Aq A k [.li (eo)]).length=w.length/\(Aq A k [.li (eo)]).take (k+1)=wdC (r++[eo])):=⟨by
     refine⟨by rw[D1 a0];exact b3,?_⟩;have h1:=Fq a0;rw[a8.out] at h1;exact h1.trans (by simp[wdC])⟩
    clear D a7;simp (disch:=first|omega|simp) [*];refine ih.out (w.length-(k+1)) _ _ (by omega) ⟨k+1,_,_,Aq A k [.li eo],r++[eo],to,by omega,rfl,rfl,by omega,.inr g3,⟨λb Z=>?_⟩,?_,?_,a1.out.1,⟨a1.out.2⟩,⟨by simp[a9.out]⟩,a6,by simp[*]⟩
    .simp (disch:=omega) only[Ad,Ae];exact HG.out b Z
    .simp (disch:=omega) only[Ad,Ae];exact b2
    .simp (disch:=omega) only[Ad,Ae,Ag]
 .have e7:¬(k:Int)<(w.length:Int):=by omega
  have g4:k=w.length:=by omega
  have hR:Q=some r:=by
   rw[a5.out,Xt (by omega)];unfold Dw;split<;>simp[Cj]
  clear a5;subst hR;simp (disch:=first|omega|simp) [*];have g5:Aa (gL (n+1)=some (.cells (wdC r) true 0)):=⟨by rw[e6,<- a8.out,Xi (by omega)]⟩;refine⟨_,_,_,⟨rfl,rfl,rfl⟩,by omega,HG.out,⟨λx=>if x=n+1 then gL x else none,λx y hx=>?_,?_⟩,λ_ _ _ _ e=>by cases e;omega⟩
  .have b6:(if x=n+1 then gL x else none)=some y:=hx;split at b6
   .exact⟨b6,by omega,by omega⟩
   .cases b6
  .have h6:Al (λx=>if x=n+1 then gL x else none) n2 r (.sl (n+1) 0 r.length w.length):=Yj (own:=true) (z:=0) ((if_pos rfl).trans g5.out) (by omega);rw[a9.out,g4] at h6;exact h6
def K6(len:Nat)(rv:AV):Prop:=(len=0/\rv=.nl)\/∃a o,rv=.sl a o len len
theorem a5j(w:Wd)(g:Gb)(lo n:Nat)(sv:AV)(hv:N9 g lo n w sv):
  WC 0 prog 93 [sv] ⟨.fn g,n⟩ λr=>∃Z,r=.ret Z ⟨.fn g,n⟩/\D8 g lo n w Z/\K6 w.length Z:=by
 rcases hv with⟨rfl,rfl|⟨m,h1,D,rfl,U⟩⟩|⟨hl,m,h1,D,rfl,U⟩
 .have Q:Aa (D8 g lo n [] (.nl)/\K6 ([]:Wd).length (.nl)):=⟨⟨λ_=>none,λa z h=>(by cases h),.inl ⟨rfl,rfl,.inl rfl⟩⟩,.inl ⟨rfl,rfl⟩⟩;refine ent [] func93 ?_;simp (disch:=first|omega|simp) [*];exact Q.out
 .have Q:Aa (D8 g lo n [] (.sl m 0 0 0)/\K6 ([]:Wd).length (.sl m 0 0 0)):=⟨⟨λa=>if a=m then g a else none,⟨λa z hz=>(by
   have A:(if a=m then g a else none)=some z:=hz;split at A
   .rename_i h4;subst h4;exact⟨A,h1,D⟩
   .cases A),.inr ⟨m,0,D,.inl ⟨0,rfl⟩,[],true,0,(if_pos rfl).trans U,by simp[wdC],by simp[wdC]⟩⟩⟩,.inr ⟨_,_,rfl⟩⟩
  refine ent [] func93 ?_;simp (disch:=first|omega|simp) [*];exact Q.out
 .have Q:Aa (D8 g lo n w (.sl m 0 w.length w.length)/\K6 w.length (.sl m 0 w.length w.length)):=⟨⟨λa=>if a=m then g a else none,⟨λa z hz=>(by
   have A:(if a=m then g a else none)=some z:=hz;split at A
   .rename_i h4;subst h4;exact⟨A,h1,D⟩
   .cases A),.inr ⟨m,0,D,.inl ⟨_,rfl⟩,wdC w,true,1,(if_pos rfl).trans U,by simp[*]⟩⟩⟩,.inr ⟨_,_,rfl⟩⟩
  clear U;have a0:¬w=[]:=λh=>by rw[h] at hl;cases hl
  refine ent [] func93 ?_;simp (disch:=first|omega|simp) [*];exact Q.out
def RowK(g:Gb)(lo n:Nat):Option (Wd)->AV->Prop
 | none,rv=>rv=.nl
 | some r,rv=>D8 g lo n r rv/\K6 r.length rv
def b5k(g:Gb)(lo n A c:Nat)(r:Wd)(rv:AV):Prop:=
 (∃Lo,rv=.sl A 0 r.length c/\lo<=A/\A<n/\g A=some (.cells Lo true 0)/\Lo.length=c/\Lo.take r.length=wdC r/\r.length<=c)\/(0<r.length/\∃B,rv=.slq B 0 r.length 0/\lo<=B/\B<n/\g B=some (.cells (wdC r) true 1))
theorem b5k.rep{lo A c:Nat}{r:Wd}{U:AV}(h:b5k g lo n A c r U):Al g n r U:=by
 rcases h with⟨Z,rfl,h1,D,Q,h4,h5,h6⟩|⟨h0,B,rfl,h1,D,Q⟩
 .refine .inr ⟨A,0,D,.inl ⟨c,rfl⟩,Z,true,0,Q,?_,?_⟩
  .rw[A9];omega
  .rw[A9,e7r];exact h5
 .exact .inr ⟨B,0,D,.inr ⟨0,rfl⟩,wdC r,true,1,Q,by simp[*]⟩
theorem e2g(a9:l.length<=100000){w:Wd}(b0:w.length<=1000)(a0:∀x∈l,x.length<=1000)(g:Gb)(n:Nat)(U sv:AV)(A:Bs g n l U)(hw:Al g n w sv):
  WC 0 prog 42 [U,sv] ⟨.fn g,n⟩ λr=>r=.ret (.lit (.bool (decide (w∈l)))) ⟨.fn g,n⟩:=by
 have b1:=@Ap prog _ _ _ _ _ A.choose_spec.1;have H1:=Xu A;have HW:=Xu hw;have a2:=Xu a0;obtain⟨res,Z⟩:∃b,b=decide (w∈l):=⟨_,rfl⟩;rw[<- Z];have a1:=Xu Z;clear A hw a0 Z;refine ent [] func42 ?_;simp (disch:=first|omega|simp) [*];refine Xy (λm D H'=>∃k:Nat,k<=l.length/\m=l.length-k/\H'=⟨.fn g,n⟩/\Aa (w ∉ l.take k)/\D 0=some U/\D 1=some sv/\D 5=some (.li k)) (m0:=l.length) ?_ ?_
 .exact⟨0,W3 _,rfl,rfl,⟨by simp⟩,by simp[*]⟩
 rintro m D H' ⟨k,hk,rfl,rfl,HN,w0,w1,w5⟩ ih;refine rnd [] ?_;by_cases Q:k<l.length
 .have a3:(k:Int)<(l.length:Int):=by omega
  obtain⟨a,off,q,ha,b2,hc,hq⟩:=H1.out.at Q;have HS:=Xu (a4z l[k] w (by have:=a2.out _ (W2 Q);omega) (by omega) g n q sv hq HW.out);have a4:Aa (w ∉ l.take (k+1)\/l[k]=w):=⟨by
   by_cases h:l[k]=w
   .exact .inr h
   .refine .inl ?_;rw[Bv Q,W9,Xh];rintro (A|A)
    .exact HN.out A
    .exact h A.symm⟩
  have a5:Aa (l[k]=w->res=true):=⟨λh=>by rw[a1.out,<- h];exact decide_eq_true (W2 Q)⟩;generalize l[k]=x at *;simp (disch:=first|omega|simp) [*];refine Xv HS.out ?_;rintro _ rfl;by_cases hx:x=w
  .have a6:=a5.out hx;subst a6;simp only[hx,decide_true];simp (disch:=first|omega|simp) [*]
  .have a7:w ∉ l.take (k+1):=a4.out.resolve_right hx;simp only[hx,decide_false];simp (disch:=first|omega|simp) [*];exact ih.out (l.length-(k+1)) _ _ (by omega) ⟨k+1,by omega,rfl,rfl,⟨a7⟩,by simp[*]⟩
 .have a3:¬(k:Int)<(l.length:Int):=by omega
  have a8:res=false:=by
   have h2:=HN.out;rw[Xi (by omega)] at h2;rw[a1.out];exact decide_eq_false h2
  subst a8;simp (disch:=first|omega|simp) [*]
theorem e2h(b2:l.length<=30000){w:Wd}(a7:w.length<=1000)(a5:∀x∈l,x.length<=1000)(g gk:Gb)(a0:∀a z,gk a=some z->g a=some z)(n:Nat)(Q D:AV)(svs:List AV)(h:Af gk n Q l.length svs)(hr:RowsW gk n l svs)(Z:Al gk n w D):
  WC 0 prog 60 [Q,D] ⟨.fn g,n⟩ λr=>∃ov g' n',r=.ret ov ⟨.fn g',n'⟩/\n<=n'/\(∀b,b<n->g' b=g b)/\((Em l w=l/\ov=Q)\/(Em l w=l++[w]/\∃B,A6 g' n n' B ov (Em l w).length 1 (svs++[D]))):=by
 replace h:Af g n Q l.length svs:=Xz (Wy _) (λa x _ hx=>a0 a x hx) h;have b3:=@Ap prog _ _ _ _ _ h;have b4:oneC Q=true:=h.one;have a8:oneC D=true:=Z.one;have b5:cellsOf D=[D]:=Z.cell;have b6:allOne [D]=true:=by simp[a8]
 have a2:svs.length=l.length:=hr.1;have HH:=Xu (e2g (by omega) a7 a5 g n Q D ⟨svs,h,hr.ext (Wy _) λa x _ hx=>a0 a x hx⟩ (Xz (Wy _) (λa x _ hx=>a0 a x hx) Z));have HR:=Xu hr;have HW:=Xu Z;have a6:=Xu h;clear hr Z h a5 a0;refine ent [] func60 ?_;simp (disch:=first|omega|simp) [*];refine Xv HH.out ?_;rintro _ rfl;by_cases a1:w∈l
 .have U:Em l w=l:=if_pos a1;simp only[a1,decide_true];have A:=Xu U;clear U;simp (disch:=first|omega|simp) [*];exact⟨_,_,_,⟨rfl,rfl,rfl⟩,Wy _,λ_ _=>rfl,.inl ⟨A.out,rfl⟩⟩
 .have U:Em l w=l++[w]:=if_neg a1;simp only[a1,decide_false];by_cases a3:l.length=0
  .have h:=a6.out;rw[a3] at h;have b0:=λ{H:Mem}{ev:Ev}{d:Option Tmp}{ty:TypeId}{p:String} {af:Array Edge} {gd:Option (Nat×Bool)} {x y:Operand} {s t:TypeId} {a off:Nat} {hx:ev x=some (.sl a off 0 0)} {hy:ev y=some Q} (hp:(apI prog s t).isSome=true)=>Yp (P:=prog) h (H:=H) (ev:=ev) (d:=d) (ty:=ty) (p:=p) (af:=af) (gd:=gd) (x:=x) (y:=y) (a:=a) (off:=off) (hx:=hx) (hy:=hy) hp;have A:=Xu U;have a4:=Xu a3;clear h U a3;simp (disch:=first|omega|simp) [*];have b1:svs=[]:=e6j.1 (by rw[a2];exact a4.out);rw[b1];refine⟨_,_,_,⟨rfl,rfl,rfl⟩,by omega,λb hb=>by simp (disch:=omega) only[Ad],.inr ⟨A.out,n+1+1,.inr ⟨by rw[A.out];simp,by rw[A.out];simp[a4.out],by omega,by omega,Ag,by rw[A.out];simp[a4.out]⟩⟩⟩
  .have h:=a6.out;obtain⟨a9,blk,b7,b8,b0⟩:=Yc (P:=prog) (sz:=1) h (by omega) (by omega) (by rw[a2,Xj]);have b9:svs.length=l.length*1:=by omega
   have A:=Xu U;clear h U a2;simp (disch:=first|omega|simp) [*];exact⟨_,_,_,⟨rfl,rfl,rfl⟩,by omega,λb hb=>by simp (disch:=omega) only[Ad,Ae],.inr ⟨A.out,n+1+1+1,.inr ⟨by rw[A.out];simp,by rw[A.out];simp,by omega,by omega,Ag,by rw[A.out];simp;omega⟩⟩⟩
theorem b5l{lo len sz:Nat}{cs:List AV}(h:A6 g lo n B sv len sz cs):Ay sv:=by
 intro a o k c e;rcases h with⟨_,_,A⟩|⟨_,A,_⟩
 .rw[A] at e;cases e
 .rw[A] at e;cases e
def Sl(g:Gb)(lo n:Nat)(w:Wd)(sv:AV):Prop:=D8 g lo n w sv/\Ay sv
def Hf(g:Gb)(lo n B:Nat)(ts:Lq)(sv:AV):Prop:=∃cs,A6 g lo n B sv ts.length 2 cs/\RowsF g lo n B ts cs/\∀v∈cs,Ay v
theorem Hf.logF{lo:Nat}(h:Hf g lo n B ts sv):Mr g lo n B ts sv:=let ⟨cs,A,D,_⟩:=h;⟨cs,A,D⟩
theorem Hf.one{lo:Nat}(h:Hf g lo n B ts sv):oneC sv=true:=h.logF.one
theorem Hf.logX{lo:Nat}(h:Hf g lo n B ts sv):F6 g n ts sv:=by
 obtain⟨cs,A,D,Q⟩:=h;refine⟨cs,Xz (Wy _) (λa x _ hx=>?_) A.slice,D.rows,Q⟩;split at hx
 .exact hx
 .cases hx
theorem Hf.keep{g': Gb}{lo lo' n':Nat}(h:Hf g lo n B ts sv)(U:lo'<=lo)(Z:n<=n')(Q:∀a,lo<=a->a<n->g' a=g a):Hf g' lo' n' B ts sv:=by
 obtain⟨cs,A,h3,D⟩:=h;refine⟨cs,?_,h3.keep U Z (.inr (.inl rfl)) λa D h5 _=>Q a D h5,D⟩;rcases A with A|⟨k1,k2,k3,k4,k5,k6⟩
 .exact .inl A
 .exact .inr ⟨k1,k2,by omega,by omega,(Q B k3 k4).trans k5,k6⟩
theorem b5m{M:Aw}(hM:M.ok)(w:Wd)(c8:w.length<=300)(hw:inW w M.inp=true)(g:Gb)(n:Nat)(ms:List AV)(wv:AV)(hr:Cy g n M ms)(hv:Al g n w wv):
  WC 0 prog 45 [.agg ms,.li 0,wv] ⟨.fn g,n⟩ λr=>∃sv g' n',r=.ret sv ⟨.fn g',n'⟩/\n<=n'/\(∀b,b<n->g' b=g b)/\Sl g' n n' (Bc M 0 w) sv:=by
 obtain⟨rv,rfl,b5⟩:=hr.one;have c9:allOne [.li M.inp,.li M.out,rv]=true:=by simp[b5]
 have e0:=@Ap prog _ _ _ _ _ hv;have HR:=Xu hr;have HV:=Xu hv;have HM:=Xu hM;have HW:=Xu hw;have e1:=hM.2.2.2.2.1;clear hr hv hM hw;refine ent pl45 func45 ?_;simp (disch:=first|omega|simp) [*];refine Xy (λm D H'=>∃(k n' : Nat)(gL:Gb)(B:Nat)(sv:AV)(cs:List AV) (s:Int),k<=w.length/\m=w.length-k/\H'=⟨.fn gL,n'⟩/\n+1<=n'/\Aa (∀b,b<n->gL b=g b)/\gL n=some (.cells [.li M.inp,.li M.out,rv] true 0) /\
  Aa (A6 gL (n+1) n' B sv k 1 cs)/\Aa (cs=wdC (Bc M 0 (w.take k)))/\Aa (s=Fb M 0 (w.take k)/\N7 M s)/\D 1=some (.li s)/\D 2=some wv/\D 3=some (.ptr n 0)/\D 7=some sv/\D 8=some (.li k)) (m0:=w.length) ?_ ?_
 .exact⟨0,_,_,0,_,[],0,W3 _,rfl,rfl,Wy _,⟨λb A=>Ad A⟩,Ag,⟨.inl ⟨rfl,rfl,rfl⟩⟩,⟨rfl⟩,⟨rfl,.inr ⟨0,rfl,by omega⟩⟩,by simp[*]⟩
 rintro m D H' ⟨k,n',gL,B,sv,cs,s,hk,rfl,rfl,b6,U,b7,a7,HC,Z,w1,w2,w3,w7,w8⟩ ih;refine rnd pl45 ?_;by_cases a3:k<w.length
 .have b8:(k:Int)<(w.length:Int):=by omega
  obtain⟨a2,off,b9,c0,c1⟩:=X0 (Xr b6) U.out HV.out |> λh=>X6 (w:=w) h a3;have a4:=Bv a3;have hx:=of_decide_eq_true (W7.1 HW.out _ (W2 a3));have HN:=Xu (λ(gX:Gb)(n2:Nat)(a0:n<=n2)(hX:∀b,b<n->gX b=g b)=>d9b HM.out s w[k] Z.out.2 hx.1 hx.2 gX n2 _ (HR.out.mono a0 hX));have HA:Aa (Fb M 0 (w.take (k+1))=(Ci M s w[k]).1):=⟨by rw[a4,Vb,<- Z.out.1];rfl⟩;have c2:Aa (Bc M 0 (w.take (k+1))=Bc M 0 (w.take k)++[(Ci M s w[k]).2]):=⟨by rw[a4,Va,<- Z.out.1];rfl⟩;have a8:=Xu (Vc (Ve HM.out Z.out.2 hx.1 hx.2)).1;clear hx a4;generalize w[k]=x at *;generalize Ci M s x=e at *;obtain⟨to,eo⟩:=e;dsimp only at *;simp (disch:=first|omega|simp) [*];refine Xv (HN.out _ _ (by omega) λb (A:b<n)=>(Ad (by omega)).trans (U.out b A)) ?_;rintro _ ⟨g2,n2,rfl,a0,hX⟩;have a9:Aa (∀b,b<n->g2 b=g b):=⟨λb A=>(hX b (by omega)).trans ((Ad (by omega)).trans (U.out b A))⟩;have e5:n'+1<=n2:=a0;have b0:g2 n=some (.cells [.li M.inp,.li M.out,rv] true 0):=(hX n (by omega)).trans ((Ad (by omega)).trans b7);have e6:g2 n'=some (.cells [.li 0,.li 0] true 0):=(hX n' (by omega)).trans Ag;have HX:=Xu hX;have b1:Aa (∀a1,a1=cs++[.li eo]->a1=wdC (Bc M 0 (w.take (k+1)))/\a1.length=(k+1)*1):=⟨λa1 h=>by
   rw[c2.out,Gv,<- HC.out];refine⟨h,?_⟩;rw[h,HC.out,W0,A9,K1,W4];simp;omega⟩
  clear hX a0 HN c0 c1 b9;rcases a7.out with⟨a5,b2,a6⟩|⟨a5,a6,e7,c6,b3,e8⟩
  .subst a6;have HZ:=Xu (And.intro a5 b2);clear a5 b2;simp (disch:=first|omega|simp) [*];have Q:=b1.out [.li eo] (by rw[HZ.out.2];rfl);refine ih.out (w.length-(k+1)) _ _ (by omega) ⟨k+1,n2+1+1,_,n2+1,.slq (n2+1) 0 (k+1) 0,_,to,by omega,rfl,rfl,by omega,⟨λb A=>?_⟩,?_,⟨.mk Ag (by omega) (by omega) Q.2⟩,⟨Q.1⟩,⟨HA.out.symm,a8.out⟩,by simp,by simp[*],by simp[*],by rw[HZ.out.1];simp,by simp⟩
   .simp (disch:=omega) only[Ad];exact a9.out b A
   .simp (disch:=omega) only[Ad];exact b0
  .subst a6;have e9:g2 B=some (.cells cs true 1):=(HX.out B (by omega)).trans ((Ad c6).trans b3);clear b3;simp (disch:=first|omega|simp) [*];have Q:=b1.out _ rfl;refine ih.out (w.length-(k+1)) _ _ (by omega) ⟨k+1,n2+1+1,_,n2+1,.slq (n2+1) 0 (k+1) 0,_,to,by omega,rfl,rfl,by omega,⟨λb A=>?_⟩,?_,⟨.mk Ag (by omega) (by omega) Q.2⟩,⟨Q.1⟩,⟨HA.out.symm,a8.out⟩,by simp[*]⟩
   .simp (disch:=omega) only[Ad,Ae];exact a9.out b A
   .simp (disch:=omega) only[Ad,Ae];exact b0
 .have b8:¬(k:Int)<(w.length:Int):=by omega
  have b4:k=w.length:=by omega
  have c7:Aa (Sl gL n n' (Bc M 0 w) sv):=⟨by
   have h1:=a7.out;rw[HC.out,b4,Xn] at h1;exact⟨(h1.fresh (K1 w 0).symm).keep (W5 n) (Wy _) λ_ _ _=>rfl,b5l h1⟩⟩
  clear b4;simp (disch:=first|omega|simp) [*];exact⟨_,_,_,⟨rfl,rfl,rfl⟩,by omega,U.out,c7.out⟩
theorem e2i(D:List Nat)(Q:∀b∈D,b<256)(I A:Nat)(b3:0<I)(hI:I<=16)(hm:A<=12)(g:Gb)(n:Nat)(bv:AV)(hv:Hz g n D bv):
  WC 0 prog 44 [bv,.li I,.li A] ⟨.fn g,n⟩ λr=>∃sv g' n',r=.ret sv ⟨.fn g',n'⟩/\n<=n'/\(∀b,b<n->g' b=g b)/\Sl g' n n' (C0 D I A) sv:=by
 have b4:=@Ap prog _ _ _ _ _ hv;have HV:=Xu hv;have a9:=Xu Q;clear hv Q;refine ent [] func44 ?_;simp (disch:=first|omega|simp) [*];refine Xy (λm U H'=>∃(k n' : Nat)(gL:Gb)(B:Nat)(sv:AV)(cs:List AV),k<=D.length/\k<=A/\m=A-k/\H'=⟨.fn gL,n'⟩/\n<=n'/\Aa (∀b,b<n->gL b=g b) /\
  Aa (A6 gL n n' B sv k 1 cs)/\Aa (cs=wdC ((D.take k).map λb=>((b % I:Nat):Int)))/\U 0=some bv/\U 1=some (.li I)/\U 2=some (.li A)/\U 7=some sv/\U 8=some (.li k)) (m0:=A) ?_ ?_
 .exact⟨0,_,_,0,_,[],W3 _,W3 _,rfl,rfl,Wy _,⟨λb Q=>rfl⟩,⟨.inl ⟨rfl,rfl,rfl⟩⟩,⟨rfl⟩,by simp[*]⟩
 rintro m U H' ⟨k,n',gL,B,sv,cs,hk,b5,rfl,rfl,b0,Z,a5,HC,w0,w1,w2,w7,w8⟩ ih;refine rnd [] ?_;have fin:¬(k<D.length/\k<A)->Aa (Sl gL n n' (C0 D I A) sv):=λh=>⟨by
  have h1:=a5.out;have e:D.take k=D.take A:=by
   by_cases h2:k<A
   .rw[Xi (by omega),Xi (by omega)]
   .rw[show k=A by omega]
  rw[HC.out,e] at h1;exact⟨h1.fresh (by rw[Xl,<- e,W4];omega),b5l h1⟩⟩
 have a6:=Xu fin;clear fin;by_cases a1:k<D.length
 .have b1:(k:Int)<(D.length:Int):=by omega
  by_cases b6:k<A
  .have b2:(k:Int)<(A:Int):=by omega
   obtain⟨a2,off,b7,b8,b9⟩:=Hz.at (n:=n') (w:=D) (X0 b0 Z.out HV.out) a1;have hx:=a9.out _ (W2 a1);have a7:Aa (∀a0,a0=cs++[.li ((D[k] % I:Nat):Int)]->a0=wdC ((D.take (k+1)).map λb=>((b % I:Nat):Int))/\a0.length=(k+1)*1):=⟨λa0 h=>by
    rw[Bv a1,e6m,e8d,Gv,<- HC.out];refine⟨h,?_⟩;rw[h,HC.out,W0,A9,Xl,W4];simp;omega⟩
   generalize D[k]=x at *;have c0:(x:Int).tmod (I:Int)=((x % I:Nat):Int):=(e7u x I).symm;have c1:x % I<256:=Nat.lt_of_le_of_lt (Nat.mod_le x I) hx;generalize x % I=y at *;have c2:¬(I:Int)=0:=by omega
   have c6:¬I=0:=by omega
   rcases a5.out with⟨a3,a8,a4⟩|⟨a3,a4,c7,c8,c9,e0⟩
   .subst a4;have HZ:=Xu (And.intro a3 a8);clear a3 a8;simp (disch:=first|omega|simp) [*];have HQ:=a7.out [.li (y:Int)] (by rw[HZ.out.2];rfl);refine ih.out (A-(k+1)) _ _ (by omega) ⟨k+1,n'+1+1,_,n'+1,.slq (n'+1) 0 (k+1) 0,_,by omega,by omega,rfl,rfl,by omega,⟨λb Q=>?_⟩,⟨.mk Ag (by omega) (by omega) HQ.2⟩,⟨HQ.1⟩,by simp[*],by simp[*],by simp[*],by rw[HZ.out.1];simp,by simp⟩;simp (disch:=omega) only[Ad];exact Z.out b Q
   .subst a4;simp (disch:=first|omega|simp) [*];have HQ:=a7.out _ rfl;refine ih.out (A-(k+1)) _ _ (by omega) ⟨k+1,n'+1+1,_,n'+1,.slq (n'+1) 0 (k+1) 0,_,by omega,by omega,rfl,rfl,by omega,⟨λb Q=>?_⟩,⟨.mk Ag (by omega) (by omega) HQ.2⟩,⟨HQ.1⟩,by simp[*]⟩;simp (disch:=omega) only[Ad,Ae];exact Z.out b Q
  .have b2:¬(k:Int)<(A:Int):=by omega
   have HF:=a6.out (by omega);simp (disch:=first|omega|simp) [*];exact⟨_,_,_,⟨rfl,rfl,rfl⟩,by omega,Z.out,HF.out⟩
 .have b1:¬(k:Int)<(D.length:Int):=by omega
  have HF:=a6.out (by omega);simp (disch:=first|omega|simp) [*];exact⟨_,_,_,⟨rfl,rfl,rfl⟩,by omega,Z.out,HF.out⟩
theorem b5n(h:List Nat)(Q:∀b∈h,b<256)(I:Int)(A:Nat)(a0:1<=I)(hI:I<=16)(U:A<=12)(D:Int)(Z:D=A)(g:Gb)(n:Nat)(bv:AV)(hv:Hz g n h bv):
  WC 0 prog 44 [bv,.li I,.li D] ⟨.fn g,n⟩ λr=>∃sv g' n',r=.ret sv ⟨.fn g',n'⟩/\n<=n'/\(∀b,b<n->g' b=g b)/\Sl g' n n' (C0 h I.toNat A) sv:=by
 obtain⟨k,rfl⟩:∃k:Nat,I=k:=⟨I.toNat,by omega⟩;subst Z;exact e2i h Q k A (by omega) (by omega) U g n bv hv
theorem e2j{st U Z:Nat}{part:Bool}{es:List Nat}{ev:AV}{ws:List (List Nat)}{wv:AV}(ia ib ic:Int)(g:Gb)(n:Nat)(hI:InG g n st U Z es ev ws wv):
  WC 0 prog 59 [.agg [.lit (.int .u8 st),.lit (.int .u8 U),.lit (.int .u8 Z),.lit (.bool part),ev,wv,.lit (.int .u8 ia),.lit (.int .u8 ib),.lit (.int .u8 ic)]] ⟨.fn g,n⟩ λr=>∃sv g' n' B,r=.ret (.agg [.lit (.int .i64 (Bz st U Z part es).inp),.lit (.int .i64 (Bz st U Z part es).out),sv]) ⟨.fn g',n'⟩/\n<=n'/\(∀b,b<n->g' b=g b)/\Hf g' n n' B (D9 (Bz st U Z part es) ws) sv:=by
 have j2:=@Ap prog _ _ _ _ _ hI.sw.choose_spec.1;have g6:=hI.se.one;have g7:=hI.sw.choose_spec.1.one;have j3:allOne [.lit (.int .u8 st),.lit (.int .u8 U),.lit (.int .u8 Z),.lit (.bool part),ev,wv,.lit (.int .u8 ia),.lit (.int .u8 ib),.lit (.int .u8 ic)]=true:=by simp[g6,g7]
 have b9:=Xu λ(gX:Gb)(n2:Nat)(hn:n<=n2)(hX:∀b,b<n->gX b=g b)=>a4j st U Z part es ev gX n2 hI.b0 hI.b1 hI.b2 (hI.se.mono hn hX) hI.eb;have HI:=Xu hI;have HM:=Xu (Un st U Z part es);clear hI;generalize Bz st U Z part es=M at *;refine ent pl59 func59 ?_;simp (disch:=first|omega|simp) [*];refine Xv (b9.out _ _ (by omega) λb (A:b<n)=>by simp (disch:=omega) only[Ad]) ?_;rintro _ ⟨ms,g1,D,rfl,j4,a8,a9⟩;obtain⟨rv,g8,g9⟩:=a9.rep.one;subst g8;have j5:allOne [.li M.inp,.li M.out,rv]=true:=by simp[g9]
 have HR:=Xu a9.rep;have a3:Aa (∀b,b<n->g1 b=g b):=⟨λb A=>(a8 b (by omega)).trans (by simp (disch:=omega) only[Ad])⟩;have b3:=Xu a8;clear a8 a9 b9;simp (disch:=first|omega|simp) [*];have h0:g1 n=some (.cells [.lit (.int .u8 st),.lit (.int .u8 U),.lit (.int .u8 Z),.lit (.bool part),ev,wv,.lit (.int .u8 ia),.lit (.int .u8 ib),.lit (.int .u8 ic)] true 0):=(b3.out n (by omega)).trans (by simp (disch:=omega) only[Ad,Ag]);have h6:g1 (n+1)=some (.cells [.li 0,.li 0,.nl] true 0):=(b3.out (n+1) (by omega)).trans (by simp (disch:=omega) only[Ad,Ag]);clear b3;refine Xy (λm gf H'=>∃(k n' : Nat)(gL:Gb)(B:Nat)(sv:AV),k<=ws.length/\k<=12/\m=12-k/\H'=⟨.fn gL,n'⟩/\D+1+1<=n'/\B<n'/\Aa (∀b,b<D->gL b=g1 b)/\gL D=some (.cells [.li M.inp,.li M.out,rv] true 0) /\
  gL (D+1)=some (.cells [.li M.inp,.li M.out,sv] true 0)/\Aa (Hf gL (D+1+1) n' B ((ws.take k).map (Ms M)) sv)/\gf 1=some (.ptr n 0)/\gf 2=some (.ptr (n+1) 0)/\gf 3=some (.ptr D 0)/\gf 4=some (.ptr (D+1) 0)/\gf 5=some (.li k)) (m0:=12) ?_ ?_
 .refine⟨0,_,_,0,_,W3 _,W3 _,rfl,rfl,Wy _,by omega,⟨λb A=>?_⟩,?_,Ag,⟨[],.inl ⟨rfl,rfl,rfl⟩,.nil,λv hv=>by cases hv⟩,by simp[*]⟩
  .exact(Ad (by omega)).trans (Ad A)
  .exact(Ad (by omega)).trans Ag
 rintro m gf H' ⟨k,n',gL,B,sv,hk,j6,rfl,rfl,j7,j8,HG,h7,h8,HL,w1,w2,w3,w4,w5⟩ ih;have j9:=(HG.out n (by omega)).trans h0;have k0:=(HG.out (n+1) (by omega)).trans h6;have h9:=HL.out.one;have k1:allOne [.li M.inp,.li M.out,sv]=true:=by simp[h9]
 have c0:Aa (¬(k<ws.length/\k<12)->Hf gL (D+1+1) n' B (D9 M ws) sv):=⟨λh=>by
  have e:ws.take k=ws.take 12:=by
   by_cases h2:k<12
   .rw[Xi (by omega),Xi (by omega)]
   .rw[show k=12 by omega]
  have h1:=HL.out;rw[e] at h1;exact h1⟩
 refine rnd pl59 ?_;by_cases b4:k<ws.length
 .have i0:(k:Int)<(ws.length:Int):=by omega
  by_cases k2:k<12
  .have i1:(k:Int)<12:=by omega
   obtain⟨a2,off,q,i2,i3,c1,c2⟩:=HI.out.sw.at b4;have i4:A5 (some (false,1)) (gL a2) (off+k)=some q:=(congrArg (λz=>A5 (some (false,1)) z (off+k)) ((HG.out a2 (by omega)).trans (a3.out a2 i2))).trans c1;have hM:=HM.out;have c6:=Xu (λ(gX:Gb)(n2:Nat)(c7:n<=n2)(hX:∀b,b<n->gX b=g b)=>b5n ws[k] (HI.out.wb _ (W2 b4)) M.inp 10 hM.1 hM.2.1 (by decide) 10 rfl gX n2 q (X0 c7 hX c2));have c8:Aa ((ws.take (k+1)).map (Ms M)=(ws.take k).map (Ms M)++[Ms M ws[k]]):=⟨by rw[Bv b4,e6m,e8d]⟩;have HW:Aa (Ms M ws[k]=(C0 ws[k] M.inp.toNat 10,Bc M 0 (C0 ws[k] M.inp.toNat 10))/\(C0 ws[k] M.inp.toNat 10).length<=10/\inW (C0 ws[k] M.inp.toNat 10) M.inp=true):=⟨rfl,Vg,Vf hM.1⟩;clear c1 c2 hM;generalize C0 ws[k] M.inp.toNat 10=w at *;generalize Ms M ws[k]=t at *;simp (disch:=first|omega|simp) [*];refine Xv (c6.out _ _ (by omega) λb (A:b<n)=>(HG.out b (by omega)).trans (a3.out b A)) ?_;rintro _ ⟨uv,g2,n2,rfl,c7,a4,a5⟩;have a0:=Xu a4;have b5:=Xu a5;have i5:=(a4 D (by omega)).trans h7;have i6:=(a4 (D+1) (by omega)).trans h8;have i7:oneC uv=true:=a5.1.rep.one;have k3:cellsOf uv=[uv]:=a5.1.rep.cell;have c9:=Xu (λ(gX:Gb)(Q:Nat)(e0:n2<=Q)(hX:∀b,b<n2->gX b=g2 b)=>b5m HM.out w (by have:=HW.out.2.1;omega) HW.out.2.2 gX Q [.li M.inp,.li M.out,rv] uv (HR.out.mono (by omega) λb A=>(hX b (by omega)).trans ((a0.out b (by omega)).trans (HG.out b (by omega)))) (X0 e0 hX b5.out.1.rep));clear a4 a5 c6 i4 i3;simp (disch:=first|omega|simp) [*];refine Xv (c9.out _ _ (by omega) λb A=>rfl) ?_;rintro _ ⟨zv,g3,Q,rfl,e0,a6,a7⟩;have a1:=Xu a6;have e1:=Xu a7;have e5:=(a6 D (by omega)).trans i5;have k4:=(a6 (D+1) (by omega)).trans i6;have i8:oneC zv=true:=a7.1.rep.one;have k5:cellsOf zv=[zv]:=a7.1.rep.cell;have k6:allOne [uv,zv]=true:=by simp[i7,i8]
   clear a6 a7 c9;obtain⟨cs,e6,b6,e7⟩:=HL.out;have i9:=Xu e7;clear e7;have j0:=Xu b6;have e8:=b6.1;rw[Xl,W4,e5z hk] at e6;rw[Xl,W4,e5z hk] at e8;clear b6;have e9:Aa (∀a,n'<=a->a≠B):=⟨λa h=>by omega⟩;have g0:Aa (∀gF:Gb,(∀b,D+1+1<=b->b<Q->b≠B->gF b=g3 b)->gF (Q+1)=some (.cells (cs++[uv,zv]) true 2)->Hf gF (D+1+1) (Q+1+1) (Q+1) ((ws.take (k+1)).map (Ms M)) (.slq (Q+1) 0 (k+1) 0)):=⟨λgF h1 h2=>by
    refine⟨cs++[uv,zv],?_,?_,?_⟩
    .rw[c8.out,W0,Xl,W4,e5z hk];exact .mk h2 (by omega) (by omega) (by rw[W0,e8];simp;omega)
    .rw[c8.out,HW.out.1];exact(j0.out.keep (Wy _) (by omega) (.inl (by omega)) λa h3 h4 h5=>(h1 a h3 (by omega) h5).trans ((a1.out a (by omega)).trans (a0.out a h4))).snoc (b5.out.1.safe (by omega) (by omega) (.inl (by omega)) λa h3 h4=>(h1 a (by omega) (by omega) (e9.out a (by omega))).trans (a1.out a h4)) (e1.out.1.safe (by omega) (by omega) (.inl (by omega)) λa h3 h4=>h1 a (by omega) h4 (e9.out a (by omega)))
    .intro v hv;rcases W9.1 hv with h|h
     .exact i9.out v h
     .rcases Xb.1 h with rfl|h
      .exact b5.out.2
      .rw[Xh.1 h];exact e1.out.2⟩
   rcases e6 with⟨b7,g4,b8⟩|⟨b7,b8,k7,j1,g5,k8⟩
   .subst b8;have HZ:=Xu (And.intro b7 g4);clear b7 g4;simp (disch:=first|omega|simp) [*];refine ih.out (12-(k+1)) _ _ (by omega) ⟨k+1,Q+1+1,_,Q+1,.slq (Q+1) 0 (k+1) 0,by omega,by omega,rfl,rfl,by omega,by omega,⟨λb A=>?_⟩,?_,?_,⟨g0.out _ (λb h1 h2 h3=>?_) ?_⟩,by simp[*]⟩
    .simp (disch:=omega) only[Ad,Ae];exact(a1.out b (by omega)).trans ((a0.out b (by omega)).trans (HG.out b A))
    .simp (disch:=omega) only[Ad,Ae];exact e5
    .rw[HZ.out.1];simp (disch:=omega) only[Ad,Ae,Ag]
    .simp (disch:=omega) only[Ad,Ae]
    .rw[HZ.out.2];simp (disch:=omega) only[Ad,Ae,Ag];rfl
   .subst b8;have k9:g3 B=some (.cells cs true 2):=(a1.out B (by omega)).trans ((a0.out B j1).trans g5);clear g5;simp (disch:=first|omega|simp) [*];refine ih.out (12-(k+1)) _ _ (by omega) ⟨k+1,Q+1+1,_,Q+1,.slq (Q+1) 0 (k+1) 0,by omega,by omega,rfl,rfl,by omega,by omega,⟨λb A=>?_⟩,?_,?_,⟨g0.out _ (λb h1 h2 h3=>?_) ?_⟩,by simp[*]⟩
    .simp (disch:=omega) only[Ad,Ae];exact(a1.out b (by omega)).trans ((a0.out b (by omega)).trans (HG.out b A))
    .simp (disch:=omega) only[Ad,Ae];exact e5
    .simp (disch:=omega) only[Ad,Ae,Ag]
    .simp (disch:=omega) only[Ad,Ae]
    .simp (disch:=omega) only[Ad,Ae,Ag]
  .have i1:¬(k:Int)<12:=by omega
   have HF:=Xu (c0.out (by omega));simp (disch:=first|omega|simp) [*];exact⟨_,_,_,⟨rfl,rfl,rfl⟩,by omega,λb A=>(Ad (by omega)).trans ((HG.out b (by omega)).trans (a3.out b A)),B,HF.out.keep (by omega) (Wy _) λa h1 h2=>Ae (by omega)⟩
 .have i0:¬(k:Int)<(ws.length:Int):=by omega
  have HF:=Xu (c0.out (by omega));simp (disch:=first|omega|simp) [*];exact⟨_,_,_,⟨rfl,rfl,rfl⟩,by omega,λb A=>(Ad (by omega)).trans ((HG.out b (by omega)).trans (a3.out b A)),B,HF.out.keep (by omega) (Wy _) λa h1 h2=>Ae (by omega)⟩
end Go.Ai
