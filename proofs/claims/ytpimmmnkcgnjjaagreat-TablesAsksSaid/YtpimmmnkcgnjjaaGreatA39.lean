/- Parts of an interpreter and of a proof. No condition. -/
import Derived.Shelf.Vars
import Derived.Test.YtpimmmnkcgnjjaaGreatA07
import Derived.Test.YtpimmmnkcgnjjaaGreatA36
import Derived.Test.YtpimmmnkcgnjjaaGreatA38
set_option linter.all false
set_option maxRecDepth 10000
open Go.Proofs Go.Proofs.Tryz
namespace Go.Ai
section
open Go.ChangeShapes Go.WideShapes Go.ChangeAt Go.RowKit
variable {H:Type}{enc:TypeId×Value→H}{w:World}
variable {g:Gb}{b sz:Nat}{cs:List Value}{β α:Type}
theorem c3:prog.cellsOf 3=1:=by kernel_rfl
theorem c4:prog.cellsOf 4=1:=by kernel_rfl
theorem c5:prog.cellsOf 5=1:=by kernel_rfl
theorem c36:prog.cellsOf 36=1:=by kernel_rfl
theorem c38:prog.cellsOf 38=5:=by kernel_rfl
theorem c113:prog.cellsOf 113=1:=by kernel_rfl
theorem e5e{t e:TypeId}{D:Nat}{x:DataW H×List MemPlace}(Q:prog.underlying t=some (.slice e))(h:DataW.trod enc prog w 0 (λ_=>true) true D t cs=some x):∃s,cs=[s]:=by
 rcases DataW.trod_slice Q h with⟨A,_⟩|⟨a,len,U,Z,a0,m,_,A,_⟩
 .exact⟨_,A⟩
 .exact⟨_,A⟩
def RL{β:Type}(R:(Gb)->Nat->β->List AV->Prop)(g:Gb)(b:Nat):List β->List AV->Prop
 | [],cs=>cs=[]
 | x::l,cs=>∃c r,cs=c++r/\R g b x c/\RL R g b l r
theorem a5z{R:(Gb)->Nat->β->List AV->Prop}(A:∀{x cs},R g b x cs->cs.length=sz):∀{l:List β}{cs:List AV},RL R g b l cs->cs.length=l.length*sz
 | [],cs,h=>by have D:cs=[]:=h;rw[D];simp
 | x::l,cs,⟨c,r,Q,U,Z⟩=>by rw[Q,W0,A U,a5z A Z,Xk,e8c];omega
theorem b7j{R:(Gb)->Nat->β->List AV->Prop}:∀(n:Nat){l:List β}{cs:List AV},RL R g b l cs->∃c r,cs=c++r/\RL R g b (l.take n) c
 | 0,l,cs,_=>⟨[],cs,rfl,rfl⟩
 | n+1,[],cs,h=>⟨cs,[],by simp,h⟩
 | n+1,x::l,cs,⟨c,r,D,Q,U⟩=>by
  obtain⟨A,Z,h4,h5⟩:=b7j n U;exact⟨c++A,Z,by rw[D,h4,e6c],c,A,rfl,Q,h5⟩
theorem b7k {α β:Type} {f:α→Mem→Option (List AV×Mem)} {R:(Gb)→Nat→β→List AV→Prop} {sz:Nat} (hm:∀ {g g' : Gb} {b b' : Nat} {x:β} {cs:List AV},b≤b'→(∀ a,a < b→g' a=g a)→R g b x cs→R g' b' x cs)
  (hl:∀ {g:Gb} {b:Nat} {x:β} {cs:List AV},R g b x cs→cs.length=sz) :
  ∀ (ds:List α),(∀ d∈ds,∀ g b,∃ avs g' b' x,f d ⟨.fn g,b⟩=some (avs,⟨.fn g',b'⟩)∧b≤b'∧(∀ a,a < b→g' a=g a)∧R g' b' x avs) →
  ∀ g b,∃ avs g' b' l,mkL f sz ds ⟨.fn g,b⟩=some (avs,⟨.fn g',b'⟩)∧b≤b'∧(∀ a,a < b→g' a=g a)∧l.length=ds.length∧RL R g' b' l avs
 | [],_,g,b=>⟨[],g,b,[],rfl,Wy _,fun _ _=>rfl,rfl,rfl⟩
 | d :: ds,h,g,b=>by
  obtain ⟨a1,g1,b1,x,e1,h1,h2,h3⟩:=h d (by simp) g b;obtain ⟨a2,g2,b2,l,e2,k1,k2,k3,k4⟩:=b7k (f:=f) (R:=R) (sz:=sz) hm hl ds (fun d hd=>h d (by simp [hd])) g1 b1;refine ⟨a1++a2,g2,b2,x :: l,?_,by omega,fun a ha=>(k2 a (by omega)).trans (h2 a ha),by simp [k3],a1,a2,rfl,hm k1 k2 h3,k4⟩;unfold mkL;rw [e1];dsimp only;rw [e2];dsimp only;rw [show Nat.beq a1.length sz=true from Nat.beq_eq.mpr (hl h3)]
theorem a6a{R:(Gb)->Nat->β->List AV->Prop}{t e:TypeId}(ht:prog.underlying t=some (.slice e))(a5:prog.cellsOf e=sz)(a6:0<sz)
  (hm:∀{g g' : Gb}{b A:Nat}{x:β}{cs:List AV},b<=A->(∀a,a<b->g' a=g a)->R g b x cs->R g' A x cs)
  (hl:∀{g:Gb}{b:Nat}{x:β}{cs:List AV},R g b x cs->cs.length=sz) {a2:Nat} {s:Value} {d:DataW H} {p:List MemPlace}
  (h:DataW.trod enc prog w 0 (λ_=>true) true a2 t [s]=some (d,p))
  (he:∀m cs d p,m<a2->DataW.trod enc prog w 0 (λ_=>true) true m e cs=some (d,p)->∀N,m<=N->∀g b,∃a0 g' A x,mkD prog Dl N e d ⟨.fn g,b⟩=some (a0,⟨.fn g',A⟩)/\b<=A/\(∀a,a<b->g' a=g a)/\R g' A x a0)
  (N:Nat) (hN:a2<=N) (g:Gb) (b:Nat) :
  ∃sv g' A l,mkD prog Dl N t d ⟨.fn g,b⟩=some ([sv],⟨.fn g',A⟩)/\b<=A/\(∀a,a<b->g' a=g a) /\
   Ay sv/\((l=[]/\(sv=.nl\/sv=.es))\/∃a off r,a<A/\(∃c,sv=.sl a off l.length c)/\Row g' a off r/\RL R g' A l r):=by
 rcases DataW.trod_slice ht h with⟨_,hx⟩|⟨a,len,b3,D,Z,m,rfl,_,hx,_,b4,_,b5,a7,a8,_⟩
 .cases hx;have hf:a2≠0:=by
   rintro rfl;simp[DataW.trod] at h
  obtain⟨N,rfl⟩:∃M,N=M+1:=⟨N-1,by omega⟩;refine⟨.nl,g,b,[],?_,Wy _,λ_ _=>rfl,λ_ _ _ _ e=>(by cases e),.inl ⟨rfl,.inl rfl⟩⟩;unfold mkD;rw[ht]
 .obtain⟨b6,a9⟩:=a8 rfl;simp only[Prod.mk.injEq] at hx;obtain⟨rfl,_⟩:=hx;obtain⟨N,rfl⟩:∃M,N=M+1:=⟨N-1,by omega⟩;have b0:∀x∈D++Z,∃ci,DataW.trod enc prog w 0 (λ_=>true) true m e ci=some x:=by
   intro x hx;rcases W9.1 hx with hx|hx
   .obtain⟨i,hi,rfl⟩:=e5y.1 hx;have:=a7 i (by omega);rw[W6 hi] at this;obtain⟨ci,_,h3⟩:=e9o.1 this;exact⟨ci,h3⟩
   .obtain⟨i,hi,rfl⟩:=e5y.1 hx;have:=a9 i (by omega);rw[W6 hi] at this;obtain⟨ci,_,h3⟩:=e9o.1 this;exact⟨ci,h3⟩
  obtain⟨a0,g1,Q,l,e1,k1,k2,k3,k4⟩:=b7k (f:=mkD prog Dl N e) (R:=R) (sz:=sz) hm hl ((D++Z).map (·.1)) (by
   intro d hd g b;obtain⟨x,hx,rfl⟩:=Xc.1 hd;obtain⟨ci,h3⟩:=b0 x hx;exact he m ci x.1 x.2 (by omega) h3 N (by omega) g b) g b
  rw[e6m] at e1;have a3:=a5z (λh=>hl h) k4;rw[Xl,W0] at k3
  cases a1:D.map (·.1)++Z.map (·.1) with
  | nil =>
   have h0:D.length=0:=by
    have:=congrArg List.length a1;rw[W0,Xl,List.length_nil] at this;omega
   refine⟨.es,g,b,[],?_,Wy _,λ_ _=>rfl,λ_ _ _ _ e=>(by cases e),.inl ⟨rfl,.inr rfl⟩⟩;unfold mkD;rw[ht];dsimp only;rw[a1]
  | cons y ys =>
   have b2:0<D.length+Z.length:=by
    have:=congrArg List.length a1;rw[W0,Xl,Xl,Xk] at this;omega
   obtain⟨z,U,rfl⟩:∃z U,a0=z::U:=by
    cases a0 with
    | nil =>
     rw[k3] at a3;have:0<(D.length+Z.length)*sz:=Nat.mul_pos b2 a6;rw[List.length_nil] at a3;omega
    | cons z U=>exact⟨z,U,rfl⟩
   obtain⟨c,r,q1,q2⟩:=b7j D.length k4;have b7:=a5z (λh=>hl h) q2;have a4:∀a,a<Q->Ak g1 Q (some (.cells (z::U) false 0)) a=g1 a:=λa ha=>Ad ha;refine⟨.sl Q 0 D.length (D.length+Z.length),Ak g1 Q (some (.cells (z::U) false 0)),Q+1,l.take D.length,?_,by omega,λa ha=>(a4 a (by omega)).trans (k2 a ha),λ_ _ _ _ e=>(by cases e;omega),.inr ⟨Q,0,c,e8q _,⟨D.length+Z.length,?_⟩,?_,?_⟩⟩
   .unfold mkD;rw[ht];dsimp only;rw[a1] at e1;rw[a5,a1];dsimp only;rw[e1];simp only[Xl];rfl
   .rw[W4,e5z (by omega)]
   .refine⟨z::U,false,0,if_pos rfl,?_,?_⟩
    .rw[q1,W0];omega
    .rw[q1,e7r,List.take_left]
   .have key:∀(l:List β)(cs:List AV),RL R g1 Q l cs->RL R (Ak g1 Q (some (.cells (z::U) false 0))) (Q+1) l cs:=by
     intro l
     induction l with
     | nil=>intro cs h;exact h
     | cons x l ih=>rintro cs ⟨c,r,h1,h2,h3⟩;exact⟨c,r,h1,hm (by omega) a4 h2,ih r h3⟩
    exact key _ _ q2
theorem e5f(h:cs.length=5):∃a b c d e,cs=[a,b,c,d,e]:=by
 match cs,h with
 | [a,b,c,d,e],_=>exact⟨a,b,c,d,e,rfl⟩
theorem b7l{A:List α}(h:A.length=5):∃a b c d e,A=[a,b,c,d,e]:=by
 match A,h with
 | [a,b,c,d,e],_=>exact⟨a,b,c,d,e,rfl⟩
def a6b(_:Gb)(_:Nat)(x:Nat)(avs:List AV):Prop:=x<65536/\avs=[.lit (.int .u16 x)]
theorem wf8{z:Int}(h:(Lit.int .u8 z).wf=true):∃n:Nat,z=n/\n<256:=by
 simp only[Lit.wf,W1,decide_eq_true_eq] at h;have A:0<=z/\z<=255:=h;exact⟨z.toNat,by omega,by omega⟩
theorem e5g{z:Int}(h:(Lit.int .u16 z).wf=true):∃n:Nat,z=n/\n<65536:=by
 simp only[Lit.wf,W1,decide_eq_true_eq] at h;have A:0<=z/\z<=65535:=h;exact⟨z.toNat,by omega,by omega⟩
theorem e5h(A:Nat)(cs:List Value)(d:DataW H)(p:List MemPlace)(h:DataW.trod enc prog w 0 (λ_=>true) true A 113 cs=some (d,p))(N:Nat)(hN:A<=N)(g:Gb)(b:Nat):
  ∃Q g' D x,mkD prog Dl N 113 d ⟨.fn g,b⟩=some (Q,⟨.fn g',D⟩)/\b<=D/\(∀a,a<b->g' a=g a)/\a6b g' D x Q:=by
 obtain⟨x,_,f0,U⟩:=DataW.trod_int (x:=(d,p)) underlying113 h;obtain⟨x,rfl,hx⟩:=e5g U;have Z:d=.lit (.int .u16 x):=congrArg Prod.fst f0;subst Z;have a0:A≠0:=by rintro rfl;simp[DataW.trod] at h
 obtain⟨N,rfl⟩:∃M,N=M+1:=⟨N-1,by omega⟩;exact⟨[.lit (.int .u16 x)],g,b,x,by unfold mkD;rw[underlying113],Wy _,λ_ _=>rfl,hx,rfl⟩
theorem b7m:∀{l:List Nat}{cs:List AV},RL a6b g b l cs->cs=K0 l/\∀c∈l,c<65536
 | [],_,h=>⟨h,λc A=>by cases A⟩
 | x::l,_,⟨c,r,D,⟨hx,Q⟩,U⟩=>by
  obtain⟨Z,i2⟩:=b7m U;refine⟨by rw[D,Q,Z];rfl,λy hy=>?_⟩;rcases Xb.1 hy with rfl|hy
  .exact hx
  .exact i2 y hy
theorem e5i(D:Nat)(s:Value)(d:DataW H)(p:List MemPlace)(h:DataW.trod enc prog w 0 (λ_=>true) true D 36 [s]=some (d,p))(N:Nat)(hN:D<=N)(g:Gb)(b:Nat):
  ∃sv g' A l,mkD prog Dl N 36 d ⟨.fn g,b⟩=some ([sv],⟨.fn g',A⟩)/\b<=A/\(∀a,a<b->g' a=g a)/\Ks g' A sv l.length (K0 l)/\∀c∈l,c<65536:=by
 obtain⟨sv,Q,U,l,Z,t1,t2,tc,t3⟩:=a6a (R:=a6b) underlying36 c113 (by decide) (λ_ _ h=>h) (λh=>by rw[h.2];rfl) h (λm cs d p _ h N hN g b=>e5h m cs d p h N hN g b) N hN g b;refine⟨sv,Q,U,l,Z,t1,t2,?_⟩;rcases t3 with⟨rfl,h⟩|⟨a,off,r,q1,⟨c,q2⟩,q3,q4⟩
 .exact⟨.inl ⟨rfl,h⟩,λc hc=>by cases hc⟩
 .obtain⟨j1,j2⟩:=b7m q4;subst j1;exact⟨.inr ⟨a,off,c,q1,q2,q3⟩,j2⟩
theorem e5j(a0:Nat)(cs:List Value)(d:DataW H)(p:List MemPlace)(h:DataW.trod enc prog w 0 (λ_=>true) true a0 38 cs=some (d,p))(N:Nat)(hN:a0<=N)(g:Gb)(b:Nat):
  ∃(st D Q:Nat)(part:Bool)(es:List Nat)(ev:AV)(g' : Gb) (b' : Nat),mkD prog Dl N 38 d ⟨.fn g,b⟩=some ([.lit (.int .u8 st),.lit (.int .u8 D),.lit (.int .u8 Q),.lit (.bool part),ev],⟨.fn g',b'⟩)/\b<=b'/\(∀a,a<b->g' a=g a) /\
   st<256/\D<256/\Q<256/\Ks g' b' ev es.length (K0 es)/\∀c∈es,c<65536:=by
 obtain⟨U,m,rfl,hd,hl,hn,Z⟩:=DataW.trod_struct underlying38 h;rw[c38] at hl;obtain⟨v0,v1,v2,v3,A,rfl⟩:=e5f hl;have h0:DataW.trod enc prog w 0 (λ_=>true) true m 5 (([v0,v1,v2,v3,A].drop 0).take (prog.cellsOf 5))=U[0]?:=Z 0 _ rfl;have h1:DataW.trod enc prog w 0 (λ_=>true) true m 5 (([v0,v1,v2,v3,A].drop 1).take (prog.cellsOf 5))=U[1]?:=Z 1 _ rfl;have h2:DataW.trod enc prog w 0 (λ_=>true) true m 5 (([v0,v1,v2,v3,A].drop 2).take (prog.cellsOf 5))=U[2]?:=Z 2 _ rfl;have h3:DataW.trod enc prog w 0 (λ_=>true) true m 4 (([v0,v1,v2,v3,A].drop 3).take (prog.cellsOf 4))=U[3]?:=Z 3 _ rfl;have h4:DataW.trod enc prog w 0 (λ_=>true) true m 36 (([v0,v1,v2,v3,A].drop 4).take (prog.cellsOf 36))=U[4]?:=Z 4 _ rfl;rw[c5] at h0 h1 h2;rw[c4] at h3;rw[c36] at h4;obtain⟨x0,x1,x2,x3,x4,rfl⟩:=b7l (show U.length=5 from hn);obtain⟨st,e0,f0,w0⟩:=DataW.trod_int (x:=x0) underlying5 h0;obtain⟨D,e1,f1,w1⟩:=DataW.trod_int (x:=x1) underlying5 h1;obtain⟨Q,e2,f2,w2⟩:=DataW.trod_int (x:=x2) underlying5 h2;obtain⟨part,e3,f3⟩:=DataW.trod_bool (x:=x3) underlying4 h3;obtain⟨st,rfl,b0⟩:=wf8 w0;obtain⟨D,rfl,b1⟩:=wf8 w1;obtain⟨Q,rfl,b2⟩:=wf8 w2;subst f0;subst f1;subst f2;subst f3;have a2:DataW.trod enc prog w 0 (λ_=>true) true m 36 [A]=some (x4.1,x4.2):=h4;obtain⟨sv,g1,a1,l,e4,k1,k2,k3,k4⟩:=e5i m A _ _ a2 (N-1) (by omega) g b;refine⟨st,D,Q,part,l,sv,g1,a1,?_,k1,k2,b0,b1,b2,k3,k4⟩;have a3:d=.agg [.lit (.int .u8 st),.lit (.int .u8 D),.lit (.int .u8 Q),.lit (.bool part),x4.1]:=congrArg Prod.fst hd;subst a3;have a5:m≠0:=by rintro rfl;simp[DataW.trod] at h0
 obtain⟨N,rfl⟩:∃M,N=M+2:=⟨N-2,by omega⟩;have a4:mkD prog Dl (N+1) 36 x4.1 ⟨.fn g,b⟩=some ([sv],⟨.fn g1,a1⟩):=e4;have i1:∀k:Int,mkD (Hh:=H) prog Dl (N+1) 5 (.lit (.int .u8 k)) ⟨.fn g,b⟩=some ([.lit (.int .u8 k)],⟨.fn g,b⟩):=by
  intro k;unfold mkD;rw[underlying5]
 have i2:∀k:Bool,mkD (Hh:=H) prog Dl (N+1) 4 (.lit (.bool k)) ⟨.fn g,b⟩=some ([.lit (.bool k)],⟨.fn g,b⟩):=by
  intro k;unfold mkD;rw[underlying4]
 unfold mkD;rw[underlying38];dsimp only;simp only[mkF,i1,i2,a4,c5,c4,c36,c38];rfl
theorem c39:prog.cellsOf 39=1:=by kernel_rfl
theorem c41:prog.cellsOf 41=9:=by kernel_rfl
theorem c42:prog.cellsOf 42=1:=by kernel_rfl
def a6c(_:Gb)(_:Nat)(x:Nat)(avs:List AV):Prop:=x<256/\avs=[.lit (.int .u8 x)]
theorem e5k(A:Nat)(cs:List Value)(d:DataW H)(p:List MemPlace)(h:DataW.trod enc prog w 0 (λ_=>true) true A 5 cs=some (d,p))(N:Nat)(hN:A<=N)(g:Gb)(b:Nat):
  ∃Q g' D x,mkD prog Dl N 5 d ⟨.fn g,b⟩=some (Q,⟨.fn g',D⟩)/\b<=D/\(∀a,a<b->g' a=g a)/\a6c g' D x Q:=by
 obtain⟨x,_,f0,U⟩:=DataW.trod_int (x:=(d,p)) underlying5 h;obtain⟨x,rfl,hx⟩:=wf8 U;have Z:d=.lit (.int .u8 x):=congrArg Prod.fst f0;subst Z;have a0:A≠0:=by rintro rfl;simp[DataW.trod] at h
 obtain⟨N,rfl⟩:∃M,N=M+1:=⟨N-1,by omega⟩;exact⟨[.lit (.int .u8 x)],g,b,x,by unfold mkD;rw[underlying5],Wy _,λ_ _=>rfl,hx,rfl⟩
theorem b7n:∀{l:List Nat}{cs:List AV},RL a6c g b l cs->cs=u8C l/\∀c∈l,c<256
 | [],_,h=>⟨h,λc A=>by cases A⟩
 | x::l,_,⟨c,r,D,⟨hx,Q⟩,U⟩=>by
  obtain⟨Z,i2⟩:=b7n U;refine⟨by rw[D,Q,Z];rfl,λy hy=>?_⟩;rcases Xb.1 hy with rfl|hy
  .exact hx
  .exact i2 y hy
def a6d(g:Gb)(b:Nat)(x:List Nat)(avs:List AV):Prop:=∃sv,avs=[sv]/\Hz g b x sv/\∀c∈x,c<256
theorem b7o(D:Nat)(cs:List Value)(d:DataW H)(p:List MemPlace)(h:DataW.trod enc prog w 0 (λ_=>true) true D 42 cs=some (d,p))(N:Nat)(hN:D<=N)(g:Gb)(b:Nat):
  ∃Q g' A x,mkD prog Dl N 42 d ⟨.fn g,b⟩=some (Q,⟨.fn g',A⟩)/\b<=A/\(∀a,a<b->g' a=g a)/\a6d g' A x Q:=by
 obtain⟨s,rfl⟩:=e5e underlying42 h;obtain⟨sv,U,Z,l,e1,t1,t2,tc,t3⟩:=a6a (R:=a6c) underlying42 c5 (by decide) (λ_ _ h=>h) (λh=>by rw[h.2];rfl) h (λm cs d p _ h N hN g b=>e5k m cs d p h N hN g b) N hN g b;refine⟨[sv],U,Z,l,e1,t1,t2,sv,rfl,?_⟩;rcases t3 with⟨rfl,h⟩|⟨a,off,r,q1,q2,q3,q4⟩
 .exact⟨.inl ⟨rfl,rfl,h⟩,λc hc=>by cases hc⟩
 .obtain⟨j1,j2⟩:=b7n q4;exact⟨.inr ⟨a,off,q1,.inl q2,by rw[<- j1];exact q3⟩,j2⟩
theorem b7p:∀{l:List (List Nat)} {cs:List AV},RL a6d g b l cs->(cs.length=l.length/\∀(k:Nat)(h:k<l.length),∃sv,cs[k]?=some sv/\Hz g b l[k] sv)/\∀x∈l,∀c∈x,c<256
 | [],_,h=>by
  have h:_=[]:=h;subst h;exact⟨⟨rfl,λk A=>by simp at A⟩,λx hx=>by cases hx⟩
 | x::l,_,⟨c,r,D,⟨sv,Q,U,Z⟩,h5⟩=>by
  obtain⟨⟨i1,i2⟩,i3⟩:=b7p h5;subst D Q;refine⟨⟨by simp[i1],λk A=>?_⟩,λy hy=>?_⟩
  .cases k with
   | zero=>exact⟨sv,rfl,U⟩
   | succ k =>
    obtain⟨t1,j1,j2⟩:=i2 k (by simpa using A);exact⟨t1,by simpa using j1,j2⟩
  .rcases Xb.1 hy with rfl|hy
   .exact Z
   .exact i3 y hy
theorem b7q(D:Nat)(s:Value)(d:DataW H)(p:List MemPlace)(h:DataW.trod enc prog w 0 (λ_=>true) true D 39 [s]=some (d,p))(N:Nat)(hN:D<=N)(g:Gb)(b:Nat):
  ∃sv g' A l,mkD prog Dl N 39 d ⟨.fn g,b⟩=some ([sv],⟨.fn g',A⟩)/\b<=A/\(∀a,a<b->g' a=g a)/\Jz g' A l sv/\∀x∈l,∀c∈x,c<256:=by
 obtain⟨sv,Q,U,l,Z,t1,t2,tc,t3⟩:=a6a (R:=a6d) underlying39 c42 (by decide) (λh1 h2 ⟨s1,e,h3,h4⟩=>⟨s1,e,X0 h1 h2 h3,h4⟩) (λ⟨s1,e,_,_⟩=>by rw[e];rfl) h (λm cs d p _ h N hN g b=>b7o m cs d p h N hN g b) N hN g b;refine⟨sv,Q,U,l,Z,t1,t2,?_⟩;rcases t3 with⟨rfl,h⟩|⟨a,off,r,q1,q2,q3,q4⟩
 .exact⟨⟨[],.inl ⟨rfl,rfl,h⟩,rfl,λk hk=>by simp at hk⟩,λx hx=>by cases hx⟩
 .obtain⟨⟨j1,j2⟩,j3⟩:=b7p q4;exact⟨⟨r,.inr ⟨a,off,q1,.inl q2,q3⟩,j1,j2⟩,j3⟩
theorem e5l(h:cs.length=9):∃a b c d e f g i j,cs=[a,b,c,d,e,f,g,i,j]:=by
 match cs,h with
 | [a,b,c,d,e,f,g,i,j],_=>exact⟨a,b,c,d,e,f,g,i,j,rfl⟩
theorem e5m(a4:Nat)(cs:List Value)(d:DataW H)(p:List MemPlace)(h:DataW.trod enc prog w 0 (λ_=>true) true a4 41 cs=some (d,p))(N:Nat)(hN:a4<=N)(g:Gb)(b:Nat):
  ∃(st a0 a1:Nat)(part:Bool)(es:List Nat)(ev:AV)(ws:List (List Nat)) (wv:AV) (D Q U:Nat) (g' : Gb) (b' : Nat),mkD prog Dl N 41 d ⟨.fn g,b⟩=some ([.lit (.int .u8 st),.lit (.int .u8 a0),.lit (.int .u8 a1),.lit (.bool part),ev,wv,.lit (.int .u8 D),.lit (.int .u8 Q),.lit (.int .u8 U)],⟨.fn g',b'⟩)/\b<=b'/\(∀a,a<b->g' a=g a) /\
   InG g' b' st a0 a1 es ev ws wv/\D<256/\Q<256/\U<256:=by
 obtain⟨Z,m,rfl,hd,hl,hn,he⟩:=DataW.trod_struct underlying41 h;rw[c41] at hl;obtain⟨v0,v1,v2,v3,v4,A,v6,v7,v8,rfl⟩:=e5l hl;have h0:DataW.trod enc prog w 0 (λ_=>true) true m 38 (([v0,v1,v2,v3,v4,A,v6,v7,v8].drop 0).take (prog.cellsOf 38))=Z[0]?:=he 0 _ rfl;have h1:DataW.trod enc prog w 0 (λ_=>true) true m 39 (([v0,v1,v2,v3,v4,A,v6,v7,v8].drop 5).take (prog.cellsOf 39))=Z[1]?:=he 1 _ rfl;have h2:DataW.trod enc prog w 0 (λ_=>true) true m 5 (([v0,v1,v2,v3,v4,A,v6,v7,v8].drop 6).take (prog.cellsOf 5))=Z[2]?:=he 2 _ rfl;have h3:DataW.trod enc prog w 0 (λ_=>true) true m 5 (([v0,v1,v2,v3,v4,A,v6,v7,v8].drop 7).take (prog.cellsOf 5))=Z[3]?:=he 3 _ rfl;have h4:DataW.trod enc prog w 0 (λ_=>true) true m 5 (([v0,v1,v2,v3,v4,A,v6,v7,v8].drop 8).take (prog.cellsOf 5))=Z[4]?:=he 4 _ rfl;rw[c38] at h0;rw[c39] at h1;rw[c5] at h2 h3 h4;obtain⟨x0,x1,x2,x3,x4,rfl⟩:=b7l (show Z.length=5 from hn);obtain⟨D,e2,f2,w2⟩:=DataW.trod_int (x:=x2) underlying5 h2;obtain⟨Q,e3,f3,w3⟩:=DataW.trod_int (x:=x3) underlying5 h3;obtain⟨U,e4,f4,w4⟩:=DataW.trod_int (x:=x4) underlying5 h4;obtain⟨D,rfl,b2⟩:=wf8 w2;obtain⟨Q,rfl,b3⟩:=wf8 w3;obtain⟨U,rfl,b4⟩:=wf8 w4;subst f2;subst f3;subst f4;have a5:DataW.trod enc prog w 0 (λ_=>true) true m 38 [v0,v1,v2,v3,v4]=some (x0.1,x0.2):=h0;have a6:DataW.trod enc prog w 0 (λ_=>true) true m 39 [A]=some (x1.1,x1.2):=h1;obtain⟨st,a0,a1,part,es,ev,g1,a3,e0,k1,k2,k3,k4,k5,k6,k7⟩:=e5j m _ _ _ a5 (N-1) (by omega) g b;obtain⟨sv,g2,a2,l,e1,l1,l2,l3,l4⟩:=b7q m A _ _ a6 (N-1) (by omega) g1 a3;refine⟨st,a0,a1,part,es,ev,l,sv,D,Q,U,g2,a2,?_,by omega,λa ha=>(l2 a (by omega)).trans (k2 a ha),⟨k3,k4,k5,k6.mono l1 l2,k7,l3,l4⟩,b2,b3,b4⟩;have a7:d=.agg [x0.1,x1.1,.lit (.int .u8 D),.lit (.int .u8 Q),.lit (.int .u8 U)]:=congrArg Prod.fst hd;subst a7;have b0:m≠0:=by rintro rfl;simp[DataW.trod] at a5
 obtain⟨N,rfl⟩:∃M,N=M+2:=⟨N-2,by omega⟩;have a8:mkD prog Dl (N+1) 38 x0.1 ⟨.fn g,b⟩=some ([.lit (.int .u8 st),.lit (.int .u8 a0),.lit (.int .u8 a1),.lit (.bool part),ev],⟨.fn g1,a3⟩):=e0;have a9:mkD prog Dl (N+1) 39 x1.1 ⟨.fn g1,a3⟩=some ([sv],⟨.fn g2,a2⟩):=e1;have i1:∀k:Int,mkD (Hh:=H) prog Dl (N+1) 5 (.lit (.int .u8 k)) ⟨.fn g2,a2⟩=some ([.lit (.int .u8 k)],⟨.fn g2,a2⟩):=by
  intro k;unfold mkD;rw[underlying5]
 unfold mkD;rw[underlying41];dsimp only;simp only[mkF,i1,a8,a9,c5,c38,c39,c41];rfl
theorem c44:prog.cellsOf 44=12:=by kernel_rfl
theorem e5n{A:List α}(h:A.length=4):∃a b c d,A=[a,b,c,d]:=by
 match A,h with
 | [a,b,c,d],_=>exact⟨a,b,c,d,rfl⟩
theorem e5o(h:cs.length=12):∃a b c d e f g i j k l m,cs=[a,b,c,d,e,f,g,i,j,k,l,m]:=by
 match cs,h with
 | [a,b,c,d,e,f,g,i,j,k,l,m],_=>exact⟨a,b,c,d,e,f,g,i,j,k,l,m,rfl⟩
theorem e5p(a4:Nat)(cs:List Value)(d:DataW H)(p:List MemPlace)(h:DataW.trod enc prog w 0 (λ_=>true) true a4 44 cs=some (d,p))(N:Nat)(hN:a4<=N)(g:Gb)(b:Nat):
  ∃(st D Q:Nat)(part:Bool)(es:List Nat)(ev:AV)(ws:List (List Nat)) (U:AV) (ia ib ic:Nat) (sb:List Nat) (Z:AV) (eb:List (List Nat)) (a0:AV) (full:Bool) (g' : Gb) (b' : Nat),mkD prog Dl N 44 d ⟨.fn g,b⟩=some ([.lit (.int .u8 st),.lit (.int .u8 D),.lit (.int .u8 Q),.lit (.bool part),ev,U,.lit (.int .u8 ia),.lit (.int .u8 ib),.lit (.int .u8 ic),Z,a0,.lit (.bool full)],⟨.fn g',b'⟩)/\b<=b'/\(∀a,a<b->g' a=g a) /\
   InQ g' b' st D Q es ev ws U sb Z eb a0:=by
 obtain⟨xs,m,rfl,hd,hl,hn,he⟩:=DataW.trod_struct underlying44 h;rw[c44] at hl;obtain⟨v0,v1,v2,v3,v4,v5,v6,v7,v8,v9,A,vb,rfl⟩:=e5o hl;have h0:DataW.trod enc prog w 0 (λ_=>true) true m 41 (([v0,v1,v2,v3,v4,v5,v6,v7,v8,v9,A,vb].drop 0).take (prog.cellsOf 41))=xs[0]?:=he 0 _ rfl;have h1:DataW.trod enc prog w 0 (λ_=>true) true m 42 (([v0,v1,v2,v3,v4,v5,v6,v7,v8,v9,A,vb].drop 9).take (prog.cellsOf 42))=xs[1]?:=he 1 _ rfl;have h2:DataW.trod enc prog w 0 (λ_=>true) true m 39 (([v0,v1,v2,v3,v4,v5,v6,v7,v8,v9,A,vb].drop 10).take (prog.cellsOf 39))=xs[2]?:=he 2 _ rfl;have h3:DataW.trod enc prog w 0 (λ_=>true) true m 4 (([v0,v1,v2,v3,v4,v5,v6,v7,v8,v9,A,vb].drop 11).take (prog.cellsOf 4))=xs[3]?:=he 3 _ rfl;rw[c41] at h0;rw[c42] at h1;rw[c39] at h2;rw[c4] at h3;obtain⟨x0,x1,x2,x3,rfl⟩:=e5n (show xs.length=4 from hn);obtain⟨full,e3,f3⟩:=DataW.trod_bool (x:=x3) underlying4 h3;subst f3;have a5:DataW.trod enc prog w 0 (λ_=>true) true m 41 [v0,v1,v2,v3,v4,v5,v6,v7,v8]=some (x0.1,x0.2):=h0;have a6:DataW.trod enc prog w 0 (λ_=>true) true m 42 [v9]=some (x1.1,x1.2):=h1;have a7:DataW.trod enc prog w 0 (λ_=>true) true m 39 [A]=some (x2.1,x2.2):=h2;obtain⟨st,D,Q,part,es,ev,ws,U,ia,ib,ic,g1,a2,e0,k1,k2,k3,k4,k5,k6⟩:=e5m m _ _ _ a5 (N-1) (by omega) g b;obtain⟨b2,g2,a3,sb,e1,l1,l2,Z,rfl,l3,l4⟩:=b7o m _ _ _ a6 (N-1) (by omega) g1 a2;obtain⟨a0,g3,a1,eb,e2,q1,q2,q3,q4⟩:=b7q m A _ _ a7 (N-1) (by omega) g2 a3;refine⟨st,D,Q,part,es,ev,ws,U,ia,ib,ic,sb,Z,eb,a0,full,g3,a1,?_,by omega,λa ha=>(q2 a (by omega)).trans ((l2 a (by omega)).trans (k2 a ha)),⟨k3.mono (by omega) λa ha=>(q2 a (by omega)).trans (l2 a ha),l4,q4,X0 q1 q2 l3,q3⟩⟩;have a8:d=.agg [x0.1,x1.1,x2.1,.lit (.bool full)]:=congrArg Prod.fst hd;subst a8;have b3:m≠0:=by rintro rfl;simp[DataW.trod] at a5
 obtain⟨N,rfl⟩:∃M,N=M+2:=⟨N-2,by omega⟩;have a9:mkD prog Dl (N+1) 41 x0.1 ⟨.fn g,b⟩=some ([.lit (.int .u8 st),.lit (.int .u8 D),.lit (.int .u8 Q),.lit (.bool part),ev,U,.lit (.int .u8 ia),.lit (.int .u8 ib),.lit (.int .u8 ic)],⟨.fn g1,a2⟩):=e0;have b0:mkD prog Dl (N+1) 42 x1.1 ⟨.fn g1,a2⟩=some ([Z],⟨.fn g2,a3⟩):=e1;have b1:mkD prog Dl (N+1) 39 x2.1 ⟨.fn g2,a3⟩=some ([a0],⟨.fn g3,a1⟩):=e2;have i1:∀k:Bool,mkD (Hh:=H) prog Dl (N+1) 4 (.lit (.bool k)) ⟨.fn g3,a1⟩=some ([.lit (.bool k)],⟨.fn g3,a1⟩):=by
  intro k;unfold mkD;rw[underlying4]
 unfold mkD;rw[underlying44];dsimp only;simp only[mkF,i1,a9,b0,b1,c41,c42,c39,c4,c44];rfl
end
section
open Go.ChangeShapes Go.WideShapes Go.ChangeAt Go.RowKit
variable {H:Type}{enc:TypeId×Value→H}
theorem e5q{W:World}(A:laidMetH prog [] W):∃(g:Gb)(n:Nat)(h:Rn),Sim W.heap.size 0 h ⟨.fn g,n⟩ W/\Ds ⟨.fn g,n⟩:=by
 obtain⟨h,s,D⟩:=c3k A rfl (show Qt prog [] (Nl prog)=some (Nl prog) from rfl);have Q:Sim W.heap.size 0 h ⟨.fn (Nl prog).get,(Nl prog).next⟩ W:=by rw[<- hG] at s;exact s.toFn
 exact⟨_,_,h,Q,λa x hx=>D a x hx⟩
theorem e5r{W:World}{D:Value}{d0:DataW H}{Q:List MemPlace}{base:Nat}(A:DataW.Trod enc prog W 0 (λ_=>true) true 44 D d0 Q)(U:Value.okWide prog W .any base 44 D)(hL:laidMetH prog [] W):
  Calls prog 4 #[D] W λe Z=>e=.returned (.bool true)/\Below W.heap.size W Z:=by
 simp only[Value.okWide,underlying44] at U;obtain⟨cm,rfl,_⟩:=U;obtain⟨f0,A⟩:=A;obtain⟨g,n,ρ,s,a1⟩:=e5q hL;obtain⟨st,a3,a4,part,es,ev,ws,wv,ia,ib,ic,sb,a5,eb,a6,full,g1,n1,e1,t1,t2,t3⟩:=e5p f0 _ d0 Q A f0 (Wy _) g n;obtain⟨a2,M1⟩:=L5 (sp:=λ_=>true) (λ_=>rfl) (a9k enc) f0 f0 44 _ d0 Q ⟨.fn g,n⟩ _ _ ρ A (λh=>by cases h) s a1 e1;have hw:=e5d (part:=part) ia ib ic (full:=full) g1 n1 t3;refine(hw W.heap.size a2 #[.agg cm] W M1.sim ?_).mono ?_
 .exact⟨_,_,rfl,⟨cm,rfl,M1.vals⟩,rfl⟩
 .rintro e Z ⟨r,rfl,a0⟩
  cases e with
  | returned u=>obtain⟨a7,q1,q2,q3,q4⟩:=a0;exact⟨congrArg _ q3,q1.below⟩
  | _=>exact a0.elim
end
end Go.Ai
