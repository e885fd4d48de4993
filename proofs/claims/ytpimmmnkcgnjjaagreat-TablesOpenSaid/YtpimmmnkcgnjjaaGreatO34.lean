/- A small verified interpreter over names, its proofs, and what was proved with it. No condition. -/
import Derived.Shelf.Vars
import Derived.Test.YtpimmmnkcgnjjaaGreatO07
import Derived.Test.YtpimmmnkcgnjjaaGreatO24
import Derived.Test.YtpimmmnkcgnjjaaGreatO33
set_option linter.all false
set_option linter.deprecated false
section
namespace Go.Ai
open Go.Proofs Go.Proofs.Tryz Go.ChangeShapes Go.WideShapes Go.ChangeAt Go.RowKit
set_option maxRecDepth 10000
variable {H:Type} {enc:TypeId×Value→H} {w:World}
variable {g:Gb} {b sz:Nat} {cs:List Value} {β α:Type}
theorem c3:prog.cellsOf 3=1:=by kernel_rfl
theorem c4:prog.cellsOf 4=1:=by kernel_rfl
theorem c5:prog.cellsOf 5=1:=by kernel_rfl
theorem c36:prog.cellsOf 36=1:=by kernel_rfl
theorem c38:prog.cellsOf 38=5:=by kernel_rfl
theorem c113:prog.cellsOf 113=1:=by kernel_rfl
theorem g3d {t e:TypeId} {fuel:Nat} {x:DataW H×List MemPlace} (ht:prog.underlying t=some (.slice e)) (h:DataW.trod enc prog w 0 (fun _=>true) true fuel t cs=some x) : ∃ s,cs=[s]:=by
 rcases DataW.trod_slice ht h with⟨h1,_⟩|⟨a,len,cap,elems,rest,m,_,h1,_⟩
 ·exact⟨_,h1⟩
 ·exact⟨_,h1⟩
def RL {β:Type} (R:(Gb)->Nat->β->List AV->Prop) (g:Gb) (b:Nat) : List β->List AV->Prop
 | [],cs=>cs=[]
 | x :: l,cs=>∃ c r,cs=c++r/\R g b x c/\RL R g b l r
theorem c7s {R:(Gb)->Nat->β->List AV->Prop} (hl:∀ {x cs},R g b x cs->cs.length=sz) : ∀ {l:List β} {cs:List AV},RL R g b l cs->cs.length=l.length*sz
 | [],cs,h=>by have h' : cs=[]:=h;rw[h'];simp
 | x :: l,cs,⟨c,r,h1,h2,h3⟩=>by rw[h1,Dr,hl h2,c7s hl h3,Ej,g5o];omega
theorem d8t {R:(Gb)->Nat->β->List AV->Prop} : ∀ (n:Nat) {l:List β} {cs:List AV},RL R g b l cs->∃ c r,cs=c++r/\RL R g b (l.take n) c
 | 0,l,cs,_=>⟨[],cs,rfl,rfl⟩
 | n+1,[],cs,h=>⟨cs,[],by simp,h⟩
 | n+1,x :: l,cs,⟨c,r,h1,h2,h3⟩=>by
  obtain⟨c',r',h4,h5⟩:=d8t n h3;exact⟨c++c',r',by rw[h1,h4,g4q],c,c',rfl,h2,h5⟩
theorem d8u {α β:Type} {f:α->Mem->Option (List AV×Mem)} {R:(Gb)->Nat->β->List AV->Prop} {sz:Nat} (hm:∀ {g g' : Gb} {b b' : Nat} {x:β} {cs:List AV},b<=b'->(∀ a,a<b->g' a=g a)->R g b x cs->R g' b' x cs)
  (hl:∀ {g:Gb} {b:Nat} {x:β} {cs:List AV},R g b x cs->cs.length=sz) :
  ∀ (ds:List α),(∀ d∈ds,∀ g b,∃ avs g' b' x,f d ⟨.fn g,b⟩=some (avs,⟨.fn g',b'⟩)/\b<=b'/\(∀ a,a<b->g' a=g a)/\R g' b' x avs) ->
  ∀ g b,∃ avs g' b' l,mkL f sz ds ⟨.fn g,b⟩=some (avs,⟨.fn g',b'⟩)/\b<=b'/\(∀ a,a<b->g' a=g a)/\l.length=ds.length/\RL R g' b' l avs
 | [],_,g,b=>⟨[],g,b,[],rfl,Nat.le_refl _,fun _ _=>rfl,rfl,rfl⟩
 | d :: ds,h,g,b=>by
  obtain⟨a1,g1,b1,x,e1,h1,h2,h3⟩:=h d (by simp) g b
  obtain⟨a2,g2,b2,l,e2,k1,k2,k3,k4⟩:=d8u (f:=f) (R:=R) (sz:=sz) hm hl ds (fun d hd=>h d (by simp[hd])) g1 b1
  refine⟨a1++a2,g2,b2,x :: l,?_,by omega,fun a ha=>(k2 a (by omega)).trans (h2 a ha),by simp[k3],a1,a2,rfl,hm k1 k2 h3,k4⟩
  unfold mkL
  rw[e1]
  dsimp only
  rw[e2]
  dsimp only
  rw[show Nat.beq a1.length sz=true from Nat.beq_eq.mpr (hl h3)]
theorem c7t {R:(Gb)->Nat->β->List AV->Prop} {t e:TypeId} (ht:prog.underlying t=some (.slice e)) (hsz:prog.cellsOf e=sz) (hs0:0<sz)
  (hm:∀ {g g' : Gb} {b b' : Nat} {x:β} {cs:List AV},b<=b'->(∀ a,a<b->g' a=g a)->R g b x cs->R g' b' x cs)
  (hl:∀ {g:Gb} {b:Nat} {x:β} {cs:List AV},R g b x cs->cs.length=sz) {fuel:Nat} {s:Value} {d:DataW H} {p:List MemPlace}
  (h:DataW.trod enc prog w 0 (fun _=>true) true fuel t [s]=some (d,p))
  (he:∀ m cs d p,m<fuel->DataW.trod enc prog w 0 (fun _=>true) true m e cs=some (d,p)->∀ N,m<=N->∀ g b,∃ avs g' b' x,mkD prog a0e N e d ⟨.fn g,b⟩=some (avs,⟨.fn g',b'⟩)/\b<=b'/\(∀ a,a<b->g' a=g a)/\R g' b' x avs)
  (N:Nat) (hN:fuel<=N) (g:Gb) (b:Nat) :
  ∃ sv g' b' l,mkD prog a0e N t d ⟨.fn g,b⟩=some ([sv],⟨.fn g',b'⟩)/\b<=b'/\(∀ a,a<b->g' a=g a) /\
   Bm sv/\((l=[]/\(sv=.nl\/sv=.es))\/∃ a off r,a<b'/\(∃ c,sv=.sl a off l.length c)/\Row g' a off r/\RL R g' b' l r):=by
 rcases DataW.trod_slice ht h with⟨_,hx⟩|⟨a,len,cap,elems,rest,m,rfl,_,hx,_,hlc,_,hlen,hel,hrs,_⟩
 ·cases hx;have hf:fuel≠0:=by
   rintro rfl;simp[DataW.trod] at h
  obtain⟨N,rfl⟩ : ∃ M,N=M+1:=⟨N-1,by omega⟩;refine⟨.nl,g,b,[],?_,Dm _,fun _ _=>rfl,fun _ _ _ _ e=>(by cases e),.inl ⟨rfl,.inl rfl⟩⟩;unfold mkD;rw[ht]
 ·obtain⟨hrl,hre⟩:=hrs rfl;simp only[Prod.mk.injEq] at hx;obtain⟨rfl,_⟩:=hx;obtain⟨N,rfl⟩ : ∃ M,N=M+1:=⟨N-1,by omega⟩;have all:∀ x∈elems++rest,∃ ci,DataW.trod enc prog w 0 (fun _=>true) true m e ci=some x:=by
   intro x hx;rcases Ed.1 hx with hx|hx
   ·obtain⟨i,hi,rfl⟩:=g3y.1 hx;have:=hel i (by omega);rw[Dy hi] at this;obtain⟨ci,_,h3⟩:=g6l.1 this;exact⟨ci,h3⟩
   ·obtain⟨i,hi,rfl⟩:=g3y.1 hx;have:=hre i (by omega);rw[Dy hi] at this;obtain⟨ci,_,h3⟩:=g6l.1 this;exact⟨ci,h3⟩
  obtain⟨avs,g1,b1,l,e1,k1,k2,k3,k4⟩:=d8u (f:=mkD prog a0e N e) (R:=R) (sz:=sz) hm hl ((elems++rest).map (·.1)) (by
   intro d hd g b;obtain⟨x,hx,rfl⟩:=Eg.1 hd;obtain⟨ci,h3⟩:=all x hx;exact he m ci x.1 x.2 (by omega) h3 N (by omega) g b) g b
  rw[g3z] at e1;have hla:=c7s (fun h=>hl h) k4;rw[Ei,Dr] at k3
  cases hcs:elems.map (·.1)++rest.map (·.1) with
  | nil =>
   have h0:elems.length=0:=by
    have:=congrArg List.length hcs;rw[Dr,Ei,List.length_nil] at this;omega
   refine⟨.es,g,b,[],?_,Dm _,fun _ _=>rfl,fun _ _ _ _ e=>(by cases e),.inl ⟨rfl,.inr rfl⟩⟩;unfold mkD;rw[ht];dsimp only;rw[hcs]
  | cons y ys =>
   have hpos:0<elems.length+rest.length:=by
    have:=congrArg List.length hcs;rw[Dr,Ei,Ei,Ej] at this;omega
   obtain⟨z,zs,rfl⟩ : ∃ z zs,avs=z :: zs:=by
    cases avs with
    | nil =>
     rw[k3] at hla;have:0<(elems.length+rest.length)*sz:=Nat.mul_pos hpos hs0;rw[List.length_nil] at hla;omega
    | cons z zs=>exact⟨z,zs,rfl⟩
   obtain⟨c,r,q1,q2⟩:=d8t elems.length k4;have hcl:=c7s (fun h=>hl h) q2;have hfr:∀ a,a<b1->Ap g1 b1 (some (.cells (z :: zs) false 0)) a=g1 a:=fun a ha=>Ad ha;refine⟨.sl b1 0 elems.length (elems.length+rest.length),Ap g1 b1 (some (.cells (z :: zs) false 0)),b1+1,l.take elems.length,?_,by omega,fun a ha=>(hfr a (by omega)).trans (k2 a ha),fun _ _ _ _ e=>(by cases e;omega),.inr ⟨b1,0,c,Nat.lt_succ_self _,⟨elems.length+rest.length,?_⟩,?_,?_⟩⟩
   ·unfold mkD;rw[ht];dsimp only;rw[hcs] at e1;rw[hsz,hcs];dsimp only;rw[e1];simp only[Ei];rfl
   ·rw[Du,g4a (by omega)]
   ·refine⟨z :: zs,false,0,if_pos rfl,?_,?_⟩
    ·rw[q1,Dr];omega
    ·rw[q1,g5l,List.take_left]
   ·have key:∀ (l:List β) (cs:List AV),RL R g1 b1 l cs->RL R (Ap g1 b1 (some (.cells (z :: zs) false 0))) (b1+1) l cs:=by
     intro l
     induction l with
     | nil=>intro cs h;exact h
     | cons x l ih=>rintro cs ⟨c,r,h1,h2,h3⟩;exact⟨c,r,h1,hm (by omega) hfr h2,ih r h3⟩
    exact key _ _ q2
theorem g3e (h:cs.length=5) : ∃ a b c d e,cs=[a,b,c,d,e]:=by
 match cs,h with
 | [a,b,c,d,e],_=>exact⟨a,b,c,d,e,rfl⟩
theorem d8v {xs:List α} (h:xs.length=5) : ∃ a b c d e,xs=[a,b,c,d,e]:=by
 match xs,h with
 | [a,b,c,d,e],_=>exact⟨a,b,c,d,e,rfl⟩
def c7u (_:Gb) (_:Nat) (x:Nat) (avs:List AV) : Prop:=x<65536/\avs=[.lit (.int .u16 x)]
theorem wf8 {z:Int} (h:(Lit.int .u8 z).wf=true) : ∃ n:Nat,z=n/\n<256:=by
 simp only[Lit.wf,Dq,decide_eq_true_eq] at h;have h' : 0<=z/\z<=255:=h;exact⟨z.toNat,by omega,by omega⟩
theorem wf16 {z:Int} (h:(Lit.int .u16 z).wf=true) : ∃ n:Nat,z=n/\n<65536:=by
 simp only[Lit.wf,Dq,decide_eq_true_eq] at h;have h' : 0<=z/\z<=65535:=h;exact⟨z.toNat,by omega,by omega⟩
theorem g3f (fuel:Nat) (cs:List Value) (d:DataW H) (p:List MemPlace) (h:DataW.trod enc prog w 0 (fun _=>true) true fuel 113 cs=some (d,p)) (N:Nat) (hN:fuel<=N) (g:Gb) (b:Nat) :
  ∃ avs g' b' x,mkD prog a0e N 113 d ⟨.fn g,b⟩=some (avs,⟨.fn g',b'⟩)/\b<=b'/\(∀ a,a<b->g' a=g a)/\c7u g' b' x avs:=by
 obtain⟨x,_,f0,hw⟩:=DataW.trod_int (x:=(d,p)) underlying113 h;obtain⟨x,rfl,hx⟩:=wf16 hw;have hd:d=.lit (.int .u16 x):=congrArg Prod.fst f0;subst hd;have hm0:fuel≠0:=by rintro rfl;simp[DataW.trod] at h
 obtain⟨N,rfl⟩ : ∃ M,N=M+1:=⟨N-1,by omega⟩;exact⟨[.lit (.int .u16 x)],g,b,x,by unfold mkD;rw[underlying113],Dm _,fun _ _=>rfl,hx,rfl⟩
theorem d8w : ∀ {l:List Nat} {cs:List AV},RL c7u g b l cs->cs=a8t l/\∀ c∈l,c<65536
 | [],_,h=>⟨h,fun c hc=>by cases hc⟩
 | x :: l,_,⟨c,r,h1,⟨hx,h2⟩,h3⟩=>by
  obtain⟨i1,i2⟩:=d8w h3;refine⟨by rw[h1,h2,i1];rfl,fun y hy=>?_⟩;rcases Dv.1 hy with rfl|hy
  ·exact hx
  ·exact i2 y hy
theorem g3g (fuel:Nat) (s:Value) (d:DataW H) (p:List MemPlace) (h:DataW.trod enc prog w 0 (fun _=>true) true fuel 36 [s]=some (d,p)) (N:Nat) (hN:fuel<=N) (g:Gb) (b:Nat) :
  ∃ sv g' b' l,mkD prog a0e N 36 d ⟨.fn g,b⟩=some ([sv],⟨.fn g',b'⟩)/\b<=b'/\(∀ a,a<b->g' a=g a)/\a8h g' b' sv l.length (a8t l)/\∀ c∈l,c<65536:=by
 obtain⟨sv,g1,b1,l,e1,t1,t2,tc,t3⟩:=c7t (R:=c7u) underlying36 c113 (by decide) (fun _ _ h=>h) (fun h=>by rw[h.2];rfl) h (fun m cs d p _ h N hN g b=>g3f m cs d p h N hN g b) N hN g b;refine⟨sv,g1,b1,l,e1,t1,t2,?_⟩;rcases t3 with⟨rfl,h⟩|⟨a,off,r,q1,⟨c,q2⟩,q3,q4⟩
 ·exact⟨.inl ⟨rfl,h⟩,fun c hc=>by cases hc⟩
 ·obtain⟨j1,j2⟩:=d8w q4;subst j1;exact⟨.inr ⟨a,off,c,q1,q2,q3⟩,j2⟩
theorem M_mk (fuel:Nat) (cs:List Value) (d:DataW H) (p:List MemPlace) (h:DataW.trod enc prog w 0 (fun _=>true) true fuel 38 cs=some (d,p)) (N:Nat) (hN:fuel<=N) (g:Gb) (b:Nat) :
  ∃ (st inp out:Nat) (part:Bool) (es:List Nat) (ev:AV) (g' : Gb) (b' : Nat),mkD prog a0e N 38 d ⟨.fn g,b⟩=some ([.lit (.int .u8 st),.lit (.int .u8 inp),.lit (.int .u8 out),.lit (.bool part),ev],⟨.fn g',b'⟩)/\b<=b'/\(∀ a,a<b->g' a=g a) /\
   st<256/\inp<256/\out<256/\a8h g' b' ev es.length (a8t es)/\∀ c∈es,c<65536:=by
 obtain⟨xs,m,rfl,hd,hl,hn,he⟩:=DataW.trod_struct underlying38 h;rw[c38] at hl;obtain⟨v0,v1,v2,v3,v4,rfl⟩:=g3e hl;have h0:DataW.trod enc prog w 0 (fun _=>true) true m 5 (([v0,v1,v2,v3,v4].drop 0).take (prog.cellsOf 5))=xs[0]?:=he 0 _ rfl;have h1:DataW.trod enc prog w 0 (fun _=>true) true m 5 (([v0,v1,v2,v3,v4].drop 1).take (prog.cellsOf 5))=xs[1]?:=he 1 _ rfl;have h2:DataW.trod enc prog w 0 (fun _=>true) true m 5 (([v0,v1,v2,v3,v4].drop 2).take (prog.cellsOf 5))=xs[2]?:=he 2 _ rfl;have h3:DataW.trod enc prog w 0 (fun _=>true) true m 4 (([v0,v1,v2,v3,v4].drop 3).take (prog.cellsOf 4))=xs[3]?:=he 3 _ rfl;have h4:DataW.trod enc prog w 0 (fun _=>true) true m 36 (([v0,v1,v2,v3,v4].drop 4).take (prog.cellsOf 36))=xs[4]?:=he 4 _ rfl;rw[c5] at h0 h1 h2;rw[c4] at h3;rw[c36] at h4;obtain⟨x0,x1,x2,x3,x4,rfl⟩:=d8v (show xs.length=5 from hn);obtain⟨st,e0,f0,w0⟩:=DataW.trod_int (x:=x0) underlying5 h0;obtain⟨inp,e1,f1,w1⟩:=DataW.trod_int (x:=x1) underlying5 h1;obtain⟨out,e2,f2,w2⟩:=DataW.trod_int (x:=x2) underlying5 h2;obtain⟨part,e3,f3⟩:=DataW.trod_bool (x:=x3) underlying4 h3;obtain⟨st,rfl,b0⟩:=wf8 w0;obtain⟨inp,rfl,b1⟩:=wf8 w1;obtain⟨out,rfl,b2⟩:=wf8 w2;subst f0;subst f1;subst f2;subst f3;have hx4:DataW.trod enc prog w 0 (fun _=>true) true m 36 [v4]=some (x4.1,x4.2):=h4;obtain⟨sv,g1,b1',l,e4,k1,k2,k3,k4⟩:=g3g m v4 _ _ hx4 (N-1) (by omega) g b;refine⟨st,inp,out,part,l,sv,g1,b1',?_,k1,k2,b0,b1,b2,k3,k4⟩;have hd' : d=.agg [.lit (.int .u8 st),.lit (.int .u8 inp),.lit (.int .u8 out),.lit (.bool part),x4.1]:=congrArg Prod.fst hd;subst hd';have hm0:m≠0:=by rintro rfl;simp[DataW.trod] at h0
 obtain⟨N,rfl⟩ : ∃ M,N=M+2:=⟨N-2,by omega⟩;have e4' : mkD prog a0e (N+1) 36 x4.1 ⟨.fn g,b⟩=some ([sv],⟨.fn g1,b1'⟩):=e4;have i1:∀ k:Int,mkD (Hh:=H) prog a0e (N+1) 5 (.lit (.int .u8 k)) ⟨.fn g,b⟩=some ([.lit (.int .u8 k)],⟨.fn g,b⟩):=by
  intro k;unfold mkD;rw[underlying5]
 have i2:∀ k:Bool,mkD (Hh:=H) prog a0e (N+1) 4 (.lit (.bool k)) ⟨.fn g,b⟩=some ([.lit (.bool k)],⟨.fn g,b⟩):=by
  intro k;unfold mkD;rw[underlying4]
 unfold mkD;rw[underlying38];dsimp only;simp only[mkF,i1,i2,e4',c5,c4,c36,c38];rfl
theorem c39:prog.cellsOf 39=1:=by kernel_rfl
theorem c41:prog.cellsOf 41=9:=by kernel_rfl
theorem c42:prog.cellsOf 42=1:=by kernel_rfl
def c7v (_:Gb) (_:Nat) (x:Nat) (avs:List AV) : Prop:=x<256/\avs=[.lit (.int .u8 x)]
theorem g3h (fuel:Nat) (cs:List Value) (d:DataW H) (p:List MemPlace) (h:DataW.trod enc prog w 0 (fun _=>true) true fuel 5 cs=some (d,p)) (N:Nat) (hN:fuel<=N) (g:Gb) (b:Nat) :
  ∃ avs g' b' x,mkD prog a0e N 5 d ⟨.fn g,b⟩=some (avs,⟨.fn g',b'⟩)/\b<=b'/\(∀ a,a<b->g' a=g a)/\c7v g' b' x avs:=by
 obtain⟨x,_,f0,hw⟩:=DataW.trod_int (x:=(d,p)) underlying5 h;obtain⟨x,rfl,hx⟩:=wf8 hw;have hd:d=.lit (.int .u8 x):=congrArg Prod.fst f0;subst hd;have hm0:fuel≠0:=by rintro rfl;simp[DataW.trod] at h
 obtain⟨N,rfl⟩ : ∃ M,N=M+1:=⟨N-1,by omega⟩;exact⟨[.lit (.int .u8 x)],g,b,x,by unfold mkD;rw[underlying5],Dm _,fun _ _=>rfl,hx,rfl⟩
theorem d8x : ∀ {l:List Nat} {cs:List AV},RL c7v g b l cs->cs=u8C l/\∀ c∈l,c<256
 | [],_,h=>⟨h,fun c hc=>by cases hc⟩
 | x :: l,_,⟨c,r,h1,⟨hx,h2⟩,h3⟩=>by
  obtain⟨i1,i2⟩:=d8x h3;refine⟨by rw[h1,h2,i1];rfl,fun y hy=>?_⟩;rcases Dv.1 hy with rfl|hy
  ·exact hx
  ·exact i2 y hy
def c7w (g:Gb) (b:Nat) (x:List Nat) (avs:List AV) : Prop:=∃ sv,avs=[sv]/\a5k g b x sv/\∀ c∈x,c<256
theorem d8y (fuel:Nat) (cs:List Value) (d:DataW H) (p:List MemPlace) (h:DataW.trod enc prog w 0 (fun _=>true) true fuel 42 cs=some (d,p)) (N:Nat) (hN:fuel<=N) (g:Gb) (b:Nat) :
  ∃ avs g' b' x,mkD prog a0e N 42 d ⟨.fn g,b⟩=some (avs,⟨.fn g',b'⟩)/\b<=b'/\(∀ a,a<b->g' a=g a)/\c7w g' b' x avs:=by
 obtain⟨s,rfl⟩:=g3d underlying42 h;obtain⟨sv,g1,b1,l,e1,t1,t2,tc,t3⟩:=c7t (R:=c7v) underlying42 c5 (by decide) (fun _ _ h=>h) (fun h=>by rw[h.2];rfl) h (fun m cs d p _ h N hN g b=>g3h m cs d p h N hN g b) N hN g b;refine⟨[sv],g1,b1,l,e1,t1,t2,sv,rfl,?_⟩;rcases t3 with⟨rfl,h⟩|⟨a,off,r,q1,q2,q3,q4⟩
 ·exact⟨.inl ⟨rfl,rfl,h⟩,fun c hc=>by cases hc⟩
 ·obtain⟨j1,j2⟩:=d8x q4;exact⟨.inr ⟨a,off,q1,.inl q2,by rw[<- j1];exact q3⟩,j2⟩
theorem d8z : ∀ {l:List (List Nat)} {cs:List AV},RL c7w g b l cs->(cs.length=l.length/\∀ (k:Nat) (h:k<l.length),∃ sv,cs[k]?=some sv/\a5k g b l[k] sv)/\∀ x∈l,∀ c∈x,c<256
 | [],_,h=>by
  have h:_=[]:=h;subst h;exact⟨⟨rfl,fun k hk=>by simp at hk⟩,fun x hx=>by cases hx⟩
 | x :: l,_,⟨c,r,h1,⟨sv,h2,h3,h4⟩,h5⟩=>by
  obtain⟨⟨i1,i2⟩,i3⟩:=d8z h5;subst h1 h2;refine⟨⟨by simp[i1],fun k hk=>?_⟩,fun y hy=>?_⟩
  ·cases k with
   | zero=>exact⟨sv,rfl,h3⟩
   | succ k =>
    obtain⟨t1,j1,j2⟩:=i2 k (by simpa using hk);exact⟨t1,by simpa using j1,j2⟩
  ·rcases Dv.1 hy with rfl|hy
   ·exact h4
   ·exact i3 y hy
theorem d9a (fuel:Nat) (s:Value) (d:DataW H) (p:List MemPlace) (h:DataW.trod enc prog w 0 (fun _=>true) true fuel 39 [s]=some (d,p)) (N:Nat) (hN:fuel<=N) (g:Gb) (b:Nat) :
  ∃ sv g' b' l,mkD prog a0e N 39 d ⟨.fn g,b⟩=some ([sv],⟨.fn g',b'⟩)/\b<=b'/\(∀ a,a<b->g' a=g a)/\a7d g' b' l sv/\∀ x∈l,∀ c∈x,c<256:=by
 obtain⟨sv,g1,b1,l,e1,t1,t2,tc,t3⟩:=c7t (R:=c7w) underlying39 c42 (by decide) (fun h1 h2 ⟨s1,e,h3,h4⟩=>⟨s1,e,Af.mono h1 h2 h3,h4⟩) (fun⟨s1,e,_,_⟩=>by rw[e];rfl) h (fun m cs d p _ h N hN g b=>d8y m cs d p h N hN g b) N hN g b;refine⟨sv,g1,b1,l,e1,t1,t2,?_⟩;rcases t3 with⟨rfl,h⟩|⟨a,off,r,q1,q2,q3,q4⟩
 ·exact⟨⟨[],.inl ⟨rfl,rfl,h⟩,rfl,fun k hk=>by simp at hk⟩,fun x hx=>by cases hx⟩
 ·obtain⟨⟨j1,j2⟩,j3⟩:=d8z q4;exact⟨⟨r,.inr ⟨a,off,q1,.inl q2,q3⟩,j1,j2⟩,j3⟩
theorem g3i (h:cs.length=9) : ∃ a b c d e f g i j,cs=[a,b,c,d,e,f,g,i,j]:=by
 match cs,h with
 | [a,b,c,d,e,f,g,i,j],_=>exact⟨a,b,c,d,e,f,g,i,j,rfl⟩
theorem G_mk (fuel:Nat) (cs:List Value) (d:DataW H) (p:List MemPlace) (h:DataW.trod enc prog w 0 (fun _=>true) true fuel 41 cs=some (d,p)) (N:Nat) (hN:fuel<=N) (g:Gb) (b:Nat) :
  ∃ (st inp out:Nat) (part:Bool) (es:List Nat) (ev:AV) (ws:List (List Nat)) (wv:AV) (ia ib ic:Nat) (g' : Gb) (b' : Nat),mkD prog a0e N 41 d ⟨.fn g,b⟩=some ([.lit (.int .u8 st),.lit (.int .u8 inp),.lit (.int .u8 out),.lit (.bool part),ev,wv,.lit (.int .u8 ia),.lit (.int .u8 ib),.lit (.int .u8 ic)],⟨.fn g',b'⟩)/\b<=b'/\(∀ a,a<b->g' a=g a) /\
   InG g' b' st inp out es ev ws wv/\ia<256/\ib<256/\ic<256:=by
 obtain⟨xs,m,rfl,hd,hl,hn,he⟩:=DataW.trod_struct underlying41 h;rw[c41] at hl;obtain⟨v0,v1,v2,v3,v4,v5,v6,v7,v8,rfl⟩:=g3i hl;have h0:DataW.trod enc prog w 0 (fun _=>true) true m 38 (([v0,v1,v2,v3,v4,v5,v6,v7,v8].drop 0).take (prog.cellsOf 38))=xs[0]?:=he 0 _ rfl;have h1:DataW.trod enc prog w 0 (fun _=>true) true m 39 (([v0,v1,v2,v3,v4,v5,v6,v7,v8].drop 5).take (prog.cellsOf 39))=xs[1]?:=he 1 _ rfl;have h2:DataW.trod enc prog w 0 (fun _=>true) true m 5 (([v0,v1,v2,v3,v4,v5,v6,v7,v8].drop 6).take (prog.cellsOf 5))=xs[2]?:=he 2 _ rfl;have h3:DataW.trod enc prog w 0 (fun _=>true) true m 5 (([v0,v1,v2,v3,v4,v5,v6,v7,v8].drop 7).take (prog.cellsOf 5))=xs[3]?:=he 3 _ rfl;have h4:DataW.trod enc prog w 0 (fun _=>true) true m 5 (([v0,v1,v2,v3,v4,v5,v6,v7,v8].drop 8).take (prog.cellsOf 5))=xs[4]?:=he 4 _ rfl;rw[c38] at h0;rw[c39] at h1;rw[c5] at h2 h3 h4;obtain⟨x0,x1,x2,x3,x4,rfl⟩:=d8v (show xs.length=5 from hn);obtain⟨ia,e2,f2,w2⟩:=DataW.trod_int (x:=x2) underlying5 h2;obtain⟨ib,e3,f3,w3⟩:=DataW.trod_int (x:=x3) underlying5 h3;obtain⟨ic,e4,f4,w4⟩:=DataW.trod_int (x:=x4) underlying5 h4;obtain⟨ia,rfl,b2⟩:=wf8 w2;obtain⟨ib,rfl,b3⟩:=wf8 w3;obtain⟨ic,rfl,b4⟩:=wf8 w4;subst f2;subst f3;subst f4;have hx0:DataW.trod enc prog w 0 (fun _=>true) true m 38 [v0,v1,v2,v3,v4]=some (x0.1,x0.2):=h0;have hx1:DataW.trod enc prog w 0 (fun _=>true) true m 39 [v5]=some (x1.1,x1.2):=h1;obtain⟨st,inp,out,part,es,ev,g1,b1',e0,k1,k2,k3,k4,k5,k6,k7⟩:=M_mk m _ _ _ hx0 (N-1) (by omega) g b;obtain⟨sv,g2,b2',l,e1,l1,l2,l3,l4⟩:=d9a m v5 _ _ hx1 (N-1) (by omega) g1 b1';refine⟨st,inp,out,part,es,ev,l,sv,ia,ib,ic,g2,b2',?_,by omega,fun a ha=>(l2 a (by omega)).trans (k2 a ha),⟨k3,k4,k5,k6.mono l1 l2,k7,l3,l4⟩,b2,b3,b4⟩;have hd' : d=.agg [x0.1,x1.1,.lit (.int .u8 ia),.lit (.int .u8 ib),.lit (.int .u8 ic)]:=congrArg Prod.fst hd;subst hd';have hm0:m≠0:=by rintro rfl;simp[DataW.trod] at hx0
 obtain⟨N,rfl⟩ : ∃ M,N=M+2:=⟨N-2,by omega⟩;have e0' : mkD prog a0e (N+1) 38 x0.1 ⟨.fn g,b⟩=some ([.lit (.int .u8 st),.lit (.int .u8 inp),.lit (.int .u8 out),.lit (.bool part),ev],⟨.fn g1,b1'⟩):=e0;have e1' : mkD prog a0e (N+1) 39 x1.1 ⟨.fn g1,b1'⟩=some ([sv],⟨.fn g2,b2'⟩):=e1;have i1:∀ k:Int,mkD (Hh:=H) prog a0e (N+1) 5 (.lit (.int .u8 k)) ⟨.fn g2,b2'⟩=some ([.lit (.int .u8 k)],⟨.fn g2,b2'⟩):=by
  intro k;unfold mkD;rw[underlying5]
 unfold mkD;rw[underlying41];dsimp only;simp only[mkF,i1,e0',e1',c5,c38,c39,c41];rfl
theorem c44:prog.cellsOf 44=12:=by kernel_rfl
theorem g3j {xs:List α} (h:xs.length=4) : ∃ a b c d,xs=[a,b,c,d]:=by
 match xs,h with
 | [a,b,c,d],_=>exact⟨a,b,c,d,rfl⟩
theorem g3k (h:cs.length=12) : ∃ a b c d e f g i j k l m,cs=[a,b,c,d,e,f,g,i,j,k,l,m]:=by
 match cs,h with
 | [a,b,c,d,e,f,g,i,j,k,l,m],_=>exact⟨a,b,c,d,e,f,g,i,j,k,l,m,rfl⟩
theorem Q_mk (fuel:Nat) (cs:List Value) (d:DataW H) (p:List MemPlace) (h:DataW.trod enc prog w 0 (fun _=>true) true fuel 44 cs=some (d,p)) (N:Nat) (hN:fuel<=N) (g:Gb) (b:Nat) :
  ∃ (st inp out:Nat) (part:Bool) (es:List Nat) (ev:AV) (ws:List (List Nat)) (wv:AV) (ia ib ic:Nat) (sb:List Nat) (sbv:AV) (eb:List (List Nat)) (ebv:AV) (full:Bool) (g' : Gb) (b' : Nat),mkD prog a0e N 44 d ⟨.fn g,b⟩=some ([.lit (.int .u8 st),.lit (.int .u8 inp),.lit (.int .u8 out),.lit (.bool part),ev,wv,.lit (.int .u8 ia),.lit (.int .u8 ib),.lit (.int .u8 ic),sbv,ebv,.lit (.bool full)],⟨.fn g',b'⟩)/\b<=b'/\(∀ a,a<b->g' a=g a) /\
   InQ g' b' st inp out es ev ws wv sb sbv eb ebv:=by
 obtain⟨xs,m,rfl,hd,hl,hn,he⟩:=DataW.trod_struct underlying44 h;rw[c44] at hl;obtain⟨v0,v1,v2,v3,v4,v5,v6,v7,v8,v9,va,vb,rfl⟩:=g3k hl;have h0:DataW.trod enc prog w 0 (fun _=>true) true m 41 (([v0,v1,v2,v3,v4,v5,v6,v7,v8,v9,va,vb].drop 0).take (prog.cellsOf 41))=xs[0]?:=he 0 _ rfl;have h1:DataW.trod enc prog w 0 (fun _=>true) true m 42 (([v0,v1,v2,v3,v4,v5,v6,v7,v8,v9,va,vb].drop 9).take (prog.cellsOf 42))=xs[1]?:=he 1 _ rfl;have h2:DataW.trod enc prog w 0 (fun _=>true) true m 39 (([v0,v1,v2,v3,v4,v5,v6,v7,v8,v9,va,vb].drop 10).take (prog.cellsOf 39))=xs[2]?:=he 2 _ rfl;have h3:DataW.trod enc prog w 0 (fun _=>true) true m 4 (([v0,v1,v2,v3,v4,v5,v6,v7,v8,v9,va,vb].drop 11).take (prog.cellsOf 4))=xs[3]?:=he 3 _ rfl;rw[c41] at h0;rw[c42] at h1;rw[c39] at h2;rw[c4] at h3;obtain⟨x0,x1,x2,x3,rfl⟩:=g3j (show xs.length=4 from hn);obtain⟨full,e3,f3⟩:=DataW.trod_bool (x:=x3) underlying4 h3;subst f3;have hx0:DataW.trod enc prog w 0 (fun _=>true) true m 41 [v0,v1,v2,v3,v4,v5,v6,v7,v8]=some (x0.1,x0.2):=h0;have hx1:DataW.trod enc prog w 0 (fun _=>true) true m 42 [v9]=some (x1.1,x1.2):=h1;have hx2:DataW.trod enc prog w 0 (fun _=>true) true m 39 [va]=some (x2.1,x2.2):=h2;obtain⟨st,inp,out,part,es,ev,ws,wv,ia,ib,ic,g1,b1',e0,k1,k2,k3,k4,k5,k6⟩:=G_mk m _ _ _ hx0 (N-1) (by omega) g b;obtain⟨avs,g2,b2',sb,e1,l1,l2,sbv,rfl,l3,l4⟩:=d8y m _ _ _ hx1 (N-1) (by omega) g1 b1';obtain⟨ebv,g3,b3',eb,e2,q1,q2,q3,q4⟩:=d9a m va _ _ hx2 (N-1) (by omega) g2 b2';refine⟨st,inp,out,part,es,ev,ws,wv,ia,ib,ic,sb,sbv,eb,ebv,full,g3,b3',?_,by omega,fun a ha=>(q2 a (by omega)).trans ((l2 a (by omega)).trans (k2 a ha)),⟨k3.mono (by omega) fun a ha=>(q2 a (by omega)).trans (l2 a ha),l4,q4,Af.mono q1 q2 l3,q3⟩⟩;have hd' : d=.agg [x0.1,x1.1,x2.1,.lit (.bool full)]:=congrArg Prod.fst hd;subst hd';have hm0:m≠0:=by rintro rfl;simp[DataW.trod] at hx0
 obtain⟨N,rfl⟩ : ∃ M,N=M+2:=⟨N-2,by omega⟩;have e0' : mkD prog a0e (N+1) 41 x0.1 ⟨.fn g,b⟩=some ([.lit (.int .u8 st),.lit (.int .u8 inp),.lit (.int .u8 out),.lit (.bool part),ev,wv,.lit (.int .u8 ia),.lit (.int .u8 ib),.lit (.int .u8 ic)],⟨.fn g1,b1'⟩):=e0;have e1' : mkD prog a0e (N+1) 42 x1.1 ⟨.fn g1,b1'⟩=some ([sbv],⟨.fn g2,b2'⟩):=e1;have e2' : mkD prog a0e (N+1) 39 x2.1 ⟨.fn g2,b2'⟩=some ([ebv],⟨.fn g3,b3'⟩):=e2;have i1:∀ k:Bool,mkD (Hh:=H) prog a0e (N+1) 4 (.lit (.bool k)) ⟨.fn g3,b3'⟩=some ([.lit (.bool k)],⟨.fn g3,b3'⟩):=by
  intro k;unfold mkD;rw[underlying4]
 unfold mkD;rw[underlying44];dsimp only;simp only[mkF,i1,e0',e1',e2',c41,c42,c39,c4,c44];rfl
end Go.Ai
end
section
namespace Go.Ai
open Go.Proofs Go.Proofs.Tryz Go.ChangeShapes Go.WideShapes Go.ChangeAt Go.RowKit
set_option maxRecDepth 10000
variable {H:Type} {enc:TypeId×Value→H}
theorem g3l {W:World} (hL:laidMetH prog [] W) : ∃ (g:Gb) (n:Nat) (ρ:Rn),Sim W.heap.size 0 ρ ⟨.fn g,n⟩ W/\a0m ⟨.fn g,n⟩:=by
 obtain⟨ρ,s,hno⟩:=e3x hL rfl (show b6b prog [] (b1t prog)=some (b1t prog) from rfl);have s' : Sim W.heap.size 0 ρ ⟨.fn (b1t prog).get,(b1t prog).next⟩ W:=by rw[<- hG] at s;exact s.toFn
 exact⟨_,_,ρ,s',fun a x hx=>hno a x hx⟩
theorem g3m {W:World} {v0:Value} {d0:DataW H} {p0:List MemPlace} {base:Nat} (h0:DataW.Trod enc prog W 0 (fun _=>true) true 44 v0 d0 p0) (k0:Value.okWide prog W .any base 44 v0) (hL:laidMetH prog [] W) :
  Calls prog 7 #[v0] W fun e W'=>e=.returned (.bool true)/\Below W.heap.size W W':=by
 simp only[Value.okWide,underlying44] at k0;obtain⟨cm,rfl,_⟩:=k0;obtain⟨f0,h0⟩:=h0;obtain⟨g,n,ρ,s,hno⟩:=g3l hL;obtain⟨st,inp,out,part,es,ev,ws,wv,ia,ib,ic,sb,sbv,eb,ebv,full,g1,n1,e1,t1,t2,t3⟩:=Q_mk f0 _ d0 p0 h0 f0 (Dm _) g n;obtain⟨ρ1,M1⟩:=a9z (sp:=fun _=>true) (fun _=>rfl) (d1g enc) f0 f0 44 _ d0 p0 ⟨.fn g,n⟩ _ _ ρ h0 (fun h=>by cases h) s hno e1;have hw:=g3c (part:=part) ia ib ic (full:=full) g1 n1 t3;refine(hw W.heap.size ρ1 #[.agg cm] W M1.sim ?_).mono ?_
 ·exact⟨_,_,rfl,⟨cm,rfl,M1.vals⟩,rfl⟩
 ·rintro e W' ⟨r,rfl,hcp⟩
  cases e with
  | returned u=>obtain⟨ρ',q1,q2,q3,q4⟩:=hcp;exact⟨congrArg _ q3,q1.below⟩
  | _=>exact hcp.elim
end Go.Ai
end

