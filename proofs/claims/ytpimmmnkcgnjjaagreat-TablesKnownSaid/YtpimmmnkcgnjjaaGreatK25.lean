/- Parts of an interpreter and of a proof. No condition. -/
import Derived.Test.YtpimmmnkcgnjjaaGreatK12
import Derived.Test.YtpimmmnkcgnjjaaGreatK23
import Derived.Test.YtpimmmnkcgnjjaaGreatK05
import Derived.Test.YtpimmmnkcgnjjaaGreatK06
import Derived.Test.YtpimmmnkcgnjjaaGreatK17
set_option linter.all false
set_option maxHeartbeats 40000000
set_option maxRecDepth 10000
open Go.Proofs Go.Proofs.Tryz
namespace Go.Ai
variable {n i:Nat}{O I:Int}{g:Gb}{s:Nat×Int}
def Ms(q:Nat)(S E:Wq)(w:Wd):Int:=
 if ∃h:0<w.length,(0<=w[w.length-1]/\w[w.length-1] < (q:Int))/\w.take (w.length-1)∈S then (if w∈S then 8 else F8 (S++[w]) E) else 1
def J3(q:Nat)(S E:Wq)(w:Wd):Int:=
 if Bo w q≠0 then Bo w q else if w.length=0 then 1 else if w∈E then 8 else F8 S (E++[w])
def zeroTab:AV:=.agg [.li 0,.li 0,.nl,.nl,.li 0,.li 0,.nl]
def a5o(I:Nat)(O:Int)(er:Int)(S E:Wq)(T:Tq)(g:Gb)(n:Nat)(rv:AV):Prop:=
 (er≠0/\rv=zeroTab)\/(er=0/\∃sv ev tv,rv=.agg [.li I,.li O,sv,ev,.li I,.li O,tv]/\A7 g n S E T sv ev tv/\J1 S.length sv/\J1 E.length ev)
theorem Cu.snocF{B c:Nat}{l:Wq}{f:List AV}{w:Wd}{q:AV}(A:RowsW g n l f)(D:∀v∈f,Av v)(Q:Al g n w q)(U:Av q){z:Nat}(Z:g B=some (.cells (f++[q]) true z))(hB:B<n){k:Nat}(hk:k=l.length+1):Cu g n (l++[w]) (.sl B 0 k c):=by
 subst hk;refine⟨f++[q],?_,A.snoc Q,λv hv=>?_⟩
 .have h:=Ez (g:=g) (n:=n) (len:=l.length+1) (c:=c) Z hB;rw[show (l++[w]).length=l.length+1 by simp];exact h
 .rcases W9.1 hv with h|h
  .exact D v h
  .rw[Xf.1 h];exact U
def e5u(g:Gb)(lo n:Nat)(r:Option (Wd))(rv:AV):Prop:=match r with
 | none=>rv=.nl
 | some r=>∃B,lo<=B/\B<n/\rv=.sl B 0 r.length r.length/\g B=some (.cells (wdC r) true 0)
structure Lab (T:Tq) (W:Wq):Prop where
 len:W.length=T.length
 nil:W.getD 0 []=[]
 ed:∀p j t,EdT T p j t->t<T.length/\1<=t/\p<t/\W.getD t []=W.getD p []++[(j:Int)]
 src:∀t,1<=t->t<T.length->∃p j,EdT T p j t
 inc:∀a b,a<b->b<T.length->SL (W.getD a []) (W.getD b [])
theorem e3a{T:Tq}(A:∀r∈T,∀e∈r,okE T.length O e=true)(h1:1<=T.length):(Bk T).getD 0 []=[]:=by
 cases D:wR T T.length 0 (Fz T.length) with
 | none=>grind[Bk]
 | some s =>
  have Q:Bk T=if s.many<T.length then [] else s.out:=by grind[Bk]
  by_cases f:s.many<T.length
  .grind
  rw[Q,if_neg f];have U:∀m,Sn (Fz T.length) m->m=0:=λm f=>by
   have h2:((List.replicate T.length false).set 0 true).getD m false=true:=f;grind
  have Z:∀m,(Fz T.length).out.getD m []=[]:=λm=>by
   show (List.replicate T.length ([]:Wd)).getD m []=[];grind
  have a0:Js T (Fz T.length):=by
   refine⟨by simp[Fz],by simp[Fz],?_,Z 0,?_,λm f h=>absurd (U m f) h⟩
   .show ((List.replicate T.length false).set 0 true).getD 0 false=true;grind
   .show 1=((List.replicate T.length false).set 0 true).count true;grind
  obtain⟨a1,a2⟩:=a3f A T.length 0 _ s rfl a0 (λm f=>by grind) (λm f h=>by omega) (by show 0+1<=1;omega) D;exact a1.o0
theorem e3b{T:Tq}(h:D5 I O T=0):Lab T (Bk T):=by
 have f:=d5c I O T;rw[h] at f;unfold D5 at h;by_cases Q:I > 16\/O > 16\/T.length > 65537
 .grind
 rw[if_neg Q] at h;by_cases U:I<1\/O<1\/T.length<1
 .grind
 rw[if_neg U] at h;by_cases c3:goT I O T 0 1=some T.length
 .have Z:=λr f=>(Pc c3 (Wy _) (Wy _) r f).2;unfold a3d at f;rw[if_neg Q,if_neg U] at f;have h1:1<=T.length:=by omega
  have a0:(Bk T).length=T.length/\Rm (Bk T)=true:=by
   grind
  obtain⟨A,a4⟩:=a0;obtain⟨l1,l2⟩:=b1s Z h1 A;have D:=b1n a4;rw[A] at D;refine⟨A,e3a Z h1,λp j t hE=>?_,l2,D⟩;obtain⟨a1,a2,a3⟩:=l1 p j t hE;refine⟨a1,a2,?_,a3⟩;by_cases a5:p<t
  .grind
  .have a6:((Bk T).getD t []).length<=((Bk T).getD p []).length:=by
    by_cases e:t=p
    .grind
    .exact(D t p (by omega) hE.lt).le
   grind
 grind
theorem Lab.inj{T:Tq}{W:Wq}(h:Lab T W){a b:Nat}(A:a<T.length)(D:b<T.length)(Q:W.getD a []=W.getD b []):a=b:=by
 rcases Nat.lt_trichotomy a b with f|f|f
 .have:=h.inc a b f D;grind[SL.irrefl]
 .grind
 .have:=h.inc b a f A;grind[SL.irrefl]
theorem Lab.uniq{T:Tq}{W:Wq}(h:Lab T W){p j f A t:Nat}(D:EdT T p j t)(Q:EdT T f A t):p=f/\j=A:=by
 obtain⟨_,_,a3,Z⟩:=h.ed p j t D;obtain⟨_,_,b3,U⟩:=h.ed f A t Q;rw[Z] at U;obtain⟨e1,e2⟩:=Jx U;exact⟨h.inj D.lt Q.lt e1,by omega⟩
theorem Lab.le{T:Tq}{W:Wq}(h:Lab T W):∀(n t:Nat),t<=n->t<T.length->(W.getD t []).length<=t
 | 0,t,A,_=>by
  have:t=0:=by omega
  subst this;rw[h.nil];grind
 | n+1,t,A,D=>by
  by_cases Q:t=0
  .subst Q;rw[h.nil];grind
  .obtain⟨p,j,f⟩:=h.src t (by omega) D;obtain⟨_,_,e3,e4⟩:=h.ed p j t f;have:=h.le n p (by omega) f.lt;grind
def Cs(n:Nat):List (Int×Int)->Nat->List (Nat×Int)
 | [],_=>[]
 | e::l,i=>(if e.1 = -1/\e.2 = -2 then [(n,(i:Int))] else [])++Cs n l (i+1)
def Dw(row:List (Int×Int)):Bool:=row.all λe=>decide (e.1 = -1/\¬e.2 = -2)
def Ga(n:Nat)(row:List (Int×Int)):List (Nat×Int):=Cs n row 0++if Dw row=true then [(n,-1)] else []
def endsM:Tq->Nat->List (Nat×Int)
 | [],_=>[]
 | r::l,n=>Ga n r++endsM l (n+1)
theorem a5p(n:Nat):∀(a b:List (Int×Int)) (i:Nat),Cs n (a++b) i=Cs n a i++Cs n b (i+a.length)
 | [],b,i=>by rfl
 | e::a,b,i=>by
  show _++Cs n (a++b) (i+1)=(_++Cs n a (i+1))++_;rw[a5p n a b (i+1),e5z,Xi,show i+1+a.length=i+(a.length+1) by omega]
theorem e3c{row:List (Int×Int)}(h:i<row.length):Cs n (row.take (i+1)) 0=Cs n (row.take i) 0++if (row[i]).1 = -1/\(row[i]).2 = -2 then [(n,(i:Int))] else []:=by
 rw[Df h,a5p,Xa,e6i (by omega),e6s];simp[Cs]
theorem e3d{row:List (Int×Int)}(h:i<row.length):Dw (row.take (i+1))=(Dw (row.take i)&&decide ((row[i]).1 = -1/\¬(row[i]).2 = -2)):=by
 grind[Dw,Df]
theorem endsM_app:∀(a b:Tq)(n:Nat),endsM (a++b) n=endsM a n++endsM b (n+a.length)
 | [],b,n=>by rfl
 | r::a,b,n=>by
  show Ga n r++endsM (a++b) (n+1)=(Ga n r++endsM a (n+1))++_;rw[endsM_app a b (n+1),e5z,Xi,show n+1+a.length=n+(a.length+1) by omega]
theorem e3e{T:Tq}(h:n<T.length):endsM (T.take (n+1)) 0=endsM (T.take n) 0++Ga n T[n]:=by
 rw[Df h,endsM_app,Xa,e6i (by omega),e6s];simp[endsM]
theorem e3f(T:Tq)(n:Nat):∃r,endsM T 0=endsM (T.take n) 0++r:=by
 grind[List.take_append_drop,endsM_app]
def eW(W:Wq)(s:Nat×Int):Wd:=W.getD s.1 []++if s.2 = -1 then [] else [s.2]
def Bv(W:Wq):List (Nat×Int)->Nat
 | []=>0
 | s::l=>(eW W s).length+Bv W l
theorem V6(W:Wq):∀(a b:List (Nat×Int)),Bv W (a++b)=Bv W a+Bv W b
 | [],b=>by simp[Bv]
 | s::a,b=>by
  show (eW W s).length+Bv W (a++b)=((eW W s).length+Bv W a)+Bv W b;rw[V6 W a b];omega
theorem b6c{W:Wq}{k:Nat}:∀{l:List (Nat×Int)},(∀s∈l,(eW W s).length<=k)->Bv W l<=l.length*k
 | [],_=>by simp[Bv]
 | s::l,h=>by
  have f:=h s (by simp);have A:=b6c (l:=l) λx hx=>h x (by grind)
  (simp_all[Bv];grind)
theorem V7:∀{row:List (Int×Int)} {i:Nat},s∈Cs n row i↔∃k,∃h:k<row.length,row[k].1 = -1/\row[k].2 = -2/\s=(n,((i+k:Nat):Int))
 | [],i=>by simp[Cs]
 | e::row,i=>by
  (simp_all[Cs,V7];grind)
theorem b6d:∀{T:Tq}{n:Nat},s∈endsM T n↔∃k,∃h:k<T.length,s∈Ga (n+k) T[k]
 | [],n=>by simp[endsM]
 | r::T,n=>by
  unfold endsM;rw[W9,b6d];constructor
  .rintro (h|⟨k,A,f⟩)
   .exact⟨0,by simp,h⟩
   .exact⟨k+1,by simpa using A,by rw[show n+(k+1)=n+1+k by omega];simpa using f⟩
  .rintro⟨k,A,f⟩
   cases k with
   | zero=>exact .inl f
   | succ k=>exact .inr ⟨k,by simpa using A,by rw[show n+1+k=n+(k+1) by omega];simpa using f⟩
theorem Mt{T:Tq}:s∈endsM T 0↔(∃k,∃h:k<T.length,∃i,∃hi:i<(T[k]).length,(T[k])[i]=(-1,-2)/\s=(k,(i:Int)))\/(∃k,∃h:k<T.length,Dw T[k]=true/\s=(k,-1)):=by
 rw[b6d];constructor
 .rintro⟨k,f,h⟩;rw[e6s] at h;unfold Ga at h;rcases W9.1 h with h|h
  .obtain⟨i,hi,A,D,Q⟩:=V7.1 h;grind
  grind
 (simp_all[V7,Ga];grind)
def Gc(l:List (Nat×Int)):List AV:=l.flatMap λs=>[.li ((s.1:Nat):Int),.li s.2]
theorem b6e(l:List (Nat×Int))(s:Nat×Int):Gc (l++[s])=Gc l++[.li ((s.1:Nat):Int),.li s.2]:=by
 unfold Gc;rw[List.flatMap_append];simp
theorem Oa(l:List (Nat×Int)):(Gc l).length=l.length*2:=by
 induction l with
 | nil=>rfl
 | cons s l f=>unfold Gc at *;rw[e7i,W1,f,Xi];simp;omega
theorem e3g{I:Nat}{T:Tq}{W:Wq}(hI1:1<=I)(hI2:I<=16)(h0:0<T.length)(hl:T.length<=65537)(hgo:goT I O T 0 1=some T.length)(hLab:Lab T W)(hE:(endsM T 0).length<=1024)(hW:∀t,t<T.length->(W.getD t []).length<=256)(hS:Bv W (endsM T 0)<=65536)(g:Gb)(n:Nat)(tv:AV)(hT:Cf g n T tv):
  WC 0 prog 116 [.agg [.li I,.li O,tv]] ⟨.fn g,n⟩ λr=>∃g' n' B ov,r=.ret (.tup [ov,.lit (.bool true)]) ⟨.fn g',n'⟩/\n<=n'/\(∀b,b<n->g' b=g b)/\D4 g' n n' B ov (endsM T 0).length 2 (Gc (endsM T 0)):=by
 have hlen:=@Au prog _ _ _ _ _ hT.choose_spec.1;have h1t:=hT.choose_spec.1.one;have hone:allOne [.li I,.li O,tv]=true:=by simp[h1t]
 have HOK:=Xr (okT_of hgo);have HT:=Xr hT;have HLB:=Xr hLab;have HW:=Xr hW;have HPR:=Xr λk=>e3f T k;have HSM:=Xr λ(a r:List (Nat×Int)) (h:endsM T 0=a++r)=>(show a.length<=1024/\Bv W a<=65536 from ⟨by rw[h,W1] at hE;omega,by rw[h,V6] at hS;omega⟩);have HST:=Xr λ(k:Nat)(h:k<T.length)=>e3e h;obtain⟨E,hEE⟩:∃E,E=endsM T 0:=⟨_,rfl⟩;rw[<- hEE] at hE |-;have HEE:=Xr hEE;clear hT hgo hLab hW hS hE hEE;have hW2:(T.length:Int)<=1048576:=by omega
 refine ent pl116 func116 ?_
 iterate 8 all_goals try first|apply spl<;>intro h|simp (disch:=first|assumption|omega|simp) [*]
 refine Xv (λm gf H'=>∃(k n2 B:Nat)(gL:Gb)(ov:AV)(D:List AV)(out:List (Nat×Int)),k<=T.length/\m=T.length-k/\H'=⟨.fn gL,n2⟩/\n+1+1<=n2/\Aa (∀b,b<n->gL b=g b)/\gL n=some (.cells [.li I,.li O,tv] true 0)/\gL (n+1)=some (.cells D true 0)/\D.length=T.length/\Aa (∀t,t<T.length->(t=0\/∃p j,EdT T p j t/\p<k)->D[t]?=some (.lit (.int .i64 (((W.getD t []).length:Nat):Int))))/\Aa (out=endsM (T.take k) 0)/\Aa (D4 gL (n+1+1) n2 B ov out.length 2 (Gc out)) /\
  gf 1=some (.ptr n 0)/\gf 4=some (.sl (n+1) 0 T.length T.length)/\gf 5=some ov/\gf 6=some (.li ((Bv W out:Nat):Int))/\gf 17=some tv/\gf 18=some (.li T.length)/\gf 19=some (.li k)) (m0:=T.length) ?_ ?_
 .refine⟨0,_,0,_,_,_,[],W3 _,rfl,rfl,Wy _,⟨λb hb=>?_⟩,?_,Ah,?_,⟨λt ht h=>?_⟩,⟨rfl⟩,⟨.inl ⟨rfl,rfl,rfl⟩⟩,by simp,by simp,by simp,by simp[Bv],by simp[*]⟩
  .simp (disch:=omega) only[Ad]
  .simp (disch:=omega) only[Ad,Ah]
  .simp
  .rcases h with rfl|⟨p,j,_,hp⟩
   .rw[HLB.out.nil,List.getElem?_replicate,if_pos ht];rfl
   .omega
 rintro m gf H' ⟨k,n2,B,gL,ov,D,out,hk,rfl,rfl,hn2,HG,hgn,hgD,hD,HD,HOUT,HGR,w1,w4,w5,w6,w17,w18,w19⟩ ih;refine rnd pl116 ?_;by_cases hlt:k<T.length
 .have hltI:(k:Int)<(T.length:Int):=by omega
  obtain⟨a2,o2,q,ha2,hia2,hc2,hq⟩:=HT.out.at hlt;rw[<- HG.out a2 ha2] at hc2;have h1q:oneC q=true:=hq.one;have hlq:=@Au prog _ _ _ _ _ hq;have HO1:=Xr (HOK.out _ (W2 hlt));have hrl:(T[k]).length=I:=by have:=HO1.out.1;omega
  have hrl16:(T[k]).length<=16:=by omega
  have HES:=Xr (HST.out k hlt);have HPX:Aa (∀i,i<=(T[k]).length->∃r,E=(out++Cs k ((T[k]).take i) 0)++r):=⟨λi hi=>by
   obtain⟨r,hr⟩:=HPR.out (k+1);rw[HES.out,<- HOUT.out] at hr;have h2:Cs k T[k] 0=Cs k ((T[k]).take i) 0++Cs k ((T[k]).drop i) (0+((T[k]).take i).length):=by rw[<- a5p,e7f]
   refine⟨Cs k ((T[k]).drop i) (0+((T[k]).take i).length)++((if Dw T[k]=true then [(k,-1)] else [])++r),?_⟩;rw[HEE.out,hr];unfold Ga;rw[h2];simp only[e5z]⟩
  have HBD:Aa (∀a r,E=a++r->a.length<=1024/\Bv W a<=65536):=⟨λa r h=>HSM.out a r (HEE.out ▸ h)⟩;have HPY:Aa (∃r,E=(out++Ga k T[k])++r):=⟨by
   obtain⟨r,hr⟩:=HPR.out (k+1);rw[HES.out,<- HOUT.out] at hr;exact⟨r,HEE.out.trans hr⟩⟩
  rw[<- HOUT.out] at HES;have HEDT:Aa (∀(i:Nat)(h:i<(T[k]).length) (t:Nat),(T[k])[i].1=(t:Int)->EdT T k i t):=⟨λi h t ht=>⟨_,by rw[Xo,W5 hlt];simp[h],ht⟩⟩;have HEDI:Aa (∀(j t:Nat),EdT T k j t->∃h:j<(T[k]).length,(T[k])[j].1=(t:Int)):=⟨λj t ⟨e,h1,h2⟩=>by
   rw[Xo,W5 hlt] at h1;obtain⟨h3,h4⟩:=W8.1 h1;exact⟨h3,by rw[<- h2];exact congrArg _ h4⟩⟩
  have HQ:=Xr hq;have hDk:D[k]?=some (.lit (.int .i64 (((W.getD k []).length:Nat):Int))):=HD.out k hlt (by
   by_cases h:k=0
   .exact .inl h
   .obtain⟨p,j,hE⟩:=HLB.out.src k (by omega) hlt;exact .inr ⟨p,j,hE,(HLB.out.ed p j k hE).2.2.1⟩)
  have hWk:=HW.out k hlt;clear hq hrl;generalize T[k]=row at *
  iterate 8 all_goals try first|apply spl<;>intro h|simp (disch:=first|assumption|omega|simp) [*]
  refine Xv (λm gf H'=>∃(i n3 B:Nat)(gI:Gb)(ov:AV)(D:List AV)(oi:List (Nat×Int)),i<=row.length/\m=row.length-i/\H'=⟨.fn gI,n3⟩/\n2<=n3/\Aa (∀b,b<n->gI b=gL b)/\gI n=some (.cells [.li I,.li O,tv] true 0)/\gI (n+1)=some (.cells D true 0)/\D.length=T.length/\D[k]?=some (.lit (.int .i64 (((W.getD k []).length:Nat):Int)))/\Aa (∀t,t<T.length->(t=0\/∃p j,EdT T p j t/\(p<k\/p=k/\j<i))->D[t]?=some (.lit (.int .i64 (((W.getD t []).length:Nat):Int))))/\Aa (oi=out++Cs k (row.take i) 0)/\oi.length<=1024/\Bv W oi<=65536/\Aa (D4 gI (n+1+1) n3 B ov oi.length 2 (Gc oi)) /\
   gf 1=some (.ptr n 0)/\gf 4=some (.sl (n+1) 0 T.length T.length)/\gf 5=some ov/\gf 6=some (.li ((Bv W oi:Nat):Int))/\gf 7=some (.li k)/\gf 9=some (.lit (.bool (Dw (row.take i))))/\gf 17=some tv/\gf 18=some (.li T.length)/\gf 19=some (.li k) /\
   gf 24=some q/\gf 25=some (.li row.length)/\gf 26=some (.li i)) (m0:=row.length) ?_ ?_
  .have hob:out.length<=1024/\Bv W out<=65536:=by
    obtain⟨r,hr⟩:=HPR.out k;rw[<- HOUT.out] at hr;exact HSM.out _ _ hr
   exact⟨0,n2,B,gL,ov,D,out,W3 _,rfl,rfl,Wy _,⟨λ_ _=>rfl⟩,hgn,hgD,hD,hDk,⟨λt ht h=>HD.out t ht (h.imp id λ⟨p,j,h1,h2⟩=>⟨p,j,h1,by omega⟩)⟩,⟨by simp[Cs]⟩,hob.1,hob.2,HGR,by simp[*],by simp[*],by simp[*],by simp[*],by simp[*],by simp[Dw],by simp[*]⟩
  clear hgn hgD hD hDk HD HGR w1 w4 w5 w6 w17 w18 w19;rintro m gf H' ⟨i,n3,B,gI,ov,D,oi,hi,rfl,rfl,hn3,HGI,hgn,hgD,hD,hDk,HD,HOI,hoi1,hoi2,HGR,w1,w4,w5,w6,w7,w9,w17,w18,w19,w24,w25,w26⟩ ih2;refine rnd pl116 ?_;by_cases hil:i<row.length
  .have hilI:(i:Int)<(row.length:Int):=by omega
   obtain⟨a3,o3,ha3,hia3,hc3⟩:=Vr HQ.out hil;rw[<- HG.out a3 ha3,<- HGI.out a3 ha3] at hc3;have HE1:=Xr (HO1.out.2 _ (W2 hil));have HRS:=Xr (e3c (n:=k) hil);have HLS:=Xr (e3d hil);have HED:=Xr λt ht=>HEDT.out i hil t ht;have HDI:Aa (∀j t,EdT T k j t->(k<k\/k=k/\j<i+1)->¬ j<i->((row[i]).1=(t:Int))):=⟨λj t hE h1 h2=>by
    obtain⟨h3,h4⟩:=HEDI.out j t hE;have:j=i:=by omega
    subst this;exact h4⟩
   generalize row[i]=e at *;obtain⟨to,eo⟩:=e;dsimp only at HE1 HRS HLS HED HDI hc3;by_cases ht:to = -1
   .subst ht;by_cases ho:eo = -2
    .subst ho;rw[if_pos ⟨rfl,rfl⟩] at HRS;have HLF:Aa (Dw (row.take (i+1))=false):=⟨by rw[HLS.out];simp⟩;have HON:Aa (oi++[(k,(i:Int))]=out++Cs k (row.take (i+1)) 0):=⟨by rw[HRS.out,HOI.out,e5z]⟩;have hB2:(oi++[(k,(i:Int))]).length<=1024/\Bv W (oi++[(k,(i:Int))])<=65536:=by
      obtain⟨r,hr⟩:=HPX.out (i+1) (by omega);rw[<- HON.out] at hr;exact HBD.out _ _ hr
     have HSW:Aa (Bv W (oi++[(k,(i:Int))])=Bv W oi+((W.getD k []).length+1)):=⟨by
      rw[V6];show Bv W oi+((W.getD k []++if (i:Int) = -1 then [] else [(i:Int)]).length+0)=_;rw[if_neg (by omega),W1];rfl⟩
     have HB2:=Xr hB2;have hsw1:Bv W oi+((W.getD k []).length+1)<=65536:=by rw[<- HSW.out];exact hB2.2
     have HEC:=Xr (b6e oi (k,(i:Int)));have hel:=Oa oi;have hel2:(Gc oi++[AV.li ((k:Nat):Int),AV.li (i:Int)]).length=(oi.length+1)*2:=by rw[W1,hel];simp;omega
     have HDN:Aa (∀t,t<T.length->(t=0\/∃p j,EdT T p j t/\(p<k\/p=k/\j<i+1))->D[t]?=some (.lit (.int .i64 (((W.getD t []).length:Nat):Int)))):=⟨λt ht h=>HD.out t ht (h.imp id λ⟨p,j,h1,h2⟩=>⟨p,j,h1,by
      by_cases h3:p<k
      .exact .inl h3
      .have hpk:p=k:=by omega
       subst hpk;refine .inr ⟨rfl,?_⟩;by_cases hji:j<i
       .exact hji
       .have:=HDI.out j t h1 (by omega) hji;omega⟩)⟩
     have hDkl:k<D.length:=by omega
     have hDk2:D[k]'hDkl=.lit (.int .i64 (((W.getD k []).length:Nat):Int)):=(W8.1 hDk).2;clear hB2;generalize hWl:(W.getD k []).length=wl at *;rcases HGR.out with⟨hk0,hc0,hs0⟩|⟨hk0,hs0,hB1,hB2,hB3,hB4⟩
     .subst hs0;have HZ:=Xr (And.intro hk0 hc0);clear hk0 hc0
      iterate 8 all_goals try first|apply spl<;>intro h|simp (disch:=first|assumption|omega|simp) [*]
      refine ih2.out (row.length-(i+1)) _ _ (by omega) ⟨i+1,_,n3+1+1,_,.slq (n3+1+1) 0 (oi++[(k,(i:Int))]).length 0,D,oi++[(k,(i:Int))],by omega,rfl,rfl,by omega,⟨λb hb=>?_⟩,?_,?_,hD,hDk,HDN,HON,HB2.out.1,HB2.out.2,⟨.inr ⟨?_,rfl,by omega,by omega,?_,?_⟩⟩,by simp[*],by simp[*],by simp[HZ.out.1],by simp[*,HSW.out],by simp[*],by simp[HLF.out],by simp[*]⟩
      .simp (disch:=omega) only[Ad,Ae];exact HGI.out b hb
      .simp (disch:=omega) only[Ad,Ae];exact hgn
      .simp (disch:=omega) only[Ad,Ae];exact hgD
      .simp
      .rw[HEC.out,HZ.out.2];simp (disch:=omega) only[Ad,Ae,Ah];rfl
      .rw[Oa]
     .subst hs0
      iterate 8 all_goals try first|apply spl<;>intro h|simp (disch:=first|assumption|omega|simp) [*]
      refine ih2.out (row.length-(i+1)) _ _ (by omega) ⟨i+1,_,n3+1+1,_,.slq (n3+1+1) 0 (oi++[(k,(i:Int))]).length 0,D,oi++[(k,(i:Int))],by omega,rfl,rfl,by omega,⟨λb hb=>?_⟩,?_,?_,hD,hDk,HDN,HON,HB2.out.1,HB2.out.2,⟨.inr ⟨?_,rfl,by omega,by omega,?_,?_⟩⟩,by simp[*],by simp[*],by simp,by simp[*,HSW.out],by simp[*],by simp[HLF.out],by simp[*]⟩
      .simp (disch:=omega) only[Ad,Ae];exact HGI.out b hb
      .simp (disch:=omega) only[Ad,Ae];exact hgn
      .simp (disch:=omega) only[Ad,Ae];exact hgD
      .simp
      .rw[HEC.out];simp (disch:=omega) only[Ad,Ae,Ah]
      .rw[Oa]
    .rw[if_neg (λh=>ho h.2),e5x] at HRS;have HLF:Aa (Dw (row.take (i+1))=Dw (row.take i)):=⟨by rw[HLS.out];simp[ho]⟩;have HDN:Aa (∀t,t<T.length->(t=0\/∃p j,EdT T p j t/\(p<k\/p=k/\j<i+1))->D[t]?=some (.lit (.int .i64 (((W.getD t []).length:Nat):Int)))):=⟨λt ht h=>HD.out t ht (h.imp id λ⟨p,j,h1,h2⟩=>⟨p,j,h1,by
      by_cases h3:p<k
      .exact .inl h3
      .have hpk:p=k:=by omega
       subst hpk;refine .inr ⟨rfl,?_⟩;by_cases hji:j<i
       .exact hji
       .have:=HDI.out j t h1 (by omega) hji;omega⟩)⟩
     rw[<- HRS.out] at HOI
     iterate 8 all_goals try first|apply spl<;>intro h|simp (disch:=first|assumption|omega|simp) [*]
     refine ih2.out (row.length-(i+1)) _ _ (by omega) ⟨i+1,_,B,_,ov,D,oi,by omega,rfl,rfl,by omega,⟨λb hb=>?_⟩,?_,?_,hD,hDk,HDN,HOI,hoi1,hoi2,⟨D4.keep HGR.out (by omega) λh1 h2=>?_⟩,by simp[*],by simp[*],by simp[*],by simp[*],by simp[*],by simp[HLF.out, *],by simp[*]⟩
     .simp (disch:=omega) only[Ad,Ae];exact HGI.out b hb
     .simp (disch:=omega) only[Ad,Ae];exact hgn
     .simp (disch:=omega) only[Ad,Ae];exact hgD
     .simp (disch:=omega) only[Ad,Ae]
   .obtain⟨t,rfl⟩:∃t:Nat,to=t:=⟨to.toNat,by have:=HE1.out;omega⟩;have htl:t<T.length:=by have:=HE1.out;omega
    have hEd:=HED.out t rfl;have HEL:=Xr (HLB.out.ed k i t hEd);rw[if_neg (λh=>ht h.1),e5x] at HRS;have HLF:Aa (Dw (row.take (i+1))=false):=⟨by rw[HLS.out];simp[ht]⟩;have hDkl:k<D.length:=by omega
    have hDk2:D[k]'hDkl=.lit (.int .i64 (((W.getD k []).length:Nat):Int)):=(W8.1 hDk).2;have htD:t<D.length:=by omega
    have hktI:¬t=k:=by have:=HEL.out.2.2.1;omega
    have HDN:Aa (∀u,u<T.length->(u=0\/∃p j,EdT T p j u/\(p<k\/p=k/\j<i+1))->(D.set t (.lit (.int .i64 ((((W.getD k []).length:Nat):Int)+1))))[u]?=some (.lit (.int .i64 (((W.getD u []).length:Nat):Int)))):=⟨λu hu h=>by
     by_cases hut:t=u
     .subst hut;rw[e7g htD,HEL.out.2.2.2,W1];simp
     .rw[e6k hut];refine HD.out u hu (h.imp id λ⟨p,j,h1,h2⟩=>⟨p,j,h1,?_⟩);by_cases h3:p<k
      .exact .inl h3
      .have hpk:p=k:=by omega
       subst hpk;refine .inr ⟨rfl,?_⟩;by_cases hji:j<i
       .exact hji
       .have:=HDI.out j u h1 (by omega) hji;omega⟩
    have HDS:Aa ((D.set t (.lit (.int .i64 ((((W.getD k []).length:Nat):Int)+1)))).length=T.length/\(D.set t (.lit (.int .i64 ((((W.getD k []).length:Nat):Int)+1))))[k]?=some (.lit (.int .i64 (((W.getD k []).length:Nat):Int)))):=⟨by rw[Xe];exact hD,by rw[e6k hktI];exact hDk⟩;rw[<- HRS.out] at HOI;clear HDI HED;generalize hWl:(W.getD k []).length=wl at *
    iterate 8 all_goals try first|apply spl<;>intro h|simp (disch:=first|assumption|omega|simp) [*]
    refine ih2.out (row.length-(i+1)) _ _ (by omega) ⟨i+1,_,B,_,ov,D.set t (.li ((wl:Int)+1)),oi,by omega,rfl,rfl,by omega,⟨λb hb=>?_⟩,?_,?_,HDS.out.1,HDS.out.2,HDN,HOI,hoi1,hoi2,⟨D4.keep HGR.out (by omega) λh1 h2=>?_⟩,by simp[*],by simp[*],by simp[*],by simp[*],by simp[*],by simp[HLF.out],by simp[*]⟩
    .simp (disch:=omega) only[Ad,Ae];exact HGI.out b hb
    .simp (disch:=omega) only[Ad,Ae];exact hgn
    .simp (disch:=omega) only[Ad,Ae,Ah]
    .simp (disch:=omega) only[Ad,Ae]
  .have hilI:¬(i:Int)<(row.length:Int):=by omega
   have hir:i=row.length:=by omega
   have HRT:Aa (row.take i=row):=⟨by rw[hir,Xl]⟩;rw[HRT.out] at HOI w9;have HDN:Aa (∀t,t<T.length->(t=0\/∃p j,EdT T p j t/\p<k+1)->D[t]?=some (.lit (.int .i64 (((W.getD t []).length:Nat):Int)))):=⟨λt ht h=>HD.out t ht (h.imp id λ⟨p,j,h1,h2⟩=>⟨p,j,h1,by
    by_cases h3:p<k
    .exact .inl h3
    .have hpk:p=k:=by omega
     subst hpk;obtain⟨h4,_⟩:=HEDI.out j t h1;exact .inr ⟨rfl,by omega⟩⟩)⟩
   have hDkl:k<D.length:=by omega
   have hDk2:D[k]'hDkl=.lit (.int .i64 (((W.getD k []).length:Nat):Int)):=(W8.1 hDk).2;have hel:=Oa oi;clear HD HEDI HEDT HPX hia2 hlq;by_cases hlb:Dw row=true
   .have HON:Aa (oi++[(k,-1)]=endsM (T.take (k+1)) 0):=⟨by rw[HES.out,HOI.out];unfold Ga;rw[if_pos hlb,e5z]⟩;have hB2:(oi++[(k,-1)]).length<=1024/\Bv W (oi++[(k,-1)])<=65536:=by
     obtain⟨r,hr⟩:=HPY.out;rw[<- HES.out,<- HON.out] at hr;exact HBD.out _ _ hr
    have HSW:Aa (Bv W (oi++[(k,-1)])=Bv W oi+(W.getD k []).length):=⟨by
     rw[V6];show Bv W oi+((W.getD k []++if (-1:Int) = -1 then [] else [-1]).length+0)=_;rw[if_pos rfl,e5x];rfl⟩
    have HB2:=Xr hB2;have hsw1:Bv W oi+(W.getD k []).length<=65536:=by rw[<- HSW.out];exact hB2.2
    have hoi3:oi.length+1<=1024:=by have:=hB2.1;rw[W1,Xj] at this;exact this
    have HEC:=Xr (b6e oi (k,-1));have hel2:(Gc oi++[AV.li ((k:Nat):Int),AV.li (-1)]).length=(oi.length+1)*2:=by rw[W1,hel];simp;omega
    rw[hlb] at w9;clear hB2 hoi1 hoi2;generalize hWl:(W.getD k []).length=wl at *;rcases HGR.out with⟨hk0,hc0,hs0⟩|⟨hk0,hs0,hB1,hB2,hB3,hB4⟩
    .subst hs0;have HZ:=Xr (And.intro hk0 hc0);clear hk0 hc0
     iterate 8 all_goals try first|apply spl<;>intro h|simp (disch:=first|assumption|omega|simp) [*]
     all_goals try (exfalso;omega)
     refine ih.out (T.length-(k+1)) _ _ (by omega) ⟨k+1,_,n3+1,_,.slq (n3+1) 0 (oi++[(k,-1)]).length 0,D,oi++[(k,-1)],by omega,rfl,rfl,by omega,⟨λb hb=>?_⟩,?_,?_,hD,HDN,HON,⟨.inr ⟨?_,rfl,by omega,by omega,?_,?_⟩⟩,by simp[*],by simp[*],by simp[HZ.out.1],by simp[*,HSW.out],by simp[*]⟩
     .simp (disch:=omega) only[Ad,Ae];exact(HGI.out b hb).trans (HG.out b hb)
     .simp (disch:=omega) only[Ad,Ae];exact hgn
     .simp (disch:=omega) only[Ad,Ae];exact hgD
     .simp
     .rw[HEC.out,HZ.out.2];simp (disch:=omega) only[Ad,Ae,Ah];rfl
     .rw[Oa]
    .subst hs0
     iterate 8 all_goals try first|apply spl<;>intro h|simp (disch:=first|assumption|omega|simp) [*]
     all_goals try (exfalso;omega)
     refine ih.out (T.length-(k+1)) _ _ (by omega) ⟨k+1,_,n3+1,_,.slq (n3+1) 0 (oi++[(k,-1)]).length 0,D,oi++[(k,-1)],by omega,rfl,rfl,by omega,⟨λb hb=>?_⟩,?_,?_,hD,HDN,HON,⟨.inr ⟨?_,rfl,by omega,by omega,?_,?_⟩⟩,by simp[*],by simp[*],by simp,by simp[*,HSW.out],by simp[*]⟩
     .simp (disch:=omega) only[Ad,Ae];exact(HGI.out b hb).trans (HG.out b hb)
     .simp (disch:=omega) only[Ad,Ae];exact hgn
     .simp (disch:=omega) only[Ad,Ae];exact hgD
     .simp
     .rw[HEC.out];simp (disch:=omega) only[Ad,Ae,Ah]
     .rw[Oa]
   .have hlb:Dw row=false:=by simpa using hlb
    have HON:Aa (oi=endsM (T.take (k+1)) 0):=⟨by rw[HES.out,HOI.out];unfold Ga;rw[hlb];simp⟩;rw[hlb] at w9;have hlo:=D4.slice HGR.out;have hlo2:=@Au prog _ _ _ _ _ hlo;generalize hWl:(W.getD k []).length=wl at *
    iterate 8 all_goals try first|apply spl<;>intro h|simp (disch:=first|assumption|omega|simp) [*]
    all_goals try (exfalso;omega)
    refine ih.out (T.length-(k+1)) _ _ (by omega) ⟨k+1,_,B,_,ov,D,oi,by omega,rfl,rfl,by omega,⟨λb hb=>?_⟩,?_,?_,hD,HDN,HON,HGR,by simp[*]⟩
    .exact(HGI.out b hb).trans (HG.out b hb)
    .exact hgn
    .exact hgD
 .have hltI:¬(k:Int)<(T.length:Int):=by omega
  have hkT:k=T.length:=by omega
  have hoE:out=E:=by rw[HOUT.out,hkT,Xl];exact HEE.out.symm
  subst hoE
  iterate 8 all_goals try first|apply spl<;>intro h|simp (disch:=first|assumption|omega|simp) [*]
  refine⟨_,_,B,_,⟨rfl,rfl,rfl⟩,by omega,HG.out,?_⟩;rcases HGR.out with h|⟨a1,a2,a3,a4,a5,a6⟩
  .exact .inl h
  .exact .inr ⟨a1,a2,by omega,a4,a5,a6⟩
def Bh(T:Tq):Int->Wd->Wd
 | _,[]=>[]
 | a,i::w=>if ((T.getD a.toNat []).getD i.toNat (-1,-1)).1 = -1 then [-1] else ((T.getD a.toNat []).getD i.toNat (-1,-1)).2::Bh T ((T.getD a.toNat []).getD i.toNat (-1,-1)).1 w
theorem b6f{T:Tq}{a:Nat}{w:Wd}(f:a<T.length)(hi:i<(T[a]).length):Bh T ((a:Nat):Int) (((i:Nat):Int)::w)=if (T[a][i]).1 = -1 then [-1] else (T[a][i]).2::Bh T (T[a][i]).1 w:=by
 grind[Bh]
def EdO(T:Tq)(p j t:Nat)(o:Int):Prop:=∃(hp:p<T.length)(hj:j<(T[p]).length),T[p][j]=(((t:Nat):Int),o)
theorem EdT.out{T:Tq}{p j t:Nat}(h:EdT T p j t):∃o,EdO T p j t o:=by
 have f:=h.lt;obtain⟨e,A,U⟩:=h;rw[Xo,W5 f] at A;obtain⟨D,Q⟩:=W8.1 A;have Z:T[p][j]=e:=Q;exact⟨e.2,f,D,by grind⟩
theorem EdO.ed{T:Tq}{p j t:Nat}{o:Int}(h:EdO T p j t o):EdT T p j t:=by
 obtain⟨f,A,e⟩:=h;exact⟨_,by rw[Xo,W5 f];exact W5 A,by rw[e]⟩
theorem EdO.step{T:Tq}{p j t:Nat}{o:Int}(h:EdO T p j t o)(y:Wd):Bh T ((p:Nat):Int) (((j:Nat):Int)::y)=o::Bh T ((t:Nat):Int) y:=by
 obtain⟨f,A,e⟩:=h;simp_all[b6f]
theorem a5q{T:Tq}{W:Wq}(f:Lab T W):∀(n t:Nat),t<=n->t<T.length->∀y,Bh T 0 (W.getD t []++y)=Bh T 0 (W.getD t [])++Bh T ((t:Nat):Int) y
 | n,0,_,_,y=>by rw[f.nil];rfl
 | 0,t+1,h,_,_=>by omega
 | n+1,t+1,h,U,y=>by
  obtain⟨p,j,A⟩:=f.src (t+1) (by omega) U;obtain⟨_,_,h3,Z⟩:=f.ed p j _ A;obtain⟨o,D⟩:=A.out;have Q:=a5q f n p (by omega) A.lt;rw[Z,e5z,Q,Q];rw[List.singleton_append,D.step,D.step];simp[Bh]
theorem b6g{T:Tq}{W:Wq}(f:Lab T W){p j t:Nat}{o:Int}(h:EdO T p j t o):Bh T 0 (W.getD t [])=Bh T 0 (W.getD p [])++[o]:=by
 obtain⟨_,_,_,A⟩:=f.ed p j t h.ed;rw[A,a5q f p p (Wy _) h.ed.lt,h.step];rfl
def bkM(T:Tq)(W:Wq):Lq:=(endsM T 0).map λs=>(eW W s,Bh T 0 (eW W s))
theorem b6h{T:Tq}{W:Wq}(A:Lab T W){k i:Nat}(f:k<T.length)(hi:i<(T[k]).length)(h:T[k][i]=(-1,-2)):Bh T 0 (eW W (k,(i:Int)))=Bh T 0 (W.getD k [])++[-1]:=by
 unfold eW;dsimp only;rw[if_neg (by omega),a5q A k k (Wy _) f,b6f f hi,h,if_pos rfl]
theorem b6i{I O:Int}{T:Tq}{W:Wq}(A:Lab T W)(h0:0<T.length)(D:∀r∈T,∀e∈r,e.1 = -1\/(0<=e.1/\e.1<T.length)):0<(endsM T 0).length:=by
 have f:T.length-1<T.length:=by omega
 have a0:∀(i:Nat)(hi:i<(T[T.length-1]).length),(T[T.length-1][i]).1 = -1:=by
  intro i hi;rcases D _ (W2 f) _ (W2 hi) with h|h
  .exact h
  .obtain⟨t,Q⟩:∃t:Nat,(T[T.length-1][i]).1=(t:Int):=⟨(T[T.length-1][i]).1.toNat,by omega⟩;have U:EdT T (T.length-1) i t:=⟨_,by grind,Q⟩;have:=A.ed _ _ _ U;omega
 by_cases Z:∃i,∃hi:i<(T[T.length-1]).length,T[T.length-1][i]=(-1,-2)
 .obtain⟨i,hi,h⟩:=Z;exact e7k (Mt.2 (.inl ⟨_,f,i,hi,h,rfl⟩))
 .refine e7k (Mt.2 (.inr ⟨_,f,?_,rfl⟩));unfold Dw;rw[W7];intro e he;obtain⟨i,hi,rfl⟩:=e6l he;grind
def sumT:Lq->Nat
 | []=>0
 | t::ts=>t.1.length+sumT ts
theorem sumT_app:∀(a b:Lq),sumT (a++b)=sumT a+sumT b
 | [],b=>by simp[sumT]
 | t::a,b=>by show t.1.length+sumT (a++b)=(t.1.length+sumT a)+sumT b;rw[sumT_app a b];omega
theorem e3h(ts:Lq)(k:Nat):sumT (ts.take k)<=sumT ts:=by
 have:=sumT_app (ts.take k) (ts.drop k);rw[e7f] at this;omega
theorem e3i{ts:Lq}(hI:I<=16)(hO:O<=16)(hl:ts.length<=1024)(Z:∀t∈ts,t.1.length<=256)(hs:sumT ts<=65536)(g:Gb)(n:Nat)(sv:AV)(D:Du g n ts sv):
  WC 0 prog 100 [.agg [.li I,.li O,sv]] ⟨.fn g,n⟩ λr=>r=.ret (.lit (.bool true)) ⟨.fn g,n⟩:=by
 refine X0 rfl ?_;have b0:=@Au prog _ _ _ _ _ D.choose_spec.1;have a4:=D.choose_spec.1.one;have b1:allOne [.li I,.li O,sv]=true:=by simp[a4]
 have HT:=Xr D;have HW:=Xr Z;clear D Z;refine ent [] func100 ?_;simp (disch:=first|omega|simp) [*];refine Xv (λm f H'=>∃(k st n' : Nat)(gL:Gb),k<=ts.length/\m=ts.length-k/\H'=⟨.fn gL,n'⟩/\n<n'/\Aa (∀b,b<n->gL b=g b)/\gL n=some (.cells [.li I,.li O,sv] true 0) /\
  Aa (st=sumT (ts.take k))/\f 1=some (.ptr n 0)/\f 3=some (.li st)/\f 7=some sv/\f 8=some (.li ts.length)/\f 9=some (.li k)) (m0:=ts.length) ?_ ?_
 .exact⟨0,0,_,_,W3 _,rfl,rfl,e8w n,⟨λb A=>Ad A⟩,Ah,⟨rfl⟩,by simp[*]⟩
 rintro m f H' ⟨k,st,n',gL,hk,rfl,rfl,a0,Q,a5,a6,w1,w3,w7,w8,w9⟩ ih;refine rnd [] ?_;by_cases U:k<ts.length
 .have a7:(k:Int)<(ts.length:Int):=by omega
  obtain⟨a2,off,s1,s2,a1⟩:=(HT.out.mono (Xp a0) Q.out).at U;have h:=Xr a1;clear a1;have b2:∀{H:Mem}{ev:Ev}{o:Oper}{ty:TypeId},iaS prog H ev o ty (some (none,2)) (some sv) (some (.li (k:Int)))=.val (.ptr a2 (off+k*2)) H:=λ{H ev o ty}=>h.out.ia;have b3:=h.out.agg;have b4:=@Au prog _ _ _ _ _ h.out.r1;have a8:=h.out.r1.one;have a9:=h.out.r2.one;have b5:allOne [s1,s2]=true:=by simp[a8,a9]
  have b6:=HW.out _ (W2 U);have a3:Aa (sumT (ts.take (k+1))=st+ts[k].1.length):=⟨by rw[Df U,sumT_app,a6.out];rfl⟩;have b7:st+ts[k].1.length<=65536:=by rw[<- a3.out];exact W6 (e3h ts _) hs
  clear h;generalize ts[k]=t at *;have b8:¬256<(t.1.length:Int):=by omega
  have b9:¬1024<=(k:Int):=by omega
  have c0:¬65536<(st:Int)+(t.1.length:Int):=by omega
  simp (disch:=first|omega|simp) [*];exact ih.out (ts.length-(k+1)) _ _ (by omega) ⟨k+1,st+t.1.length,_,_,by omega,rfl,rfl,by omega,⟨λb A=>(Ad (by omega)).trans (Q.out b A)⟩,(Ad (by omega)).trans a5,⟨a3.out.symm⟩,by simp[*]⟩
 .have a7:¬(k:Int)<(ts.length:Int):=by omega
  simp (disch:=first|omega|simp) [*];exact⟨Xp a0,λb A=>Q.out b A⟩
theorem endC_at:∀(E:List (Nat×Int)) (k:Nat) (h:k<E.length),((Gc E).drop (k*2)).take 2=[.li ((E[k].1:Nat):Int),.lit (.int .i64 E[k].2)]
 | e::E,0,_=>rfl
 | e::E,k+1,h=>by
  have:=endC_at E k (by simpa using h);have f:Gc (e::E)=[.li ((e.1:Nat):Int),.li e.2]++Gc E:=rfl;rw[f,show (k+1)*2=2+k*2 by omega,<- e8q];exact this
theorem e3j{E:List (Nat×Int)}{f:AV}(h:Af g n f E.length (Gc E)){k:Nat}(A:k<E.length):∃a off,a<n/\(∀{H:Mem}{ev:Ev}{o:Oper}{t:TypeId},iaS prog H ev o t (some (none,2)) (some f) (some (.li (k:Int)))=.val (.ptr a (off+k*2)) H)/\Bf (some (true,2)) (g a) (off+k*2)=some (.agg [.li ((E[k].1:Nat):Int),.lit (.int .i64 E[k].2)]):=by
 obtain⟨a,off,Q,U,Z⟩:=h.ia (P:=prog) A 2;have D:=U.agg (k:=k*2) (s:=2) (by rw[Oa];omega);rw[endC_at E k A] at D;exact⟨a,off,Q,Z,D⟩
theorem b6j{row:List (Int×Int)}{q:AV}(h:Af g n q row.length (Ar row)){i:Nat}(hi:i<row.length):∃a off,a<n/\(∀{H:Mem}{ev:Ev}{o:Oper}{t:TypeId},iaS prog H ev o t (some (none,2)) (some q) (some (.li (i:Int)))=.val (.ptr a (off+i*2)) H)/\Bf (some (false,1)) (g a) (off+i*2+1)=some (.lit (.int .i64 row[i].2)):=by
 obtain⟨a,off,A,D,Q⟩:=h.ia (P:=prog) hi 2;have f:=D.one (k:=i*2+1) (s:=1) (by rw[rowC_len];omega);have U:=(O9 row i hi).2;rw[(W8.1 U).2] at f;exact⟨a,off,A,Q,by rw[e7w];exact f⟩
end Go.Ai
