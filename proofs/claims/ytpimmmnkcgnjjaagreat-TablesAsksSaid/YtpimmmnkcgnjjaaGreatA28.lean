/- Parts of an interpreter and of a proof. No condition. -/
import Derived.Test.YtpimmmnkcgnjjaaGreatA12
import Derived.Test.YtpimmmnkcgnjjaaGreatA16
import Derived.Test.YtpimmmnkcgnjjaaGreatA05
import Derived.Test.YtpimmmnkcgnjjaaGreatA10
import Derived.Test.YtpimmmnkcgnjjaaGreatA27
import Derived.Test.YtpimmmnkcgnjjaaGreatA06
import Derived.Test.YtpimmmnkcgnjjaaGreatA19
set_option linter.all false
set_option maxHeartbeats 40000000
set_option maxRecDepth 10000
open Go.Proofs Go.Proofs.Tryz
namespace Go.Ai
variable {O I:Int}{w:Wd}{n i:Nat}{l:Wq}{s:Nat×Int}
def zeroTab:AV:=.agg [.li 0,.li 0,.nl,.nl,.li 0,.li 0,.nl]
def e3o(I:Nat)(O:Int)(er:Int)(S E:Wq)(T:Tq)(g:Gb)(n:Nat)(rv:AV):Prop:=
 (er≠0/\rv=zeroTab)\/(er=0/\∃sv ev tv,rv=.agg [.li I,.li O,sv,ev,.li I,.li O,tv]/\D3 g n S E T sv ev tv/\K6 S.length sv/\K6 E.length ev)
theorem V5(a b:Wd)(b9:a.length<=1000000)(a5:b.length<=1000000)(g:Gb)(n:Nat)(sa sb:AV)(ha:Al g n a sa)(hb:Al g n b sb):
  WC 0 prog 61 [sa,sb] ⟨.fn g,n⟩ λr=>r=.ret (.li (A4 a b)) ⟨.fn g,n⟩:=by
 have c0:=@Ap prog _ _ _ _ _ ha;have a6:=@Ap prog _ _ _ _ _ hb;have HA:=Xu ha;have HB:=Xu hb;clear ha hb;obtain⟨A,h⟩:∃c,c=A4 a b:=⟨_,rfl⟩;rw[<- h];unfold A4 at h;by_cases t1:a.length<b.length
 .have a7:(a.length:Int)<(b.length:Int):=by omega
  have a8:¬((a.length:Int)=(b.length:Int)):=by omega
  have U:A = -1:=by rw[h,if_pos t1]
  clear h;refine ent pl61 func61 ?_;simp (disch:=first|omega|simp) [*]
 rw[if_neg t1] at h;by_cases t2:b.length<a.length
 .have c1:(b.length:Int)<(a.length:Int):=by omega
  have a8:¬((a.length:Int)=(b.length:Int)):=by omega
  have a7:¬(a.length:Int)<(b.length:Int):=by omega
  have U:A=1:=by rw[h,if_pos t2]
  clear h;refine ent pl61 func61 ?_;simp (disch:=first|omega|simp) [*]
 rw[if_neg t2] at h;have hL:b.length=a.length:=by omega
 have HL:=Xu hL;have a9:=Xu h;rw[hL] at a6;clear t1 t2 hL a5 h;refine ent pl61 func61 ?_;simp (disch:=first|omega|simp) [*];refine Xy (λm Z H'=>∃(k:Nat),k<=a.length/\m=a.length-k/\H'=⟨.fn g,n⟩/\Aa (A=lexC (a.drop k) (b.drop k))/\Z 0=some sa/\Z 1=some sb/\Z 5=some (.li k)) (m0:=a.length) ?_ ?_
 .exact⟨0,W3 _,rfl,rfl,a9,by simp[*]⟩
 rintro m Z H' ⟨k,hk,rfl,rfl,a0,w0,w1,w5⟩ ih;refine rnd pl61 ?_;by_cases D:k<a.length
 .have b0:(k:Int)<(a.length:Int):=by omega
  have Q:k<b.length:=by rw[HL.out];exact D
  obtain⟨a2,off,b1,a1,b3⟩:=X4 (P:=prog) HA.out D 1;obtain⟨b2,c2,b4,a3,b5⟩:=X4 (P:=prog) HB.out Q 1;simp only[Xj] at b3 b5;have b6:=a1.one (k:=k) (s:=1) (by rw[A9];exact D);have b7:=a3.one (k:=k) (s:=1) (by rw[A9];exact Q);rw[(W8.1 (Hv a k D)).2] at b6;rw[(W8.1 (Hv b k Q)).2] at b7;have hp:=a0.out;rw[Xd D,Xd Q] at hp;have HP:=Xu hp;clear hp a0 a1 a3 b1 b4;generalize a[k]=u at *;generalize b[k]=v at *;clear Q;by_cases t1:u<v
  .have U:A = -1:=by rw[HP.out];unfold lexC;rw[if_pos t1]
   simp (disch:=first|omega|simp) [*]
  by_cases t2:v<u
  .have U:A=1:=by rw[HP.out];unfold lexC;rw[if_neg t1,if_pos t2]
   simp (disch:=first|omega|simp) [*]
  .have b8:Aa (A=lexC (a.drop (k+1)) (b.drop (k+1))):=⟨by rw[HP.out];show (if u<v then -1 else if v<u then 1 else lexC (a.drop (k+1)) (b.drop (k+1)))=_;rw[if_neg t1,if_neg t2]⟩;simp (disch:=first|omega|simp) [*];exact ih.out (a.length-(k+1)) _ _ (by omega) ⟨k+1,by omega,rfl,rfl,b8,by simp[*]⟩
 .have b0:¬(k:Int)<(a.length:Int):=by omega
  have a4:k=a.length:=by omega
  have U:A=0:=by
   rw[a0.out,a4,e7e,<- HL.out,e7e];rfl
  clear a4;simp (disch:=first|omega|simp) [*]
theorem V6(a:Wd):A4 a a=0:=by
 unfold A4;rw[if_neg (Nat.lt_irrefl _),if_neg (Nat.lt_irrefl _)]
 induction a with
 | nil=>rfl
 | cons x a h =>
  unfold lexC;rw[if_neg (Int.lt_irrefl _),if_neg (Int.lt_irrefl _)];exact h
theorem e3p{a b:Wq}(b7:a.length<=100000)(b8:b.length<=100000)(a8:∀w∈a,w.length<=1000000)(a9:∀w∈b,w.length<=1000000)(g:Gb)(n:Nat)(U bv:AV)(Z:Bs g n a U)(hb:Bs g n b bv):
  WC 0 prog 17 [U,bv] ⟨.fn g,n⟩ λr=>r=.ret (.lit (.bool (decide (a=b)))) ⟨.fn g,n⟩:=by
 have b9:=@Ap prog _ _ _ _ _ Z.choose_spec.1;have c0:=@Ap prog _ _ _ _ _ hb.choose_spec.1;have HA:=Xu Z;have HB:=Xu hb;have HC:=Xu λ(x y:Wd)(hx:x∈a)(hy:y∈b)(xv yv:AV)(D:Al g n x xv) (h2:Al g n y yv)=>V5 x y (a8 x hx) (a9 y hy) g n xv yv D h2;clear Z hb a8 a9;obtain⟨a0,a1⟩:∃x,x=decide (a=b):=⟨_,rfl⟩;rw[<- a1];have a4:=Xu a1;clear a1;by_cases hl:a.length=b.length
 .have b4:(a.length:Int)=(b.length:Int):=by omega
  refine ent pl17 func17 ?_;simp (disch:=first|omega|simp) [*];refine Xy (λm Q H'=>∃k:Nat,k<=b.length/\m=b.length-k/\H'=⟨.fn g,n⟩/\Aa (a.take k=b.take k)/\Q 0=some U/\Q 1=some bv/\Q 5=some (.li k)) (m0:=b.length) ?_ ?_
  .exact⟨0,W3 _,rfl,rfl,⟨by simp⟩,by simp[*]⟩
  rintro m Q H' ⟨k,hk,rfl,rfl,HT,w0,w1,w5⟩ ih;refine rnd pl17 ?_;by_cases a5:k<b.length
  .have b5:(k:Int)<(b.length:Int):=by omega
   have a6:k<a.length:=by omega
   obtain⟨a2,o2,qa,c1,c2,c6,b0⟩:=HA.out.at a6;obtain⟨a3,o3,qb,c7,c8,c9,b1⟩:=HB.out.at a5;have b6:=Xu (HC.out a[k] b[k] (W2 a6) (W2 a5) qa qb b0 b1);have b2:=Xu (Bv a6);have b3:=Xu (Bv a5);clear b0 b1;generalize a[k]=x at *;generalize b[k]=y at *;simp (disch:=first|omega|simp) [*];refine Xv b6.out ?_;rintro _ rfl;by_cases a7:x=y
   .subst a7;rw[V6];simp (disch:=first|omega|simp) [*];exact ih.out (b.length-(k+1)) _ _ (by omega) ⟨k+1,by omega,rfl,rfl,⟨by rw[b2.out,b3.out,HT.out]⟩,by simp[*]⟩
   .have A:a0=false:=by
     rw[a4.out];refine decide_eq_false λh=>a7 ?_;have D:=b2.out;rw[h,b3.out,<- h,HT.out] at D;have:=List.append_cancel_left D;simpa using this.symm
    have e0:¬A4 x y=0:=λh=>a7 (K4 h);subst A;simp (disch:=first|omega|simp) [*]
  .have b5:¬(k:Int)<(b.length:Int):=by omega
   have A:a0=true:=by
    rw[a4.out];refine decide_eq_true ?_;have:=HT.out
    rwa [Xi (by omega),Xi (by omega)] at this
   subst A;simp (disch:=first|omega|simp) [*]
 .have b4:¬(a.length:Int)=(b.length:Int):=by omega
  have A:a0=false:=by rw[a4.out];exact decide_eq_false λh=>hl (by rw[h])
  subst A;refine ent pl17 func17 ?_;simp (disch:=first|omega|simp) [*]
theorem b6f{a b:Wd}(h:SL a b):0<A4 b a:=by
 rcases e8p (A4 b a) 0 with A|A|A
 .exact absurd (h.trans (Fa.1 A)) X9
 all_goals grind[SL.irrefl,K4]
theorem b6g:∀{l:Wq}{k:Nat},k<=l.length->(∀j (h:j<l.length),j<k->SL l[j] w)->(∀h:k<l.length,SL w l[k])->Be w l=l.take k++w::l.drop k
 | [],k,Q,_,_=>by simp[Be]
 | x::l,0,_,_,A=>by
  simp_all[Be,Fa]
 | x::l,k+1,Q,D,A=>by
  have U:SL x w:=D 0 (by simp) (by omega);have Z:=b6f U;unfold Be;rw[if_neg (by omega),if_neg (by omega),b6g (k:=k) (by grind) (λj hj a0=>D (j+1) (by grind) (by omega)) (λh=>A (by grind))];rfl
theorem b6h:∀{l:Wq},B8 l->w∈l->Be w l=l
 | [],_,h=>by cases h
 | x::l,A,h=>by
  obtain⟨D,Q⟩:=Vn.1 A;unfold Be;rcases Xb.1 h with rfl|h
  .rw[V6,if_neg (by omega),if_pos rfl]
  .have U:=b6f (D w h)
   (simp_all[b6h];grind)
def Bp(l:Wq):Wq:=l.foldl (λa w=>Be w a) []
theorem a5o:Bp (l++[w])=Be w (Bp l):=by grind[Bp]
theorem b6i(l:Wq):B8 (Bp l):=by
 refine Py (P:=λl=>B8 (Bp l)) (λa b h=>by cases h) (λl x A=>?_) l;grind[a5o,Vo]
theorem J5{x:Wd}:x∈Bp l↔x∈l:=by
 refine Py (P:=λl=>x∈Bp l↔x∈l) Iff.rfl (λl y h=>?_) l;rw[a5o,Po,h,W9,Xh,or_comm]
theorem b6j {w:Wd} : ∀ {l:Wq},(Be w l).length≤l.length+1
 | []=>by simp [Be]
 | x :: l=>by
  have:=b6j (w:=w) (l:=l);unfold Be;split
  ·simp
  ·split <;> simp <;> omega
theorem Sp(l:Wq):(Bp l).length<=l.length:=by
 refine Py (P:=λl=>(Bp l).length<=l.length) (Wy _) (λl y h=>?_) l;grind[Bp,b6j]
theorem e3q(h:∀(i j:Nat)(_:i<j)(A:j<l.length),0<=A4 l[j] (l[i]'(by omega))):B8 (Bf l):=by
 revert h;refine Py (P:=λl=>(∀(i j:Nat)(_:i<j)(A:j<l.length),0<=A4 l[j] (l[i]'(by omega)))->B8 (Bf l)) (λ_ a b ha=>by cases ha) (λl x ih h=>?_) l;have D:=ih λi j a2 A=>by
  grind
 rw[V4];split
 .grind
 .rename_i a0;refine D.snoc λw Q=>?_;have hx:∀i (hi:i<l.length),0<=A4 x l[i]:=λi hi=>by
   grind
  have U:∀v∈l,SL v x\/v=x:=λv hv=>by
   obtain⟨i,hi,rfl⟩:=e6p hv;grind[K4,Se]
  rcases U w (a5n.1 Q) with h3|rfl
  .grind
  .exfalso;apply a0
   cases hl:(Bf l).getLast? with
   | none =>
    grind
   | some z =>
    have hz:z∈Bf l:=List.mem_of_getLast? hl;obtain⟨i,hi,e⟩:=e6p Q;have a1:(Bf l)[(Bf l).length-1]'(by omega)=z:=by
     grind
    by_cases a3:i=(Bf l).length-1
    .grind
    .exfalso;have Z:=D i ((Bf l).length-1) hi (by omega) (by omega);rw[e,a1] at Z;rcases U z (a5n.1 hz) with h6|h6
     .exact X9 (Z.trans h6)
     grind
theorem e3r{A:Wq}(D:A.Perm l)(h:∀(i j:Nat)(_:i<j)(Q:j<A.length),0<=A4 A[j] (A[i]'(by omega))):Bf A=Bp l:=
 srt_eq (e3q h) (b6i l) λx=>by grind[J5,a5n]
def e5v(g:Gb)(lo n:Nat)(r:Option (Wd))(rv:AV):Prop:=match r with
 | none=>rv=.nl
 | some r=>∃B,lo<=B/\B<n/\rv=.sl B 0 r.length r.length/\g B=some (.cells (wdC r) true 0)
structure Lab (T:Tq) (W:Wq):Prop where
 len:W.length=T.length
 nil:W.getD 0 []=[]
 ed:∀p j t,EdT T p j t->t<T.length/\1<=t/\p<t/\W.getD t []=W.getD p []++[(j:Int)]
 src:∀t,1<=t->t<T.length->∃p j,EdT T p j t
 inc:∀a b,a<b->b<T.length->SL (W.getD a []) (W.getD b [])
theorem e3s{T:Tq}(D:∀r∈T,∀e∈r,okE T.length O e=true)(h1:1<=T.length):(Bd T).getD 0 []=[]:=by
 cases Q:wR T T.length 0 (F1 T.length) with
 | none=>grind[Bd]
 | some s =>
  have U:Bd T=if s.many<T.length then [] else s.out:=by grind[Bd]
  by_cases A:s.many<T.length
  .grind
  rw[U,if_neg A];have Z:∀m,Sn (F1 T.length) m->m=0:=λm A=>by
   have h2:((List.replicate T.length false).set 0 true).getD m false=true:=A;grind
  have a0:∀m,(F1 T.length).out.getD m []=[]:=λm=>by
   show (List.replicate T.length ([]:Wd)).getD m []=[];grind
  have a3:Jt T (F1 T.length):=by
   refine⟨by simp[F1],by simp[F1],?_,a0 0,?_,λm A h=>absurd (Z m A) h⟩
   .show ((List.replicate T.length false).set 0 true).getD 0 false=true;grind
   .show 1=((List.replicate T.length false).set 0 true).count true;grind
  obtain⟨a1,a2⟩:=a3e D T.length 0 _ s rfl a3 (λm A=>by grind) (λm A h=>by omega) (by show 0+1<=1;omega) Q;exact a1.o0
theorem e3t{T:Tq}(h:Ej I O T=0):Lab T (Bd T):=by
 have A:=d5d I O T;rw[h] at A;unfold Ej at h;by_cases U:I > 16\/O > 16\/T.length > 65537
 .grind
 rw[if_neg U] at h;by_cases Z:I<1\/O<1\/T.length<1
 .grind
 rw[if_neg Z] at h;by_cases c3:goT I O T 0 1=some T.length
 .have a0:=λr A=>(Rt c3 (Wy _) (Wy _) r A).2;unfold a3c at A;rw[if_neg U,if_neg Z] at A;have h1:1<=T.length:=by omega
  have a4:(Bd T).length=T.length/\Ri (Bd T)=true:=by
   grind
  obtain⟨D,a5⟩:=a4;obtain⟨l1,l2⟩:=b1n a0 h1 D;have Q:=b1i a5;rw[D] at Q;refine⟨D,e3s a0 h1,λp j t hE=>?_,l2,Q⟩;obtain⟨a1,a2,a3⟩:=l1 p j t hE;refine⟨a1,a2,?_,a3⟩;by_cases a6:p<t
  .grind
  .have a7:((Bd T).getD t []).length<=((Bd T).getD p []).length:=by
    by_cases e:t=p
    .grind
    .exact(Q t p (by omega) hE.lt).le
   grind
 grind
theorem Lab.inj{T:Tq}{W:Wq}(h:Lab T W){a b:Nat}(D:a<T.length)(Q:b<T.length)(U:W.getD a []=W.getD b []):a=b:=by
 rcases e9c a b with A|A|A
 .have:=h.inc a b A Q;grind[SL.irrefl]
 .grind
 .have:=h.inc b a A D;grind[SL.irrefl]
theorem Lab.uniq{T:Tq}{W:Wq}(h:Lab T W){p j A D t:Nat}(Q:EdT T p j t)(U:EdT T A D t):p=A/\j=D:=by
 obtain⟨_,_,a3,a4⟩:=h.ed p j t Q;obtain⟨_,_,b3,Z⟩:=h.ed A D t U;rw[a4] at Z;obtain⟨e1,e2⟩:=J0 Z;exact⟨h.inj Q.lt U.lt e1,by omega⟩
theorem Lab.le{T:Tq}{W:Wq}(h:Lab T W):∀(n t:Nat),t<=n->t<T.length->(W.getD t []).length<=t
 | 0,t,D,_=>by
  have:t=0:=by omega
  subst this;rw[h.nil];grind
 | n+1,t,D,Q=>by
  by_cases U:t=0
  .subst U;rw[h.nil];grind
  .obtain⟨p,j,A⟩:=h.src t (by omega) Q;obtain⟨_,_,e3,e4⟩:=h.ed p j t A;have:=h.le n p (by omega) A.lt;grind
def C7(n:Nat):List (Int×Int)->Nat->List (Nat×Int)
 | [],_=>[]
 | e::l,i=>(if e.1 = -1/\e.2 = -2 then [(n,(i:Int))] else [])++C7 n l (i+1)
def Ec(row:List (Int×Int)):Bool:=row.all λe=>decide (e.1 = -1/\¬e.2 = -2)
def F8(n:Nat)(row:List (Int×Int)):List (Nat×Int):=C7 n row 0++if Ec row=true then [(n,-1)] else []
def endsM:Tq->Nat->List (Nat×Int)
 | [],_=>[]
 | r::l,n=>F8 n r++endsM l (n+1)
theorem a5p(n:Nat):∀(a b:List (Int×Int)) (i:Nat),C7 n (a++b) i=C7 n a i++C7 n b (i+a.length)
 | [],b,i=>by rfl
 | e::a,b,i=>by
  show _++C7 n (a++b) (i+1)=(_++C7 n a (i+1))++_;rw[a5p n a b (i+1),e6c,Xk,show i+1+a.length=i+(a.length+1) by omega]
theorem e3u{row:List (Int×Int)}(h:i<row.length):C7 n (row.take (i+1)) 0=C7 n (row.take i) 0++if (row[i]).1 = -1/\(row[i]).2 = -2 then [(n,(i:Int))] else []:=by
 rw[Bv h,a5p,W4,e5z (by omega),e6u];simp[C7]
theorem e3v{row:List (Int×Int)}(h:i<row.length):Ec (row.take (i+1))=(Ec (row.take i)&&decide ((row[i]).1 = -1/\¬(row[i]).2 = -2)):=by
 grind[Ec,Bv]
theorem endsM_app:∀(a b:Tq)(n:Nat),endsM (a++b) n=endsM a n++endsM b (n+a.length)
 | [],b,n=>by rfl
 | r::a,b,n=>by
  show F8 n r++endsM (a++b) (n+1)=(F8 n r++endsM a (n+1))++_;rw[endsM_app a b (n+1),e6c,Xk,show n+1+a.length=n+(a.length+1) by omega]
theorem e3w{T:Tq}(h:n<T.length):endsM (T.take (n+1)) 0=endsM (T.take n) 0++F8 n T[n]:=by
 rw[Bv h,endsM_app,W4,e5z (by omega),e6u];simp[endsM]
theorem e3x(T:Tq)(n:Nat):∃r,endsM T 0=endsM (T.take n) 0++r:=by
 grind[List.take_append_drop,endsM_app]
def eW(W:Wq)(s:Nat×Int):Wd:=W.getD s.1 []++if s.2 = -1 then [] else [s.2]
def Ca(W:Wq):List (Nat×Int)->Nat
 | []=>0
 | s::l=>(eW W s).length+Ca W l
theorem V7(W:Wq):∀(a b:List (Nat×Int)),Ca W (a++b)=Ca W a+Ca W b
 | [],b=>by simp[Ca]
 | s::a,b=>by
  show (eW W s).length+Ca W (a++b)=((eW W s).length+Ca W a)+Ca W b;rw[V7 W a b];omega
theorem b6k{W:Wq}{k:Nat}:∀{l:List (Nat×Int)},(∀s∈l,(eW W s).length<=k)->Ca W l<=l.length*k
 | [],_=>by simp[Ca]
 | s::l,h=>by
  have A:=h s (by simp);have D:=b6k (l:=l) λx hx=>h x (by grind)
  (simp_all[Ca];grind)
theorem V8:∀{row:List (Int×Int)} {i:Nat},s∈C7 n row i↔∃k,∃h:k<row.length,row[k].1 = -1/\row[k].2 = -2/\s=(n,((i+k:Nat):Int))
 | [],i=>by simp[C7]
 | e::row,i=>by
  (simp_all[C7,V8];grind)
theorem b6l:∀{T:Tq}{n:Nat},s∈endsM T n↔∃k,∃h:k<T.length,s∈F8 (n+k) T[k]
 | [],n=>by simp[endsM]
 | r::T,n=>by
  unfold endsM;rw[W9,b6l];constructor
  .rintro (h|⟨k,D,A⟩)
   .exact⟨0,by simp,h⟩
   .exact⟨k+1,by simpa using D,by rw[show n+(k+1)=n+1+k by omega];simpa using A⟩
  .rintro⟨k,D,A⟩
   cases k with
   | zero=>exact .inl A
   | succ k=>exact .inr ⟨k,by simpa using D,by rw[show n+1+k=n+(k+1) by omega];simpa using A⟩
theorem M5{T:Tq}:s∈endsM T 0↔(∃k,∃h:k<T.length,∃i,∃hi:i<(T[k]).length,(T[k])[i]=(-1,-2)/\s=(k,(i:Int)))\/(∃k,∃h:k<T.length,Ec T[k]=true/\s=(k,-1)):=by
 rw[b6l];constructor
 .rintro⟨k,A,h⟩;rw[e6u] at h;unfold F8 at h;rcases W9.1 h with h|h
  .obtain⟨i,hi,D,Q,U⟩:=V8.1 h;grind
  grind
 (simp_all[V8,F8];grind)
def F9(l:List (Nat×Int)):List AV:=l.flatMap λs=>[.li ((s.1:Nat):Int),.li s.2]
theorem b6m(l:List (Nat×Int))(s:Nat×Int):F9 (l++[s])=F9 l++[.li ((s.1:Nat):Int),.li s.2]:=by
 unfold F9;rw[e9i];simp
theorem Og(l:List (Nat×Int)):(F9 l).length=l.length*2:=by
 induction l with
 | nil=>rfl
 | cons s l h=>unfold F9 at *;rw[e7f,W0,h,Xk];simp;omega
theorem e3y{I:Nat}{T:Tq}{W:Wq}(hI1:1<=I)(hI2:I<=16)(h0:0<T.length)(hl:T.length<=65537)(hgo:goT I O T 0 1=some T.length)(hLab:Lab T W)(hE:(endsM T 0).length<=1024)(hW:∀t,t<T.length->(W.getD t []).length<=256)(hS:Ca W (endsM T 0)<=65536)(g:Gb)(n:Nat)(tv:AV)(hT:Dv g n T tv):
  WC 0 prog 116 [.agg [.li I,.li O,tv]] ⟨.fn g,n⟩ λr=>∃g' n' B ov,r=.ret (.tup [ov,.lit (.bool true)]) ⟨.fn g',n'⟩/\n<=n'/\(∀b,b<n->g' b=g b)/\A6 g' n n' B ov (endsM T 0).length 2 (F9 (endsM T 0)):=by
 have hlen:=@Ap prog _ _ _ _ _ hT.choose_spec.1;have h1t:=hT.choose_spec.1.one;have hone:allOne [.li I,.li O,tv]=true:=by simp[h1t]
 have HOK:=Xu (okT_of hgo);have HT:=Xu hT;have HLB:=Xu hLab;have HW:=Xu hW;have HPR:=Xu λk=>e3x T k;have HSM:=Xu λ(a r:List (Nat×Int)) (h:endsM T 0=a++r)=>(show a.length<=1024/\Ca W a<=65536 from ⟨by rw[h,W0] at hE;omega,by rw[h,V7] at hS;omega⟩);have HST:=Xu λ(k:Nat)(h:k<T.length)=>e3w h;obtain⟨E,hEE⟩:∃E,E=endsM T 0:=⟨_,rfl⟩;rw[<- hEE] at hE |-;have HEE:=Xu hEE;clear hT hgo hLab hW hS hE hEE;have hW2:(T.length:Int)<=1048576:=by omega
 refine ent pl116 func116 ?_
 iterate 8 all_goals try first|apply spl<;>intro h|simp (disch:=first|assumption|omega|simp) [*]
 refine Xy (λm gf H'=>∃(k n2 B:Nat)(gL:Gb)(ov:AV)(D:List AV)(out:List (Nat×Int)),k<=T.length/\m=T.length-k/\H'=⟨.fn gL,n2⟩/\n+1+1<=n2/\Aa (∀b,b<n->gL b=g b)/\gL n=some (.cells [.li I,.li O,tv] true 0)/\gL (n+1)=some (.cells D true 0)/\D.length=T.length/\Aa (∀t,t<T.length->(t=0\/∃p j,EdT T p j t/\p<k)->D[t]?=some (.lit (.int .i64 (((W.getD t []).length:Nat):Int))))/\Aa (out=endsM (T.take k) 0)/\Aa (A6 gL (n+1+1) n2 B ov out.length 2 (F9 out)) /\
  gf 1=some (.ptr n 0)/\gf 4=some (.sl (n+1) 0 T.length T.length)/\gf 5=some ov/\gf 6=some (.li ((Ca W out:Nat):Int))/\gf 17=some tv/\gf 18=some (.li T.length)/\gf 19=some (.li k)) (m0:=T.length) ?_ ?_
 .refine⟨0,_,0,_,_,_,[],W3 _,rfl,rfl,Wy _,⟨λb hb=>?_⟩,?_,Ag,?_,⟨λt ht h=>?_⟩,⟨rfl⟩,⟨.inl ⟨rfl,rfl,rfl⟩⟩,by simp,by simp,by simp,by simp[Ca],by simp[*]⟩
  .simp (disch:=omega) only[Ad]
  .simp (disch:=omega) only[Ad,Ag]
  .simp
  .rcases h with rfl|⟨p,j,_,hp⟩
   .rw[HLB.out.nil,List.getElem?_replicate,if_pos ht];rfl
   .omega
 rintro m gf H' ⟨k,n2,B,gL,ov,D,out,hk,rfl,rfl,hn2,HG,hgn,hgD,hD,HD,HOUT,HGR,w1,w4,w5,w6,w17,w18,w19⟩ ih;refine rnd pl116 ?_;by_cases hlt:k<T.length
 .have hltI:(k:Int)<(T.length:Int):=by omega
  obtain⟨a2,o2,q,ha2,hia2,hc2,hq⟩:=HT.out.at hlt;rw[<- HG.out a2 ha2] at hc2;have h1q:oneC q=true:=hq.one;have hlq:=@Ap prog _ _ _ _ _ hq;have HO1:=Xu (HOK.out _ (W2 hlt));have hrl:(T[k]).length=I:=by have:=HO1.out.1;omega
  have hrl16:(T[k]).length<=16:=by omega
  have HES:=Xu (HST.out k hlt);have HPX:Aa (∀i,i<=(T[k]).length->∃r,E=(out++C7 k ((T[k]).take i) 0)++r):=⟨λi hi=>by
   obtain⟨r,hr⟩:=HPR.out (k+1);rw[HES.out,<- HOUT.out] at hr;have h2:C7 k T[k] 0=C7 k ((T[k]).take i) 0++C7 k ((T[k]).drop i) (0+((T[k]).take i).length):=by rw[<- a5p,e7d]
   refine⟨C7 k ((T[k]).drop i) (0+((T[k]).take i).length)++((if Ec T[k]=true then [(k,-1)] else [])++r),?_⟩;rw[HEE.out,hr];unfold F8;rw[h2];simp only[e6c]⟩
  have HBD:Aa (∀a r,E=a++r->a.length<=1024/\Ca W a<=65536):=⟨λa r h=>HSM.out a r (HEE.out ▸ h)⟩;have HPY:Aa (∃r,E=(out++F8 k T[k])++r):=⟨by
   obtain⟨r,hr⟩:=HPR.out (k+1);rw[HES.out,<- HOUT.out] at hr;exact⟨r,HEE.out.trans hr⟩⟩
  rw[<- HOUT.out] at HES;have HEDT:Aa (∀(i:Nat)(h:i<(T[k]).length) (t:Nat),(T[k])[i].1=(t:Int)->EdT T k i t):=⟨λi h t ht=>⟨_,by rw[Xo,W6 hlt];simp[h],ht⟩⟩;have HEDI:Aa (∀(j t:Nat),EdT T k j t->∃h:j<(T[k]).length,(T[k])[j].1=(t:Int)):=⟨λj t ⟨e,h1,h2⟩=>by
   rw[Xo,W6 hlt] at h1;obtain⟨h3,h4⟩:=W8.1 h1;exact⟨h3,by rw[<- h2];exact congrArg _ h4⟩⟩
  have HQ:=Xu hq;have hDk:D[k]?=some (.lit (.int .i64 (((W.getD k []).length:Nat):Int))):=HD.out k hlt (by
   by_cases h:k=0
   .exact .inl h
   .obtain⟨p,j,hE⟩:=HLB.out.src k (by omega) hlt;exact .inr ⟨p,j,hE,(HLB.out.ed p j k hE).2.2.1⟩)
  have hWk:=HW.out k hlt;clear hq hrl;generalize T[k]=row at *
  iterate 8 all_goals try first|apply spl<;>intro h|simp (disch:=first|assumption|omega|simp) [*]
  refine Xy (λm gf H'=>∃(i n3 B:Nat)(gI:Gb)(ov:AV)(D:List AV)(oi:List (Nat×Int)),i<=row.length/\m=row.length-i/\H'=⟨.fn gI,n3⟩/\n2<=n3/\Aa (∀b,b<n->gI b=gL b)/\gI n=some (.cells [.li I,.li O,tv] true 0)/\gI (n+1)=some (.cells D true 0)/\D.length=T.length/\D[k]?=some (.lit (.int .i64 (((W.getD k []).length:Nat):Int)))/\Aa (∀t,t<T.length->(t=0\/∃p j,EdT T p j t/\(p<k\/p=k/\j<i))->D[t]?=some (.lit (.int .i64 (((W.getD t []).length:Nat):Int))))/\Aa (oi=out++C7 k (row.take i) 0)/\oi.length<=1024/\Ca W oi<=65536/\Aa (A6 gI (n+1+1) n3 B ov oi.length 2 (F9 oi)) /\
   gf 1=some (.ptr n 0)/\gf 4=some (.sl (n+1) 0 T.length T.length)/\gf 5=some ov/\gf 6=some (.li ((Ca W oi:Nat):Int))/\gf 7=some (.li k)/\gf 9=some (.lit (.bool (Ec (row.take i))))/\gf 17=some tv/\gf 18=some (.li T.length)/\gf 19=some (.li k) /\
   gf 24=some q/\gf 25=some (.li row.length)/\gf 26=some (.li i)) (m0:=row.length) ?_ ?_
  .have hob:out.length<=1024/\Ca W out<=65536:=by
    obtain⟨r,hr⟩:=HPR.out k;rw[<- HOUT.out] at hr;exact HSM.out _ _ hr
   exact⟨0,n2,B,gL,ov,D,out,W3 _,rfl,rfl,Wy _,⟨λ_ _=>rfl⟩,hgn,hgD,hD,hDk,⟨λt ht h=>HD.out t ht (h.imp id λ⟨p,j,h1,h2⟩=>⟨p,j,h1,by omega⟩)⟩,⟨by simp[C7]⟩,hob.1,hob.2,HGR,by simp[*],by simp[*],by simp[*],by simp[*],by simp[*],by simp[Ec],by simp[*]⟩
  clear hgn hgD hD hDk HD HGR w1 w4 w5 w6 w17 w18 w19;rintro m gf H' ⟨i,n3,B,gI,ov,D,oi,hi,rfl,rfl,hn3,HGI,hgn,hgD,hD,hDk,HD,HOI,hoi1,hoi2,HGR,w1,w4,w5,w6,w7,w9,w17,w18,w19,w24,w25,w26⟩ ih2;refine rnd pl116 ?_;by_cases hil:i<row.length
  .have hilI:(i:Int)<(row.length:Int):=by omega
   obtain⟨a3,o3,ha3,hia3,hc3⟩:=Vq HQ.out hil;rw[<- HG.out a3 ha3,<- HGI.out a3 ha3] at hc3;have HE1:=Xu (HO1.out.2 _ (W2 hil));have HRS:=Xu (e3u (n:=k) hil);have HLS:=Xu (e3v hil);have HED:=Xu λt ht=>HEDT.out i hil t ht;have HDI:Aa (∀j t,EdT T k j t->(k<k\/k=k/\j<i+1)->¬ j<i->((row[i]).1=(t:Int))):=⟨λj t hE h1 h2=>by
    obtain⟨h3,h4⟩:=HEDI.out j t hE;have:j=i:=by omega
    subst this;exact h4⟩
   generalize row[i]=e at *;obtain⟨to,eo⟩:=e;dsimp only at HE1 HRS HLS HED HDI hc3;by_cases ht:to = -1
   .subst ht;by_cases ho:eo = -2
    .subst ho;rw[if_pos ⟨rfl,rfl⟩] at HRS;have HLF:Aa (Ec (row.take (i+1))=false):=⟨by rw[HLS.out];simp⟩;have HON:Aa (oi++[(k,(i:Int))]=out++C7 k (row.take (i+1)) 0):=⟨by rw[HRS.out,HOI.out,e6c]⟩;have hB2:(oi++[(k,(i:Int))]).length<=1024/\Ca W (oi++[(k,(i:Int))])<=65536:=by
      obtain⟨r,hr⟩:=HPX.out (i+1) (by omega);rw[<- HON.out] at hr;exact HBD.out _ _ hr
     have HSW:Aa (Ca W (oi++[(k,(i:Int))])=Ca W oi+((W.getD k []).length+1)):=⟨by
      rw[V7];show Ca W oi+((W.getD k []++if (i:Int) = -1 then [] else [(i:Int)]).length+0)=_;rw[if_neg (by omega),W0];rfl⟩
     have HB2:=Xu hB2;have hsw1:Ca W oi+((W.getD k []).length+1)<=65536:=by rw[<- HSW.out];exact hB2.2
     have HEC:=Xu (b6m oi (k,(i:Int)));have hel:=Og oi;have hel2:(F9 oi++[AV.li ((k:Nat):Int),AV.li (i:Int)]).length=(oi.length+1)*2:=by rw[W0,hel];simp;omega
     have HDN:Aa (∀t,t<T.length->(t=0\/∃p j,EdT T p j t/\(p<k\/p=k/\j<i+1))->D[t]?=some (.lit (.int .i64 (((W.getD t []).length:Nat):Int)))):=⟨λt ht h=>HD.out t ht (h.imp id λ⟨p,j,h1,h2⟩=>⟨p,j,h1,by
      by_cases h3:p<k
      .exact .inl h3
      .have hpk:p=k:=by omega
       subst hpk;refine .inr ⟨rfl,?_⟩;by_cases hji:j<i
       .exact hji
       .have:=HDI.out j t h1 (by omega) hji;omega⟩)⟩
     have hDkl:k<D.length:=by omega
     have hDk2:D[k]'hDkl=.lit (.int .i64 (((W.getD k []).length:Nat):Int)):=(W8.1 hDk).2;clear hB2;generalize hWl:(W.getD k []).length=wl at *;rcases HGR.out with⟨hk0,hc0,hs0⟩|⟨hk0,hs0,hB1,hB2,hB3,hB4⟩
     .subst hs0;have HZ:=Xu (And.intro hk0 hc0);clear hk0 hc0
      iterate 8 all_goals try first|apply spl<;>intro h|simp (disch:=first|assumption|omega|simp) [*]
      refine ih2.out (row.length-(i+1)) _ _ (by omega) ⟨i+1,_,n3+1+1,_,.slq (n3+1+1) 0 (oi++[(k,(i:Int))]).length 0,D,oi++[(k,(i:Int))],by omega,rfl,rfl,by omega,⟨λb hb=>?_⟩,?_,?_,hD,hDk,HDN,HON,HB2.out.1,HB2.out.2,⟨.inr ⟨?_,rfl,by omega,by omega,?_,?_⟩⟩,by simp[*],by simp[*],by simp[HZ.out.1],by simp[*,HSW.out],by simp[*],by simp[HLF.out],by simp[*]⟩
      .simp (disch:=omega) only[Ad,Ae];exact HGI.out b hb
      .simp (disch:=omega) only[Ad,Ae];exact hgn
      .simp (disch:=omega) only[Ad,Ae];exact hgD
      .simp
      .rw[HEC.out,HZ.out.2];simp (disch:=omega) only[Ad,Ae,Ag];rfl
      .rw[Og]
     .subst hs0
      iterate 8 all_goals try first|apply spl<;>intro h|simp (disch:=first|assumption|omega|simp) [*]
      refine ih2.out (row.length-(i+1)) _ _ (by omega) ⟨i+1,_,n3+1+1,_,.slq (n3+1+1) 0 (oi++[(k,(i:Int))]).length 0,D,oi++[(k,(i:Int))],by omega,rfl,rfl,by omega,⟨λb hb=>?_⟩,?_,?_,hD,hDk,HDN,HON,HB2.out.1,HB2.out.2,⟨.inr ⟨?_,rfl,by omega,by omega,?_,?_⟩⟩,by simp[*],by simp[*],by simp,by simp[*,HSW.out],by simp[*],by simp[HLF.out],by simp[*]⟩
      .simp (disch:=omega) only[Ad,Ae];exact HGI.out b hb
      .simp (disch:=omega) only[Ad,Ae];exact hgn
      .simp (disch:=omega) only[Ad,Ae];exact hgD
      .simp
      .rw[HEC.out];simp (disch:=omega) only[Ad,Ae,Ag]
      .rw[Og]
    .rw[if_neg (λh=>ho h.2),e6b] at HRS;have HLF:Aa (Ec (row.take (i+1))=Ec (row.take i)):=⟨by rw[HLS.out];simp[ho]⟩;have HDN:Aa (∀t,t<T.length->(t=0\/∃p j,EdT T p j t/\(p<k\/p=k/\j<i+1))->D[t]?=some (.lit (.int .i64 (((W.getD t []).length:Nat):Int)))):=⟨λt ht h=>HD.out t ht (h.imp id λ⟨p,j,h1,h2⟩=>⟨p,j,h1,by
      by_cases h3:p<k
      .exact .inl h3
      .have hpk:p=k:=by omega
       subst hpk;refine .inr ⟨rfl,?_⟩;by_cases hji:j<i
       .exact hji
       .have:=HDI.out j t h1 (by omega) hji;omega⟩)⟩
     rw[<- HRS.out] at HOI
     iterate 8 all_goals try first|apply spl<;>intro h|simp (disch:=first|assumption|omega|simp) [*]
     refine ih2.out (row.length-(i+1)) _ _ (by omega) ⟨i+1,_,B,_,ov,D,oi,by omega,rfl,rfl,by omega,⟨λb hb=>?_⟩,?_,?_,hD,hDk,HDN,HOI,hoi1,hoi2,⟨A6.keep HGR.out (by omega) λh1 h2=>?_⟩,by simp[*],by simp[*],by simp[*],by simp[*],by simp[*],by simp[HLF.out, *],by simp[*]⟩
     .simp (disch:=omega) only[Ad,Ae];exact HGI.out b hb
     .simp (disch:=omega) only[Ad,Ae];exact hgn
     .simp (disch:=omega) only[Ad,Ae];exact hgD
     .simp (disch:=omega) only[Ad,Ae]
   .obtain⟨t,rfl⟩:∃t:Nat,to=t:=⟨to.toNat,by have:=HE1.out;omega⟩;have htl:t<T.length:=by have:=HE1.out;omega
    have hEd:=HED.out t rfl;have HEL:=Xu (HLB.out.ed k i t hEd);rw[if_neg (λh=>ht h.1),e6b] at HRS;have HLF:Aa (Ec (row.take (i+1))=false):=⟨by rw[HLS.out];simp[ht]⟩;have hDkl:k<D.length:=by omega
    have hDk2:D[k]'hDkl=.lit (.int .i64 (((W.getD k []).length:Nat):Int)):=(W8.1 hDk).2;have htD:t<D.length:=by omega
    have hktI:¬t=k:=by have:=HEL.out.2.2.1;omega
    have HDN:Aa (∀u,u<T.length->(u=0\/∃p j,EdT T p j u/\(p<k\/p=k/\j<i+1))->(D.set t (.lit (.int .i64 ((((W.getD k []).length:Nat):Int)+1))))[u]?=some (.lit (.int .i64 (((W.getD u []).length:Nat):Int)))):=⟨λu hu h=>by
     by_cases hut:t=u
     .subst hut;rw[e7p htD,HEL.out.2.2.2,W0];simp
     .rw[e6t hut];refine HD.out u hu (h.imp id λ⟨p,j,h1,h2⟩=>⟨p,j,h1,?_⟩);by_cases h3:p<k
      .exact .inl h3
      .have hpk:p=k:=by omega
       subst hpk;refine .inr ⟨rfl,?_⟩;by_cases hji:j<i
       .exact hji
       .have:=HDI.out j u h1 (by omega) hji;omega⟩
    have HDS:Aa ((D.set t (.lit (.int .i64 ((((W.getD k []).length:Nat):Int)+1)))).length=T.length/\(D.set t (.lit (.int .i64 ((((W.getD k []).length:Nat):Int)+1))))[k]?=some (.lit (.int .i64 (((W.getD k []).length:Nat):Int)))):=⟨by rw[Xf];exact hD,by rw[e6t hktI];exact hDk⟩;rw[<- HRS.out] at HOI;clear HDI HED;generalize hWl:(W.getD k []).length=wl at *
    iterate 8 all_goals try first|apply spl<;>intro h|simp (disch:=first|assumption|omega|simp) [*]
    refine ih2.out (row.length-(i+1)) _ _ (by omega) ⟨i+1,_,B,_,ov,D.set t (.li ((wl:Int)+1)),oi,by omega,rfl,rfl,by omega,⟨λb hb=>?_⟩,?_,?_,HDS.out.1,HDS.out.2,HDN,HOI,hoi1,hoi2,⟨A6.keep HGR.out (by omega) λh1 h2=>?_⟩,by simp[*],by simp[*],by simp[*],by simp[*],by simp[*],by simp[HLF.out],by simp[*]⟩
    .simp (disch:=omega) only[Ad,Ae];exact HGI.out b hb
    .simp (disch:=omega) only[Ad,Ae];exact hgn
    .simp (disch:=omega) only[Ad,Ae,Ag]
    .simp (disch:=omega) only[Ad,Ae]
  .have hilI:¬(i:Int)<(row.length:Int):=by omega
   have hir:i=row.length:=by omega
   have HRT:Aa (row.take i=row):=⟨by rw[hir,Xn]⟩;rw[HRT.out] at HOI w9;have HDN:Aa (∀t,t<T.length->(t=0\/∃p j,EdT T p j t/\p<k+1)->D[t]?=some (.lit (.int .i64 (((W.getD t []).length:Nat):Int)))):=⟨λt ht h=>HD.out t ht (h.imp id λ⟨p,j,h1,h2⟩=>⟨p,j,h1,by
    by_cases h3:p<k
    .exact .inl h3
    .have hpk:p=k:=by omega
     subst hpk;obtain⟨h4,_⟩:=HEDI.out j t h1;exact .inr ⟨rfl,by omega⟩⟩)⟩
   have hDkl:k<D.length:=by omega
   have hDk2:D[k]'hDkl=.lit (.int .i64 (((W.getD k []).length:Nat):Int)):=(W8.1 hDk).2;have hel:=Og oi;clear HD HEDI HEDT HPX hia2 hlq;by_cases hlb:Ec row=true
   .have HON:Aa (oi++[(k,-1)]=endsM (T.take (k+1)) 0):=⟨by rw[HES.out,HOI.out];unfold F8;rw[if_pos hlb,e6c]⟩;have hB2:(oi++[(k,-1)]).length<=1024/\Ca W (oi++[(k,-1)])<=65536:=by
     obtain⟨r,hr⟩:=HPY.out;rw[<- HES.out,<- HON.out] at hr;exact HBD.out _ _ hr
    have HSW:Aa (Ca W (oi++[(k,-1)])=Ca W oi+(W.getD k []).length):=⟨by
     rw[V7];show Ca W oi+((W.getD k []++if (-1:Int) = -1 then [] else [-1]).length+0)=_;rw[if_pos rfl,e6b];rfl⟩
    have HB2:=Xu hB2;have hsw1:Ca W oi+(W.getD k []).length<=65536:=by rw[<- HSW.out];exact hB2.2
    have hoi3:oi.length+1<=1024:=by have:=hB2.1;rw[W0,Xg] at this;exact this
    have HEC:=Xu (b6m oi (k,-1));have hel2:(F9 oi++[AV.li ((k:Nat):Int),AV.li (-1)]).length=(oi.length+1)*2:=by rw[W0,hel];simp;omega
    rw[hlb] at w9;clear hB2 hoi1 hoi2;generalize hWl:(W.getD k []).length=wl at *;rcases HGR.out with⟨hk0,hc0,hs0⟩|⟨hk0,hs0,hB1,hB2,hB3,hB4⟩
    .subst hs0;have HZ:=Xu (And.intro hk0 hc0);clear hk0 hc0
     iterate 8 all_goals try first|apply spl<;>intro h|simp (disch:=first|assumption|omega|simp) [*]
     all_goals try (exfalso;omega)
     refine ih.out (T.length-(k+1)) _ _ (by omega) ⟨k+1,_,n3+1,_,.slq (n3+1) 0 (oi++[(k,-1)]).length 0,D,oi++[(k,-1)],by omega,rfl,rfl,by omega,⟨λb hb=>?_⟩,?_,?_,hD,HDN,HON,⟨.inr ⟨?_,rfl,by omega,by omega,?_,?_⟩⟩,by simp[*],by simp[*],by simp[HZ.out.1],by simp[*,HSW.out],by simp[*]⟩
     .simp (disch:=omega) only[Ad,Ae];exact(HGI.out b hb).trans (HG.out b hb)
     .simp (disch:=omega) only[Ad,Ae];exact hgn
     .simp (disch:=omega) only[Ad,Ae];exact hgD
     .simp
     .rw[HEC.out,HZ.out.2];simp (disch:=omega) only[Ad,Ae,Ag];rfl
     .rw[Og]
    .subst hs0
     iterate 8 all_goals try first|apply spl<;>intro h|simp (disch:=first|assumption|omega|simp) [*]
     all_goals try (exfalso;omega)
     refine ih.out (T.length-(k+1)) _ _ (by omega) ⟨k+1,_,n3+1,_,.slq (n3+1) 0 (oi++[(k,-1)]).length 0,D,oi++[(k,-1)],by omega,rfl,rfl,by omega,⟨λb hb=>?_⟩,?_,?_,hD,HDN,HON,⟨.inr ⟨?_,rfl,by omega,by omega,?_,?_⟩⟩,by simp[*],by simp[*],by simp,by simp[*,HSW.out],by simp[*]⟩
     .simp (disch:=omega) only[Ad,Ae];exact(HGI.out b hb).trans (HG.out b hb)
     .simp (disch:=omega) only[Ad,Ae];exact hgn
     .simp (disch:=omega) only[Ad,Ae];exact hgD
     .simp
     .rw[HEC.out];simp (disch:=omega) only[Ad,Ae,Ag]
     .rw[Og]
   .have hlb:Ec row=false:=by simpa using hlb
    have HON:Aa (oi=endsM (T.take (k+1)) 0):=⟨by rw[HES.out,HOI.out];unfold F8;rw[hlb];simp⟩;rw[hlb] at w9;have hlo:=A6.slice HGR.out;have hlo2:=@Ap prog _ _ _ _ _ hlo;generalize hWl:(W.getD k []).length=wl at *
    iterate 8 all_goals try first|apply spl<;>intro h|simp (disch:=first|assumption|omega|simp) [*]
    all_goals try (exfalso;omega)
    refine ih.out (T.length-(k+1)) _ _ (by omega) ⟨k+1,_,B,_,ov,D,oi,by omega,rfl,rfl,by omega,⟨λb hb=>?_⟩,?_,?_,hD,HDN,HON,HGR,by simp[*]⟩
    .exact(HGI.out b hb).trans (HG.out b hb)
    .exact hgn
    .exact hgD
 .have hltI:¬(k:Int)<(T.length:Int):=by omega
  have hkT:k=T.length:=by omega
  have hoE:out=E:=by rw[HOUT.out,hkT,Xn];exact HEE.out.symm
  subst hoE
  iterate 8 all_goals try first|apply spl<;>intro h|simp (disch:=first|assumption|omega|simp) [*]
  refine⟨_,_,B,_,⟨rfl,rfl,rfl⟩,by omega,HG.out,?_⟩;rcases HGR.out with h|⟨a1,a2,a3,a4,a5,a6⟩
  .exact .inl h
  .exact .inr ⟨a1,a2,by omega,a4,a5,a6⟩
def Bm(T:Tq):Int->Wd->Wd
 | _,[]=>[]
 | a,i::w=>if ((T.getD a.toNat []).getD i.toNat (-1,-1)).1 = -1 then [-1] else ((T.getD a.toNat []).getD i.toNat (-1,-1)).2::Bm T ((T.getD a.toNat []).getD i.toNat (-1,-1)).1 w
theorem b6n{T:Tq}{a:Nat}(h:a<T.length)(hi:i<(T[a]).length):Bm T ((a:Nat):Int) (((i:Nat):Int)::w)=if (T[a][i]).1 = -1 then [-1] else (T[a][i]).2::Bm T (T[a][i]).1 w:=by
 grind[Bm]
def EdO(T:Tq)(p j t:Nat)(o:Int):Prop:=∃(hp:p<T.length)(hj:j<(T[p]).length),T[p][j]=(((t:Nat):Int),o)
theorem EdT.out{T:Tq}{p j t:Nat}(h:EdT T p j t):∃o,EdO T p j t o:=by
 have A:=h.lt;obtain⟨e,D,Z⟩:=h;rw[Xo,W6 A] at D;obtain⟨Q,U⟩:=W8.1 D;have h5:T[p][j]=e:=U;exact⟨e.2,A,Q,by grind⟩
theorem EdO.ed{T:Tq}{p j t:Nat}{o:Int}(h:EdO T p j t o):EdT T p j t:=by
 obtain⟨A,D,e⟩:=h;exact⟨_,by rw[Xo,W6 A];exact W6 D,by rw[e]⟩
theorem EdO.step{T:Tq}{p j t:Nat}{o:Int}(h:EdO T p j t o)(y:Wd):Bm T ((p:Nat):Int) (((j:Nat):Int)::y)=o::Bm T ((t:Nat):Int) y:=by
 obtain⟨A,D,e⟩:=h;simp_all[b6n]
theorem a5q{T:Tq}{W:Wq}(A:Lab T W):∀(n t:Nat),t<=n->t<T.length->∀y,Bm T 0 (W.getD t []++y)=Bm T 0 (W.getD t [])++Bm T ((t:Nat):Int) y
 | n,0,_,_,y=>by rw[A.nil];rfl
 | 0,t+1,h,_,_=>by omega
 | n+1,t+1,h,Z,y=>by
  obtain⟨p,j,D⟩:=A.src (t+1) (by omega) Z;obtain⟨_,_,h3,h4⟩:=A.ed p j _ D;obtain⟨o,Q⟩:=D.out;have U:=a5q A n p (by omega) D.lt;rw[h4,e6c,U,U];rw[List.singleton_append,Q.step,Q.step];simp[Bm]
theorem b6o{T:Tq}{W:Wq}(A:Lab T W){p j t:Nat}{o:Int}(h:EdO T p j t o):Bm T 0 (W.getD t [])=Bm T 0 (W.getD p [])++[o]:=by
 obtain⟨_,_,_,D⟩:=A.ed p j t h.ed;rw[D,a5q A p p (Wy _) h.ed.lt,h.step];rfl
def bkM(T:Tq)(W:Wq):Lq:=(endsM T 0).map λs=>(eW W s,Bm T 0 (eW W s))
theorem b6p{T:Tq}{W:Wq}(D:Lab T W){k i:Nat}(A:k<T.length)(hi:i<(T[k]).length)(h:T[k][i]=(-1,-2)):Bm T 0 (eW W (k,(i:Int)))=Bm T 0 (W.getD k [])++[-1]:=by
 unfold eW;dsimp only;rw[if_neg (by omega),a5q D k k (Wy _) A,b6n A hi,h,if_pos rfl]
theorem a5r{I O:Int}{T:Tq}{W:Wq}(D:Lab T W)(h0:0<T.length)(Q:∀r∈T,∀e∈r,e.1 = -1\/(0<=e.1/\e.1<T.length)):0<(endsM T 0).length:=by
 have A:T.length-1<T.length:=by omega
 have a0:∀(i:Nat)(hi:i<(T[T.length-1]).length),(T[T.length-1][i]).1 = -1:=by
  intro i hi;rcases Q _ (W2 A) _ (W2 hi) with h|h
  .exact h
  .obtain⟨t,U⟩:∃t:Nat,(T[T.length-1][i]).1=(t:Int):=⟨(T[T.length-1][i]).1.toNat,by omega⟩;have Z:EdT T (T.length-1) i t:=⟨_,by grind,U⟩;have:=D.ed _ _ _ Z;omega
 by_cases hr:∃i,∃hi:i<(T[T.length-1]).length,T[T.length-1][i]=(-1,-2)
 .obtain⟨i,hi,h⟩:=hr;exact e6y (M5.2 (.inl ⟨_,A,i,hi,h,rfl⟩))
 .refine e6y (M5.2 (.inr ⟨_,A,?_,rfl⟩));unfold Ec;rw[W7];intro e he;obtain⟨i,hi,rfl⟩:=e6p he;grind
def sumT:Lq->Nat
 | []=>0
 | t::ts=>t.1.length+sumT ts
theorem sumT_app:∀(a b:Lq),sumT (a++b)=sumT a+sumT b
 | [],b=>by simp[sumT]
 | t::a,b=>by show t.1.length+sumT (a++b)=(t.1.length+sumT a)+sumT b;rw[sumT_app a b];omega
theorem e3z(ts:Lq)(k:Nat):sumT (ts.take k)<=sumT ts:=by
 have:=sumT_app (ts.take k) (ts.drop k);rw[e7d] at this;omega
theorem e4a{ts:Lq}(hI:I<=16)(hO:O<=16)(hl:ts.length<=1024)(hw:∀t∈ts,t.1.length<=256)(hs:sumT ts<=65536)(g:Gb)(n:Nat)(sv:AV)(Q:El g n ts sv):
  WC 0 prog 100 [.agg [.li I,.li O,sv]] ⟨.fn g,n⟩ λr=>r=.ret (.lit (.bool true)) ⟨.fn g,n⟩:=by
 refine X3 rfl ?_;have b0:=@Ap prog _ _ _ _ _ Q.choose_spec.1;have a4:=Q.choose_spec.1.one;have b1:allOne [.li I,.li O,sv]=true:=by simp[a4]
 have HT:=Xu Q;have HW:=Xu hw;clear Q hw;refine ent [] func100 ?_;simp (disch:=first|omega|simp) [*];refine Xy (λm h H'=>∃(k st n' : Nat)(gL:Gb),k<=ts.length/\m=ts.length-k/\H'=⟨.fn gL,n'⟩/\n<n'/\Aa (∀b,b<n->gL b=g b)/\gL n=some (.cells [.li I,.li O,sv] true 0) /\
  Aa (st=sumT (ts.take k))/\h 1=some (.ptr n 0)/\h 3=some (.li st)/\h 7=some sv/\h 8=some (.li ts.length)/\h 9=some (.li k)) (m0:=ts.length) ?_ ?_
 .exact⟨0,0,_,_,W3 _,rfl,rfl,e8q n,⟨λb D=>Ad D⟩,Ag,⟨rfl⟩,by simp[*]⟩
 rintro m h H' ⟨k,st,n',gL,hk,rfl,rfl,a0,U,a5,a6,w1,w3,w7,w8,w9⟩ ih;refine rnd [] ?_;by_cases Z:k<ts.length
 .have a7:(k:Int)<(ts.length:Int):=by omega
  obtain⟨a2,off,s1,s2,a1⟩:=(HT.out.mono (Xr a0) U.out).at Z;have A:=Xu a1;clear a1;have b2:∀{H:Mem}{ev:Ev}{o:Oper}{ty:TypeId},iaS prog H ev o ty (some (none,2)) (some sv) (some (.li (k:Int)))=.val (.ptr a2 (off+k*2)) H:=λ{H ev o ty}=>A.out.ia;have b3:=A.out.agg;have b4:=@Ap prog _ _ _ _ _ A.out.r1;have a8:=A.out.r1.one;have a9:=A.out.r2.one;have b5:allOne [s1,s2]=true:=by simp[a8,a9]
  have b6:=HW.out _ (W2 Z);have a3:Aa (sumT (ts.take (k+1))=st+ts[k].1.length):=⟨by rw[Bv Z,sumT_app,a6.out];rfl⟩;have b7:st+ts[k].1.length<=65536:=by rw[<- a3.out];exact Xa (e3z ts _) hs
  clear A;generalize ts[k]=t at *;have b8:¬256<(t.1.length:Int):=by omega
  have b9:¬1024<=(k:Int):=by omega
  have c0:¬65536<(st:Int)+(t.1.length:Int):=by omega
  simp (disch:=first|omega|simp) [*];exact ih.out (ts.length-(k+1)) _ _ (by omega) ⟨k+1,st+t.1.length,_,_,by omega,rfl,rfl,by omega,⟨λb D=>(Ad (by omega)).trans (U.out b D)⟩,(Ad (by omega)).trans a5,⟨a3.out.symm⟩,by simp[*]⟩
 .have a7:¬(k:Int)<(ts.length:Int):=by omega
  simp (disch:=first|omega|simp) [*];exact⟨Xr a0,λb D=>U.out b D⟩
theorem endC_at:∀(E:List (Nat×Int)) (k:Nat) (h:k<E.length),((F9 E).drop (k*2)).take 2=[.li ((E[k].1:Nat):Int),.lit (.int .i64 E[k].2)]
 | e::E,0,_=>rfl
 | e::E,k+1,h=>by
  have:=endC_at E k (by simpa using h);have A:F9 (e::E)=[.li ((e.1:Nat):Int),.li e.2]++F9 E:=rfl;rw[A,show (k+1)*2=2+k*2 by omega,<- e8x];exact this
theorem e4b{g:Gb}{E:List (Nat×Int)}{A:AV}(h:Af g n A E.length (F9 E)){k:Nat}(D:k<E.length):∃a off,a<n/\(∀{H:Mem}{ev:Ev}{o:Oper}{t:TypeId},iaS prog H ev o t (some (none,2)) (some A) (some (.li (k:Int)))=.val (.ptr a (off+k*2)) H)/\A5 (some (true,2)) (g a) (off+k*2)=some (.agg [.li ((E[k].1:Nat):Int),.lit (.int .i64 E[k].2)]):=by
 obtain⟨a,off,U,Z,a0⟩:=h.ia (P:=prog) D 2;have Q:=Z.agg (k:=k*2) (s:=2) (by rw[Og];omega);rw[endC_at E k D] at Q;exact⟨a,off,U,a0,Q⟩
theorem b6q{g:Gb}{row:List (Int×Int)}{q:AV}(h:Af g n q row.length (Au row)){i:Nat}(hi:i<row.length):∃a off,a<n/\(∀{H:Mem}{ev:Ev}{o:Oper}{t:TypeId},iaS prog H ev o t (some (none,2)) (some q) (some (.li (i:Int)))=.val (.ptr a (off+i*2)) H)/\A5 (some (false,1)) (g a) (off+i*2+1)=some (.lit (.int .i64 row[i].2)):=by
 obtain⟨a,off,D,Q,U⟩:=h.ia (P:=prog) hi 2;have A:=Q.one (k:=i*2+1) (s:=1) (by rw[rowC_len];omega);have Z:=(Pb row i hi).2;rw[(W8.1 Z).2] at A;exact⟨a,off,D,U,by rw[e7n];exact A⟩
end Go.Ai
