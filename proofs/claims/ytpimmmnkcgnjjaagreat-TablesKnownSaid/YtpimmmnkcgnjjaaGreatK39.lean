/- Parts of an interpreter and of a proof. No condition. -/
import Derived.Test.YtpimmmnkcgnjjaaGreatK38
import Derived.Test.YtpimmmnkcgnjjaaGreatK34
import Derived.Test.YtpimmmnkcgnjjaaGreatK30
import Derived.Test.YtpimmmnkcgnjjaaGreatK17
import Derived.Test.YtpimmmnkcgnjjaaGreatK21
import Derived.Test.YtpimmmnkcgnjjaaGreatK13
import Derived.Test.YtpimmmnkcgnjjaaGreatK07
import Derived.Test.YtpimmmnkcgnjjaaGreatK16
import Derived.Test.YtpimmmnkcgnjjaaGreatK33
set_option linter.all false
set_option maxHeartbeats 40000000
set_option maxRecDepth 10000
open Go.Proofs Go.Proofs.Tryz
namespace Go.Ai
variable {T:Tq}{E S l:Wq}{I k:Nat}{O:Int}{r:Wd}{rv:AV}
theorem e4k{M:Az}(hM:M.ok){I:Nat}{O:Int}(U:M.inp=I)(hO:M.out=O){S E:Wq}{L:Lq}(hp:Hw I O S E (Aj I L))(Z:Cc I O L)(hR:Fm M L)(a3:∀w∈S,w.length<=100)(b1:∀e∈E,e.length<=100)(f:L.length+(E3 M (A2 (Aj I L) E (Aq I S))).length<=196)(g:Gb)(n:Nat)(sv ev tv:AV)(h:A7 g n S E (Aj I L) sv ev tv)(ms:List AV)(hr:Cx g n M ms):
  WC 0 prog 19 [.agg [.li I,.li O,sv,ev,.li I,.li O,tv],.agg ms] ⟨.fn g,n⟩ λr=>∃a4 a5 a6 g' n',r=.ret (.agg [.li I,.li O,a4,a5,.li I,.li O,a6]) ⟨.fn g',n'⟩/\n<=n'/\(∀b,b<n->g' b=g b)/\A7 (A9 n g') n' S E (Aj I (En I L++E3 M (A2 (Aj I L) E (Aq I S)))) a4 a5 a6:=by
 have e9:=h.s.one;have g0:=h.e.one;have g4:=h.t.choose_spec.1.one;have i4:allOne [.li I,.li O,sv,ev,.li I,.li O,tv]=true:=by simp[e9,g0,g4]
 have a7:∀w∈Aq I S,inW w I=true:=λw A=>by
  obtain⟨k,hk⟩:=e8t A;exact(Sv hp.sw hk).2
 have a8:∀e∈E,inW e I=true:=λe he=>(hp.ew e he).2.2;obtain⟨b2,_⟩:=e4b hM U Z hR hp.go a7 a8;have b8:=b7c (M:=M) U (S:=S) (E:=E) (T:=Aj I L) a7 a8;have a0:∀w∈Em (Cv (A2 (Aj I L) E (Aq I S))),w.length<=201/\inW w I=true:=λw A=>by
  obtain⟨u,hu,e,he,rfl,_⟩:=Sy.1 (K2.1 (e6t.1 A).1);have h3:=b1 e he;have h4:u.length<=101:=by
   unfold Aq at hu;rcases W9.1 hu with h|h
   .have:=a3 u h;omega
   .obtain⟨s,hs,h⟩:=e6v.1 h;obtain⟨i,_,rfl⟩:=Xc.1 h;have:=a3 s hs;rw[W1,Xj];omega
  exact⟨by rw[W1];omega,N5 (a7 u hu) (a8 e he)⟩
 have i5:(Em (Cv (A2 (Aj I L) E (Aq I S)))).length<=196:=by
  have:(E3 M (A2 (Aj I L) E (Aq I S))).length=(Em (Cv (A2 (Aj I L) E (Aq I S)))).length:=by unfold E3;simp
  omega
 have b9:Ky M.inp (Em (Cv (A2 (Aj I L) E (Aq I S))))=0:=by
  unfold Ky;rw[if_pos (W7.2 λw A=>decide_eq_true (by have:=(a0 w A).1;omega)),if_pos (W7.2 λw A=>by rw[U];exact(a0 w A).2)]
 have c0:Cc I O (E3 M (A2 (Aj I L) E (Aq I S))):=by
  have hv:=b8.valid hM;rw[U,hO] at hv;refine⟨by omega,Z.i1,Z.i2,Z.o1,Z.o2,λt ht=>?_,hv⟩;obtain⟨w,A,rfl⟩:=Xc.1 ht;have:=(a0 w A).1;show w.length<=256;omega
 have c1:Dv (En I L++E3 M (A2 (Aj I L) E (Aq I S))) (En I L++E3 M (A2 (Aj I L) E (Aq I S))) 0=none:=(Sl λt ht=>by rw[(b2 t ht).1];exact Nz _ _).2 b2.cons;have c2:Mv I O I O (En I L++E3 M (A2 (Aj I L) E (Aq I S)))=0:=by
  unfold Mv;rw[if_pos ⟨rfl,rfl⟩,if_pos c1]
 have c6:=Xr λ(D:Gb)(n2:Nat)(hn:n<=n2)(hX:∀b,b<n->D b=g b)=>e4c hp a3 b1 D n2 sv ev tv (h.mono hn hX);have b3:=Xr λ(D:Gb)(n2:Nat)(Q:AV)(hn:n<=n2)(hX:∀b,b<n->D b=g b) (hl:Cu D n2 (Em (Cv (A2 (Aj I L) E (Aq I S)))) Q) (hc:Av Q)=>e4j hM (Em (Cv (A2 (Aj I L) E (Aq I S)))) (by omega) (λw A=>by have:=(a0 w A).1;omega) D n2 ms Q (hr.mono hn hX) hl.listV hc;rw[b9] at b3;have b4:=Xr λ(D:Gb)(n2:Nat)(Q:AV)(hn:n<=n2)(hX:∀b,b<n->D b=g b) (hl:Jz D n2 (E3 M (A2 (Aj I L) E (Aq I S))) Q) (hc:Av Q)=>e3q hp Z hR.cons (I2:=I) (O2:=O) c0 f D n2 sv ev tv Q (h.mono hn hX) hl hc;rw[c2] at b4;have g5:Aa ((Em (Cv (A2 (Aj I L) E (Aq I S)))).map (λw=>(w,Bl M 0 w))=E3 M (A2 (Aj I L) E (Aq I S))):=⟨rfl⟩;obtain⟨mv,rfl,g6⟩:=hr.one;have i6:allOne [.li M.inp,.li M.out,mv]=true:=by simp[g6]
 have HI:=Xr (And.intro U hO);clear h hr hp Z hR a3 b1 b2 b8 a0 b9 c0 c1 c2 a7 a8 hM U hO;generalize Em (Cv (A2 (Aj I L) E (Aq I S)))=l at *;generalize E3 M (A2 (Aj I L) E (Aq I S))=ts at *;refine ent [] func19 ?_;simp (disch:=first|omega|simp) [*];refine Xs (c6.out _ _ (by omega) λb f=>by simp (disch:=omega) only[Ad]) ?_;rintro _ ⟨Q,g1,n1,rfl,i7,a1,b5⟩;have c7:Aa (∀b,b<n->g1 b=g b):=⟨λb f=>by rw[a1 b (by omega)];simp (disch:=omega) only[Ad]⟩;have c8:g1 n=some (.cells [.li I,.li O,sv,ev,.li I,.li O,tv] true 0):=by rw[a1 n (by omega)];simp (disch:=omega) only[Ad,Ah]
 have g7:g1 (n+1)=some (.cells [.li M.inp,.li M.out,mv] true 0):=by rw[a1 (n+1) (by omega)];simp (disch:=omega) only[Ad,Ah]
 have c9:g1 (n+1+1)=some (.cells [.li 0,.li 0,.nl,.nl,.li 0,.li 0,.nl] true 0):=by rw[a1 (n+1+1) (by omega)];simp (disch:=omega) only[Ad,Ah]
 have b6:=b5.listC;obtain⟨B1,e0⟩:=b5.capQ;have i8:=b6.one;have e1:=Xr b6;have e5:Aa (Av Q):=⟨by rw[e0];intro a o m c e;cases e;exact Wy _⟩;clear a1 b5 b6 e0 c6;simp (disch:=first|omega|simp) [*];refine Xs (b3.out _ _ Q (by omega) c7.out e1.out e5.out) ?_;rintro _ ⟨cs,g2,n2,rfl,i9,a9,g8⟩;rcases g8 with⟨h0,_⟩|⟨_,B,rfl,b0⟩
 .exact absurd rfl h0
 have e6:Aa (∀b,b<n->g2 b=g b):=⟨λb f=>(a9 b (by omega)).trans (c7.out b f)⟩;have g9:=(a9 n (by omega)).trans c8;have e7:=(a9 (n+1+1) (by omega)).trans c9;rw[g5.out] at b0;have h5:oneC (.sl B 0 l.length l.length)=true:=b0.choose_spec.1.one;have e8:=Xr b0;clear a9 b0 b3 e1 e5 c8 g7 c9;obtain⟨U,hO⟩:=HI.out;rw[U,hO];have j0:allOne [.li I,.li O,.sl B 0 l.length l.length]=true:=by simp[h5]
 clear U hO;simp (disch:=first|omega|simp) [*];refine Xs (b4.out _ _ (.sl B 0 l.length l.length) (by omega) (λb f=>(Ad (by omega)).trans (e6.out b f)) (e8.out.mono (by omega) λb f=>Ad f) (λa o m c e=>by cases e;exact Wy _)) ?_;rintro _ ⟨rv,g3,n3,rfl,j1,b7,h6⟩;rcases h6 with⟨h0,_⟩|⟨_,a4,a5,a6,rfl,a2,_,_⟩
 .exact absurd rfl h0
 have j2:=(b7 (n+1+1) (by omega)).trans ((Ad (by omega)).trans e7);have h7:Aa (∀b,b<n->g3 b=g b):=⟨λb f=>(b7 b (by omega)).trans ((Ad (by omega)).trans (e6.out b f))⟩;have h8:=a2.s.one;have h9:=a2.e.one;have i0:=a2.t.choose_spec.1.one;have j3:allOne [.li I,.li O,a4,a5,.li I,.li O,a6]=true:=by simp[h8,h9,i0]
 have i3:=Xr a2;clear b7 a2 b4 e8 g9 e7;simp (disch:=first|omega|simp) [*];refine⟨_,_,_,_,_,⟨⟨rfl,rfl,rfl⟩,rfl,rfl⟩,by omega,λb f=>?_,i3.out.from' (by omega) λa h1 h2=>?_⟩
 .simp (disch:=omega) only[Ad,Ae];exact h7.out b f
 .rw[Cq (by omega)];simp (disch:=omega) only[Ad,Ae]
structure InQ (g:Gb) (n st inp out:Nat) (es:List Nat) (ev:AV) (ws:List (List Nat)) (wv:AV) (sb:List Nat) (sbv:AV) (eb:List (List Nat)) (ebv:AV):Prop where
 i:InG g n st inp out es ev ws wv
 bs:∀b∈sb,b<256
 be:∀w∈eb,∀b∈w,b<256
 s:Sg g n sb sbv
 e:N0 g n eb ebv
theorem InQ.mono{g g': Gb}{n n' st D Q:Nat}{es:List Nat}{ev:AV}{ws:List (List Nat)}{U:AV}{Z:List Nat}{a0:AV}{eb:List (List Nat)}{a1:AV}(h:InQ g n st D Q es ev ws U Z a0 eb a1)(f:n<=n')(A:∀a,a<n->g' a=g a):InQ g' n' st D Q es ev ws U Z a0 eb a1:=
 ⟨h.i.mono f A,h.bs,h.be,Xw f A h.s,h.e.mono f A⟩
theorem A7.of{g:Gb}{n:Nat}{sv ev f:AV}(h:Cu g n S sv)(A:Cu g n E ev)(D:Cf g n T f):A7 g n S E T sv ev f:=⟨h,A,D⟩
theorem RowK.rep{g:Gb}{lo n:Nat}{r:Option (Wd)}(h:RowK g lo n r rv):Al g n (r.getD []) rv:=by
 cases r with
 | none=>have f:rv=.nl:=h;rw[f];exact .inl ⟨rfl,rfl,.inl rfl⟩
 | some r=>exact h.1.rep
theorem a5i.rep{g:Gb}{lo n:Nat}{r:Option (Wd)}(h:a5i g lo n r rv):Al g n (r.getD []) rv:=by
 cases r with
 | none=>have f:rv=.nl:=h;rw[f];exact .inl ⟨rfl,rfl,.inl rfl⟩
 | some r=>exact h.1.rep
theorem RowK.cap{g:Gb}{lo n:Nat}{r:Option (Wd)}(h:RowK g lo n r rv){H:Mem}{ev:Ev}{o:Oper}{e:TypeId}:Nn prog H ev o (some (.slice e)) (some rv)=.val (.lit (.int .i64 (r.getD []).length)) H:=by
 cases r with
 | none=>have f:rv=.nl:=h;rw[f];exact a2x
 | some r =>
  rcases h.2 with⟨A,rfl⟩|⟨a,o,rfl⟩
  .rw[e9h,A];exact a2x
  .exact b1k
theorem b7l{w:Wd}:∀{E:Wq}{r:Wd},(∀e∈E,e.length<=300)->Cl T w E=some r->r.length<=300*E.length
 | [],r,_,h=>by rw[Cl] at h;cases h;simp
 | e::E,r,D,h=>by
  rw[Cl] at h
  cases f:Bd T 0 (w++e) with
  | none=>rw[f] at h;cases h
  | some u =>
   rw[f] at h
   cases A:Cl T w E with
   | none=>rw[A] at h;cases h
   | some q =>
    rw[A] at h;cases h;have Z:=b7l (λe Q=>D e (by simp[Q])) A;have U:=Su _ _ _ f;have h3:=D e (by simp);rw[W1] at U;simp only[W1,e8j,Xi];omega
def G8(w:Wd):Prop:=∀i∈w,-1<=i/\i<16
theorem b7m(f:O<=16)(A:∀r∈T,∀e∈r,okE T.length O e=true):∀(w:Wd)(a:Int)(r:Wd),Bd T a w=some r->G8 r
 | [],_,_,h=>by cases h;intro i hi;grind
 | i::w,a,r,h=>by
  rw[Bd] at h;split at h
  .split at h
   .cases h;intro x hx;grind
   grind
  .rename_i U;obtain⟨q,D,rfl⟩:=Xq.1 h;have Q:=b7m f A w _ q D;intro x hx;rcases Xb.1 hx with rfl|hx
   .have Z:((T.getD a.toNat []).getD i.toNat (-1,-1))∈T.getD a.toNat []:=by
     grind
    (simp_all[okE];grind)
   .exact Q x hx
theorem b7n(f:O<=16)(A:∀r∈T,∀e∈r,okE T.length O e=true){w:Wd}:∀{E:Wq}{r:Wd},Cl T w E=some r->G8 r
 | [],_,h=>by cases h;intro i hi;grind
 | e::E,r,h=>by
  rw[Cl] at h
  cases D:Bd T 0 (w++e) with
  | none=>grind
  | some u =>
   rw[D] at h;obtain⟨q,Q,rfl⟩:=Xq.1 h;have U:=b7m f A _ _ _ D;have Z:=b7n f A Q;intro i hi;rcases W9.1 hi with hi|hi
   .exact U i (List.mem_of_mem_drop hi)
   .exact Z i hi
def C1(T:Tq)(E:Wq)(w:Wd):Wd:=(Cl T w E).getD []
theorem a5z(f:O<=16)(A:∀r∈T,∀e∈r,okE T.length O e=true){E:Wq}{w:Wd}:G8 (C1 T E w):=by
 unfold C1
 cases h:Cl T w E with
 | none=>intro i hi;grind
 | some r=>grind[b7n]
theorem a6a{w:Wd}(f:∀e∈E,e.length<=300):(C1 T E w).length<=300*E.length:=by
 unfold C1
 cases h:Cl T w E with
 | none=>simp
 | some r=>exact b7l f h
theorem keyB_injR:∀{w v:Wd},G8 w->G8 v->Fl w=Fl v->w=v
 | [],[],_,_,_=>rfl
 | [],_::_,_,_,h=>by grind[Fl]
 | _::_,[],_,_,h=>by grind[Fl]
 | x::w,y::v,f,A,h=>by
  have D:UInt8.ofNat (x+1).toNat::Fl w=UInt8.ofNat (y+1).toNat::Fl v:=h;injection D with Q U;have hx:=f x (by simp);have hy:=A y (by simp);have Z:(UInt8.ofNat (x+1).toNat).toNat=(UInt8.ofNat (y+1).toNat).toNat:=by rw[Q]
  rw[UInt8.toNat_ofNat',UInt8.toNat_ofNat',e8i (by omega),e8i (by omega)] at Z;have:x=y:=by omega
  rw[this,keyB_injR (λi hi=>f i (by simp[hi])) (λi hi=>A i (by simp[hi])) U]
theorem e4l{w v:Wd}(f:G8 w)(A:G8 v)(h:A5 w=A5 v):w=v:=by
 grind[keyB_injR,A5]
def E4(rows:Wq)(r:Wd):Option Nat:=rows.findIdx? λx=>decide (x=r)
theorem b7o{rows:Wq}{f:Wd}:E4 (rows++[f]) r=(E4 rows r).or (if f=r then some rows.length else none):=by
 grind[E4]
theorem b7p{rows:Wq}:E4 rows r=none↔r ∉ rows:=by
 unfold E4;grind
theorem e4m{rows:Wq}(h:E4 rows r=some k):∃f:k<rows.length,rows[k]=r/\∀j (A:j<k),rows[j]'(by omega)≠r:=by
 grind[E4,List.findIdx?_eq_some_iff_getElem]
def dcR:Wq->Nat
 | []=>0
 | r::l=>dcR l+if r∈l then 0 else 1
def Ix(l:Wq):Nat:=dcR l.reverse
theorem b7q:Ix (l++[r])=Ix l+if r∈l then 0 else 1:=by
 grind[Ix,dcR]
def StV(L:List (ByteArray×Int×Nat))(rows:Wq):Prop:=(∀r,G8 r->Dt (A5 r) L=(E4 rows r).map λk:Nat=>(k:Int))/\L.length=Ix rows
theorem StV.nil:StV [] []:=⟨λ_ _=>rfl,rfl⟩
theorem StV.old{L:List (ByteArray×Int×Nat)}{rows:Wq}(h:StV L rows)(A:r∈rows):StV L (rows++[r]):=by
 refine⟨λf D=>?_,by rw[b7q,if_pos A];exact h.2⟩;rw[h.1 f D,b7o]
 cases Q:E4 rows f with
 | some k=>rfl
 | none =>
  rw[if_neg];rfl;rintro rfl;grind[b7p]
theorem StV.new{L:List (ByteArray×Int×Nat)}{rows:Wq}{c:Nat}(h:StV L rows)(D:G8 r)(Q:r ∉ rows):StV (L++[(A5 r,(rows.length:Int),c)]) (rows++[r]):=by
 refine⟨λf A=>?_,by rw[b7q,if_neg Q,W1];simp[h.2]⟩;rw[b3o,h.1 f A,b7o]
 cases U:E4 rows f with
 | some k=>rfl
 | none =>
  by_cases e:r=f
  .grind
  .rw[if_neg e,if_neg λe2=>e (e4l A D e2).symm];rfl
def Eo(T:Tq)(w:Wd):Bool:=match Bd T 0 w with
 | some r=>decide (r.getLast?≠some (-1))
 | none=>false
def b7r(T:Tq)(w:Wd):Int:=((Bd T 0 w).getD []).getLast?.getD 0
def Iy(T:Tq)(E:Wq)(rows:Wq)(w:Wd):Bool:=Eo T w&&(E4 rows (C1 T E w)).isNone
def Ba(T:Tq)(E S:Wq):Wq:=S.map (C1 T E)
def Hz(T:Tq)(E:Wq)(I:Nat)(S:Wq):Option (Wd):=(Hv I S).find? (Iy T E (Ba T E S))
def Od(T:Tq)(E rows:Wq)(u:Wd):Int×Int:=if Eo T u then ((((E4 rows (C1 T E u)).getD 0:Nat):Int),b7r T u) else (-1,-1)
def H5(T:Tq)(E rows:Wq)(I:Nat)(w:Wd):List (Int×Int):=(List.range I).map λi:Nat=>Od T E rows (w++[(i:Int)])
def J5(T:Tq)(E:Wq)(I:Nat)(S:Wq):Tq:=S.map (H5 T E (Ba T E S) I)
def a6b(T:Tq)(E S:Wq):Bool:=decide (Ix (Ba T E S)<S.length)||S.any λw=>!Eo T w
def Wj(T:Tq)(E:Wq)(I:Nat)(S:Wq):Int:=if (A2 T E (Aq I S)).isEmpty=false then 6 else if (Hz T E I S).isSome=true then 6 else if a6b T E S=true then 12 else 0
theorem Wk(w:Wd)(b0:w.length<=10000)(a0:G8 w)(g:Gb)(n:Nat)(sv:AV)(D:Al g n w sv):
  WC 0 prog 52 [sv] ⟨.fn g,n⟩ λr=>r=.ret (.lit (.string (A5 w))) ⟨.fn g,n⟩:=by
 refine X0 rfl ?_;have b1:=@Au prog _ _ _ _ _ D;have HS:=Xr D;have a4:=Xr a0;clear D a0;refine ent [] func52 ?_;simp (disch:=first|omega|simp) [*];refine Xv (λm h H'=>∃(k:Nat)(gL:Gb)(L:List AV),k<=w.length/\m=w.length-k/\H'=⟨.fn gL,n+1⟩/\Aa (∀b,b<n->gL b=g b)/\gL n=some (.cells L true 0)/\Aa (L=J0 w k) /\
  h 3=some (.sl n 0 w.length w.length)/\h 9=some sv/\h 10=some (.li w.length)/\h 11=some (.li k)) (m0:=w.length) ?_ ?_
 .refine⟨0,_,_,W3 _,rfl,rfl,⟨λb f=>Ad f⟩,Ah,⟨?_⟩,by simp[*]⟩;simp[J0]
 rintro m h H' ⟨k,gL,L,hk,rfl,rfl,Q,b2,U,w3,w9,b3,b4⟩ ih;have b5:L.length=w.length:=by rw[U.out];exact b5c w k hk
 refine rnd [] ?_;by_cases A:k<w.length
 .have a5:(k:Int)<(w.length:Int):=by omega
  obtain⟨a2,off,a6,a1,a7⟩:=X4 (P:=prog) HS.out A 1;simp only[Xk] at a7;have a8:=(a1.mono (Q.out a2 a6)).one (k:=k) (s:=1) (by rw[Cb];exact A);rw[(W8.1 (Kq w k A)).2] at a8;have f:=a4.out _ (W2 A);have Z:=b5d w k A;rw[<- U.out] at Z;have a9:=Xr Z;clear Z a1;generalize w[k]=x at *;have b6:IntKind.u8.wrap (x+1)=x+1:=b5f (by omega) (by omega);have b7:k<L.length:=by omega
  simp (disch:=first|omega|simp) [*];refine ih.out (w.length-(k+1)) _ _ (by omega) ⟨k+1,_,L.set k (kb x),by omega,rfl,rfl,⟨λb f=>(Ad f).trans (Q.out b f)⟩,Ah,⟨a9.out⟩,by simp[*]⟩
 .have a5:¬(k:Int)<(w.length:Int):=by omega
  have a3:k=w.length:=by omega
  have b8:bytesOf (List.take w.length L)=some (Fl w):=by rw[Xn (by omega),U.out,a3,b5e];exact bytes_key w
  clear a3;simp (disch:=first|omega|simp) [*];exact⟨_,⟨rfl,rfl⟩,W4 n,λb f=>Q.out b f⟩
theorem e4n{w u:Wd}{m:Nat}(f:Bd T 0 w=some u)(h:u.length=m+1):Eo T w = !decide (u[m]'(by omega) = -1):=by
 unfold Eo;rw[f];dsimp only;have e:u.length-1=m:=by omega
 rw[List.getLast?_eq_getElem?,e,W5 (by omega)];simp
theorem a6c(h0:0<T.length)(a6:∀r∈T,r.length=I/\∀e∈r,e.1 = -1\/(0<=e.1/\e.1<T.length)){w:Wd}(b0:w.length<=1000)(a7:inW w I=true)(D Q U c3 c4 c5:AV)(Z:allOne [D,Q,U,c3,c4,c5]=true)(g:Gb)(n:Nat)(tv wv:AV)(hT:Cf g n T tv)(hw:Al g n w wv):
  WC 0 prog 83 [.agg [D,Q,U,c3,c4,c5,tv],wv] ⟨.fn g,n⟩ λr=>∃g' n',r=.ret (.lit (.bool (Eo T w))) ⟨.fn g',n'⟩/\n<=n'/\∀b,b<n->g' b=g b:=by
 have b1:=hT.choose_spec.1.one;have b4:allOne [D,Q,U,c3,c4,c5,tv]=true:=by
  simp only[Fi,W0] at Z |-;simp[Z,b1]
 have HK:=Xr λ(gX:Gb)(n2:Nat)(hn:n<=n2)(hX:∀b,b<n->gX b=g b)=>V1 h0 a6 b0 a7 D Q U c3 c4 c5 Z gX n2 tv wv (hT.mono hn hX) (Xw hn hX hw);obtain⟨a1,a3⟩:∃c,c=Eo T w:=⟨_,rfl⟩;rw[<- a3];have a4:=Xr a3;clear hT hw a6 a7 Z a3;refine ent [] func83 ?_
 iterate 8 all_goals try first|apply spl<;>intro h|simp (disch:=first|assumption|omega|simp) [*]
 refine Xs (HK.out _ _ (by omega) λb hb=>Ad hb) ?_;rintro _ ⟨rv,g1,n1,rfl,b5,a8,A⟩;have a5:Aa (∀b,b<n->g1 b=g b):=⟨λb hb=>(a8 b (by omega)).trans (Ad hb)⟩;clear a8 HK
 cases f:Bd T 0 w with
 | none =>
  rw[f] at A;have hr:a1=false:=by rw[a4.out];unfold Eo;rw[f]
  have b2:rv=.nl:=A;subst b2;clear A f;simp only[Option.isSome]
  iterate 8 all_goals try first|apply spl<;>intro h|simp (disch:=first|assumption|omega|simp) [*]
  exact⟨_,_,⟨rfl,rfl⟩,by omega,a5.out⟩
 | some u =>
  rw[f] at A;have a0:=A.1.rep;have a9:=@Au prog _ _ _ _ _ a0;simp only[e9a];by_cases hu:u.length=0
  .have hr:a1=true:=by
    rw[a4.out];unfold Eo;rw[f];have:u=[]:=e6x.1 hu;rw[this];rfl
   rw[hu] at a9;clear A f a0
   iterate 8 all_goals try first|apply spl<;>intro h|simp (disch:=first|assumption|omega|simp) [*]
   exact⟨_,_,⟨rfl,rfl⟩,by omega,a5.out⟩
  .obtain⟨m,hm⟩:∃m,u.length=m+1:=⟨u.length-1,by omega⟩;obtain⟨a2,o2,b6,b7,b8⟩:=X5 a0 (k:=m) (by omega);have hr:a1 = !decide (u[m]'(by omega) = -1):=by rw[a4.out];exact e4n f hm
   have b3:=Su _ _ _ f;have b9:¬((m:Int)+1=0):=by omega
   have c6:(m:Int)<=1000:=by omega
   rw[hm] at a9;clear A f a0;generalize u[m]'(by omega)=x at *;clear hm hu b3
   iterate 8 all_goals try first|apply spl<;>intro h|simp (disch:=first|assumption|omega|simp) [*]
   all_goals exact⟨_,_,⟨rfl,rfl⟩,by omega,a5.out⟩
theorem im_126:Pl prog 126=true:=by kernel_rfl
theorem ag_126:Ch prog 126=some (false,1):=by kernel_rfl
attribute [simp] im_126 ag_126
theorem a6d(f:Hw I O S E T):∀r∈T,∀e∈r,okE T.length O e=true:=λr h=>(Pc f.go (Wy _) (Wy _) r h).2
def StB(g:Gb)(A:Nat)(rows:Wq):Prop:=∃L c,g A=some (.map (D7 L) c)/\StV L rows
theorem e4o(h:k<S.length):Ba T E (S.take (k+1))=Ba T E (S.take k)++[C1 T E S[k]]:=by
 unfold Ba;rw[e7h h,e6z];rfl
theorem e4p:(Ba T E S).length=S.length:=by unfold Ba;simp
theorem RowK.one{g:Gb}{lo n:Nat}{r:Option (Wd)}(h:RowK g lo n r rv):oneC rv=true:=h.rep.one
theorem e4q(f:Hw I O S E T)(Q U c4 c5:AV)(hc:allOne [Q,U,c4,c5]=true)(g:Gb)(n:Nat)(sv ev tv:AV)(hS:Cd g n S sv)(a7:Cd g n E ev)(hT:Cf g n T tv):
  WC 0 prog 82 [.agg [Q,U,sv,ev,c4,c5,tv]] ⟨.fn g,n⟩ λr=>∃A g' n',r=.ret (.map A) ⟨.fn g',n'⟩/\n<=n'/\(∀b,b<n->g' b=g b)/\n<=A/\A<n'/\StB g' A (Ba T E S):=by
 have b3:=hS.choose_spec.1.one;have b8:=a7.choose_spec.1.one;have b9:=hT.choose_spec.1.one;have e9:allOne [Q,U,sv,ev,c4,c5,tv]=true:=by
  simp only[Fi,W0] at hc |-;simp[hc,b3,b8,b9]
 have c2:allOne [Q,U,sv,c4,c5]=true:=by
  simp only[Fi,W0] at hc |-;simp[hc,b3]
 have g0:=@Au prog _ _ _ _ _ hS.choose_spec.1;have HS:=Xr hS;have HP:=Xr f;have g1:=f.sl;have c6:=Xr λ(w:Wd)(a8:w.length<=300)(c7:inW w I=true)(gX:Gb)(n2:Nat) (wv:AV) (hn:n<=n2) (hX:∀b,b<n->gX b=g b) (hw:Al gX n2 w wv)=>a5k f.t0 f.ok (w:=w) (E:=E) a8 (by have:=f.el;omega) c7 f.ew Q U sv c4 c5 c2 gX n2 ev tv wv (a7.mono hn hX) (hT.mono hn hX) hw;clear hS a7 hT hc f;refine ent [] func82 ?_
 iterate 8 all_goals try first|apply spl<;>intro h|simp (disch:=first|assumption|omega|simp) [*]
 refine Xv (λm Z H'=>∃(k n2 c:Nat)(gL:Gb)(L:List (ByteArray×Int×Nat)),k<=S.length/\m=S.length-k/\H'=⟨.fn gL,n2⟩/\n+1+1<=n2/\Aa (∀b,b<n->gL b=g b)/\gL n=some (.cells [Q,U,sv,ev,c4,c5,tv] true 0)/\gL (n+1)=some (.map (D7 L) c)/\Aa (StV L (Ba T E (S.take k))) /\
  Z 1=some (.ptr n 0)/\Z 3=some (.map (n+1))/\Z 15=some sv/\Z 16=some (.li S.length)/\Z 17=some (.li k)) (m0:=S.length) ?_ ?_
 .refine⟨0,_,_,_,[],W3 _,rfl,rfl,Wy _,⟨λb hb=>?_⟩,?_,Ah,⟨by rw[List.take_zero];exact StV.nil⟩,by simp[*]⟩
  .simp (disch:=omega) only[Ad]
  .simp (disch:=omega) only[Ad,Ah]
 rintro m Z H' ⟨k,n2,c,gL,L,hk,rfl,rfl,g2,HG,c8,b4,D,w1,w3,g4,g5,g6⟩ ih;refine rnd [] ?_;by_cases a9:k<S.length
 .have c9:(k:Int)<(S.length:Int):=by omega
  obtain⟨a2,o2,qv,e0,g7,e1,hq⟩:=HS.out.at a9;rw[<- HG.out a2 e0] at e1;obtain⟨a8,e5⟩:=HP.out.sw _ (W2 a9);have HR:=Xr (c6.out S[k] a8 e5 gL n2 qv (by omega) HG.out (Xw (by omega) HG.out hq));have b0:G8 (C1 T E S[k]):=a5z HP.out.o2 (a6d HP.out);have g8:(C1 T E S[k]).length<=6000:=by
   have:=a6a (T:=T) (w:=S[k]) λe he=>(HP.out.ew e he).2.1;have:=HP.out.el;omega
  have a4:=Xr (e4o (T:=T) (E:=E) a9);have e6:Aa (C1 T E S[k]=(Cl T S[k] E).getD []):=⟨rfl⟩;have b1:=Xr b0;have a3:(Ba T E (S.take k)).length=k:=by rw[e4p,Xa];omega
  have e7:=Xr a3;have a0:=D.out.1 _ b0;clear hq b0 a3;generalize S[k]=w at *
  iterate 8 all_goals try first|apply spl<;>intro h|simp (disch:=first|assumption|omega|simp) [*]
  refine Xs HR.out ?_;rintro _ ⟨rv,g3,n3,rfl,g9,a5,a3⟩;have b5:Aa (∀b,b<n->g3 b=g b):=⟨λb hb=>(a5 b (by omega)).trans (HG.out b hb)⟩;have b6:=(a5 n (by omega)).trans c8;have e8:=(a5 (n+1) (by omega)).trans b4;have a6:=a3.rep;rw[<- e6.out] at a6;have h0:=a6.one;have b7:=Xr a6;clear a5 a3 a6 HR;generalize C1 T E w=r at *;generalize Cl T w E=ru at *
  iterate 8 all_goals try first|apply spl<;>intro h|simp (disch:=first|assumption|omega|simp) [*]
  all_goals
   refine Xs (Wk r (by omega) b1.out g3 n3 rv b7.out) ?_;rintro _ rfl
   cases a1:E4 (Ba T E (S.take k)) r with
   | some j =>
    rw[a1] at a0;have b2:Aa (StV L (Ba T E (S.take (k+1)))):=⟨by
     rw[a4.out];refine D.out.old ?_;obtain⟨hj,e,_⟩:=e4m a1;rw[<- e];exact W2 hj⟩
    have a0:Dt (A5 r) L=some (j:Int):=a0;clear a1 D a4
    iterate 8 all_goals try first|apply spl<;>intro h|simp (disch:=first|assumption|omega|simp) [*]
    exact ih.out (S.length-(k+1)) _ _ (by omega) ⟨k+1,n3,c,g3,L,by omega,rfl,rfl,by omega,b5,b6,e8,b2,by simp[*]⟩
   | none =>
    rw[a1] at a0;have b2:Aa (StV (L++[(A5 r,(k:Int),c)]) (Ba T E (S.take (k+1)))):=⟨by
     rw[a4.out];have:=D.out.new (c:=c) b1.out (b7p.1 a1)
     rwa [e7.out] at this⟩
    have a0:Dt (A5 r) L=none:=a0;clear a1 D a4
    iterate 8 all_goals try first|apply spl<;>intro h|simp (disch:=first|assumption|omega|simp) [*]
    refine Xs (Wk r (by omega) b1.out g3 n3 rv b7.out) ?_;rintro _ rfl
    iterate 8 all_goals try first|apply spl<;>intro h|simp (disch:=first|assumption|omega|simp) [*]
    refine ih.out (S.length-(k+1)) _ _ (by omega) ⟨k+1,n3,c+1,_,L++[(A5 r,(k:Int),c)],by omega,rfl,rfl,by omega,⟨λb hb=>?_⟩,?_,Ah,b2,by simp[*]⟩
    .simp (disch:=omega) only[Ad,Ae];exact b5.out b hb
    .simp (disch:=omega) only[Ad,Ae];exact b6
 .have c9:¬(k:Int)<(S.length:Int):=by omega
  have HE:Aa (StV L (Ba T E S)):=⟨by have:=D.out;rwa [Xn (by omega)] at this⟩;clear D
  iterate 8 all_goals try first|apply spl<;>intro h|simp (disch:=first|assumption|omega|simp) [*]
  exact⟨_,_,_,⟨rfl,rfl,rfl⟩,by omega,HG.out,by omega,by omega,_,_,b4,HE.out⟩
theorem e4r{x:Option Nat}:((x.map λk:Nat=>(k:Int)).getD 0)=((x.getD 0:Nat):Int):=by cases x<;>rfl
theorem e4s(f:Hw I O S E T){w:Wd}(h1:0<w.length)(g0:w.length<=300)(a4:inW w I=true)(Z c1 c2 c4 c5:AV)(hc:allOne [Z,c1,c2,c4,c5]=true)(g:Gb)(n A:Nat)(ev tv wv:AV)(b0:Cd g n E ev)(hT:Cf g n T tv)(hw:Al g n w wv){R:Wq}(hA:A<n)(g4:StB g A R):
  WC 0 prog 84 [.agg [Z,c1,c2,ev,c4,c5,tv],.map A,wv] ⟨.fn g,n⟩ λr=>∃g' n',r=.ret (.agg [.lit (.int .i64 (Od T E R w).1),.lit (.int .i64 (Od T E R w).2)]) ⟨.fn g',n'⟩/\n<=n'/\∀b,b<n->g' b=g b:=by
 have b6:=b0.choose_spec.1.one;have g5:=hT.choose_spec.1.one;have h2:=hw.one;have h3:allOne [Z,c1,c2,ev,c4,c5,tv]=true:=by
  simp only[Fi,W0] at hc |-;simp[hc,b6,g5]
 have b1:allOne [Z,c1,c2,ev,c4,c5]=true:=by
  simp only[Fi,W0] at hc |-;simp[hc,b6]
 have b7:=Xr λ(U:Gb)(n2:Nat)(D:n<=n2)(hX:∀b,b<n->U b=g b)=>a6c f.t0 f.ok (w:=w) (by omega) a4 Z c1 c2 ev c4 c5 b1 U n2 tv wv (hT.mono D hX) (Xw D hX hw);have b2:=Xr λ(U:Gb)(n2:Nat)(D:n<=n2)(hX:∀b,b<n->U b=g b)=>V1 f.t0 f.ok (w:=w) (by omega) a4 Z c1 c2 ev c4 c5 b1 U n2 tv wv (hT.mono D hX) (Xw D hX hw);have b8:=Xr λ(U:Gb)(n2:Nat)(D:n<=n2)(hX:∀b,b<n->U b=g b)=>a5k f.t0 f.ok (w:=w) (E:=E) g0 (by have:=f.el;omega) a4 f.ew Z c1 c2 c4 c5 hc U n2 ev tv wv (b0.mono D hX) (hT.mono D hX) (Xw D hX hw);obtain⟨L,c,b9,hL⟩:=g4;have b3:G8 (C1 T E w):=a5z f.o2 (a6d f);have c6:=hL.1 _ b3;have h4:(C1 T E w).length<=6000:=by
  have:=a6a (T:=T) (w:=w) λe he=>(f.ew e he).2.1;have:=f.el;omega
 have g6:=Xr b3;have c7:Aa (C1 T E w=(Cl T w E).getD []):=⟨rfl⟩;have c8:Aa (∀u,Bd T 0 w=some u->u.length=w.length):=⟨λu hu=>Su _ _ _ hu⟩;obtain⟨c9,a5⟩:∃c,c=Od T E R w:=⟨_,rfl⟩;rw[<- a5];unfold Od b7r at a5;have a1:=Xr a5;have g7:Aa (Dt (A5 (C1 T E w)) L=(E4 R (C1 T E w)).map λk:Nat=>(k:Int)):=⟨c6⟩;clear b0 hT hw f hc b1 a5 b3 c6 hL a4;refine ent pl84 func84 ?_
 iterate 8 all_goals try first|apply spl<;>intro h|simp (disch:=first|assumption|omega|simp) [*]
 refine Xs (b7.out _ _ (by omega) λb Q=>by simp (disch:=omega) only[Ad]) ?_;rintro _ ⟨g1,n1,rfl,h5,a6⟩;have a7:Aa (∀b,b<n->g1 b=g b):=⟨λb Q=>by rw[a6 b (by omega)];simp (disch:=omega) only[Ad]⟩;have e0:=(a6 n (by omega)).trans ((Ad (by omega)).trans Ah);have e1:=(a6 (n+1) (by omega)).trans Ah;clear a6 b7
 cases a0:Eo T w with
 | false =>
  have hr:c9=(-1,-1):=by rw[a1.out,a0];rfl
  subst hr;clear a0
  iterate 8 all_goals try first|apply spl<;>intro h|simp (disch:=first|assumption|omega|simp) [*]
  refine⟨_,_,⟨rfl,rfl⟩,by omega,λb Q=>?_⟩;simp (disch:=omega) only[Ad,Ae];exact a7.out b Q
 | true =>
  rw[a0] at a1;obtain⟨u,hu⟩:∃u,Bd T 0 w=some u:=by
   unfold Eo at a0
   cases h:Bd T 0 w with
   | none=>rw[h] at a0;cases a0
   | some u=>exact⟨u,rfl⟩
  have g8:=c8.out u hu;rw[hu] at b2 a1;clear a0 c8
  iterate 8 all_goals try first|apply spl<;>intro h|simp (disch:=first|assumption|omega|simp) [*]
  refine Xs (b2.out _ _ (by omega) a7.out) ?_;rintro _ ⟨kv,g2,n2,rfl,h6,a8,e5⟩;have b4:Aa (∀b,b<n->g2 b=g b):=⟨λb Q=>(a8 b (by omega)).trans (a7.out b Q)⟩;have e6:=(a8 n (by omega)).trans e0;have e7:=(a8 (n+1) (by omega)).trans e1;have HK:=Xr e5.1.rep;clear a8 b2 e5 e0 e1 a7;simp only[e9a]
  iterate 8 all_goals try first|apply spl<;>intro h|simp (disch:=first|assumption|omega|simp) [*]
  refine Xs (b8.out _ _ (by omega) b4.out) ?_;rintro _ ⟨rv,g3,n3,rfl,h7,a3,e8⟩;have e9:Aa (∀b,b<n->g3 b=g b):=⟨λb Q=>(a3 b (by omega)).trans (b4.out b Q)⟩;have h8:=(a3 n (by omega)).trans e6;have h9:=(a3 (n+1) (by omega)).trans e7;have i0:=(e9.out A (by omega)).trans b9;have a9:=e8.rep;rw[<- c7.out] at a9;obtain⟨m,hm⟩:∃m,u.length=m+1:=⟨u.length-1,by omega⟩;have b5:Al g3 n3 u kv:=Xw (by omega) a3 HK.out;have g9:=@Au prog _ _ _ _ _ b5;obtain⟨a2,o2,i1,i2,i3⟩:=X5 b5 (k:=m) (by omega);have i4:=a9.one;have i5:(m:Int)<=1000:=by omega
  have h0:=Xr a9;have hr:c9=((((E4 R (C1 T E w)).getD 0:Nat):Int),u[m]'(by omega)):=by
   rw[a1.out,if_pos rfl];congr 1;have e:u.length-1=m:=by omega
   rw[e9h,List.getLast?_eq_getElem?,e,W5 (by omega)];rfl
  rw[<- e4r,<- g7.out] at hr;rw[hm] at g9;clear a3 e8 a9 b8 a1 hu HK b5 e6 e7 b4 b9 c7;generalize C1 T E w=r at *;generalize Cl T w E=ru at *;generalize u[m]'(by omega)=x at *;subst hr;clear hm g8
  iterate 8 all_goals try first|apply spl<;>intro h|simp (disch:=first|assumption|omega|simp) [*]
  all_goals
   refine Xs (Wk r (by omega) g6.out g3 n3 rv h0.out) ?_;rintro _ rfl
   iterate 8 all_goals try first|apply spl<;>intro h|simp (disch:=first|assumption|omega|simp) [*]
   refine⟨_,_,⟨rfl,rfl⟩,by omega,λb Q=>?_⟩;simp (disch:=omega) only[Ad,Ae];exact e9.out b Q
def K3(p:Wd->Bool)(ws:Wq)(s k:Nat):Prop:=∀j w,s<=j->j<k->ws[j]?=some w->p w=false
theorem K3.step{p:Wd->Bool}{ws:Wq}{s:Nat}{w:Wd}(h:K3 p ws s k)(D:ws[k]?=some w)(Q:s<=k->p w=false):K3 p ws s (k+1):=by
 intro j v A U f;by_cases e:j=k
 .subst e;rw[D] at f;cases f;exact Q A
 .exact h j v A (by omega) f
theorem K3.none(h:K3 (Iy T E (Ba T E S)) (Aq I S) S.length (Aq I S).length):Hz T E I S=none:=by
 unfold Hz;rw[List.find?_eq_none];intro w f;obtain⟨j,A,rfl⟩:=e6l f;have:=h (S.length+j) (Hv I S)[j] (by omega) (by unfold Aq;simp;omega) (by unfold Aq;rw[Xm (by omega)];simp[A]);simp[this]
theorem K3.some{w:Wd}(h:K3 (Iy T E (Ba T E S)) (Aq I S) S.length k)(f:(Aq I S)[k]?=some w)(A:S.length<=k)(D:Iy T E (Ba T E S) w=true):Hz T E I S=some w:=by
 unfold Hz;rw[List.find?_eq_some_iff_getElem];unfold Aq at f;rw[Xm A] at f;obtain⟨Q,U⟩:=W8.1 f;refine⟨D,k-S.length,Q,U,λj Z=>?_⟩;have:=h (S.length+j) ((Hv I S)[j]'(by omega)) (by omega) (by omega) (by unfold Aq;rw[Xm (by omega)];simp[show j<(Hv I S).length by omega]);simp[this]
def OpI(g:Gb)(n A:Nat)(cs:List AV)(P:Nat->Prop)(k:Nat)(gL:Gb)(n2:Nat):Prop:=
 (∀b,b<n->gL b=g b)/\n+5<=n2/\gL n=some (.cells cs true 0)/\gL (n+1)=some (.cells [.map A] true 0)/\gL (n+1+1)=some (.cells [.nl] true 0)/\gL (n+1+1+1)=some (.cells [.li k] true 0)/\gL (n+1+1+1+1)=some (.cells cs true 0)/\P k
theorem OpI.keep{g Q gL:Gb}{n A D n2:Nat}{cs:List AV}{P:Nat->Prop}(h:OpI g n A cs P k Q D)(hn:D<=n2)(f:∀b,b<D->gL b=Q b):OpI g n A cs P k gL n2:=by
 obtain⟨U,h2,Z,h4,h5,h6,h7,h8⟩:=h;exact⟨λb hb=>(f b (by omega)).trans (U b hb),by omega,(f _ (by omega)).trans Z,(f _ (by omega)).trans h4,(f _ (by omega)).trans h5,(f _ (by omega)).trans h6,(f _ (by omega)).trans h7,h8⟩
theorem e4t(hp:Hw I O S E T)(e0:∀w∈S,w.length<=299)(c1 c4 c5:AV)(hc:allOne [c1,c4,c5]=true)(g:Gb)(n A:Nat)(sv ev tv:AV)(hS:Cd g n S sv)(a9:Cd g n E ev)(hT:Cf g n T tv)(hA:A<n)(a2:StB g A (Ba T E S)):
  WC 0 prog 81 [.agg [.li I,c1,sv,ev,c4,c5,tv],.map A] ⟨.fn g,n⟩ λr=>∃rv g' n',r=.ret rv ⟨.fn g',n'⟩/\n<=n'/\(∀b,b<n->g' b=g b)/\Al g' n' ((Hz T E I S).getD []) rv:=by
 have b0:=hS.choose_spec.1.one;have e1:=a9.choose_spec.1.one;have i3:=hT.choose_spec.1.one;have i4:allOne [.li I,c1,sv,ev,c4,c5,tv]=true:=by
  simp only[Fi,W0] at hc |-;simp[hc,b0,e1,i3]
 have i5:allOne [.li I,c1,sv,ev,c4,c5]=true:=by
  simp only[Fi,W0] at hc |-;simp[hc,b0,e1]
 have i6:allOne [.li I,c1,sv,c4,c5]=true:=by
  simp only[Fi,W0] at hc |-;simp[hc,b0]
 have k2:=@Au prog _ _ _ _ _ hS.choose_spec.1;have e5:=Xr λ(w:Wd)(b1:w.length<=300)(b2:inW w I=true)(gX:Gb)(n2:Nat) (f:AV) (hn:n<=n2) (hX:∀b,b<n->gX b=g b) (hw:Al gX n2 w f)=>a6c hp.t0 hp.ok (w:=w) (by omega) b2 (.li I) c1 sv ev c4 c5 i5 gX n2 tv f (hT.mono hn hX) hw;have e6:=Xr λ(w:Wd)(b1:w.length<=300)(b2:inW w I=true)(gX:Gb)(n2:Nat) (f:AV) (hn:n<=n2) (hX:∀b,b<n->gX b=g b) (hw:Al gX n2 w f)=>a5k hp.t0 hp.ok (w:=w) (E:=E) b1 (by have:=hp.el;omega) b2 hp.ew (.li I) c1 sv c4 c5 i6 gX n2 ev tv f (a9.mono hn hX) (hT.mono hn hX) hw;obtain⟨L,c,e7,hL⟩:=a2;have HL:=Xr hL;have HP:=Xr hp;have i7:=hp.i2;have i8:=hp.sl;obtain⟨RS,b3⟩:∃x,x=(Hz T E I S).getD []:=⟨_,rfl⟩;rw[<- b3];have b4:=Xr b3;clear hL b3 a9 hT;refine WC.enterR (Ag _ _) hG pl81 func81 rfl (by decide +kernel) (Wz (by kernel_rfl)) ?_
 iterate 8 all_goals try first|apply spl<;>intro h|simp (disch:=first|assumption|omega|simp) [*]
 refine Xs (b5p _ _ _ _ _ _ _ i4 _ _) ?_;rintro _ rfl
 iterate 8 all_goals try first|apply spl<;>intro h|simp (disch:=first|assumption|omega|simp) [*]
 refine b5o (I:=I) (by omega) (by omega) (λw hw=>(hp.sw w hw).1) c1 ev c4 c5 tv g n (n+1+1+1+1) sv hS (by simp) (by decide +kernel) (OpI g n A [.li I,c1,sv,ev,c4,c5,tv] (K3 (Iy T E (Ba T E S)) (Aq I S) S.length)) (λg' n'=>n<=n'/\(∀b,b<n->g' b=g b)/\∃f,g' (n+1+1)=some (.cells [f] true 0)/\Al g' n' RS f) ?_ ?_ ?_ ?_ ?_
 .rintro k gL n2 ⟨D,Z,h3,h4,h5,h6,h7,h8⟩;exact⟨D,by omega,by omega,h7⟩
 .intro k w gP nP gL n2 gk f K' hk HI i9 e8 a4 b5 e9 g0;refine YB.enter rfl ?_;unfold WN;have HK:=Xr e9;have j0:=Xr g0;have g1:=Xr hk;obtain⟨D,Z,h3,h4,h5,h6,h7,h8⟩:=HI.keep i9 e8;have HG:=Xr D;have HN:=Xr h8;obtain⟨b1,g2⟩:=Sv HP.out.sw hk;have g5:w.length<=300:=by
   unfold Aq at hk;by_cases g6:k<S.length
   .rw[e5v g6] at hk;have:=e0 w (e5w hk);omega
   .rw[Xm (by omega)] at hk;obtain⟨s,hs,h⟩:=e6v.1 (e5w hk);obtain⟨i,_,rfl⟩:=Xc.1 h;have:=e0 s hs;rw[W1,Xj];omega
  have k3:k<=80:=by
   have h9:=(W8.1 hk).1;rw[Pw] at h9;have:=e6m i8 i7;omega
  have b6:Aa (∀a z,gk a=some z->gL a=some z/\a≠n+1+1+1/\a<n2):=⟨λa z Q=>by
   have:=a4 a z Q;have:=HI.2.1;exact⟨(a4 a z Q).1,by omega,by omega⟩⟩
  have b7:=Xr b5;have j1:Aa (∀a z,gk a=some z->a≠n+1+1):=⟨λa z Q=>by
   have:=a4 a z Q;have:=HI.2.1;omega⟩
  have hq:Al gL n2 w f:=Xx (Wy _) (λa z _ Q=>(a4 a z Q).1) b5;have j2:=hq.one;have k4:allOne [f]=true:=by simp[j2]
  have k5:=hq.cell;have HQ:=Xr hq;clear e9 g0 hk HI e8 a4 b5 D h8 hq;have b8:G8 (C1 T E w):=a5z HP.out.o2 (a6d HP.out);have a0:=HL.out.1 _ b8;have k6:(C1 T E w).length<=6000:=by
   have:=a6a (T:=T) (w:=w) λe he=>(HP.out.ew e he).2.1;have:=HP.out.el;omega
  have j3:=Xr b8;have g7:Aa (C1 T E w=(Cl T w E).getD []):=⟨rfl⟩;have j4:=Xr a0;have g8:gL A=some (.map (D7 L) c):=(HG.out A hA).trans e7;clear b8 a0;have b9:Aa (∀(g3:Gb)(n3:Nat),n2<=n3->(∀b,b<n2->b≠n+1+1+1->g3 b=gL b)->g3 (n+1+1+1)=some (.cells [.li ((k:Int)+1)] true 0)->(S.length<=k->Iy T E (Ba T E S) w=false)->K' true none ⟨.fn g3,n3⟩):=⟨λg3 n3 q1 q2 q3 q4=>HK.out _ _ ⟨λb U=>(q2 b (by omega) (by omega)).trans (HG.out b U),by omega,(q2 _ (by omega) (by omega)).trans h3,(q2 _ (by omega) (by omega)).trans h4,(q2 _ (by omega) (by omega)).trans h5,q3,(q2 _ (by omega) (by omega)).trans h7,HN.out.step g1.out q4⟩⟩;by_cases g6:k<S.length
  .have j5:(k:Int)+1<=(S.length:Int):=by omega
   iterate 8 all_goals try first|apply spl<;>intro h|simp (disch:=first|assumption|omega|simp) [*]
   refine b9.out _ _ (by omega) (λb _ U=>?_) ?_ (by omega)
   .simp (disch:=omega) only[Ae]
   .exact Ah
  .have j5:¬(k:Int)+1<=(S.length:Int):=by omega
   iterate 8 all_goals try first|apply spl<;>intro h|simp (disch:=first|assumption|omega|simp) [*]
   refine Xs (e5.out w g5 g2 _ _ f (by omega) (λb U=>?_) (Xx (Wy _) (λa z _ Q=>?_) b7.out)) ?_
   .simp (disch:=omega) only[Ae];exact HG.out b U
   .have:=b6.out a z Q;rw[Ae this.2.1];exact this.1
   rintro _ ⟨g3,n3,rfl,k7,c0⟩;have a1:Aa (∀b,b<n2->b≠n+1+1+1->g3 b=gL b):=⟨λb U h9=>(c0 b U).trans (Ae h9)⟩;have c2:=(c0 (n+1+1+1) (by omega)).trans Ah;clear c0
   cases a5:Eo T w with
   | false =>
    have g9:Iy T E (Ba T E S) w=false:=by unfold Iy;rw[a5];rfl
    have c6:=Xr g9;clear a5 g9
    iterate 8 all_goals try first|apply spl<;>intro h|simp (disch:=first|assumption|omega|simp) [*]
    exact b9.out _ _ (by omega) (λb D Z=>a1.out b D Z) c2 (λ_=>c6.out)
   | true =>
    have c7:=a1.out n (by omega) (by omega);have c8:=a1.out (n+1) (by omega) (by omega);have c9:=a1.out (n+1+1) (by omega) (by omega);rw[h3] at c7;rw[h4] at c8;rw[h5] at c9;clear h3 h4 h5 h6;have h0:Al g3 n3 w f:=Xx (by omega) (λa z _ Q=>by
     have:=b6.out a z Q;exact(a1.out a this.2.2 this.2.1).trans this.1) b7.out
    have i0:=Xr (e6.out w g5 g2 g3 n3 f (by omega) (λb U=>(a1.out b (by omega) (by omega)).trans (HG.out b U)) h0);clear h0
    iterate 8 all_goals try first|apply spl<;>intro h|simp (disch:=first|assumption|omega|simp) [*]
    refine Xs i0.out ?_;rintro _ ⟨rv,g4,n4,rfl,k8,a3,i1⟩;have a6:Aa (∀b,b<n2->b≠n+1+1+1->g4 b=gL b):=⟨λb D Z=>(a3 b (by omega)).trans (a1.out b D Z)⟩;have k9:=(a3 n (by omega)).trans c7;have l0:=(a3 (n+1) (by omega)).trans c8;have l1:=(a3 (n+1+1) (by omega)).trans c9;have j6:=(a3 (n+1+1+1) (by omega)).trans c2;have l2:=(a6.out A (by omega) (by omega)).trans g8;have a7:=i1.rep;rw[<- g7.out] at a7;have l3:=a7.one;have j7:=Xr a7;have a8:Aa (Iy T E (Ba T E S) w=(E4 (Ba T E S) (C1 T E w)).isNone):=⟨by unfold Iy;rw[a5];rfl⟩;clear a3 i1 a7 i0 c7 c8 c9 c2 a5 g7 e5 e6 g8 e7;generalize C1 T E w=r at *;generalize Cl T w E=ru at *
    iterate 8 all_goals try first|apply spl<;>intro h|simp (disch:=first|assumption|omega|simp) [*]
    all_goals
     refine Xs (Wk r (by omega) j3.out g4 n4 rv j7.out) ?_;rintro _ rfl;have a0:=j4.out
     cases a2:E4 (Ba T E S) r with
     | some j =>
      rw[a2] at a0 a8;have c6:Aa (Iy T E (Ba T E S) w=false):=⟨a8.out⟩;have j8:Dt (A5 r) L=some (j:Int):=a0;clear a2 a0
      iterate 8 all_goals try first|apply spl<;>intro h|simp (disch:=first|assumption|omega|simp) [*]
      exact b9.out _ _ (by omega) (λb D Z=>a6.out b D Z) j6 (λ_=>c6.out)
     | none =>
      rw[a2] at a0 a8;have hr:=b4.out.trans (congrArg (λo=>o.getD []) (K3.some HN.out g1.out (by omega) a8.out));have j8:Dt (A5 r) L=none:=a0;have j9:Aa (Al (Ak g4 (n+1+1) (some (.cells [f] true 0))) n4 w f):=⟨Xx (by omega) (λa z _ Q=>by
       have:=b6.out a z Q;have k0:=j1.out a z Q;rw[Ae k0];exact(a6.out a this.2.2 this.2.1).trans this.1) b7.out⟩
      have k1:=Xr hr;clear a2 a0 hr
      iterate 8 all_goals try first|apply spl<;>intro h|simp (disch:=first|assumption|omega|simp) [*]
      refine j0.out _ _ ⟨by omega,λb U=>?_,f,Ah,?_⟩
      .simp (disch:=omega) only[Ad,Ae];exact(a6.out b (by omega) (by omega)).trans (HG.out b U)
      .rw[k1.out];exact j9.out
 .refine⟨λb U=>?_,by omega,?_,?_,?_,?_,Ah,λj w D Z=>by omega⟩
  all_goals first|(simp (disch:=omega) only[Ad,Ah];done)|(simp (disch:=omega) only[Ad,Ah];rfl)
 .intro gL n2 HI;obtain⟨D,Z,h3,h4,h5,h6,h7,h8⟩:=HI;have hr:RS=[]:=by rw[b4.out,h8.none];rfl
  subst hr;have HG:=Xr D;clear D h8 b4
  iterate 8 all_goals try first|apply spl<;>intro h|simp (disch:=first|assumption|omega|simp) [*]
  refine⟨_,_,_,⟨rfl,rfl,rfl⟩,by omega,λb U=>?_,.inl ⟨rfl,rfl,.inl rfl⟩⟩;rw[Ae (by omega)];exact HG.out b U
 .rintro g' n' ⟨D,Z,f,h3,h4⟩;have HG:=Xr Z;have HQ:=Xr h4;clear Z h4
  iterate 8 all_goals try first|apply spl<;>intro h|simp (disch:=first|assumption|omega|simp) [*]
  exact⟨_,_,_,⟨rfl,rfl,rfl⟩,D,HG.out,HQ.out⟩
theorem e4u{f:Wq}(D:f.Perm l):0<(A6 f).length↔0<l.length:=by
 have A:∀x,x∈A6 f↔x∈l:=λx=>by rw[Wc];exact D.mem_iff
 constructor
 .intro h;exact e7k ((A _).1 (W2 h))
 .intro h;exact e7k ((A _).2 (W2 h))
theorem N9.len{g:Gb}{lo n:Nat}{f:AV}(h:N9 g lo n l f):Af g n f l.length h.choose:=h.choose_spec.1
theorem e4v:decide (0<((Hz T E I S).getD []).length)=(Hz T E I S).isSome:=by
 cases h:Hz T E I S with
 | none=>rfl
 | some w =>
  have f:=List.mem_of_find?_eq_some h;obtain⟨s,_,h⟩:=e6v.1 f;obtain⟨i,_,rfl⟩:=Xc.1 h;simp
end Go.Ai
