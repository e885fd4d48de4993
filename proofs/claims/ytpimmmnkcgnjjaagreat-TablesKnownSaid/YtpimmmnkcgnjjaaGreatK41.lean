/- Parts of an interpreter and of a proof. No condition. -/
import Derived.Test.YtpimmmnkcgnjjaaGreatK12
import Derived.Test.YtpimmmnkcgnjjaaGreatK27
import Derived.Test.YtpimmmnkcgnjjaaGreatK31
import Derived.Test.YtpimmmnkcgnjjaaGreatK37
import Derived.Test.YtpimmmnkcgnjjaaGreatK39
import Derived.Test.YtpimmmnkcgnjjaaGreatK40
set_option linter.all false
set_option maxHeartbeats 40000000
set_option maxRecDepth 10000
open Go.Proofs Go.Proofs.Tryz
namespace Go.Ai
theorem Af.cutY{g:Gb}{b len:Nat}{sv:AV}{cs:List AV}(h:Af g b sv len cs)(U:Av sv){t:TypeId}(f:(Bp prog t).map (·.1)=some none){k:Nat}(Z:k<=len)(h0:0<len):
  ∃A,(∀{H:Mem}{ev:Ev}{d:Option Tmp}{ty:TypeId}{p:String} {af:Array Edge} {gd:Option (Nat×Bool)} {x hi:Operand} {hx:ev x=some sv} {hh:ev hi=some (.li (k:Int))},
   ex2 prog H ev ⟨d,.slice t x none (some hi) none,ty,p,af,gd⟩ x hi (some sv) (some (.li (k:Int))) hx hh=.val A H)/\Af g b A k (cs.take k):=by
 rcases h with⟨h1,_⟩|⟨a,off,D,⟨c,rfl⟩|⟨c,rfl⟩,Q⟩
 .omega
 .have a0:=U _ _ _ _ rfl;refine⟨.sl a off k c,?_,.inr ⟨a,off,D,.inl ⟨c,rfl⟩,Q.takes k⟩⟩;intro H ev d ty p af gd x hi hx hh;rw[Ui f (by omega) (by omega) (by omega)];simp
 .refine⟨.slq a off k c,?_,.inr ⟨a,off,D,.inr ⟨c,rfl⟩,Q.takes k⟩⟩;intro H ev d ty p af gd x hi hx hh;rw[Uj f (by omega) (by omega) (by omega)];simp
theorem RowsW.take{g:Gb}{n:Nat}{l:Wq}{f:List AV}(h:RowsW g n l f)(m:Nat):RowsW g n (l.take m) (f.take m):=by
 refine⟨by rw[Xa,Xa,h.1],λk D=>?_⟩;have A:k<m/\k<l.length:=by rw[Xa] at D;omega
 obtain⟨sv,Q,U⟩:=h.2 k A.2;exact⟨sv,by rw[e7r,if_pos A.1];exact Q,by rw[e7q];exact U⟩
theorem elY22:(Bp prog 22).map (·.1)=some none:=by kernel_rfl
structure AtW (g:Gb) (n:Nat) (l:Wq) (sv:AV) (k:Nat) (w:Wd) (q1:AV) (a off:Nat) (cut:AV):Prop where
 rep:∀gX n2,n<=n2->(∀b,b<n->gX b=g b)->Al gX n2 w q1
 cell:∀gX:Gb,(∀b,b<n->gX b=g b)->Bf (some (false,1)) (gX a) (off+k)=some q1
 ia:∀{H:Mem}{ev:Ev}{o:Oper}{t:TypeId},iaS prog H ev o t (some (none,1)) (some sv) (some (.li (k:Int)))=.val (.ptr a (off+k)) H
 an:a<n
 cap:Av q1
 cuts:∀{H:Mem}{ev:Ev}{d:Option Tmp}{ty:TypeId}{p:String} {af:Array Edge} {gd:Option (Nat×Bool)} {x hi:Operand} {hx:ev x=some sv} {hh:ev hi=some (.li (k:Int))},
   ex2 prog H ev ⟨d,.slice 22 x none (some hi) none,ty,p,af,gd⟩ x hi (some sv) (some (.li (k:Int))) hx hh=.val cut H
 find:∀(x:Wd)(sx:AV) gX n2,n<=n2->(∀b,b<n->gX b=g b)->x.length<=1000000->Al gX n2 x sx->WC 0 prog 57 [cut,sx] ⟨.fn gX,n2⟩ λr=>∃z:Int,r=.ret (.li z) ⟨.fn gX,n2⟩/\decide (0<=z)=decide (x∈l.take k)
theorem J4.at{g:Gb}{n:Nat}{l:Wq}{sv:AV}(h:J4 g n l sv)(a5:Av sv){k:Nat}(Q:k<l.length):∃f a off A,AtW g n l sv k l[k] f a off A:=by
 obtain⟨a0,a1,hr,hc⟩:=h.ex;obtain⟨f,U,a6⟩:=hr.2 k Q;obtain⟨a2,off,a3,a7,a4⟩:=a1.ia (P:=prog) Q 1;obtain⟨A,a8,a9⟩:=a1.cutY a5 elY22 (Xp Q) (by omega);have b0:k<a0.length:=(W8.1 U).1;refine⟨f,a2,off,A,λZ n2 D hX=>Xw D hX a6,λZ hX=>?_,?_,a3,hc f (e5w U),a8,λx sx Z n2 D hX hx hs=>?_⟩
 .have b1:=(a7.mono (hX a2 a3)).one (k:=k) (s:=1) b0
  rwa [(W8.1 U).2] at b1
 .simp only[Xk] at a4;exact a4
 .have b2:(l.take k).length=k:=by rw[Xa];omega
  refine e1f (l.take k) (by have:=h.len;omega) (λw hw=>h.words w (e6p hw)) x hx Z n2 A sx (a0.take k) ?_ ((hr.take k).ext D λa x ha hx=>(hX a ha).trans hx) hs;rw[b2];exact a9.mono D hX
theorem newLen(I:Nat):(Aj I []).length=1:=by rw[Mx];rfl
theorem newRow{I:Nat}{r:List (Int×Int)}(h:r∈Aj I []):r=List.replicate I (-1,-1):=by rw[Mx] at h;exact Xf.1 h
theorem A7.extX{g g': Gb}{n n': Nat}{S E:Wq}{T:Tq}{sv ev D:AV}(h:A7 g n S E T sv ev D)(f:n<=n')(A:∀a z,a<n->g a=some z->g' a=some z):A7 g' n' S E T sv ev D:=
 ⟨h.s.ext f A,h.e.ext f A,let ⟨ts,Q,U⟩:=h.t;⟨ts,Xx f A Q,U.ext f A⟩⟩
theorem goZ1:goT ((1:Nat):Int) 1 (Aj 1 []) 0 1=some (Aj 1 []).length:=by rw[Mx];decide
theorem goZ16:goT ((16:Nat):Int) 1 (Aj 16 []) 0 1=some (Aj 16 []).length:=by rw[Mx];decide
theorem goZ2:goT ((2:Nat):Int) 1 (Aj 2 []) 0 1=some (Aj 2 []).length:=by rw[Mx];decide
theorem a6f{I:Nat}(h1:1<=I)(h2:I<=16)(g:Gb)(n:Nat):WC 0 prog 12 [.li I,.li 1] ⟨.fn g,n⟩ λr=>∃sv ev f g' n',r=.ret (.tup [.agg [.li I,.li 1,sv,ev,.li I,.li 1,f],.li 0]) ⟨.fn g',n'⟩/\n<=n'/\(∀b,b<n->g' b=g b)/\A7 g' n' [[]] (D8 I) (Aj I []) sv ev f:=by
 refine Xs (e3s I 1 g n) ?_;have h:Hy I 1=0:=by unfold Hy;rw[if_neg (by omega),if_neg (by omega)]
 rintro _ ⟨A,D,Q,U,⟨Z,_⟩|⟨_,J,hJ,q1,q2,q3,q4,b1,b2,b3,rfl,hT,_⟩⟩
 .exact absurd h Z
 obtain rfl:I=J:=by omega
 exact⟨_,_,_,A,D,rfl,Q,U,hT⟩
theorem e4y(g:Gb)(n:Nat):WC 0 prog 12 [.li 1,.li 1] ⟨.fn g,n⟩ λr=>∃sv ev f g' n',r=.ret (.tup [.agg [.li 1,.li 1,sv,ev,.li 1,.li 1,f],.li 0]) ⟨.fn g',n'⟩/\n<=n'/\(∀b,b<n->g' b=g b)/\A7 g' n' (zS 1) [[0]] (Aj 1 []) sv ev f:=a6f (I:=1) (by decide) (by decide) g n
theorem e4z(g:Gb)(n:Nat):WC 0 prog 12 [.li 16,.li 1] ⟨.fn g,n⟩ λr=>∃sv ev f g' n',r=.ret (.tup [.agg [.li 16,.li 1,sv,ev,.li 16,.li 1,f],.li 0]) ⟨.fn g',n'⟩/\n<=n'/\(∀b,b<n->g' b=g b)/\A7 g' n' [[]] (wE 0) (Aj 16 []) sv ev f:=a6f (I:=16) (by decide) (by decide) g n
theorem e5a(g:Gb)(n:Nat):WC 0 prog 12 [.li 2,.li 1] ⟨.fn g,n⟩ λr=>∃sv ev f g' n',r=.ret (.tup [.agg [.li 2,.li 1,sv,ev,.li 2,.li 1,f],.li 0]) ⟨.fn g',n'⟩/\n<=n'/\(∀b,b<n->g' b=g b)/\A7 g' n' [[]] (D8 2) (Aj 2 []) sv ev f:=a6f (I:=2) (by decide) (by decide) g n
theorem okZ{k:Nat}(f:1<=k)(h:k<=64):Oc 1 1 (zS k) [[0]] (Aj 1 []):=by
 obtain⟨j,rfl⟩:∃j,k=j+1:=⟨k-1,by omega⟩;exact okW (q:=1) (O:=1) (by decide) (by decide) (by decide) (by decide) (zS_ok j) zE_ok (by omega) (by omega) (by omega) goZ1
theorem a6g{k:Nat}(h:k<=240):Oc 16 1 [[]] (wE k) (Aj 16 []):=okW (q:=16) (O:=1) (by decide) (by decide) (by decide) (by decide) Yt (wE_ok h) (by omega) (by omega) (by omega) goZ16
theorem e5b{k:Nat}(Z:1<=k)(h:k<64)(g:Gb)(n:Nat)(sv ev tv f:AV)(hT:A7 g n (zS k) [[0]] (Aj 1 []) sv ev tv)(hw:Al g n (List.replicate k 0) f)(hc:Av f):
  WC 0 prog 38 [.agg [.li 1,.li 1,sv,ev,.li 1,.li 1,tv],f] ⟨.fn g,n⟩ λr=>∃A D Q g' n',r=.ret (.tup [.agg [.li 1,.li 1,A,D,.li 1,.li 1,Q],.li 0]) ⟨.fn g',n'⟩/\n<=n'/\(∀b,b<n->g' b=g b)/\A7 (A9 n g') n' (zS (k+1)) [[0]] (Aj 1 []) A D Q:=by
 refine Xs (b7d (okZ Z (by omega)) (by simp;omega) g n sv ev tv f hT hw hc) ?_;rintro _ ⟨rv,g',n',rfl,h1,h2,U⟩;rw[Wg Z,if_neg (by omega),<- Wf] at U;rw[Wg Z,if_neg (by omega)];rcases U with⟨U,_⟩|⟨_,A,D,Q,rfl,h4,_,_⟩
 .exact absurd rfl U
 .exact⟨A,D,Q,g',n',rfl,h1,h2,h4⟩
theorem e5c(g:Gb)(n:Nat)(sv ev A f:AV)(D:A7 g n (zS 64) [[0]] (Aj 1 []) sv ev A)(Q:Al g n (List.replicate 64 0) f)(U:Av f):
  WC 0 prog 38 [.agg [.li 1,.li 1,sv,ev,.li 1,.li 1,A],f] ⟨.fn g,n⟩ λr=>∃g' n',r=.ret (.tup [zeroTab,.li 3]) ⟨.fn g',n'⟩/\n<=n'/\(∀b,b<n->g' b=g b):=by
 refine Xs (b7d (okZ (by omega) (Wy 64)) (by simp) g n sv ev A f D Q U) ?_;rintro _ ⟨rv,g',n',rfl,Z,h2,h⟩;rw[Wg (by omega),if_pos (by omega)] at h;rw[Wg (by omega),if_pos (by omega)];rcases h with⟨_,rfl⟩|⟨h,_⟩
 .exact⟨g',n',rfl,Z,h2⟩
 .cases h
theorem e5d(g:Gb)(n:Nat)(sv ev U f:AV)(hT:A7 g n (zS 64) [[0]] (Aj 1 []) sv ev U)(hw:Al g n (List.replicate 192 0) f)(hc:Av f):
  WC 0 prog 39 [.agg [.li 1,.li 1,sv,ev,.li 1,.li 1,U],f] ⟨.fn g,n⟩ λr=>∃h A D g' n',r=.ret (.tup [.agg [.li 1,.li 1,h,A,.li 1,.li 1,D],.li 0]) ⟨.fn g',n'⟩/\n<=n'/\(∀b,b<n->g' b=g b)/\oneC h=true/\oneC A=true/\oneC D=true:=by
 refine Xs (We (okZ (by omega) (Wy 64)) (by simp) g n sv ev U f hT hw hc) ?_;rintro _ ⟨rv,g',n',rfl,h1,h2,Q⟩;rw[Wh (.inl rfl),if_pos rfl] at Q;rw[Wh (.inl rfl),if_pos rfl];rcases Q with⟨Q,_⟩|⟨_,h,A,D,rfl,Z,_,_⟩
 .exact absurd rfl Q
 .exact⟨h,A,D,g',n',rfl,h1,h2,Z.s.one,Z.e.one,Z.t.choose_spec.1.one⟩
theorem e5e(g:Gb)(n:Nat)(sv ev A f:AV)(D:A7 g n (zS 64) [[0]] (Aj 1 []) sv ev A)(Q:Al g n (List.replicate 193 0) f)(U:Av f):
  WC 0 prog 39 [.agg [.li 1,.li 1,sv,ev,.li 1,.li 1,A],f] ⟨.fn g,n⟩ λr=>∃g' n',r=.ret (.tup [zeroTab,.li 3]) ⟨.fn g',n'⟩/\n<=n'/\(∀b,b<n->g' b=g b):=by
 refine Xs (We (okZ (by omega) (Wy 64)) (by simp) g n sv ev A f D Q U) ?_;rintro _ ⟨rv,g',n',rfl,Z,h2,h⟩;rw[Wh (.inr rfl),if_neg (by decide)] at h;rw[Wh (.inr rfl),if_neg (by decide)];rcases h with⟨_,rfl⟩|⟨h,_⟩
 .exact⟨g',n',rfl,Z,h2⟩
 .cases h
theorem e5f{k:Nat}(h:k<240)(g:Gb)(n:Nat)(sv ev Z f:AV)(hT:A7 g n [[]] (wE k) (Aj 16 []) sv ev Z)(hw:Al g n [((k % 16:Nat):Int),((k / 16:Nat):Int)] f)(hc:Av f):
  WC 0 prog 39 [.agg [.li 16,.li 1,sv,ev,.li 16,.li 1,Z],f] ⟨.fn g,n⟩ λr=>∃A D Q g' n',r=.ret (.tup [.agg [.li 16,.li 1,A,D,.li 16,.li 1,Q],.li 0]) ⟨.fn g',n'⟩/\n<=n'/\(∀b,b<n->g' b=g b)/\A7 (A9 n g') n' [[]] (wE (k+1)) (Aj 16 []) A D Q:=by
 refine Xs (We (a6g (by omega)) (by simp) g n sv ev Z f hT hw hc) ?_;rintro _ ⟨rv,g',n',rfl,h1,h2,U⟩;rw[b7i h,<- b7g] at U;rw[b7i h];rcases U with⟨U,_⟩|⟨_,A,D,Q,rfl,h4,_,_⟩
 .exact absurd rfl U
 .exact⟨A,D,Q,g',n',rfl,h1,h2,h4⟩
theorem e5g(g:Gb)(n:Nat)(sv ev A f:AV)(D:A7 g n [[]] (wE 240) (Aj 16 []) sv ev A)(Q:Al g n [0,0,0] f)(U:Av f):
  WC 0 prog 39 [.agg [.li 16,.li 1,sv,ev,.li 16,.li 1,A],f] ⟨.fn g,n⟩ λr=>∃g' n',r=.ret (.tup [zeroTab,.li 3]) ⟨.fn g',n'⟩/\n<=n'/\(∀b,b<n->g' b=g b):=by
 refine Xs (We (a6g (Wy 240)) (by simp) g n sv ev A f D Q U) ?_;rintro _ ⟨rv,g',n',rfl,Z,h2,h⟩;rw[widen_w3] at h |-;rcases h with⟨_,rfl⟩|⟨h,_⟩
 .exact⟨g',n',rfl,Z,h2⟩
 .cases h
theorem e5h(g:Gb)(n:Nat)(sv ev f:AV)(h:A7 g n [[]] (wE 240) (Aj 16 []) sv ev f):
  WC 0 prog 37 [.agg [.li 16,.li 1,sv,ev,.li 16,.li 1,f]] ⟨.fn g,n⟩ λr=>r=.ret (.li 0) ⟨.fn g,n⟩:=(a6g (Wy 240)).check h
theorem e5i(g:Gb)(n:Nat)(sv ev Q:AV)(h:A7 g n (zS 64) [[0]] (Aj 1 []) sv ev Q):
  WC 0 prog 14 [.agg [.li 1,.li 1,sv,ev,.li 1,.li 1,Q]] ⟨.fn g,n⟩ λr=>∃B q z g' n',r=.ret (.tup [.sl B 0 1 1,.li 0]) ⟨.fn g',n'⟩/\n<=n'/\(∀b,b<n->g' b=g b)/\B<n'/\g' B=some (.cells [q] true z)/\Al g' n' (List.replicate 65 0) q:=by
 have a0:=h.s.one;have a1:=h.e.one;have a2:=h.t.choose_spec.1.one;have f:=okZ (by omega) (Wy 64);have hU:∀w∈A2 (Aj 1 []) [[0]] (Aq 1 (zS 64)),w.length<=300/\N8 w:=λw Z=>by
  obtain⟨j,hj,rfl⟩:=Wi.1 Z;refine⟨by simp;omega,λi hi=>?_⟩;have:=(e9g.1 hi).2;subst this;decide
 refine Xs (b6b (.li ((1:Nat):Int)) (.li 1) sv ev (.li ((1:Nat):Int)) (.li 1) Q (by simp[a0,a1,a2]) (λl=>l=Cv (A2 (Aj 1 []) [[0]] (Aq 1 (zS 64)))) (λl hl=>?_) g n (λgX n2 D hX=>f.check (h.mono D hX)) (λgX n2 D hX=>Xs (a5x f.i1 f.i2 (by rw[P1];omega) f.sw (by simp) (by rw[P1];simp) f.ew f.t0 f.ok (.li 1) (.li ((1:Nat):Int)) (.li 1) rfl gX n2 sv ev Q (h.mono D hX).s.listV (h.mono D hX).e.listV (h.mono D hX).t) ?_)) ?_
 .subst hl;exact⟨by
   have:=b6v (A2 (Aj 1 []) [[0]] (Aq 1 (zS 64)));have A:=Sw (T:=Aj 1 []) (E:=[[0]]) (ws:=Aq 1 (zS 64));rw[Pw,P1] at A;simp at A;omega,λw Z=>hU w (K2.1 Z)⟩
 .rintro _ ⟨l',ov,g',n',rfl,A,h2,U,h4,h5⟩;exact⟨A6 l',ov,g',n',rfl,b6w U h4,A,h2,h5⟩
 .rintro _ ⟨l,rv,g',n',rfl,rfl,A,h2,U⟩;rw[asks_z] at U;obtain⟨B,cs,rfl,h4,h5,⟨z,h6⟩,h7,h8⟩:=U;obtain⟨q,rfl⟩:∃q,cs=[q]:=List.length_eq_one_iff.1 h7.1;obtain⟨q2,e,h9⟩:=h7.2 0 (by simp);cases e;exact⟨B,q,z,g',n',rfl,A,h2,h5,h6,h9.ext (Wy _) λa x _ hx=>(B8 hx).2⟩
def refM:Az:=⟨2,1,[[(-1,-1),(-1,-1)]]⟩
theorem refM_ok:refM.ok:=⟨by decide,by decide,by decide,by decide,by decide,by decide,by decide⟩
theorem refT:Aj 2 (En 2 []++E3 refM (A2 (Aj 2 []) (D8 2) (Aq 2 [[]])))=[[(-1,-2),(-1,-2)]]:=by decide +kernel
theorem e5j(g:Gb)(n:Nat)(sv ev D:AV)(h:A7 g n [[]] (D8 2) (Aj 2 []) sv ev D)(Q:List AV)(hr:Cx g n refM Q):
  WC 0 prog 19 [.agg [.li 2,.li 1,sv,ev,.li 2,.li 1,D],.agg Q] ⟨.fn g,n⟩ λr=>∃U Z a0 g' n',r=.ret (.agg [.li 2,.li 1,U,Z,.li 2,.li 1,a0]) ⟨.fn g',n'⟩/\n<=n'/\(∀b,b<n->g' b=g b)/\A7 (A9 n g') n' [[]] (D8 2) [[(-1,-2),(-1,-2)]] U Z a0:=by
 have hp:Hw 2 1 [[]] (D8 2) (Aj 2 []):=by
  have f:=okW (q:=2) (O:=1) (by decide) (by decide) (by decide) (by decide) Yt (Yu (q:=2) (Wy 1)) (by omega) (by omega) (by omega) goZ2;exact⟨f.i1,by decide,f.o1,f.o2,by decide,f.s0,f.sw,f.e0,by decide,f.ew,f.t0,f.tl,f.go,f.ok,f.err⟩
 have A:=e4k refM_ok (I:=2) (O:=1) rfl rfl hp (b6p (by decide) (by decide) (by decide) (by decide)) (λt A=>by cases A) (λw f=>by rw[Xf.1 f];decide) (λe he=>by obtain⟨i,_,rfl⟩:=e3u.1 he;simp) (by decide +kernel) g n sv ev D h Q hr;rw[refT] at A;exact A
theorem e5k(g:Gb)(n:Nat)(sv ev D:AV)(h:A7 g n [[]] (D8 2) [[(-1,-2),(-1,-2)]] sv ev D):
  WC 0 prog 31 [.agg [.li 2,.li 1,sv,ev,.li 2,.li 1,D]] ⟨.fn g,n⟩ λr=>∃a o g' n',r=.ret (.tup [.agg [.li 2,.li 1,.sl a o 1 1],.li 0]) ⟨.fn g',n'⟩/\n<=n'/\(∀b,b<n->g' b=g b)/\Cf g' n' [[(-1,-1),(-1,-1)]] (.sl a o 1 1):=by
 have f:=okW (q:=2) (O:=1) (by decide) (by decide) (by decide) (by decide) Yt (Yu (q:=2) (Wy 1)) (by omega) (by omega) (by omega) goZ2;have U:Hw 2 1 [[]] (D8 2) [[(-1,-2),(-1,-2)]]:=⟨by decide,by decide,by decide,by decide,by decide,by decide,f.sw,by decide,by decide,f.ew,by decide,by decide,by decide,by decide,by
  refine b7f (by decide) (by decide) (by decide) (by decide) Yt (Yu (q:=2) (Wy 1)) (by omega) (by omega) (by omega) ?_
  decide⟩
 have hh:=e4x U (λw f=>by rw[Xf.1 f];decide) g n sv ev D h;rw[show Wj [[(-1,-2),(-1,-2)]] (D8 2) 2 [[]]=0 by decide +kernel,show J5 [[(-1,-2),(-1,-2)]] (D8 2) 2 [[]]=[[(-1,-1),(-1,-1)]] by decide +kernel] at hh;refine Xs hh ?_;rintro _ ⟨hv,g',n',rfl,Z,h2,Q,A⟩;rw[if_pos rfl] at Q A;rw[if_pos rfl,if_pos rfl];rcases A with⟨A,_⟩|⟨a,o,rfl⟩
 .cases A
 .exact⟨a,o,g',n',rfl,Z,h2,Q⟩
end Go.Ai
