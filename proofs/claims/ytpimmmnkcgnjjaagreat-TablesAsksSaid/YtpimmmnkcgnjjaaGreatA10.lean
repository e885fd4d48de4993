/- Parts of an interpreter and of a proof. No condition. -/
import Derived.Test.YtpimmmnkcgnjjaaGreatA09
import Derived.Test.YtpimmmnkcgnjjaaGreatA08
set_option linter.all false
set_option maxHeartbeats 40000000
set_option maxRecDepth 10000
open Go.Proofs Go.Proofs.Tryz
namespace Go.Ai
variable {ts:Lq}{g':Gb}{n' i:Nat}{w r:Wd}{O:Int}{l:Wq}{svs:List AV}
def Cs(I:Nat)(bs:List Nat):List AV:=bs.map λb=>.sl b 0 I I
theorem Pp{I:Nat}{h:List Nat}:(Cs I h).length=h.length:=by simp[Cs]
theorem a4w{I:Nat}{A:List Nat}{k:Nat}(h:k<A.length):(Cs I A)[k]'(by rw[Pp];exact h)=.sl A[k] 0 I I:=by simp[Cs]
structure RowsB (g:Gb) (lo n I:Nat) (rows:Tq) (bs:List Nat):Prop where
 len:bs.length=rows.length
 nd:bs.Nodup
 at' : ∀(k:Nat)(h:k<bs.length)(h' : k<rows.length),lo<=bs[k]/\bs[k] < n/\g bs[k]=some (.cells (Au rows[k]) true 0)/\rows[k].length=I
structure F5 (g:Gb) (lo n T I:Nat) (rows:Tq) (bs:List Nat) (B:Nat) (sv:AV):Prop where
 rb:RowsB g lo n I rows bs
 pos:0<rows.length
 bl:lo<=B/\B<n
 tl:lo<=T/\T<n
 tb:T≠B
 tn:T ∉ bs
 bn:B ∉ bs
 gt:g T=some (.cells [sv] true 0)
 gb:(rows.length=1/\sv=.sl B 0 1 1/\g B=some (.cells (Cs I bs) true 0))\/(sv=.slq B 0 rows.length 0/\g B=some (.cells (Cs I bs) true 1))
def Ix(I:Nat)(rows:Tq):Prop:=∀row∈rows,row.length=I/\∀e∈row,e.1 = -1\/(0<=e.1/\e.1<rows.length)
theorem Ix.set{I:Nat}{rows:Tq}(h:Ix I rows){a i:Nat}(U:a<rows.length){e:Int×Int}(A:e.1 = -1\/(0<=e.1/\e.1<rows.length)):Ix I (rows.set a ((rows.getD a []).set i e)):=by
 intro row Z;rcases e8b Z with h1|rfl
 .obtain⟨D,Q⟩:=h row h1;exact⟨D,λe A=>by rw[Xf];exact Q e A⟩
 .have hm:=(Hc (d:=[]) U).1;obtain⟨D,Q⟩:=h _ hm;refine⟨by rw[Xf];exact D,λe' a0=>?_⟩;rw[Xf];rcases e8b a0 with h4|rfl
  .exact Q e' h4
  .exact A
theorem Ix.new{I:Nat}{rows:Tq}(h:Ix I rows){a i:Nat}(ha:a<rows.length){o:Int}:Ix I (rows.set a ((rows.getD a []).set i ((rows.length:Int),o))++[List.replicate I (-1,-1)]):=by
 intro row A;rw[W0,Xf,Xg];rcases W9.1 A with A|A
 .rcases e8b A with h1|rfl
  .obtain⟨Q,U⟩:=h row h1;exact⟨Q,λe Z=>by rcases U e Z with D|D;exact .inl D;exact .inr ⟨D.1,by omega⟩⟩
  .have hm:=(Hc (d:=[]) ha).1;obtain⟨Q,U⟩:=h _ hm;refine⟨by rw[Xf];exact Q,λe' a0=>?_⟩;rcases e8b a0 with D|rfl
   .rcases U e' D with h5|h5
    .exact .inl h5
    .exact .inr ⟨h5.1,by omega⟩
   .exact .inr ⟨by show (0:Int)<=rows.length;omega,by show (rows.length:Int)<_;omega⟩
 .rw[Xh.1 A];exact⟨by simp,λe Z=>.inl (by rw[(List.mem_replicate.1 Z).2])⟩
theorem F5.keep{g:Gb}{lo n T I:Nat}{rows:Tq}{Q:List Nat}{B:Nat}{sv:AV}(h:F5 g lo n T I rows Q B sv)(hn:n<=n')(D:∀a,lo<=a->a<n->g' a=g a):F5 g' lo n' T I rows Q B sv:=
 ⟨⟨h.rb.len,h.rb.nd,λk U Z=>let ⟨A,e2,e3,e4⟩:=h.rb.at' k U Z;⟨A,by omega,(D _ A e2).trans e3,e4⟩⟩,h.pos,⟨h.bl.1,by have:=h.bl.2;omega⟩,⟨h.tl.1,by have:=h.tl.2;omega⟩,h.tb,h.tn,h.bn,(D _ h.tl.1 h.tl.2).trans h.gt,h.gb.imp (λ⟨A,e2,e3⟩=>⟨A,e2,(D _ h.bl.1 h.bl.2).trans e3⟩) λ⟨A,e2⟩=>⟨A,(D _ h.bl.1 h.bl.2).trans e2⟩⟩
theorem F5.store{g:Gb}{lo n T I:Nat}{rows:Tq}{A:List Nat}{B:Nat}{sv:AV}(h:F5 g lo n T I rows A B sv){a:Nat}(ha:a<rows.length)(a0:a<A.length){row:List (Int×Int)}(hl:row.length=I)(hb:g' A[a]=some (.cells (Au row) true 0))(Q:∀b,b≠A[a]->g' b=g b):F5 g' lo n T I (rows.set a row) A B sv:=by
 have Z:∀x,x ∉ A->x≠A[a]:=λx hx e=>hx (e ▸ W2 a0);refine⟨⟨by rw[Xf];exact h.rb.len,h.rb.nd,λk h1 h2=>?_⟩,by rw[Xf];exact h.pos,h.bl,h.tl,h.tb,h.tn,h.bn,(Q _ (Z _ h.tn)).trans h.gt,?_⟩
 .rw[Xf] at h2;obtain⟨D,e2,e3,e4⟩:=h.rb.at' k h1 h2;by_cases U:a=k
  .subst U;exact⟨D,e2,by simpa using hb,by simpa using hl⟩
  .have a1:A[k]≠A[a]:=λe=>U ((List.getElem_inj h.rb.nd).1 e).symm;exact⟨D,e2,by rw[List.getElem_set_ne U];exact(Q _ a1).trans e3,by rw[List.getElem_set_ne U];exact e4⟩
 .rw[Xf];exact h.gb.imp (λ⟨D,e2,e3⟩=>⟨D,e2,(Q _ (Z _ h.bn)).trans e3⟩) λ⟨D,e2⟩=>⟨D,(Q _ (Z _ h.bn)).trans e2⟩
theorem F5.push{g:Gb}{lo n T I:Nat}{rows:Tq}{A:List Nat}{B B' b:Nat}{sv:AV}(h:F5 g lo n T I rows A B sv){row:List (Int×Int)}(hl:row.length=I)(hb:n<=b)(a0:b<n')(hB:n<=B')(a1:B' < n')(a2:b≠B')(h1:g' b=some (.cells (Au row) true 0))(h2:g' B'=some (.cells (Cs I (A++[b])) true 1))(h3:g' T=some (.cells [.slq B' 0 (rows.length+1) 0] true 0))(hg:∀x∈A,g' x=g x):F5 g' lo n' T I (rows++[row]) (A++[b]) B' (.slq B' 0 (rows.length+1) 0):=by
 have U:∀x∈A,lo<=x/\x<n:=λx hx=>by
  obtain⟨k,D,rfl⟩:=e5y.1 hx;obtain⟨Q,e2,_⟩:=h.rb.at' k D (by have:=h.rb.len;omega);exact⟨Q,e2⟩
 have a3:=h.tl;have a4:=h.bl;refine⟨⟨by rw[W0,W0,h.rb.len];rfl,?_,λk k1 k2=>?_⟩,by simp,⟨by omega,a1⟩,⟨a3.1,by omega⟩,by omega,?_,?_,h3,.inr ⟨by rw[W0];rfl,h2⟩⟩
 .rw[List.nodup_append];refine⟨h.rb.nd,by simp,λx hx y hy e=>?_⟩;rw[Xh] at hy;have:=U x hx;omega
 .rw[W0,Xg] at k1;by_cases D:k<A.length
  .have Z:k<rows.length:=by have:=h.rb.len;omega
   obtain⟨Q,e2,e3,e4⟩:=h.rb.at' k D Z;rw[e6f D,e6f Z];exact⟨Q,by omega,(hg _ (W2 D)).trans e3,e4⟩
  .have e:k=A.length:=by omega
   have e2:k=rows.length:=by have:=h.rb.len;omega
   rw[e7c (by omega),e7c (by omega)];simp;exact⟨by omega,a0,h1,hl⟩
 .rw[W9,Xh];rintro (hx|hx)
  .exact h.tn hx
  .omega
 .rw[W9,Xh];rintro (hx|hx)
  .have:=U _ hx;omega
  .exact a2 hx.symm
theorem e0b{I:Nat}{rows:Tq}{h k:Nat}(A:k<w.length)(D:k<r.length):F4 I rows h (w.drop k) (r.drop k)=if r[k] = -1 then rows.set h ((rows.getD h []).set (w[k]).toNat (-1,-2))
  else if ((rows.getD h []).getD (w[k]).toNat (-1,-1)).1 = -1 then F4 I (rows.set h ((rows.getD h []).set (w[k]).toNat ((rows.length:Int),r[k]))++[List.replicate I (-1,-1)]) rows.length (w.drop (k+1)) (r.drop (k+1))
  else F4 I rows ((rows.getD h []).getD (w[k]).toNat (-1,-1)).1.toNat (w.drop (k+1)) (r.drop (k+1)):=by
 rw[Xd A,Xd D];rfl
theorem e0c{I:Nat}(hI:I<=16){Oo:Int}{w r:Wd}(hl:r.length=w.length)(hw:inW w I=true)(h9:w.length<=256)(lo n T Lg:Nat)(g:Gb){rows:Tq}{bs:List Nat}{B:Nat}{sv lv s1 s2:AV}
  (hT:F5 g lo n T I rows bs B sv) (c0:Ix I rows) (i0:rows.length+w.length<=100000) (e9:Lg<lo) (g0:g Lg=some (.cells [.li I,.li Oo,lv] true 0)) (i1:lo<=n) (h1:Al g lo w s1) (h2:Al g lo r s2) :
  WC 0 prog 106 [.agg [s1,s2],.ptr T 0,.ptr Lg 0] ⟨.fn g,n⟩ λq=>∃g' n' g4 B' g5,q=.ret (.tup []) ⟨.fn g',n'⟩/\n<=n'/\(∀b,b<lo->g' b=g b)/\F5 g' lo n' T I (F4 I rows 0 w r) g4 B' g5/\Ix I (F4 I rows 0 w r)/\(F4 I rows 0 w r).length<=rows.length+w.length:=by
 have i2:=@Ap prog _ _ _ _ _ h1;have e1:oneC s1=true:=h1.one;have e2:oneC s2=true:=h2.one;have i3:allOne [s1,s2]=true:=by simp[e1,e2]
 have H1:=Xu h1;have H2:=Xu h2;have D:=Xu hT;have a0:=Xu c0;have HW:=Xu hw;have b4:=hT.tl;clear h1 h2 hT c0 hw;obtain⟨c6,b5⟩:∃x,x=F4 I rows 0 w r:=⟨_,rfl⟩;rw[<- b5];have a6:=Xu b5;clear b5;refine ent pl106 func106 ?_;simp (disch:=first|omega|simp) [*];refine Xy (λm gf H'=>∃(k n' : Nat)(gL:Gb)(A:Tq)(Q:Nat)(U:List Nat) (B:Nat) (sv:AV),k<=w.length/\m=w.length-k/\H'=⟨.fn gL,n'⟩/\n+1<=n'/\Aa (∀b,b<lo->gL b=g b)/\gL n=some (.cells [s1,s2] true 0)/\Aa (F5 gL lo n' T I A U B sv)/\Aa (n ∉ U/\n≠B) /\
  Aa (Ix I A)/\Q < A.length/\A.length<=rows.length+k/\Aa (c6=F4 I A Q (w.drop k) (r.drop k))/\gf 1=some (.ptr T 0)/\gf 2=some (.ptr Lg 0)/\gf 3=some (.ptr n 0)/\gf 4=some (.li Q)/\gf 9=some s1/\gf 10=some (.li w.length)/\gf 11=some (.li k)) (m0:=w.length) ?_ ?_
 .refine⟨0,n+1,_,rows,0,bs,B,sv,W3 _,rfl,rfl,Wy _,⟨λb hb=>Ad (by omega)⟩,Ag,⟨D.out.keep (by omega) λa h1 h2=>Ad h2⟩,⟨λhm=>?_,by have:=D.out.bl.2;omega⟩,a0,D.out.pos,by omega,a6,by simp[*]⟩;obtain⟨j,hj,e⟩:=e5y.1 hm;have:=(D.out.rb.at' j hj (by have:=D.out.rb.len;omega)).2.1;omega
 clear D a0 a6 B sv bs;rintro m gf H' ⟨k,n',gL,A,Q,U,B,sv,hk,rfl,rfl,i4,HG,b2,D,a5,a0,a3,i5,a6,q1,q2,q3,q4,q9,i6,i7⟩ ih;refine rnd pl106 ?_;by_cases b6:k<w.length
 .have g6:(k:Int)<(w.length:Int):=by omega
  obtain⟨a1,o1,i8,i9,j0⟩:=X6 (n:=lo) (X0 (Wy lo) HG.out H1.out) b6;obtain⟨a2,o2,j1,j2,j3⟩:=X6 (n:=lo) (X0 (Wy lo) HG.out H2.out) (by omega:k<r.length);have Z:=Xu (a6.out.trans (e0b b6 (by omega:k<r.length)));have j4:=of_decide_eq_true (W7.1 HW.out _ (W2 b6));generalize w[k]=x at *;generalize r[k]=o at *;obtain⟨i,rfl⟩:∃i:Nat,x=i:=⟨x.toNat,by omega⟩;have j5:i<I:=by omega
  rw[e6i] at Z;have g7:=D.out.rb.len;have a7:Q < U.length:=by omega
  obtain⟨l1,l2,l3,l4⟩:=D.out.rb.at' Q a7 a3;have b3:Aa (A.getD Q []=A[Q]):=⟨(Hc (d:=[]) a3).2⟩;rw[b3.out] at Z;have a4:=(a0.out _ (W2 a3)).2;have g8:=a4w (I:=I) a7;have b7:Aa (U[Q]∈U):=⟨W2 a7⟩;have b8:=Xu λ(g' : Gb)(n2:Nat)(row:List (Int×Int)) (h1:n'<=n2) (h2:row.length=I) (h3:g' U[Q]=some (.cells (Au row) true 0)) (h4:∀b,b≠U[Q]->b<n'->g' b=gL b)=>show F5 g' lo n2 T I (A.set Q row) U B sv from
   ((D.out.store (g':=λz=>if z=U[Q] then g' z else gL z) a3 a7 h2 ((if_pos rfl).trans h3) λb hb=>if_neg hb).keep h1 λa k1 k2=>by
    by_cases ha:a=U[Q]
    .rw[if_pos ha]
    .rw[if_neg ha];exact h4 a ha k2)
  generalize A[Q]=row at *;generalize U[Q]=b at *;have a8:i<row.length:=by omega
  have g9:(Au row)[i*2]'(by rw[rowC_len];omega)=.lit (.int .i64 row[i].1):=(W8.1 (Pb row i a8).1).2;have j6:(Au row).length=I*2:=by rw[rowC_len,l4]
  have a9:=a4 _ (W2 a8);have h0:Aa (row.getD i (-1,-1)=row[i]):=⟨(Hc (d:=(-1,-1)) a8).2⟩;rw[h0.out] at Z;generalize row[i]=e at *;have c7:b≠T:=λh=>D.out.tn (h ▸ b7.out);have c8:b≠B:=λh=>D.out.bn (h ▸ b7.out);have h6:b≠n:=λh=>a5.out.1 (h ▸ b7.out);have j7:=D.out.gt;have c9:=D.out.tb;have j8:=D.out.tl;have j9:=D.out.bl;have h7:=a5.out.2;have h8:T≠n:=by omega
  have k0:∀p q:Int,List.take (i*2) (Au row)++.li p::.li q::List.drop (i*2+2) (Au row)=Au (row.set i (p,q)):=λp q=>by
   have:=b4i a8 (p,q);unfold Aq at this;simpa using this
  have k3:i*2+2<=(Au row).length:=by omega
  have k4:i*2<(Au row).length:=by omega
  have e5:Q < (Cs I U).length:=by rw[Pp];exact a7
  by_cases ho:o = -1
  .rw[if_pos ho] at Z;subst ho;rcases D.out.gb with⟨g1,g2,g3⟩|⟨g2,g3⟩
   .subst g2;obtain rfl:Q=0:=by omega
    clear a4;simp (disch:=first|omega|simp) [*];refine⟨_,_,⟨rfl,rfl⟩,by omega,λc hc=>?_,⟨_,_,_,Z.out ▸ b8.out _ _ _ (Wy _) (by rw[Xf];exact l4) Ag λc hc _=>Ae hc⟩,?_,?_⟩
    .rw[Ad (by omega)];exact HG.out c hc
    .rw[Z.out,<- b3.out];exact a0.out.set a3 (.inl rfl)
    .rw[Z.out,Xf];omega
   .subst g2;clear a4;simp (disch:=first|omega|simp) [*];refine⟨_,_,⟨rfl,rfl⟩,by omega,λc hc=>?_,⟨_,_,_,Z.out ▸ b8.out _ _ _ (Wy _) (by rw[Xf];exact l4) Ag λc hc _=>Ae hc⟩,?_,?_⟩
    .rw[Ad (by omega)];exact HG.out c hc
    .rw[Z.out,<- b3.out];exact a0.out.set a3 (.inl rfl)
    .rw[Z.out,Xf];omega
  .rw[if_neg ho] at Z;have k5:gL Lg=some (.cells [.li I,.li Oo,lv] true 0):=(HG.out Lg e9).trans g0;have k6:∀(p q:Int),(Au (row.set i (p,q)))[i*2]?=some (.li p):=λp q=>by
    have h1:=(Pb (row.set i (p,q)) i (by rw[Xf];exact a8)).1;rw[List.getElem_set_self] at h1;exact h1
   have k7:∀p q:Int,(Au (row.set i (p,q))).length=I*2:=λp q=>by rw[rowC_len,Xf,l4]
   have k8:∀(X:AV),(Cs I U++[X])[Q]?=some (.sl b 0 I I):=λX=>by rw[Xs e5,W6 e5,g8]
   have k9:∀(G:Gb)(x:Option Blk),Ak G b x T=G T:=λG x=>Ae (Ne.symm c7);have l0:∀(G:Gb)(x:Option Blk),Ak G b x B=G B:=λG x=>Ae (Ne.symm c8);have l5:∀(G:Gb)(x:Option Blk),Ak G b x n=G n:=λG x=>Ae (Ne.symm h6);have e6:∀(G:Gb)(x:Option Blk),Ak G B x b=G b:=λG x=>Ae c8;have e7:∀(G:Gb)(x:Option Blk),Ak G T x b=G b:=λG x=>Ae c7;have l6:∀(G:Gb)(x:Option Blk),Ak G T x B=G B:=λG x=>Ae (Ne.symm c9);have l7:∀(G:Gb)(x:Option Blk),Ak G B x T=G T:=λG x=>Ae c9;have l8:∀(G:Gb)(x:Option Blk),Ak G B x n=G n:=λG x=>Ae h7;have l9:∀(G:Gb)(x:Option Blk),Ak G T x n=G n:=λG x=>Ae (Ne.symm h8);have e8:(Cs I U).length=A.length:=by rw[Pp];exact g7
   have m1:A.length<=1000000:=by omega
   have b0:Aa (Ix I (A.set Q (row.set i ((A.length:Int),o))++[List.replicate I (-1,-1)])):=⟨by rw[<- b3.out];exact a0.out.new a3⟩;have b1:=Xu λ(gF:Gb)(h1:gF n'=some (.cells (Au (List.replicate I (-1,-1))) true 0)) (h2:gF (n'+1+1)=some (.cells (Cs I U++[.sl n' 0 I I]) true 1)) (h3:gF T=some (.cells [.slq (n'+1+1) 0 (A.length+1) 0] true 0)) (h4:gF b=some (.cells (Au (row.set i ((A.length:Int),o))) true 0)) (h5:∀c,c≠b->c≠T->c≠B->c<n'->gF c=gL c)=>show F5 gF lo (n'+1+1+1) T I (A.set Q (row.set i ((A.length:Int),o))++[List.replicate I (-1,-1)]) (U++[n']) (n'+1+1) (.slq (n'+1+1) 0 (A.length+1) 0) from by
    have hS:=b8.out (Ak gL b (some (.cells (Au (row.set i ((A.length:Int),o))) true 0))) n' (row.set i ((A.length:Int),o)) (Wy _) (by rw[Xf];exact l4) Ag λc hc _=>Ae hc;have hP:=hS.push (g':=gF) (n':=n'+1+1+1) (b:=n') (B':=n'+1+1) (row:=List.replicate I (-1,-1)) (by simp) (Wy _) (by omega) (by omega) (by omega) (by omega) h1 (by rw[h2];simp[Cs]) (by rw[h3,Xf]) λx hx=>by
     by_cases b9:x=b
     .subst b9;rw[h4,Ag]
     .rw[Ae b9];obtain⟨j,hj,e⟩:=e5y.1 hx;have:=(D.out.rb.at' j hj (by have:=D.out.rb.len;omega)).2.1;exact h5 x b9 (λh=>D.out.tn (h ▸ hx)) (λh=>D.out.bn (h ▸ hx)) (by omega)
    rw[Xf] at hP;exact hP
   by_cases he:e.1 = -1
   .rw[if_pos he] at Z;rcases D.out.gb with⟨g1,g2,g3⟩|⟨g2,g3⟩
    .subst g2;have m2:(Cs I U).length=1:=by rw[e8];exact g1
     have m3:List.take 1 (Cs I U)=Cs I U:=Xi (by omega);have m4:(Q:Int)<1:=by omega
     have m5:Q < 1:=by omega
     have m6:((A.length:Nat):Int)=1:=by omega
     have HZ:=Xu g1;rw[g1] at Z b1 b0;clear a4 a9 e8;simp (disch:=first|omega|simp) [*];refine Xv (a4v I hI _ _) ?_;rintro _ rfl;simp (disch:=first|omega|simp) [*];refine ih.out (w.length-(k+1)) _ _ (by omega) ⟨k+1,n'+1+1+1,_,_,1,U++[n'],n'+1+1,.slq (n'+1+1) 0 (1+1) 0,by omega,rfl,rfl,by omega,⟨λc hc=>?_⟩,?_,⟨b1.out _ ?_ ?_ ?_ ?_ ?_⟩,⟨λhm=>?_,by omega⟩,b0,by rw[W0,Xf,HZ.out];simp,by rw[W0,Xf,HZ.out];simp;omega,Z,by simp[*]⟩
     .simp (disch:=omega) only[Ad,Ae];exact HG.out c hc
     .simp (disch:=omega) only[Ad,Ae];exact b2
     .simp (disch:=omega) only[Ad,Ae,Ag]
     .simp (disch:=omega) only[Ae,Ag]
     .simp (disch:=omega) only[Ag]
     .simp (disch:=omega) only[Ae,e6,e7,Ag];rfl
     .intro c c1 c2 c3 c4;simp (disch:=omega) only[Ae]
     .rcases W9.1 hm with h|h
      .exact a5.out.1 h
      .have:=Xh.1 h;omega
    .subst g2;clear a4 a9;simp (disch:=first|omega|simp) [*];refine Xv (a4v I hI _ _) ?_;rintro _ rfl;simp (disch:=first|omega|simp) [*];refine ih.out (w.length-(k+1)) _ _ (by omega) ⟨k+1,n'+1+1+1,_,_,A.length,U++[n'],n'+1+1,.slq (n'+1+1) 0 (A.length+1) 0,by omega,rfl,rfl,by omega,⟨λc hc=>?_⟩,?_,⟨b1.out _ ?_ ?_ ?_ ?_ ?_⟩,⟨λhm=>?_,by omega⟩,b0,by rw[W0,Xf];simp,by rw[W0,Xf];simp;omega,Z,by simp[*]⟩
     .simp (disch:=omega) only[Ad,Ae];exact HG.out c hc
     .simp (disch:=omega) only[Ad,Ae];exact b2
     .simp (disch:=omega) only[Ad,Ae,Ag]
     .simp (disch:=omega) only[Ae,Ag]
     .simp (disch:=omega) only[Ag]
     .simp (disch:=omega) only[Ae,e6,e7,Ag]
     .intro c c1 c2 c3 c4;simp (disch:=omega) only[Ae]
     .rcases W9.1 hm with h|h
      .exact a5.out.1 h
      .have:=Xh.1 h;omega
   .rw[if_neg he] at Z;obtain⟨e0,e1⟩:0<=e.1/\e.1<A.length:=by rcases a9 with h|h;exact absurd h he;exact h
    obtain⟨t,ht⟩:∃t:Nat,e.1=(t:Int):=⟨e.1.toNat,by omega⟩;rw[ht] at g9 he e1 Z;rw[e6i] at Z;have b4:t<A.length:=by omega
    rcases D.out.gb with⟨g1,g2,g3⟩|⟨g2,g3⟩
    .subst g2;obtain rfl:Q=0:=by omega
     clear a4 a9 b1 b0 ht;simp (disch:=first|omega|simp) [*];exact ih.out (w.length-(k+1)) _ _ (by omega) ⟨k+1,n',gL,A,t,U,B,_,by omega,rfl,rfl,by omega,HG,b2,D,a5,a0,b4,by omega,Z,by simp[*]⟩
    .subst g2;clear a4 a9 b1 b0 ht;simp (disch:=first|omega|simp) [*];exact ih.out (w.length-(k+1)) _ _ (by omega) ⟨k+1,n',gL,A,t,U,B,_,by omega,rfl,rfl,by omega,HG,b2,D,a5,a0,b4,by omega,Z,by simp[*]⟩
 .have g6:¬(k:Int)<(w.length:Int):=by omega
  have m7:c6=A:=by
   rw[a6.out,Xt (by omega)];cases r.drop k<;>rfl
  simp (disch:=first|omega|simp) [*];refine⟨_,_,⟨rfl,rfl⟩,by omega,HG.out,⟨_,_,_,D.out⟩,a0.out,by omega⟩
theorem sl81:Jr prog 98=true:=by kernel_rfl
attribute [simp] sl81
theorem e0d{row:List (Int×Int)}(A:0<row.length)(U:row.length<=1000)(g:Gb)(n b:Nat)(D:b<n)(Q:g b=some (.cells (Au row) true 0)):
  WC 0 prog 122 [.sl b 0 row.length row.length] ⟨.fn g,n⟩ λr=>∃g',r=.ret (.slq (n+1) 0 row.length 0) ⟨.fn g',n+1+1⟩/\(∀x,x<n->g' x=g x)/\g' (n+1)=some (.cells (Au row) true 2):=by
 have h:Af g n (.sl b 0 row.length row.length) row.length (Au row):=Gm Q D;obtain⟨Z,blk,a0,a1,a3⟩:=Yc (P:=prog) (sz:=2) h A (by omega) (by rw[rowC_len]);clear h;refine ent [] func122 ?_;simp (disch:=first|omega|simp) [*];intro x hx;simp (disch:=omega) only[Ad]
theorem b4j{len a:Nat}(h:0<len)(H:Mem):WC 0 prog 121 [.slq a 0 len 0] H λr=>r=.ret (.sl a 0 len len) H:=by
 refine Y4 ?_;refine ent [] func121 ?_;simp (disch:=first|omega|simp) [*]
theorem mkI36:mkI prog 23=some (.nl):=by kernel_rfl
theorem e0e{H:Mem}{a b:Int}(A:0<=a)(D:a<=b)(Q:b<=1048576):F0 prog H 23 (some (.nl)) (some (.li a)) (some (.li b))=.val (.sl H.next 0 a.toNat b.toNat) (H.add (.cells (rep [.nl] b.toNat) true 0)):=by
 have hx:Er prog H 23 (some (.li a)) (some (.li b))=_:=Pd (e:=98) (size:=1) (bytes:=24) (z:=[.nl]) (by kernel_rfl) (by decide) (by decide) (by kernel_rfl) A D Q;unfold F0;dsimp only;split
 .rename_i h;obtain⟨rfl,U,Z⟩:=h;rw[Rg]
 .exact hx
attribute [simp] mkI36 e0e
theorem a4x{e:Int×Int}:∀(l:List (Int×Int)) (k:Nat),numE k (l++[e])=numE k l++[if e.1 = -1 then e else (((k+(oldE l).length:Nat):Int),e.2)]
 | [],k=>by
  show numE k [e]=_;unfold numE oldE;split
  .rfl
  .rfl
 | a::l,k=>by
  rw[e8y];unfold numE oldE;split
  .rw[a4x l k];rfl
  .rw[a4x l (k+1),Xk,show k+1+(oldE l).length=k+((oldE l).length+1) by omega];rfl
theorem a4y{e:Int×Int}:∀(l:List (Int×Int)),oldE (l++[e])=oldE l++(if e.1 = -1 then [] else [e.1])
 | []=>by
  show oldE [e]=_;unfold oldE;split<;>rfl
 | a::l=>by
  rw[e8y];unfold oldE;split
  .exact a4y l
  .rw[a4y l];rfl
theorem numE_len:∀(l:List (Int×Int)) (k:Nat),(numE k l).length=l.length
 | [],_=>rfl
 | a::l,k=>by
  unfold numE;split
  .rw[Xk,Xk,numE_len l k]
  .rw[Xk,Xk,numE_len l (k+1)]
def Ez(k:Nat)(row:List (Int×Int))(i:Nat):List (Int×Int):=numE k (row.take i)++row.drop i
theorem b4k{k:Nat}{row:List (Int×Int)}{i:Nat}:(Ez k row i).length=row.length:=by
 unfold Ez;rw[W0,numE_len,W4,List.length_drop];omega
theorem e0f{k:Nat}{row:List (Int×Int)}(h:i<row.length):(Ez k row i)[i]'(by rw[b4k];exact h)=row[i]:=by
 unfold Ez;have A:(numE k (row.take i)).length=i:=by rw[numE_len,W4];omega
 rw[e7c (by omega)];simp[A]
theorem e0g{k:Nat}{row:List (Int×Int)}(h:i<row.length):Ez k row (i+1)=if row[i].1 = -1 then Ez k row i else (Ez k row i).set i (((k+(oldE (row.take i)).length:Nat):Int),row[i].2):=by
 unfold Ez;have D:(numE k (row.take i)).length=i:=by rw[numE_len,W4];omega
 have A:row.drop i=row[i]::row.drop (i+1):=Xd h;rw[Bv h,a4x,e6c];split
 .rw[A];rfl
 .rw[e7k _ _ (by omega),D,e6h,A];rfl
theorem e0h{l:List AV}{off:Nat}{u v:AV}(h:l[off+1]?=some v):Aq l off [u,v]=l.set off u:=by
 obtain⟨A,D⟩:=W8.1 h;unfold Aq;rw[e8m,if_pos (by omega),e6c];congr 1;show u::v::l.drop (off+2)=_;rw[Xd A,D]
theorem e0i{row:List (Int×Int)}(hi:i<row.length)(p:Int):(Au row).set (i*2) (.li p)=Au (row.set i (p,row[i].2)):=by
 rw[<- b4i hi (p,row[i].2)];exact(e0h (Pb row i hi).2).symm
theorem oldE_take:∀(row:List (Int×Int)) (i:Nat),(oldE (row.take i)).length<=(oldE row).length
 | [],i=>by rw[List.take_nil];exact Wy _
 | e::row,0=>W3 _
 | e::row,i+1=>by
  rw[List.take_succ_cons];unfold oldE;have:=oldE_take row i;split
  .exact this
  .rw[Xk,Xk];omega
def H6(ws os:Wq):Wd:=os.map λx=>((ws.idxOf x:Nat):Int)
structure RowsC (g:Gb) (lo n I:Nat) (rows:Tq) (bs:List Nat):Prop where
 len:bs.length=rows.length
 at' : ∀(k:Nat)(h:k<bs.length)(h' : k<rows.length),lo<=bs[k]/\bs[k] < n/\g bs[k]=some (.cells (Au rows[k]) true 2)/\rows[k].length=I
theorem RowsC.snoc{g:Gb}{lo n I:Nat}{rows:Tq}{A:List Nat}(h:RowsC g lo n I rows A)(hn:n<=n')(U:∀a,lo<=a->a<n->g' a=g a){b:Nat}{row:List (Int×Int)}(Z:lo<=b)(h2:b<n')(h3:g' b=some (.cells (Au row) true 2))(h4:row.length=I):RowsC g' lo n' I (rows++[row]) (A++[b]):=by
 have hl:=h.len;refine⟨by simp[hl],λk k1 k2=>?_⟩;rw[W0,Xg] at k1;by_cases D:k<A.length
 .obtain⟨Q,e2,e3,e4⟩:=h.at' k D (by omega);rw[e6f D,e6f (by omega)];exact⟨Q,by omega,(U _ Q e2).trans e3,e4⟩
 .rw[e7c (by omega),e7c (by omega)];simp;exact⟨Z,h2,h3,h4⟩
theorem e0j{V:Wd->Option Int}{ws:Wq}{I:Nat}(k9:1<=I)(hI:I<=16)(hN:Nod V ws)(hV:∀x o,V x=some o->o ≠ -1->0<=o/\o<O)(b4:∀(x:Wd)(i o:Int),V (x++[i])=some o->0<=i/\i<(I:Int))(h0:ws[0]?=some [])(l0:ws.length<=100000)(lo n B:Nat)(g:Gb)(sv:AV)(bs:List Nat)
  (a9:RowsB g lo n I (Bk V ws I) bs) (hB:B<n) (b5:(ws.length=1/\sv=.sl B 0 1 1/\g B=some (.cells (Cs I bs) true 0))\/(sv=.slq B 0 ws.length 0/\g B=some (.cells (Cs I bs) true 1))) :
  WC 0 prog 107 [sv] ⟨.fn g,n⟩ λr=>∃g' n' b6 A,r=.ret (.sl (n+1) 0 ws.length ws.length) ⟨.fn g',n'⟩/\n+2<=n'/\(∀b,b<n->g' b=g b)/\Bfs V ws I O A.length A/\A.length=ws.length/\RowsC g' n n' I (Bk V A I) b6/\g' (n+1)=some (.cells (Cs I b6) true 0):=by
 have hv:Af g n sv ws.length (Cs I bs):=by
  rcases b5 with⟨e1,rfl,e3⟩|⟨rfl,e3⟩
  .rw[e1];exact Gm e3 hB
  .exact .inr ⟨B,0,hB,.inr ⟨0,rfl⟩,Cs I bs,true,1,e3,by simp[*]⟩
 have h9:=@Ap prog _ _ _ _ _ hv;have HV:=Xu hv;have l6:bs.length=ws.length:=by rw[a9.len,Gx]
 have i0:=Xu a9;have HN:=Xu hN;have i1:=Xu hV;have i2:=Xu b4;have i3:1<=ws.length:=by
  have:=W8.1 h0;obtain⟨h,_⟩:=this;omega
 have i4:Aa ([]∈ws):=⟨e6e h0⟩;have i5:Aa (ws.idxOf []=0):=⟨by
  cases ws with
  | nil=>simp at h0
  | cons a l=>simp at h0;subst h0;simp⟩
 have l7:(ws.length:Int)<=1048576:=by omega
 have l8:(1:Int)<=(ws.length:Int):=by omega
 clear hv b5 a9 hN hV b4 h0;refine ent [] func107 ?_;simp (disch:=first|omega|simp) [*];refine Xy (λm Q H'=>∃(q n' : Nat)(gL:Gb)(A:Wq)(bk:List Nat)(D Z:List AV),q<=A.length/\A.length<=ws.length/\m=ws.length-q/\H'=⟨.fn gL,n'⟩/\n+1+1<=n'/\Aa (∀b,b<n->gL b=g b) /\
  gL n=some (.cells D true 0)/\D.length=ws.length/\Aa (D.take A.length=wdC (H6 ws A))/\gL (n+1)=some (.cells Z true 0)/\Z.length=ws.length/\Aa (Z.take q=Cs I bk)/\Aa (RowsC gL (n+1+1) n' I ((A.take q).map (A2 V A I)) bk)/\Aa (Bfs V ws I O q A) /\
  Q 0=some sv/\Q 3=some (.sl n 0 A.length ws.length)/\Q 4=some (.sl (n+1) 0 q ws.length)/\Q 5=some (.li q)) (m0:=ws.length) ?_ ?_
 .refine⟨0,_,_,[[]],[],rep [.li 0] ws.length,rep [.nl] ws.length,by simp,by simpa using i3,rfl,rfl,Wy _,⟨λb hb=>?_⟩,?_,?_,⟨?_⟩,?_,?_,⟨rfl⟩,⟨⟨rfl,λk h=>by cases h⟩⟩,⟨Bfs.zero i4.out⟩,by simp[*]⟩
  .simp (disch:=omega) only[Ad]
  .simp (disch:=omega) only[Ad,Ag]
  .rw[Gn];simp
  .have e:H6 ws [[]]=[0]:=by unfold H6;simp[i5.out]
   rw[e];obtain⟨W,hW⟩:∃W,ws.length=W+1:=⟨ws.length-1,by omega⟩;rw[hW,Ua];rfl
  .simp (disch:=omega) only[Ad,Ag]
  .rw[Gn];simp
 rintro m Q H' ⟨q,n',gL,A,bk,D,Z,hq,i6,rfl,rfl,l9,HG,b7,a4,a3,b8,i7,b9,c0,a5,w0,w3,w4,w5⟩ ih;refine rnd [] ?_;by_cases a6:q<A.length
 .have i8:(q:Int)<(A.length:Int):=by omega
  have c1:A[q]∈ws:=a5.out.sub _ (W2 a6);have ha:ws.idxOf A[q] < ws.length:=List.idxOf_lt_length_of_mem c1;have c2:ws[ws.idxOf A[q]]=A[q]:=List.getElem_idxOf ha;have c6:D[q]?=some (.li ((ws.idxOf A[q]:Nat):Int)):=by
   have U:(D.take A.length)[q]?=D[q]?:=by rw[e7j,if_pos a6]
   rw[<- U,a3.out,Hv _ q (by simp[H6];exact a6)];simp[H6]
  have b0:ws.idxOf A[q] < bs.length:=by omega
  obtain⟨l1,l2,l3,l4⟩:=i0.out.at' _ b0 (by rw[Gx];exact ha);have c7:(Bk V ws I)[ws.idxOf A[q]]'(by rw[Gx];exact ha)=A2 V ws I A[q]:=by simp only[Bk,e6k,c2]
  rw[c7] at l3 l4;clear c7 c2 c1;obtain⟨a2,off,m1,c8,c9⟩:=X4 (P:=prog) (X0 (Wy n) HG.out HV.out) ha 1;simp only[Xj] at c9;have e0:=c8.one (k:=ws.idxOf A[q]) (s:=1) (by rw[Pp];exact b0);rw[a4w b0] at e0;clear c8;have a0:=Xu (a5.out.step HN.out i1.out a6);have i9:=Xu a0.out.1.len;have e5:Aa (oldE (A2 V ws I A[q])=H6 ws (chL V A[q] (List.range I))):=⟨b4c (List.range I)⟩;have e6:=(HG.out _ l2).trans l3;have j0:Aa ((A++chL V A[q] (List.range I)).take (q+1)=A.take q++[A[q]]):=⟨by rw[List.take_append_of_le_length (by omega)];exact Bv a6⟩;have j1:=Xu (a5.out.rows (chL V A[q] (List.range I)));have j2:Aa (numE A.length (A2 V ws I A[q])=A2 V (A++chL V A[q] (List.range I)) I A[q]):=⟨a0.out.2⟩;have j3:Aa (Bfs V ws I O (q+1) (A++chL V A[q] (List.range I))):=⟨a0.out.1⟩;clear a0;generalize j4:A2 V ws I A[q]=row at *;generalize bs[ws.idxOf A[q]]=b at *;generalize ws.idxOf A[q]=a at *;generalize chL V A[q] (List.range I)=cs at *;clear l3 l1 j4;have j5:D[q]'(by omega)=.li (a:Int):=(W8.1 c6).2;have l5:gL b=some (.cells (Au row) true 0):=e6;clear e6;have e7:=i9.out;rw[W0] at e7;have j6:(oldE row).length=cs.length:=by rw[e5.out];simp[H6]
  have e8:∀i,(oldE (row.take i)).length<=cs.length:=λi=>by rw[<- j6];exact oldE_take row i
  have j7:=Xu e8;clear e8;subst l4;have j8:b<n':=by omega
  simp (disch:=first|omega|simp) [*];refine Xv (e0d (by omega) (by omega) gL n' b j8 l5) ?_;rintro _ ⟨g2,rfl,e9,g0⟩;have g1:=Xu e9;clear e9;simp (disch:=first|omega|simp) [*];refine Xv (b4j (by omega) _) ?_;rintro _ rfl;simp (disch:=first|omega|simp) [*];refine Xy (λm Q H'=>∃(i n2 c:Nat)(gI:Gb)(D:List AV),i<=row.length/\m=row.length-i/\H'=⟨.fn gI,n2⟩/\n'+1+1<=n2/\Aa (∀x,x<n'->x≠n->gI x=gL x)/\gI n=some (.cells D true 0)/\D.length=ws.length/\Aa (c=A.length+(oldE (row.take i)).length)/\c<=ws.length/\Aa (D.take c=wdC (H6 ws A++oldE (row.take i))) /\
   gI (n'+1)=some (.cells (Au (Ez A.length row i)) true 2)/\Q 0=some sv/\Q 3=some (.sl n 0 c ws.length)/\Q 4=some (.sl (n+1) 0 q ws.length)/\Q 5=some (.li q)/\Q 6=some (.sl (n'+1) 0 row.length row.length)/\Q 30=some (.sl (n'+1) 0 row.length row.length)/\Q 31=some (.li row.length)/\Q 32=some (.li i)) (m0:=row.length) ?_ ?_
  .refine⟨0,_,A.length,g2,D,W3 _,rfl,rfl,by omega,⟨λx h _=>g1.out x h⟩,(g1.out n (by omega)).trans b7,a4,⟨by simp[oldE]⟩,i6,⟨by rw[a3.out];simp[oldE]⟩,?_,by simp[*]⟩;rw[g0];simp[Ez,numE]
  clear a3 a4 b7 c6 j5 g0 w0 w3 w4 w5 h9 e0 c9;rintro m Q H' ⟨i,n2,c,gI,D,hi,rfl,rfl,m2,a7,g3,a4,HC,j9,a3,g4,v0,v3,v4,v5,v6,m3,m4,m5⟩ g5;refine rnd [] ?_;by_cases b1:i<row.length
  .have k0:(i:Int)<(row.length:Int):=by omega
   have k1:=@b4k A.length row i;have b2:=e0f (k:=A.length) b1;have a0:=Xu (e0g (k:=A.length) b1);have a1:Aa (oldE (row.take (i+1))=oldE (row.take i)++(if row[i].1 = -1 then [] else [row[i].1])):=⟨by rw[Bv b1,a4y]⟩;have g6:i<(Ez A.length row i).length:=by omega
   have k2:=rowC_at (Ez A.length row i) i g6;rw[b2] at k2;have g7:=Xu (e0i g6);rw[b2] at g7;have a8:=j7.out (i+1);rw[a1.out,W0] at a8;have b3:=HC.out;have k3:=rowC_len (Ez A.length row i);rw[k1] at k3;have m6:i*2+2<=(Au (Ez A.length row i)).length:=by omega
   have m7:i*2<(Au (Ez A.length row i)).length:=by omega
   clear b2;generalize row[i]=e at *;generalize Ez A.length row i=pe at *;by_cases he:e.1 = -1
   .rw[if_pos he] at a0 a1;rw[e6b] at a1;clear b3 a8;simp (disch:=first|omega|simp) [*];refine g5.out (row.length-(i+1)) _ _ (by omega) ⟨i+1,n2+1,c,_,D,by omega,rfl,rfl,by omega,⟨λx U h2=>?_⟩,?_,a4,⟨by rw[a1.out];exact HC.out⟩,j9,⟨by rw[a1.out];exact a3.out⟩,?_,by simp[*]⟩
    .simp (disch:=omega) only[Ad];exact a7.out x U h2
    .simp (disch:=omega) only[Ad];exact g3
    .simp (disch:=omega) only[Ad];rw[a0.out];exact g4
   .rw[if_neg he] at a0 a1;rw[if_neg he] at a8;simp at a8;have m8:c<ws.length:=by omega
    have g8:c+([.li e.1]:List AV).length<=D.length:=by simp;omega
    have g9:Aa ((Aq D c [.li e.1]).length=ws.length/\(Aq D c [.li e.1]).take (c+1)=wdC (H6 ws A++oldE (row.take (i+1)))):=⟨by
     refine⟨by rw[D1 g8];exact a4,?_⟩;have U:=Fq g8;rw[a3.out] at U;rw[a1.out];exact U.trans (by simp[wdC])⟩
    rw[<- b3] at a0;clear b3 a8;simp (disch:=first|omega|simp) [*];refine g5.out (row.length-(i+1)) _ _ (by omega) ⟨i+1,n2+1+1,c+1,_,Aq D c [.li e.1],by omega,rfl,rfl,by omega,⟨λx U h2=>?_⟩,?_,g9.out.1,⟨by rw[a1.out,HC.out];simp;omega⟩,by omega,⟨g9.out.2⟩,?_,by simp[*]⟩
    .simp (disch:=omega) only[Ad,Ae];exact a7.out x U h2
    .simp (disch:=omega) only[Ag]
    .simp (disch:=omega) only[Ad,Ae,Ag];rw[a0.out,g7.out]
  .have k0:¬(i:Int)<(row.length:Int):=by omega
   have h3:i=row.length:=by omega
   have m9:gI (n+1)=some (.cells Z true 0):=(a7.out (n+1) (by omega) (by omega)).trans b8;have n1:q<ws.length:=by omega
   simp (disch:=first|omega|simp) [*];have k4:Ez A.length row i=numE A.length row:=by rw[h3];unfold Ez;rw[Xn,e7e,e6b]
   have h4:oldE (row.take i)=H6 ws cs:=by rw[h3,Xn];exact e5.out
   have k5:c=(A++cs).length:=by rw[HC.out,h4,W0];simp[H6]
   have h5:q+([.sl (n'+1) 0 row.length row.length]:List AV).length<=Z.length:=by simp;omega
   have h6:Aa ((Aq Z q [.sl (n'+1) 0 row.length row.length]).length=ws.length/\(Aq Z q [.sl (n'+1) 0 row.length row.length]).take (q+1)=Cs row.length (bk++[n'+1])):=⟨by
    refine⟨by rw[D1 h5];exact i7,?_⟩;have U:=Fq h5;rw[b9.out] at U;exact U.trans (by simp[Cs])⟩
   subst k5;refine ih.out (ws.length-(q+1)) _ _ (by omega) ⟨q+1,n2+1,_,A++cs,bk++[n'+1],D,Aq Z q [.sl (n'+1) 0 row.length row.length],by rw[W0];omega,by rw[W0];exact e7,rfl,rfl,by omega,⟨λb hb=>?_⟩,?_,a4,⟨?_⟩,?_,h6.out.1,⟨h6.out.2⟩,⟨?_⟩,j3,by simp[*]⟩
   .simp (disch:=omega) only[Ad,Ae];exact(a7.out b (by omega) (by omega)).trans (HG.out b hb)
   .simp (disch:=omega) only[Ad,Ae];exact g3
   .rw[a3.out,h4];simp[H6]
   .exact Ag
   .rw[j0.out,e6m,e8d,j1.out,<- j2.out];refine c0.out.snoc (by omega) (λa U h2=>?_) (by omega) (by omega) ?_ (numE_len _ _)
    .simp (disch:=omega) only[Ad,Ae];exact a7.out a h2 (by omega)
    .simp (disch:=omega) only[Ad,Ae];rw[<- k4];exact g4
 .have i8:¬(q:Int)<(A.length:Int):=by omega
  have h7:q=A.length:=by omega
  have k6:=Xu ((h7 ▸ a5.out).done HN.out i2.out);have n3:ws.length=A.length:=by
   have U:=nodup_len HN.out.nd λx hx=>(k6.out.mem x).2 ((HN.out.mem x).1 hx);omega
  subst h7;have k7:Z=Cs I bk:=by rw[<- b9.out,Xi (by omega)]
  have k8:(A.take A.length).map (A2 V A I)=Bk V A I:=by rw[Xn];rfl
  simp (disch:=first|omega|simp) [*];have h8:=k8 ▸ c0.out;refine⟨_,_,⟨rfl,rfl⟩,by omega,HG.out,bk,A,a5.out,rfl,⟨h8.len,λk U h2=>?_⟩,by rw[<- k7];exact b8⟩;obtain⟨e1,e2,e3,e4⟩:=h8.at' k U h2;exact⟨by omega,e2,e3,e4⟩
theorem e0k{I:Nat}{k:Nat}(h:k<ts.length):Pn I (ts.take (k+1))=F4 I (Pn I (ts.take k)) 0 ts[k].1 ts[k].2:=by
 unfold Pn;rw[Bv h,List.foldl_append];rfl
theorem e0l{I:Nat}(D:Cg I O ts)(hD:Ea ts ts 0=none)(g:Gb)(n:Nat)(sv:AV)(hT:El g n ts sv)(b3:Ay sv):
  WC 0 prog 49 [.agg [.li I,.li O,sv]] ⟨.fn g,n⟩ λr=>∃g' n' bs B,r=.ret (.tup [.agg [.li I,.li O,.sl B 0 (Aj I ts).length (Aj I ts).length],.li 0]) ⟨.fn g',n'⟩/\n<=n'/\(∀b,b<n->g' b=g b)/\n<=B/\B<n'/\RowsC g' n n' I (Aj I ts) bs/\g' B=some (.cells (Cs I bs) true 0)/\goT I O (Aj I ts) 0 1=some (Aj I ts).length:=by
 have h9:=@Ap prog _ _ _ _ _ hT.choose_spec.1;have e9:=hT.choose_spec.1.one;have i0:allOne [.li I,.li O,sv]=true:=by simp[e9]
 have b4:=Xu λ(gX:Gb)(n2:Nat)(hn:n<=n2)(hX:∀b,b<n->gX b=g b)=>b3v D gX n2 sv (hT.mono hn hX) b3;rw[hD] at b4;have HT:=Xu hT;have HL:=Xu D;have i3:=D.len;have i4:=D.i1;have i5:=D.i2;have b5:I<=16:=by omega
 obtain⟨us,hN,b6⟩:=a4u _ ts rfl ((Sc λt ht=>(D.lens ht).1).1 hD) D.ok;have HC:=Xu ((Sc λt ht=>(D.lens ht).1).1 hD);have HN:=Xu hN;have g0:=Xu b6;clear hT D b3 hD hN b6;refine ent pl49 func49 ?_;simp (disch:=first|omega|simp) [*];refine Xv (b4.out _ _ (by omega) λb (A:b<n)=>by simp (disch:=omega) only[Ad]) ?_;rintro _ ⟨gX,n',rfl,i6,hX⟩;have i7:n<=n':=by omega
 have HX:Aa (∀b,b<n->gX b=g b):=⟨λb A=>(hX b (by omega)).trans (by simp (disch:=omega) only[Ad])⟩;have hB:gX n=some (.cells [.li I,.li O,sv] true 0):=(hX n (by omega)).trans (by simp (disch:=omega) only[Ad,Ag]);have b7:=(hX (n+1) (by omega));simp only[Ag] at b7;clear hX;simp only[conC,Option.isSome];simp (disch:=first|omega|simp) [*];refine Xv (a4v I (by omega) _ _) ?_;rintro _ rfl;simp (disch:=first|omega|simp) [*];refine Xy (λm Q H'=>∃(k n2:Nat)(gL:Gb)(rk:Tq)(bk:List Nat)(B:Nat) (tv:AV),k<=ts.length/\m=ts.length-k/\H'=⟨.fn gL,n2⟩/\n'+1+1+1+1<=n2/\Aa (∀b,b<n'->gL b=gX b)/\Aa (F5 gL (n'+1) n2 (n'+1+1+1) I rk bk B tv)/\Aa (Ix I rk)/\rk.length<=1+256*k/\Aa (rk=Pn I (ts.take k)) /\
  Q 1=some (.ptr n 0)/\Q 2=some (.ptr (n+1) 0)/\Q 7=some (.ptr (n'+1+1+1) 0)/\Q 8=some (.func (.func 106) [] [.ptr (n'+1+1+1) 0,.ptr n 0])/\Q 33=some sv/\Q 34=some (.li ts.length)/\Q 35=some (.li k)) (m0:=ts.length) ?_ ?_
 .refine⟨0,_,_,[List.replicate I (-1,-1)],[n'+1],n'+1+1,.sl (n'+1+1) 0 1 1,W3 _,rfl,rfl,Wy _,⟨λb A=>?_⟩,⟨⟨⟨rfl,by simp,λk h1 h2=>?_⟩,by simp,⟨by omega,by omega⟩,⟨by omega,by omega⟩,by omega,by simp;omega,by simp,Ag,.inl ⟨rfl,rfl,?_⟩⟩⟩,⟨λrow hr=>?_⟩,by simp,⟨rfl⟩,by simp[*]⟩
  .simp (disch:=omega) only[Ad]
  .have e:k=0:=by simp at h1;omega
   subst e;exact⟨by simp,by simp,by simp (disch:=omega) [Ad,Ag],by simp⟩
  .simp (disch:=omega) [Ad,Ag,Cs]
  .rw[Xh.1 hr];exact⟨by simp,λe he=>.inl (by rw[(List.mem_replicate.1 he).2])⟩
 rintro m Q H' ⟨k,n2,gL,rk,bk,B,tv,hk,rfl,rfl,i8,HG,a1,g1,i9,b8,w1,w2,w7,w8,j0,j1,j2⟩ ih;have a4:=(HG.out n (by omega)).trans hB;have a6:=(HG.out (n+1) (by omega)).trans b7;have a7:=a1.out.gt;refine rnd pl49 ?_;by_cases a3:k<ts.length
 .have g2:(k:Int)<(ts.length:Int):=by omega
  obtain⟨a2,off,s1,s2,b9⟩:=(HT.out.mono (n':=n'+1) (g':=gL) (show n<=n'+1 by omega) λb A=>(HG.out b (by omega)).trans (HX.out b A)).at a3;have U:=Xu b9;clear b9;have g3:∀{H:Mem}{ev:Ev}{o:Oper}{ty:TypeId},iaS prog H ev o ty (some (none,2)) (some sv) (some (.li (k:Int)))=.val (.ptr a2 (off+k*2)) H:=λ{H ev o ty}=>U.out.ia;have j3:a2<n'+1:=U.out.an;have g4:=U.out.agg;have g5:oneC s1=true:=U.out.r1.one;have g6:oneC s2=true:=U.out.r2.one;have j4:allOne [s1,s2]=true:=by simp[g5,g6]
  have a5:=HL.out.ok _ (W2 a3);unfold Cf at a5;rw[W1,W1] at a5;have g7:Aa (inW ts[k].1 I=true):=⟨a5.1.2⟩;clear a5;have g8:=Xu (HL.out.lens (W2 a3));have g9:=HL.out.wl _ (W2 a3);have c0:=Xu (e0k (I:=I) a3);rw[<- b8.out] at c0;have c1:=Xu λ(Z:Gb)(n3:Nat)(h1:n2<=n3)(h2:∀b,b<n2->Z b=gL b)=>e0c b5 g8.out.1 g7.out g9 (n'+1) n3 (n'+1+1+1) n Z (a1.out.keep (g':=Z) h1 λa _ h=>h2 a h) g1.out (by omega) (by omega) ((h2 n (by omega)).trans a4) (by omega) (X0 (Wy _) (λb A=>h2 b (by omega)) U.out.r1) (X0 (Wy _) (λb A=>h2 b (by omega)) U.out.r2);clear U;generalize ts[k]=t at *;simp (disch:=first|omega|simp) [*];refine Xv (c1.out _ _ (by omega) λb A=>Ad A) ?_;rintro _ ⟨Z,n3,bF,BF,tF,rfl,h0,a0,a8,a9,h3⟩;rw[<- c0.out] at a8 a9 h3;have h4:=Xu a8;have h5:=Xu a9;have b0:=Xu a0;clear a8 a9 a0 c1 a7 a4 a6 g3 g4;simp (disch:=first|omega|simp) [*];exact ih.out (ts.length-(k+1)) _ _ (by omega) ⟨k+1,n3,Z,_,bF,BF,tF,by omega,rfl,rfl,by omega,⟨λb A=>(b0.out b (by omega)).trans ((Ad (by omega)).trans (HG.out b A))⟩,h4,h5,by omega,⟨rfl⟩,by simp[*]⟩
 .have g2:¬(k:Int)<(ts.length:Int):=by omega
  have h6:k=ts.length:=by omega
  have c2:rk=Bk (valT ts) ([]::us) I:=by rw[b8.out,h6,Xn];exact g0.out
  have c6:([]::us).length<=100000:=by rw[<- @Gx (valT ts) ([]::us) I,<- c2];omega
  rw[c2] at a1;have c7:=Xu (e0j (V:=valT ts) (ws:=[]::us) (O:=O) (by omega) b5 HN.out (λx o h=>b4g HL.out.ok h) (λx i o h=>(Vp HL.out.ok h).1) rfl c6 (n'+1) n2 B gL tv bk a1.out.rb a1.out.bl.2 (by have:=a1.out.gb;rwa [Gx] at this));clear c6;simp (disch:=first|omega|simp) [*];refine Xv c7.out ?_;rintro _ ⟨Z,n3,bF,os,rfl,h0,a0,c8,c9,b1,e0⟩;obtain⟨b2,_,e5⟩:=b4h HL.out.ok HC.out HN.out c8;have e6:RowsC Z n2 n3 I (Aj I ts) bF:=by rw[b2] at b1;exact b1
  have e7:([]::us).length=(Aj I ts).length:=by rw[<- c9,b2];unfold Aj;rw[Gx]
  rw[e7];have e8:=Xu e6;have b0:=Xu a0;have j5:Z (n+1)=some (.cells [.li 0,.li 0,.nl] true 0):=(a0 _ (by omega)).trans a6;have j6:=(a0 n (by omega)).trans a4;have j7:=(a0 (n'+1+1+1) (by omega)).trans a7;have h7:=Xu e0;have h8:=Xu e5;clear e6 b1 a0 e0 a7 a4 a6 e5 c8 c9 b2 c7 e7 a1;simp (disch:=first|omega|simp) [*];refine⟨_,_,bF,_,⟨rfl,rfl,rfl⟩,by omega,λb A=>?_,by omega,by omega,⟨e8.out.len,λj h1 h2=>?_⟩,?_,h8.out⟩
  .rw[Ad (by omega),b0.out b (by omega),HG.out b (by omega)];exact HX.out b A
  .obtain⟨e1,e2,e3,e4⟩:=e8.out.at' j h1 h2;exact⟨by omega,e2,(Ae (by omega)).trans e3,e4⟩
  .rw[Ae (by omega)];exact h7.out
theorem e0m(g:Gb)(n:Nat):WC 0 prog 104 [.lit (.bool true)] ⟨.fn g,n⟩ λr=>r=.ret (.li 18) ⟨.fn g,n⟩:=by
 refine ent [] func104 ?_;simp (disch:=first|omega|simp) [*]
theorem e0n{I:Nat}(U:Cg I O ts){D:Nat×Nat×Nat}(Z:Ea ts ts 0=some D)(g:Gb)(n:Nat)(sv:AV)(A:El g n ts sv)(a0:Ay sv):
  WC 0 prog 49 [.agg [.li I,.li O,sv]] ⟨.fn g,n⟩ λr=>∃h n',r=.ret (.tup [.agg [.li 0,.li 0,.nl],.li 18]) ⟨.fn h,n'⟩/\n<=n'/\∀b,b<n->h b=g b:=by
 have a4:=@Ap prog _ _ _ _ _ A.choose_spec.1;have a2:=A.choose_spec.1.one;have a5:allOne [.li I,.li O,sv]=true:=by simp[a2]
 have a1:=Xu λ(h:Gb)(n2:Nat)(hn:n<=n2)(hX:∀b,b<n->h b=g b)=>b3v U h n2 sv (A.mono hn hX) a0;rw[Z] at a1;clear A U a0 Z;refine ent pl49 func49 ?_;simp (disch:=first|omega|simp) [*];refine Xv (a1.out _ _ (by omega) λb (Q:b<n)=>by simp (disch:=omega) only[Ad]) ?_;rintro _ ⟨h,n',rfl,a6,hX⟩;have a7:n<=n':=by omega
 have HX:Aa (∀b,b<n->h b=g b):=⟨λb Q=>(hX b (by omega)).trans (by simp (disch:=omega) only[Ad])⟩;have hB:h n=some (.cells [.li I,.li O,sv] true 0):=(hX n (by omega)).trans (by simp (disch:=omega) only[Ad,Ag]);have a3:=(hX (n+1) (by omega));simp only[Ag] at a3;clear hX;obtain⟨d1,d2,d3⟩:=D;simp only[conC,Option.isSome];simp (disch:=first|omega|simp) [*];refine Xv (e0m _ _) ?_;rintro _ rfl;simp (disch:=first|omega|simp) [*];exact⟨_,_,⟨rfl,rfl⟩,by omega,λb (Q:b<n)=>by rw[Ad (by omega),Ad (by omega)];exact HX.out b Q⟩
theorem e0o(a b:Wd)(c8:a.length<=1000000)(b1:b.length<=1000000)(g:Gb)(n:Nat)(sa sb:AV)(ha:Al g n a sa)(hb:Al g n b sb):
  WC 0 prog 80 [sa,sb] ⟨.fn g,n⟩ λr=>∃z:Int,r=.ret (.li z) ⟨.fn g,n⟩/\decide (z=0)=decide (a=b):=by
 have c9:=@Ap prog _ _ _ _ _ ha;have b3:=@Ap prog _ _ _ _ _ hb;have HA:=Xu ha;have HB:=Xu hb;clear ha hb;obtain⟨Q,a0⟩:∃c,c=decide (a=b):=⟨_,rfl⟩;rw[<- a0];have U:=Xu a0;clear a0;by_cases t1:a.length<b.length
 .have b4:(a.length:Int)<(b.length:Int):=by omega
  have Z:Q=false:=by
   rw[U.out];exact decide_eq_false λh=>by rw[h] at t1;omega
  refine ent pl80 func80 ?_;simp (disch:=first|omega|simp) [*]
 by_cases t2:b.length<a.length
 .have e0:(b.length:Int)<(a.length:Int):=by omega
  have b4:¬(a.length:Int)<(b.length:Int):=by omega
  have Z:Q=false:=by
   rw[U.out];exact decide_eq_false λh=>by rw[h] at t2;omega
  refine ent pl80 func80 ?_;simp (disch:=first|omega|simp) [*]
 have hL:b.length=a.length:=by omega
 have HL:=Xu hL;rw[hL] at b3;clear t1 t2 hL b1;refine ent pl80 func80 ?_;simp (disch:=first|omega|simp) [*];refine Xy (λm gf H'=>∃(k:Nat),k<=a.length/\m=a.length-k/\H'=⟨.fn g,n⟩/\Aa (a.take k=b.take k)/\gf 0=some sa/\gf 1=some sb/\gf 5=some (.li k)) (m0:=a.length) ?_ ?_
 .exact⟨0,W3 _,rfl,rfl,⟨by simp⟩,by simp[*]⟩
 rintro m gf H' ⟨k,hk,rfl,rfl,a1,w0,w1,w5⟩ ih;refine rnd pl80 ?_;by_cases A:k<a.length
 .have b5:(k:Int)<(a.length:Int):=by omega
  have D:k<b.length:=by rw[HL.out];exact A
  obtain⟨a2,off,b6,a3,b7⟩:=X4 (P:=prog) HA.out A 1;obtain⟨b2,e1,b8,a4,b9⟩:=X4 (P:=prog) HB.out D 1;simp only[Xj] at b7 b9;have c0:=a3.one (k:=k) (s:=1) (by rw[A9];exact A);have c1:=a4.one (k:=k) (s:=1) (by rw[A9];exact D);rw[(W8.1 (Hv a k A)).2] at c0;rw[(W8.1 (Hv b k D)).2] at c1;have a5:a.take (k+1)=a.take k++[a[k]]:=by rw[e7b,W6 A];rfl
  have a6:b.take (k+1)=b.take k++[b[k]]:=by rw[e7b,W6 D];rfl
  have a7:a=b->a[k]=b[k]:=λh=>by subst h;rfl
  have c2:=Xu a5;have c6:=Xu a6;have HN:=Xu a7;clear a5 a6 a7 a3 a4 b6 b8;generalize a[k]=u at *;generalize b[k]=v at *;clear D;have a8:u≠v->Q=false:=λh=>by rw[U.out];exact decide_eq_false λe=>h (HN.out e)
  have a9:=Xu a8;clear a8;by_cases t1:u<v
  .have Z:=a9.out (by omega);simp (disch:=first|omega|simp) [*]
  by_cases t2:v<u
  .have Z:=a9.out (by omega);simp (disch:=first|omega|simp) [*]
  .have c7:=Xu (show u=v by omega);simp (disch:=first|omega|simp) [*];refine ih.out (a.length-(k+1)) _ _ (by omega) ⟨k+1,by omega,rfl,rfl,⟨?_⟩,by simp[*]⟩;rw[c2.out,c6.out,a1.out,c7.out]
 .have b5:¬(k:Int)<(a.length:Int):=by omega
  have b0:k=a.length:=by omega
  have Z:Q=true:=by
   rw[U.out];have h1:=a1.out;rw[b0,Xn,<- HL.out,Xn] at h1;exact decide_eq_true h1
  clear b0;simp (disch:=first|omega|simp) [*]
theorem a4z(a b:Wd)(a2:a.length<=1000000)(a3:b.length<=1000000)(g:Gb)(n:Nat)(A D:AV)(Q:Al g n a A)(U:Al g n b D):
  WC 0 prog 29 [A,D] ⟨.fn g,n⟩ λr=>r=.ret (.lit (.bool (decide (a=b)))) ⟨.fn g,n⟩:=by
 have Z:=Xu (e0o a b a2 a3 g n A D Q U);clear Q U;obtain⟨a4,a0⟩:∃c,c=decide (a=b):=⟨_,rfl⟩;rw[<- a0] at Z |-;clear a0;refine ent [] func29 ?_;simp (disch:=first|omega|simp) [*];refine Xv Z.out ?_;rintro _ ⟨z,rfl,h⟩
 cases a4 with
 | true =>
  have a1:z=0:=of_decide_eq_true h;clear h;subst a1;simp (disch:=first|omega|simp) [*]
 | false =>
  have a1:¬z=0:=of_decide_eq_false h;clear h;simp (disch:=first|omega|simp) [*]
theorem b4l(a6:l.length<=100000){w:Wd}(a7:w.length<=1000)(Z:w∈l)(a0:∀x∈l,x.length<=1000)(g:Gb)(n:Nat)(U sv:AV)(A:Bs g n l U)(hw:Al g n w sv):
  WC 0 prog 75 [U,sv] ⟨.fn g,n⟩ λr=>r=.ret (.li (l.idxOf w:Nat)) ⟨.fn g,n⟩:=by
 have a8:=@Ap prog _ _ _ _ _ A.choose_spec.1;have H1:=Xu A;have HW:=Xu hw;have a2:=Xu a0;have HM:=Xu Z;clear A hw a0 Z;refine ent [] func75 ?_;simp (disch:=first|omega|simp) [*];refine Xy (λm D H'=>∃k:Nat,k<l.length/\m=l.length-k/\H'=⟨.fn g,n⟩/\Aa (w ∉ l.take k)/\D 0=some U/\D 1=some sv/\D 5=some (.li k)) (m0:=l.length) ?_ ?_
 .exact⟨0,e6y HM.out,rfl,rfl,⟨by simp⟩,by simp[*]⟩
 rintro m D H' ⟨k,Q,rfl,rfl,HN,w0,w1,w5⟩ ih;have a9:(k:Int)<(l.length:Int):=by omega
 obtain⟨a,off,q,ha,b0,hc,hq⟩:=H1.out.at Q;have HS:=Xu (a4z l[k] w (by have:=a2.out _ (W2 Q);omega) (by omega) g n q sv hq HW.out);have a3:Aa (w ∉ l.take (k+1)\/l[k]=w):=⟨by
  by_cases h:l[k]=w
  .exact .inr h
  .refine .inl ?_;rw[Bv Q,W9,Xh];rintro (A|A)
   .exact HN.out A
   .exact h A.symm⟩
 have a4:Aa (l[k]=w->l.idxOf w=k):=⟨λh=>by
  have e:l=l.take k++(l[k]::l.drop (k+1)):=by rw[<- Xd Q,e7d]
  rw[e,List.idxOf_append,if_neg HN.out,h];simp;omega⟩
 generalize l[k]=x at *;refine rnd [] ?_;simp (disch:=first|omega|simp) [*];refine Xv HS.out ?_;rintro _ rfl;by_cases hx:x=w
 .have b1:=a4.out hx;simp only[hx,decide_true];simp (disch:=first|omega|simp) [*]
 .have a1:w ∉ l.take (k+1):=a3.out.resolve_right hx;have a5:k+1<l.length:=by
   rcases e6z (k+1) l.length with h|h
   .exact h
   .exact absurd HM.out (by rwa [Xi h] at a1)
  simp only[hx,decide_false];simp (disch:=first|omega|simp) [*];exact ih.out (l.length-(k+1)) _ _ (by omega) ⟨k+1,a5,rfl,rfl,⟨a1⟩,by simp[*]⟩
theorem e0p(a b:Wd)(b8:a.length<=1000000)(a5:b.length<=1000000)(g:Gb)(n:Nat)(sa sb:AV)(ha:Al g n a sa)(hb:Al g n b sb):
  WC 0 prog 80 [sa,sb] ⟨.fn g,n⟩ λr=>r=.ret (.li (A4 a b)) ⟨.fn g,n⟩:=by
 have b9:=@Ap prog _ _ _ _ _ ha;have a6:=@Ap prog _ _ _ _ _ hb;have HA:=Xu ha;have HB:=Xu hb;clear ha hb;obtain⟨A,h⟩:∃c,c=A4 a b:=⟨_,rfl⟩;rw[<- h];unfold A4 at h;by_cases t1:a.length<b.length
 .have a7:(a.length:Int)<(b.length:Int):=by omega
  have U:A = -1:=by rw[h,if_pos t1]
  clear h;refine ent pl80 func80 ?_;simp (disch:=first|omega|simp) [*]
 rw[if_neg t1] at h;by_cases t2:b.length<a.length
 .have c0:(b.length:Int)<(a.length:Int):=by omega
  have a7:¬(a.length:Int)<(b.length:Int):=by omega
  have U:A=1:=by rw[h,if_pos t2]
  clear h;refine ent pl80 func80 ?_;simp (disch:=first|omega|simp) [*]
 rw[if_neg t2] at h;have hL:b.length=a.length:=by omega
 have HL:=Xu hL;have a8:=Xu h;rw[hL] at a6;clear t1 t2 hL a5 h;refine ent pl80 func80 ?_;simp (disch:=first|omega|simp) [*];refine Xy (λm Z H'=>∃(k:Nat),k<=a.length/\m=a.length-k/\H'=⟨.fn g,n⟩/\Aa (A=lexC (a.drop k) (b.drop k))/\Z 0=some sa/\Z 1=some sb/\Z 5=some (.li k)) (m0:=a.length) ?_ ?_
 .exact⟨0,W3 _,rfl,rfl,a8,by simp[*]⟩
 rintro m Z H' ⟨k,hk,rfl,rfl,a0,w0,w1,w5⟩ ih;refine rnd pl80 ?_;by_cases D:k<a.length
 .have a9:(k:Int)<(a.length:Int):=by omega
  have Q:k<b.length:=by rw[HL.out];exact D
  obtain⟨a2,off,b0,a1,b1⟩:=X4 (P:=prog) HA.out D 1;obtain⟨b2,c1,b3,a3,b4⟩:=X4 (P:=prog) HB.out Q 1;simp only[Xj] at b1 b4;have b5:=a1.one (k:=k) (s:=1) (by rw[A9];exact D);have b6:=a3.one (k:=k) (s:=1) (by rw[A9];exact Q);rw[(W8.1 (Hv a k D)).2] at b5;rw[(W8.1 (Hv b k Q)).2] at b6;have hp:=a0.out;rw[Xd D,Xd Q] at hp;have HP:=Xu hp;clear hp a0 a1 a3 b0 b3;generalize a[k]=u at *;generalize b[k]=v at *;clear Q;by_cases t1:u<v
  .have U:A = -1:=by rw[HP.out];unfold lexC;rw[if_pos t1]
   simp (disch:=first|omega|simp) [*]
  by_cases t2:v<u
  .have U:A=1:=by rw[HP.out];unfold lexC;rw[if_neg t1,if_pos t2]
   simp (disch:=first|omega|simp) [*]
  .have b7:Aa (A=lexC (a.drop (k+1)) (b.drop (k+1))):=⟨by rw[HP.out];show (if u<v then -1 else if v<u then 1 else lexC (a.drop (k+1)) (b.drop (k+1)))=_;rw[if_neg t1,if_neg t2]⟩;simp (disch:=first|omega|simp) [*];exact ih.out (a.length-(k+1)) _ _ (by omega) ⟨k+1,by omega,rfl,rfl,b7,by simp[*]⟩
 .have a9:¬(k:Int)<(a.length:Int):=by omega
  have a4:k=a.length:=by omega
  have U:A=0:=by
   rw[a0.out,a4,e7e,<- HL.out,e7e];rfl
  clear a4;simp (disch:=first|omega|simp) [*]
def F6(g:Gb)(n:Nat)(ts:Lq)(sv:AV):Prop:=∃cs,Af g n sv ts.length cs/\RowsT g n ts cs/\∀v∈cs,Ay v
theorem F6.log{g:Gb}{n:Nat}{sv:AV}(h:F6 g n ts sv):El g n ts sv:=let ⟨cs,A,D,_⟩:=h;⟨cs,A,D⟩
theorem F6.mono{g:Gb}{n:Nat}{sv:AV}(h:F6 g n ts sv)(A:n<=n')(D:∀a,a<n->g' a=g a):F6 g' n' ts sv:=
 let ⟨cs,Q,U,Z⟩:=h;⟨cs,Q.mono A D,U.ext A λa x ha hx=>(D a ha).trans hx,Z⟩
theorem F6.at{g:Gb}{n:Nat}{sv:AV}(h:F6 g n ts sv){k:Nat}(Q:k<ts.length):∃a off s1 s2,AtT g n sv k ts[k] a off s1 s2/\Ay s1/\Ay s2:=by
 obtain⟨cs,h1,U,Z⟩:=h;obtain⟨s1,s2,A,e2,r1,r2⟩:=U.2 k Q;obtain⟨a,off,ha,D,a0⟩:=X4 (P:=prog) h1 Q 2;have hl:=U.1;refine⟨a,off,s1,s2,⟨ha,a0,?_,?_,?_,r1,r2⟩,Z _ (e6e A),Z _ (e6e e2)⟩
 .rw[D.agg (k:=k*2) (s:=2) (by omega),a4i A e2]
 .have:=D.one (k:=k*2) (s:=1) (by omega)
  rwa [(W8.1 A).2] at this
 .have:=D.one (k:=k*2+1) (s:=1) (by omega);rw[(W8.1 e2).2] at this;rw[e7n];exact this
theorem el57:(Bu prog 65).map (·.1)=some none:=by kernel_rfl
def lastV:Option Int->AV
 | some o=>.tup [.li o,.lit (.bool true)]
 | none=>.tup [.li 0,.lit (.bool false)]
theorem e0q{I:Int}(hS:U9 ts)(a5:∀t∈ts,t.2.length=t.1.length){w:Wd}(a6:0<w.length)(e6:w.length<=1000)(g:Gb)(n:Nat)(sv Z:AV)(hT:F6 g n ts sv)(hW:Al g n w Z):
  WC 0 prog 74 [.agg [.li I,.li O,sv],Z] ⟨.fn g,n⟩ λr=>∃g',r=.ret (lastV (valT ts w)) ⟨.fn g',n+1⟩/\∀b,b<n->g' b=g b:=by
 have e7:=@Ap prog _ _ _ _ _ hT.choose_spec.1;have e8:=@Ap prog _ _ _ _ _ hW;have b5:=hT.choose_spec.1.one;have e9:allOne [.li I,.li O,sv]=true:=by simp[b5]
 have g0:=hS.len;have HS:=Xu hS;have b6:=Xu a5;have HT:=Xu hT;have HW:=Xu hW;clear hS a5 hT hW;obtain⟨a7,a4⟩:∃x,x=valT ts w:=⟨_,rfl⟩;rw[<- a4];have U:=Xu a4;clear a4;refine ent [] func74 ?_;simp (disch:=first|omega|simp) [*];refine Xy (λm gf H'=>∃k:Nat,k<=ts.length/\m=ts.length-k/\H'=⟨.fn (Ak g n (some (.cells [.li I,.li O,sv] true 0))),n+1⟩/\Aa (a7=valT (ts.drop k) w)/\gf 1=some Z/\gf 2=some (.ptr n 0)/\gf 6=some (.li k)) (m0:=ts.length) ?_ ?_
 .exact⟨0,W3 _,rfl,rfl,U,by simp[*]⟩
 clear U;rintro m gf H' ⟨k,hk,rfl,rfl,U,w1,w2,w6⟩ ih;refine rnd [] ?_;by_cases a0:k<ts.length
 .have b7:(k:Int)<(ts.length:Int):=by omega
  obtain⟨a2,off,s1,s2,a8,a9,b8⟩:=(HT.out.mono (n':=n+1) (g':=Ak g n (some (.cells [.li I,.li O,sv] true 0))) (W5 n) λb D=>Ad D).at a0;have A:=Xu a8;clear a8;have g1:∀{H:Mem}{ev:Ev}{o:Oper}{ty:TypeId},iaS prog H ev o ty (some (none,2)) (some sv) (some (.li (k:Int)))=.val (.ptr a2 (off+k*2)) H:=λ{H ev o ty}=>A.out.ia;have g2:a2<n+1:=A.out.an;have g3:=A.out.c0;have g4:=A.out.c1;have g5:=HS.out.w1 _ (W2 a0);have g6:=b6.out _ (W2 a0);have Q:=Xu (U.out.trans (show valT (ts.drop k) w=if w≠[]/\w.length<=ts[k].1.length/\ts[k].1.take w.length=w then some (ts[k].2.getD (w.length-1) 0) else valT (ts.drop (k+1)) w from by rw[Xd a0];rfl));have g7:=@Ap prog _ _ _ _ _ A.out.r1;have b9:=Xu A.out.r1;have c2:=Xu A.out.r2;have c6:=Xu a9;clear A a9 b8;generalize ts[k]=t at *;have b0:w≠[]:=λh=>by rw[h] at a6;cases a6
  by_cases a1:w.length<=t.1.length
  .have c7:(w.length:Int)<=(t.1.length:Int):=by omega
   obtain⟨b1,g8,b2⟩:=Af.cut b9.out c6.out el57 (k:=w.length) (sz:=1) a1 (by omega);have c8:(t.1.take w.length).length=w.length:=by rw[W4,e5z a1]
   have b3:Al (Ak g n (some (.cells [.li I,.li O,sv] true 0))) (n+1) (t.1.take w.length) b1:=by
    unfold Al;rw[c8,show wdC (t.1.take w.length)=(wdC t.1).take (w.length*1) by simp[wdC]];exact b2
   have c9:=Xu (a4z (t.1.take w.length) w (by omega) (by omega) _ (n+1) b1 Z b3 (X0 (W5 n) (λb D=>Ad D) HW.out));obtain⟨a3,o3,g9,e0,h0⟩:=X6 c2.out (by omega:w.length-1<t.2.length);rw[show ((w.length-1:Nat):Int)=(w.length:Int)-1 by omega] at e0;have b4:Aa (t.2.getD (w.length-1) 0=t.2[w.length-1]):=⟨by rw[Xo,W6];rfl⟩;clear b2 b3;have h1:(0:Int)<=(w.length:Int)-1:=by omega
   simp (disch:=first|omega|simp) [*];refine Xv c9.out ?_;rintro _ rfl;by_cases hq:t.1.take w.length=w
   .rw[if_pos ⟨b0,a1,hq⟩,b4.out] at Q;have e1:=Q.out;simp only[hq,decide_true];clear b4;generalize t.2[w.length-1]=o at *;subst e1;simp (disch:=first|omega|simp) [*];exact⟨_,⟨rfl,rfl⟩,λb D=>Ad D⟩
   .rw[if_neg (λh=>hq h.2.2)] at Q;simp only[hq,decide_false];simp (disch:=first|omega|simp) [*];exact ih.out (ts.length-(k+1)) _ _ (by omega) ⟨k+1,by omega,rfl,rfl,Q,by simp[*]⟩
  .have c7:¬(w.length:Int)<=(t.1.length:Int):=by omega
   rw[if_neg (λh=>a1 h.2.1)] at Q;clear b0;simp (disch:=first|omega|simp) [*];exact ih.out (ts.length-(k+1)) _ _ (by omega) ⟨k+1,by omega,rfl,rfl,Q,by simp[*]⟩
 .have b7:¬(k:Int)<(ts.length:Int):=by omega
  have e5:a7=none:=by rw[U.out,Xt (by omega)];rfl
  subst e5;simp (disch:=first|omega|simp) [*];exact⟨_,⟨rfl,rfl⟩,λb D=>Ad D⟩
def J3(w:Wd):Wq->Bool->Wq
 | [],p=>if p then [] else [w]
 | x::l,p=>(if A4 w x<0/\p=false then [w] else [])++x::J3 w l (p||decide (A4 w x<=0))
theorem a5a:∀(l:Wq),J3 w l true=l
 | []=>rfl
 | x::l=>by
  unfold J3;rw[if_neg (by simp),e8o,a5a l];rfl
theorem b4m:∀(l:Wq),J3 w l false=Be w l
 | []=>rfl
 | x::l=>by
  unfold J3 Be;rw[e8v];by_cases A:A4 w x<0
  .rw[if_pos ⟨A,rfl⟩,if_pos A,decide_eq_true (by omega),a5a];rfl
  .rw[if_neg (λh=>A h.1),if_neg A];by_cases D:A4 w x=0
   .rw[if_pos D,decide_eq_true (by omega),a5a];rfl
   .rw[if_neg D,decide_eq_false (by omega),b4m l];rfl
theorem RowsW.snoc{g:Gb}{n:Nat}(h:RowsW g n l svs){x:Wd}{q:AV}(D:Al g n x q):RowsW g n (l++[x]) (svs++[q]):=by
 refine⟨by simp[h.1],λk Q=>?_⟩;have U:=h.1;rw[W0,Xg] at Q;by_cases A:k<l.length
 .obtain⟨sv,Z,e2⟩:=h.2 k A;exact⟨sv,by rw[Xs (by omega)];exact Z,by rw[e6f A];exact e2⟩
 .have e:k=l.length:=by omega
  subst e;exact⟨q,by rw[<- U,Xq (Wy _)];simp,by rw[e7c (Wy _)];simpa using D⟩
abbrev Yq:=@RowsW.snoc
theorem e0r(c8:l.length<=100000){w:Wd}(c9:w.length<=1000)(b5:∀x∈l,x.length<=1000)(g:Gb)(n:Nat)(lv wv:AV)(h1:Bs g n l lv)(hw:Al g n w wv):
  WC 0 prog 71 [lv,wv] ⟨.fn g,n⟩ λr=>∃ov g' n' B cs,r=.ret ov ⟨.fn g',n'⟩/\n<=n'/\(∀b,b<n->g' b=g b)/\A6 g' n n' B ov (Be w l).length 1 cs/\RowsW g n (Be w l) cs:=by
 have e0:=@Ap prog _ _ _ _ _ h1.choose_spec.1;have c0:oneC wv=true:=hw.one;have e1:cellsOf wv=[wv]:=hw.cell;have e5:allOne [wv]=true:=by simp[c0]
 have HL:=Xu h1;have HW:=Xu hw;have c1:=Xu b5;have b6:=Xu (b4m (w:=w) l);clear h1 hw b5;generalize Be w l=b1 at *;refine ent [] func71 ?_;simp (disch:=first|omega|simp) [*];refine Xy (λm gf H'=>∃(k n' B:Nat)(gL:Gb)(p:Bool)(A:Wq)(ov:AV) (cs:List AV),k<=l.length/\m=l.length-k/\H'=⟨.fn gL,n'⟩/\n<=n'/\Aa (∀b,b<n->gL b=g b)/\Aa (b1=A++J3 w (l.drop k) p)/\A.length<=2*k/\Aa (A6 gL n n' B ov A.length 1 cs)/\Aa (RowsW g n A cs) /\
  gf 0=some lv/\gf 1=some wv/\gf 5=some ov/\gf 6=some (.lit (.bool p))/\gf 7=some (.li k)) (m0:=l.length) ?_ ?_
 .exact⟨0,n,0,g,false,[],.nl,[],W3 _,rfl,rfl,Wy _,⟨λ_ _=>rfl⟩,⟨b6.out.symm⟩,by simp,⟨.inl ⟨rfl,rfl,rfl⟩⟩,⟨⟨rfl,λk h=>by cases h⟩⟩,by simp[*]⟩
 clear b6;rintro m gf H' ⟨k,n',B,gL,p,A,ov,cs,hk,rfl,rfl,b2,HG,a8,e6,a2,a3,w0,w1,w5,w6,w7⟩ ih;refine rnd [] ?_;by_cases b3:k<l.length
 .have c2:(k:Int)<(l.length:Int):=by omega
  obtain⟨a,off,q,ha,e7,b7,hq⟩:=HL.out.at b3;have e8:A5 (some (false,1)) (gL a) (off+k)=some q:=(congrArg (λz=>A5 (some (false,1)) z (off+k)) (HG.out a ha)).trans b7;have c6:oneC q=true:=hq.one;have e9:cellsOf q=[q]:=hq.cell;have g0:allOne [q]=true:=by simp[c6]
  have HC:=Xu (e0p w l[k] (by omega) (by have:=c1.out _ (W2 b3);omega) gL n' wv q (X0 b2 HG.out HW.out) (X0 b2 HG.out hq));have a0:=Xu (a8.out.trans (show A++J3 w (l.drop k) p=A++((if A4 w l[k] < 0/\p=false then [w] else [])++l[k]::J3 w (l.drop (k+1)) (p||decide (A4 w l[k]<=0))) from by rw[Xd b3];rfl));have a1:=Xu (a3.out.snoc hq);have b8:=Xu ((a3.out.snoc HW.out).snoc hq);have b9:cs.length=A.length:=a3.out.1;have c7:A.length<=200000:=by omega
  have g1:(cs++[wv]).length=(A.length+1)*1:=by simp[b9]
  clear b7 hq a3 a8;generalize A4 w l[k]=c at *;generalize l[k]=x at *;simp (disch:=first|omega|simp) [*];refine Xv HC.out ?_;rintro _ rfl;clear HC;rcases e8p c 0 with hc|hc|hc
  .have b0:¬c=0:=by omega
   have a9:c<=0:=by omega
   cases p with
   | true =>
    rw[if_neg (by simp),e8o] at a0;rcases a2.out with⟨U,Z,D⟩|⟨U,D,a4,a5,a6,a7⟩
    .subst D;have HZ:=Xu (And.intro U Z);clear U Z;simp (disch:=first|omega|simp) [*];refine ih.out (l.length-(k+1)) _ _ (by omega) ⟨k+1,n'+1+1,n'+1,_,true,A++[x],.slq (n'+1) 0 (A++[x]).length 0,cs++[q],by omega,rfl,rfl,by omega,⟨λb Q=>?_⟩,⟨by rw[a0.out];simp⟩,by simp;omega,⟨.inr ⟨by simp,rfl,by omega,by omega,?_,by simp;omega⟩⟩,a1,by simp[*],by simp[*],by simp[HZ.out.1, *],by simp[*]⟩
     .simp (disch:=omega) only[Ad,Ae];exact HG.out b Q
     .rw[HZ.out.2];simp (disch:=omega) [Ad,Ae,Ag, *]
    .subst D;simp (disch:=first|omega|simp) [*];refine ih.out (l.length-(k+1)) _ _ (by omega) ⟨k+1,n'+1+1,n'+1,_,true,A++[x],.slq (n'+1) 0 (A++[x]).length 0,cs++[q],by omega,rfl,rfl,by omega,⟨λb Q=>?_⟩,⟨by rw[a0.out];simp⟩,by simp;omega,⟨.inr ⟨by simp,rfl,by omega,by omega,?_,by simp;omega⟩⟩,a1,by simp[*]⟩
     .simp (disch:=omega) only[Ad,Ae];exact HG.out b Q
     .simp (disch:=omega) [Ad,Ae,Ag, *]
   | false =>
    rw[if_pos ⟨hc,rfl⟩,e8v,decide_eq_true a9] at a0;rcases a2.out with⟨U,Z,D⟩|⟨U,D,a4,a5,a6,a7⟩
    .subst D;have HZ:=Xu (And.intro U Z);clear U Z;simp (disch:=first|omega|simp) [*];refine ih.out (l.length-(k+1)) _ _ (by omega) ⟨k+1,n'+1+1+1+1,n'+1+1+1,_,true,A++[w]++[x],.slq (n'+1+1+1) 0 (A++[w]++[x]).length 0,cs++[wv]++[q],by omega,rfl,rfl,by omega,⟨λb Q=>?_⟩,⟨by rw[a0.out];simp⟩,by simp;omega,⟨.inr ⟨by simp,rfl,by omega,by omega,?_,by simp;omega⟩⟩,b8,by simp[*],by simp[*],by simp[HZ.out.1, *],by simp[*]⟩
     .simp (disch:=omega) only[Ad,Ae];exact HG.out b Q
     .rw[HZ.out.2];simp (disch:=omega) [Ad,Ae,Ag, *]
    .subst D;simp (disch:=first|omega|simp) [*];refine ih.out (l.length-(k+1)) _ _ (by omega) ⟨k+1,n'+1+1+1+1,n'+1+1+1,_,true,A++[w]++[x],.slq (n'+1+1+1) 0 (A++[w]++[x]).length 0,cs++[wv]++[q],by omega,rfl,rfl,by omega,⟨λb Q=>?_⟩,⟨by rw[a0.out];simp⟩,by simp;omega,⟨.inr ⟨by simp,rfl,by omega,by omega,?_,by simp;omega⟩⟩,b8,by simp[*]⟩
     .simp (disch:=omega) only[Ad,Ae];exact HG.out b Q
     .simp (disch:=omega) [Ad,Ae,Ag, *]
  .have b0:¬c<0:=by omega
   have a9:c<=0:=by omega
   rw[if_neg (λh=>b0 h.1),decide_eq_true a9,e9p] at a0;subst hc
   cases p with
   | true =>
    rcases a2.out with⟨U,Z,D⟩|⟨U,D,a4,a5,a6,a7⟩
    .subst D;have HZ:=Xu (And.intro U Z);clear U Z;simp (disch:=first|omega|simp) [*];refine ih.out (l.length-(k+1)) _ _ (by omega) ⟨k+1,n'+1+1,n'+1,_,true,A++[x],.slq (n'+1) 0 (A++[x]).length 0,cs++[q],by omega,rfl,rfl,by omega,⟨λb Q=>?_⟩,⟨by rw[a0.out];simp⟩,by simp;omega,⟨.inr ⟨by simp,rfl,by omega,by omega,?_,by simp;omega⟩⟩,a1,by simp[*],by simp[*],by simp[HZ.out.1, *],by simp[*]⟩
     .simp (disch:=omega) only[Ad,Ae];exact HG.out b Q
     .rw[HZ.out.2];simp (disch:=omega) [Ad,Ae,Ag, *]
    .subst D;simp (disch:=first|omega|simp) [*];refine ih.out (l.length-(k+1)) _ _ (by omega) ⟨k+1,n'+1+1,n'+1,_,true,A++[x],.slq (n'+1) 0 (A++[x]).length 0,cs++[q],by omega,rfl,rfl,by omega,⟨λb Q=>?_⟩,⟨by rw[a0.out];simp⟩,by simp;omega,⟨.inr ⟨by simp,rfl,by omega,by omega,?_,by simp;omega⟩⟩,a1,by simp[*]⟩
     .simp (disch:=omega) only[Ad,Ae];exact HG.out b Q
     .simp (disch:=omega) [Ad,Ae,Ag, *]
   | false =>
    rcases a2.out with⟨U,Z,D⟩|⟨U,D,a4,a5,a6,a7⟩
    .subst D;have HZ:=Xu (And.intro U Z);clear U Z;simp (disch:=first|omega|simp) [*];refine ih.out (l.length-(k+1)) _ _ (by omega) ⟨k+1,n'+1+1,n'+1,_,true,A++[x],.slq (n'+1) 0 (A++[x]).length 0,cs++[q],by omega,rfl,rfl,by omega,⟨λb Q=>?_⟩,⟨by rw[a0.out];simp⟩,by simp;omega,⟨.inr ⟨by simp,rfl,by omega,by omega,?_,by simp;omega⟩⟩,a1,by simp[*],by simp[*],by simp[HZ.out.1, *],by simp[*]⟩
     .simp (disch:=omega) only[Ad,Ae];exact HG.out b Q
     .rw[HZ.out.2];simp (disch:=omega) [Ad,Ae,Ag, *]
    .subst D;simp (disch:=first|omega|simp) [*];refine ih.out (l.length-(k+1)) _ _ (by omega) ⟨k+1,n'+1+1,n'+1,_,true,A++[x],.slq (n'+1) 0 (A++[x]).length 0,cs++[q],by omega,rfl,rfl,by omega,⟨λb Q=>?_⟩,⟨by rw[a0.out];simp⟩,by simp;omega,⟨.inr ⟨by simp,rfl,by omega,by omega,?_,by simp;omega⟩⟩,a1,by simp[*]⟩
     .simp (disch:=omega) only[Ad,Ae];exact HG.out b Q
     .simp (disch:=omega) [Ad,Ae,Ag, *]
  .have b0:¬c<0:=by omega
   have a9:¬c<=0:=by omega
   have g2:¬c=0:=by omega
   rw[if_neg (λh=>b0 h.1),decide_eq_false a9,e7v] at a0
   cases p with
   | true =>
    rcases a2.out with⟨U,Z,D⟩|⟨U,D,a4,a5,a6,a7⟩
    .subst D;have HZ:=Xu (And.intro U Z);clear U Z;simp (disch:=first|omega|simp) [*];refine ih.out (l.length-(k+1)) _ _ (by omega) ⟨k+1,n'+1+1,n'+1,_,true,A++[x],.slq (n'+1) 0 (A++[x]).length 0,cs++[q],by omega,rfl,rfl,by omega,⟨λb Q=>?_⟩,⟨by rw[a0.out];simp⟩,by simp;omega,⟨.inr ⟨by simp,rfl,by omega,by omega,?_,by simp;omega⟩⟩,a1,by simp[*],by simp[*],by simp[HZ.out.1, *],by simp[*]⟩
     .simp (disch:=omega) only[Ad,Ae];exact HG.out b Q
     .rw[HZ.out.2];simp (disch:=omega) [Ad,Ae,Ag, *]
    .subst D;simp (disch:=first|omega|simp) [*];refine ih.out (l.length-(k+1)) _ _ (by omega) ⟨k+1,n'+1+1,n'+1,_,true,A++[x],.slq (n'+1) 0 (A++[x]).length 0,cs++[q],by omega,rfl,rfl,by omega,⟨λb Q=>?_⟩,⟨by rw[a0.out];simp⟩,by simp;omega,⟨.inr ⟨by simp,rfl,by omega,by omega,?_,by simp;omega⟩⟩,a1,by simp[*]⟩
     .simp (disch:=omega) only[Ad,Ae];exact HG.out b Q
     .simp (disch:=omega) [Ad,Ae,Ag, *]
   | false =>
    rcases a2.out with⟨U,Z,D⟩|⟨U,D,a4,a5,a6,a7⟩
    .subst D;have HZ:=Xu (And.intro U Z);clear U Z;simp (disch:=first|omega|simp) [*];refine ih.out (l.length-(k+1)) _ _ (by omega) ⟨k+1,n'+1+1,n'+1,_,false,A++[x],.slq (n'+1) 0 (A++[x]).length 0,cs++[q],by omega,rfl,rfl,by omega,⟨λb Q=>?_⟩,⟨by rw[a0.out];simp⟩,by simp;omega,⟨.inr ⟨by simp,rfl,by omega,by omega,?_,by simp;omega⟩⟩,a1,by simp[*],by simp[*],by simp[HZ.out.1, *],by simp[*]⟩
     .simp (disch:=omega) only[Ad,Ae];exact HG.out b Q
     .rw[HZ.out.2];simp (disch:=omega) [Ad,Ae,Ag, *]
    .subst D;simp (disch:=first|omega|simp) [*];refine ih.out (l.length-(k+1)) _ _ (by omega) ⟨k+1,n'+1+1,n'+1,_,false,A++[x],.slq (n'+1) 0 (A++[x]).length 0,cs++[q],by omega,rfl,rfl,by omega,⟨λb Q=>?_⟩,⟨by rw[a0.out];simp⟩,by simp;omega,⟨.inr ⟨by simp,rfl,by omega,by omega,?_,by simp;omega⟩⟩,a1,by simp[*]⟩
     .simp (disch:=omega) only[Ad,Ae];exact HG.out b Q
     .simp (disch:=omega) [Ad,Ae,Ag, *]
 .have c2:¬(k:Int)<(l.length:Int):=by omega
  have b9:cs.length=A.length:=a3.out.1;have c7:A.length<=200000:=by omega
  have a1:=Xu (a3.out.snoc HW.out);rw[Xt (by omega)] at a8
  cases p with
  | true =>
   have b4:b1=A:=by rw[a8.out];simp[J3]
   subst b4;simp (disch:=first|omega|simp) [*];exact⟨_,_,_,⟨rfl,rfl,rfl⟩,b2,HG.out,B,cs,a2.out,a3.out⟩
  | false =>
   have b4:b1=A++[w]:=by rw[a8.out];simp[J3]
   subst b4;rcases a2.out with⟨U,Z,D⟩|⟨U,D,a4,a5,a6,a7⟩
   .subst D;subst Z;simp (disch:=first|omega|simp) [*];exact⟨_,_,_,⟨rfl,rfl,rfl⟩,by omega,λb Q=>by simp (disch:=omega) only[Ad];exact HG.out b Q,n'+1,[wv],.inr ⟨by omega,rfl,by omega,by omega,Ag,rfl⟩,a1.out⟩
   .subst D;simp (disch:=first|omega|simp) [*];exact⟨_,_,_,⟨rfl,rfl,rfl⟩,by omega,λb Q=>by simp (disch:=omega) only[Ad,Ae];exact HG.out b Q,n'+1,cs++[wv],.inr ⟨by omega,rfl,by omega,by omega,Ag,by simp;omega⟩,a1.out⟩
theorem A6.listv{g A:Gb}{lo n B:Nat}{sv:AV}{cs:List AV}(h:A6 g lo n B sv l.length 1 cs)(D:lo<=n)(Q:∀b,b<lo->g b=A b)(U:RowsW A lo l cs):Bs g n l sv:=by
 refine⟨cs,Xz (Wy _) (λa x _ hx=>?_) h.slice,U.ext D λa x Z hx=>(Q a Z).trans hx⟩;split at hx
 .exact hx
 .cases hx
theorem a5b{w:Wd}:∀{l:Wq},(Be w l).length<=l.length+1
 | []=>Wy _
 | x::l=>by
  have:=@a5b w l;unfold Be;split
  .simp
  .split
   .simp
   .simp;omega
theorem e0s{L:Wq}(h:i<w.length)(A:i<r.length):nodW L (w.take i) (w.drop i) (r.drop i)=if r[i] = -1 then L else nodW (Be (w.take (i+1)) L) (w.take (i+1)) (w.drop (i+1)) (r.drop (i+1)):=by
 rw[Xd h,Xd A,Bv h];rfl
theorem e0t{L:Wq}(h:¬i<w.length):nodW L (w.take i) (w.drop i) (r.drop i)=L:=by
 rw[Xt (by omega)];cases r.drop i<;>rfl
theorem e0u{k:Nat}(h:k<ts.length):Bi (ts.take (k+1))=nodW (Bi (ts.take k)) [] ts[k].1 ts[k].2:=by
 unfold Bi;rw[Bv h,List.foldl_append];rfl
theorem e0v{I:Int}(hS:U9 ts)(b2:∀t∈ts,t.2.length=t.1.length)(g:Gb)(n:Nat)(sv:AV)(hT:F6 g n ts sv):
  WC 0 prog 73 [.agg [.li I,.li O,sv]] ⟨.fn g,n⟩ λr=>∃ov g' n',r=.ret ov ⟨.fn g',n'⟩/\n<=n'/\(∀b,b<n->g' b=g b)/\Bs g' n' (Bi ts) ov/\(Bi ts).length<=1+300*ts.length/\∀x∈Bi ts,x.length<=300:=by
 have h5:=@Ap prog _ _ _ _ _ hT.choose_spec.1;have c7:=hT.choose_spec.1.one;have h6:allOne [.li I,.li O,sv]=true:=by simp[c7]
 have h7:=hS.len;have HS:=Xu hS;have c8:=Xu b2;have HT:=Xu hT;clear hS b2 hT;refine ent [] func73 ?_;simp (disch:=first|omega|simp) [*];refine Xy (λm A H'=>∃(k n' : Nat)(gL:Gb)(lv:AV),k<=ts.length/\m=ts.length-k/\H'=⟨.fn gL,n'⟩/\n+1+1+1<=n'/\Aa (∀b,b<n->gL b=g b)/\gL n=some (.cells [.li I,.li O,sv] true 0)/\Aa (Bs gL n' (Bi (ts.take k)) lv)/\(Bi (ts.take k)).length<=1+300*k/\Aa (∀x∈Bi (ts.take k),x.length<=300) /\
  A 1=some (.ptr n 0)/\A 3=some lv/\A 4=some (.li k)) (m0:=ts.length) ?_ ?_
 .refine⟨0,_,_,.sl (n+1+1) 0 1 1,W3 _,rfl,rfl,Wy _,⟨λb D=>?_⟩,?_,⟨[.sl (n+1) 0 0 0],?_,rfl,λk hk=>?_⟩,?_,⟨λx hx=>?_⟩,by simp[*]⟩
  .simp (disch:=omega) only[Ad]
  .simp (disch:=omega) only[Ad,Ag]
  .exact Gm Ag (by omega)
  .have e:k=0:=by simp[Bi] at hk;omega
   subst e;refine⟨.sl (n+1) 0 0 0,rfl,?_⟩;exact Gm (cs:=[]) (own:=true) (z:=0) (by simp (disch:=omega) only[Ad,Ag]) (by omega)
  .simp[Bi]
  .have e:x=[]:=by simpa[Bi] using hx
   rw[e];simp
 rintro m A H' ⟨k,n',gL,lv,hk,rfl,rfl,h8,HG,c9,Z,e0,Q,w1,w3,w4⟩ ih;refine rnd [] ?_;by_cases a4:k<ts.length
 .have e1:(k:Int)<(ts.length:Int):=by omega
  obtain⟨a2,off,s1,s2,b3,b4,e5⟩:=(HT.out.mono (show n<=n' by omega) HG.out).at a4;have U:=Xu b3;clear b3;have e6:∀{H:Mem}{ev:Ev}{o:Oper}{ty:TypeId},iaS prog H ev o ty (some (none,2)) (some sv) (some (.li (k:Int)))=.val (.ptr a2 (off+k*2)) H:=λ{H ev o ty}=>U.out.ia;have h9:a2<n':=U.out.an;have e7:=U.out.agg;have e8:oneC s1=true:=U.out.r1.one;have e9:oneC s2=true:=U.out.r2.one;have i0:allOne [s1,s2]=true:=by simp[e8,e9]
  have i1:=HS.out.w1 _ (W2 a4);have i2:=c8.out _ (W2 a4);have a6:=Xu (e0u a4);have i3:=@Ap prog _ _ _ _ _ U.out.r1;have g0:=Xu U.out.r1;have g1:=Xu U.out.r2;have g4:=Xu b4;clear U b4 e5;generalize ts[k]=t at *;obtain⟨g5,a7⟩:∃x,x=Bi (ts.take (k+1)):=⟨_,rfl⟩;rw[<- a7] at a6;have a0:=Xu a7;clear a7;generalize Bi (ts.take k)=L0 at *;simp (disch:=first|omega|simp) [*];refine Xy (λm A H'=>∃(i n2:Nat)(g2:Gb)(lv:AV)(L:Wq),i<=t.1.length/\m=t.1.length-i/\H'=⟨.fn g2,n2⟩/\n'+1<=n2/\Aa (∀b,b<n'->g2 b=gL b)/\g2 n'=some (.cells [s1,s2] true 0)/\Aa (Bs g2 n2 L lv)/\L.length<=1+300*k+i/\Aa (∀x∈L,x.length<=300)/\Aa (g5=nodW L (t.1.take i) (t.1.drop i) (t.2.drop i)) /\
   A 1=some (.ptr n 0)/\A 3=some lv/\A 4=some (.li k)/\A 5=some (.ptr n' 0)/\A 6=some (.li i)) (m0:=t.1.length) ?_ ?_
  .exact⟨0,n'+1,_,lv,L0,W3 _,rfl,rfl,Wy _,⟨λb D=>Ad D⟩,Ag,⟨Z.out.mono (W5 n') λb D=>Ad D⟩,by omega,Q,a6,by simp[*]⟩
  clear w1 w3 w4 Z Q a6 e6 e7;rintro m A H' ⟨i,n2,g2,a8,L,hi,rfl,rfl,i4,a1,g6,Z,i5,Q,b5,w1,w3,w4,w5,w6⟩ g7;have b6:=(a1.out n (by omega)).trans c9;refine rnd [] ?_;by_cases a9:i<t.1.length
  .have g8:(i:Int)<(t.1.length:Int):=by omega
   have b7:i<t.2.length:=by omega
   obtain⟨a3,o3,i6,i7,i8⟩:=X6 (X0 (Wy n') a1.out g1.out) b7;have a5:=Xu (b5.out.trans (e0s a9 b7));obtain⟨b8,g9,b9⟩:=Af.cut g0.out g4.out el57 (k:=i+1) (sz:=1) a9 (by omega);have h0:(t.1.take (i+1)).length=i+1:=by rw[W4];omega
   have c0:Al gL n' (t.1.take (i+1)) b8:=by
    unfold Al;rw[h0,show wdC (t.1.take (i+1))=(wdC t.1).take ((i+1)*1) by simp[wdC]];exact b9
   rw[show ((i+1:Nat):Int)=(i:Int)+1 by omega] at g9;have h1:=Xu (e0r (l:=L) (w:=t.1.take (i+1)) (by omega) (by omega) (λx hx=>by have:=Q.out x hx;omega) g2 n2 a8 b8 Z.out (X0 (by omega) a1.out c0));have h2:Aa (∀x∈Be (t.1.take (i+1)) L,x.length<=300):=⟨λx hx=>by
    rcases Po.1 hx with h|h
    .rw[h];omega
    .exact Q.out x h⟩
   have i9:=@a5b (t.1.take (i+1)) L;clear b9 c0;generalize t.2[i]=o at *;by_cases ho:o = -1
   .rw[if_pos ho] at a5;have b0:=a5.out;subst b0;subst ho;simp (disch:=first|omega|simp) [*];exact ih.out (ts.length-(k+1)) _ _ (by omega) ⟨k+1,n2,g2,a8,by omega,rfl,rfl,by omega,⟨λb D=>(a1.out b (by omega)).trans (HG.out b D)⟩,b6,⟨by rw[<- a0.out];exact Z.out⟩,by rw[<- a0.out];omega,⟨by rw[<- a0.out];exact Q.out⟩,by simp[*]⟩
   .rw[if_neg ho] at a5;generalize Be (t.1.take (i+1)) L=L2 at *;simp (disch:=first|omega|simp) [*];refine Xv h1.out ?_;rintro _ ⟨ov,g3,n3,B,cs,rfl,h3,b1,c1,c2⟩;have c6:=Xu b1;have h4:Aa (Bs g3 n3 L2 ov):=⟨c1.listv h3 b1 c2⟩;clear b1 c1 c2;simp (disch:=first|omega|simp) [*];exact g7.out (t.1.length-(i+1)) _ _ (by omega) ⟨i+1,n3,g3,ov,L2,by omega,rfl,rfl,by omega,⟨λb D=>(c6.out b (by omega)).trans (a1.out b D)⟩,(c6.out n' (by omega)).trans g6,h4,by omega,h2,a5,by simp[*]⟩
  .have g8:¬(i:Int)<(t.1.length:Int):=by omega
   have b0:=b5.out.trans (e0t a9);subst b0;simp (disch:=first|omega|simp) [*];exact ih.out (ts.length-(k+1)) _ _ (by omega) ⟨k+1,n2,g2,a8,by omega,rfl,rfl,by omega,⟨λb D=>(a1.out b (by omega)).trans (HG.out b D)⟩,b6,⟨by rw[<- a0.out];exact Z.out⟩,by rw[<- a0.out];omega,⟨by rw[<- a0.out];exact Q.out⟩,by simp[*]⟩
 .have e1:¬(k:Int)<(ts.length:Int):=by omega
  rw[Xi (by omega)] at Z Q e0;simp (disch:=first|omega|simp) [*];exact⟨_,_,_,⟨rfl,rfl,rfl⟩,by omega,HG.out,Z.out,by omega,Q.out⟩
def RowsG(g:Gb)(n:Nat)(rows:Tq)(svs:List AV):Prop:=svs.length=rows.length/\∀(k:Nat)(h:k<rows.length),∃sv,svs[k]?=some sv/\Af g n sv rows[k].length (Au rows[k])
def Dv(g:Gb)(n:Nat)(rows:Tq)(tv:AV):Prop:=∃svs,Af g n tv rows.length svs/\RowsG g n rows svs
theorem RowsG.snoc{g:Gb}{n:Nat}{l:Tq}(h:RowsG g n l svs){x:List (Int×Int)}{q:AV}(D:Af g n q x.length (Au x)):RowsG g n (l++[x]) (svs++[q]):=by
 refine⟨by simp[h.1],λk Q=>?_⟩;have U:=h.1;rw[W0,Xg] at Q;by_cases A:k<l.length
 .obtain⟨sv,Z,e2⟩:=h.2 k A;exact⟨sv,by rw[Xs (by omega)];exact Z,by rw[e6f A];exact e2⟩
 .have e:k=l.length:=by omega
  subst e;exact⟨q,by rw[<- U,Xq (Wy _)];simp,by rw[e7c (Wy _)];simpa using D⟩
theorem RowsG.ext{g:Gb}{n:Nat}{l:Tq}(h:RowsG g n l svs)(A:n<=n')(D:∀a x,a<n->g a=some x->g' a=some x):RowsG g' n' l svs:=
 ⟨h.1,λk Q=>let ⟨sv,U,Z⟩:=h.2 k Q;⟨sv,U,Xz A D Z⟩⟩
theorem Dv.mono{g:Gb}{n:Nat}{rows:Tq}{A:AV}(h:Dv g n rows A)(D:n<=n')(Q:∀a,a<n->g' a=g a):Dv g' n' rows A:=
 let ⟨svs,U,Z⟩:=h;⟨svs,U.mono D Q,Z.ext D λa x ha hx=>(Q a ha).trans hx⟩
theorem RowsC.tree{g:Gb}{lo n I B:Nat}{rows:Tq}{A:List Nat}(h:RowsC g lo n I rows A)(Q:B<n)(U:g B=some (.cells (Cs I A) true 0)):Dv g n rows (.sl B 0 rows.length rows.length):=by
 refine⟨Cs I A,Gm U Q,by rw[Pp];exact h.len,λk Z=>?_⟩;have D:k<A.length:=by have:=h.len;omega
 obtain⟨e1,e2,e3,e4⟩:=h.at' k D Z;refine⟨.sl A[k] 0 I I,by rw[W6 (by rw[Pp];exact D),a4w D],?_⟩;rw[e4];exact Gm e3 e2
theorem Dv.at{g:Gb}{n:Nat}{rows:Tq}{A:AV}(h:Dv g n rows A){k:Nat}(D:k<rows.length):∃a off q,a<n/\(∀{H:Mem}{ev:Ev}{o:Oper}{t:TypeId},iaS prog H ev o t (some (none,1)) (some A) (some (.li (k:Int)))=.val (.ptr a (off+k)) H)/\A5 (some (false,1)) (g a) (off+k)=some q/\Af g n q rows[k].length (Au rows[k]):=by
 obtain⟨svs,Z,h2,h3⟩:=h;obtain⟨q,e1,e2⟩:=h3 k D;obtain⟨a,off,ha,a0,Q⟩:=Z.ia (P:=prog) D 1;simp only[Xj] at Q;have U:=a0.one (k:=k) (s:=1) (by omega);rw[(W8.1 e1).2] at U;exact⟨a,off,q,ha,Q,U,e2⟩
theorem Vq{g:Gb}{n:Nat}{row:List (Int×Int)}{q:AV}(h:Af g n q row.length (Au row)){i:Nat}(hi:i<row.length):∃a off,a<n/\(∀{H:Mem}{ev:Ev}{o:Oper}{t:TypeId},iaS prog H ev o t (some (none,2)) (some q) (some (.li (i:Int)))=.val (.ptr a (off+i*2)) H)/\A5 (some (true,2)) (g a) (off+i*2)=some (.agg [.lit (.int .i64 row[i].1),.lit (.int .i64 row[i].2)]):=by
 obtain⟨a,off,D,Q,U⟩:=h.ia (P:=prog) hi 2;have A:=Q.agg (k:=i*2) (s:=2) (by rw[rowC_len];omega);rw[rowC_at row i hi] at A;exact⟨a,off,D,U,A⟩
end Go.Ai
