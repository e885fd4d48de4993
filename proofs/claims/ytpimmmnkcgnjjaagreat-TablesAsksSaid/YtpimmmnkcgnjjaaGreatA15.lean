/- Parts of an interpreter and of a proof. No condition. -/
import Derived.Test.YtpimmmnkcgnjjaaGreatA13
import Derived.Test.YtpimmmnkcgnjjaaGreatA14
import Derived.Test.YtpimmmnkcgnjjaaGreatA12
set_option linter.all false
set_option maxHeartbeats 40000000
set_option maxRecDepth 10000
open Go.Proofs Go.Proofs.Tryz
namespace Go.Ai
theorem okT_of{I O:Int}{T:Tq}(h:goT I O T 0 1=some T.length):∀r∈T,(r.length:Int)=I/\∀e∈r,e.1 = -1\/(0<=e.1/\e.1<T.length):=by
 intro r A;obtain⟨D,Q⟩:=Rt h (Wy _) (Wy _) r A
 (simp_all[okE];grind)
structure G0 (I:Nat) (O:Int) (S E:Wq) (T:Tq):Prop where
 i1:1<=I
 i2:I<=3
 o1:1<=O
 o2:O<=16
 sl:S.length<=20
 s0:0<S.length
 sw:∀w∈S,w.length<=300/\inW w I=true
 e0:0<E.length
 el:E.length<=20
 ew:∀e∈E,0<e.length/\e.length<=300/\inW e I=true
 t0:0<T.length
 tl:T.length<=65537
 go:goT I O T 0 1=some T.length
 ok:∀r∈T,r.length=I/\∀e∈r,e.1 = -1\/(0<=e.1/\e.1<T.length)
 err:Pr I O S E I O T=0
structure D3 (g:Gb) (n:Nat) (S E:Wq) (T:Tq) (sv ev tv:AV):Prop where
 s:Bb g n S sv
 e:Bb g n E ev
 t:Dv g n T tv
theorem D3.mono{g g': Gb}{n n': Nat}{S E:Wq}{T:Tq}{sv ev U:AV}(h:D3 g n S E T sv ev U)(A:n<=n')(D:∀a,a<n->g' a=g a):D3 g' n' S E T sv ev U:=
 ⟨h.s.ext A λa x Q hx=>(D a Q).trans hx,h.e.ext A λa x Q hx=>(D a Q).trans hx,h.t.mono A D⟩
theorem Bb.listT{g:Gb}{n:Nat}{l:Wq}{sv:AV}(h:Bb g n l sv)(A:l.length<=1000000)(D:∀w∈l,w.length<=1000000):Ps g n l sv:=⟨A,D,h⟩
theorem G0.check{I:Nat}{O:Int}{S E:Wq}{T:Tq}(A:G0 I O S E T){g:Gb}{n:Nat}{sv ev D:AV}(h:D3 g n S E T sv ev D):
  WC 0 prog 37 [.agg [.li I,.li O,sv,ev,.li I,.li O,D]] ⟨.fn g,n⟩ λr=>r=.ret (.li 0) ⟨.fn g,n⟩:=by
 have U:=e1j I O I O S E T g n sv ev D (h.s.listT (by have:=A.sl;omega) λw Q=>by have:=(A.sw w Q).1;omega) (h.e.listT (by have:=A.el;omega) λw Q=>by have:=(A.ew w Q).2.1;omega) ⟨by have:=A.tl;omega,λr Z=>by have:=(A.ok r Z).1;have:=A.i2;omega,h.t⟩;rw[A.err] at U;grind
theorem QOK.tab{M:Aw}(A:M.ok){I:Nat}{O:Int}(Z:M.inp=I)(hO:M.out=O)(a1:I<=3){S E:Wq}{L:Lq}(h:QOK M S E L):G0 I O S E (Aj I L):=by
 have a2:M.inp.toNat=I:=by grind
 have U:=h.s;have D:=h.e;rw[a2] at U D;have h1:=A.1;have h2:=A.2.2.1;have h3:=A.2.2.2.1;have a4:=U.len;have a5:=D.len;have a0:=h.runs.go A Z;rw[hO] at a0;have a6:(Aj I L).length<=1561:=by have:=h.nod;grind[Sf]
 have a3:0<(Aj I L).length:=by
  rw[Sf];exact e6y ((J2 (h.runs.valid A) h.runs.cons []).2 (.inl rfl))
 have a7:Ej I O (Aj I L)=0:=by have:=h.runs.err A Z (by omega);grind
 refine⟨by omega,a1,by omega,by omega,by omega,U.pos,λw Q=>⟨by have:=(U.wl w Q).1;omega,(U.wl w Q).2⟩,by have:=D.low;omega,by omega,λe Q=>⟨(D.wl e Q).1,by have:=(D.wl e Q).2.1;omega,(D.wl e Q).2.2⟩,a3,by omega,a0,λr hr=>?_,?_⟩
 all_goals grind[okT_of,b5a]
theorem RowK.low{g:Gb}{lo lo' n:Nat}{r:Option (Wd)}{A:AV}(h:RowK g lo n r A)(D:lo'<=lo):RowK g lo' n r A:=by
 cases r with
 | none=>exact h
 | some r=>exact⟨h.1.keep D (Wy _) λ_ _ _=>rfl,h.2⟩
theorem b5q{a b:Wd}(b2:a.length<=100000)(b3:b.length<=100000)(g:Gb)(n:Nat)(Q bv:AV)(U:Al g n a Q)(Z:Al g n b bv):
  WC 0 prog 112 [Q,bv] ⟨.fn g,n⟩ λr=>r=.ret (.lit (.bool (decide (a=b)))) ⟨.fn g,n⟩:=by
 have b4:=@Ap prog _ _ _ _ _ U;have b5:=@Ap prog _ _ _ _ _ Z;have HA:=Xu U;have HB:=Xu Z;clear U Z;obtain⟨a0,a1⟩:∃x,x=decide (a=b):=⟨_,rfl⟩;rw[<- a1];have a4:=Xu a1;clear a1;by_cases hl:a.length=b.length
 .have b0:(a.length:Int)=(b.length:Int):=by omega
  refine ent pl112 func112 ?_;simp (disch:=first|omega|simp) [*];refine Xy (λm A H'=>∃k:Nat,k<=b.length/\m=b.length-k/\H'=⟨.fn g,n⟩/\Aa (a.take k=b.take k)/\A 0=some Q/\A 1=some bv/\A 12=some (.li b.length)/\A 13=some (.li k)) (m0:=b.length) ?_ ?_
  .exact⟨0,W3 _,rfl,rfl,⟨by simp⟩,by simp[*]⟩
  rintro m A H' ⟨k,hk,rfl,rfl,HT,w0,w1,b6,b7⟩ ih;refine rnd pl112 ?_;by_cases a5:k<b.length
  .have b1:(k:Int)<(b.length:Int):=by omega
   have a6:k<a.length:=by omega
   obtain⟨a2,o2,b8,b9,c0⟩:=X6 HA.out a6;obtain⟨a3,o3,c1,c2,c6⟩:=X6 HB.out a5;have a7:=Xu (Bv a6);have a8:=Xu (Bv a5);generalize a[k]=x at *;generalize b[k]=y at *;by_cases a9:x=y
   .subst a9;simp (disch:=first|omega|simp) [*];exact ih.out (b.length-(k+1)) _ _ (by omega) ⟨k+1,by omega,rfl,rfl,⟨by rw[a7.out,a8.out,HT.out]⟩,by simp[*]⟩
   .have D:a0=false:=by
     rw[a4.out];refine decide_eq_false λh=>a9 ?_;have h1:=a7.out;rw[h,a8.out,<- h,HT.out] at h1;have:=List.append_cancel_left h1;simpa using this.symm
    subst D;simp (disch:=first|omega|simp) [*]
  .have b1:¬(k:Int)<(b.length:Int):=by omega
   have D:a0=true:=by
    rw[a4.out];refine decide_eq_true ?_;have:=HT.out
    rwa [Xi (by omega),Xi (by omega)] at this
   subst D;simp (disch:=first|omega|simp) [*]
 .have b0:¬(a.length:Int)=(b.length:Int):=by omega
  have D:a0=false:=by rw[a4.out];exact decide_eq_false λh=>hl (by rw[h])
  subst D;refine ent pl112 func112 ?_;simp (disch:=first|omega|simp) [*]
end Go.Ai
