/- Parts of an interpreter and of a proof. No condition. -/
import Derived.Test.YtpimmmnkcgnjjaaGreatK13
import Derived.Test.YtpimmmnkcgnjjaaGreatK14
import Derived.Test.YtpimmmnkcgnjjaaGreatK12
set_option linter.all false
set_option maxHeartbeats 40000000
set_option maxRecDepth 10000
open Go.Proofs Go.Proofs.Tryz
namespace Go.Ai
theorem okT_of{I O:Int}{T:Tq}(h:goT I O T 0 1=some T.length):∀r∈T,(r.length:Int)=I/\∀e∈r,e.1 = -1\/(0<=e.1/\e.1<T.length):=by
 intro r f;obtain⟨A,D⟩:=Pc h (Wy _) (Wy _) r f
 (simp_all[okE];grind)
structure Hw (I:Nat) (O:Int) (S E:Wq) (T:Tq):Prop where
 i1:1<=I
 i2:I<=3
 o1:1<=O
 o2:O<=16
 sl:S.length<=20
 s0:0<S.length
 sw:∀w∈S,w.length<=300/\inW w I=true
 e0:0<E.length
 el:E.length<=20
 ew:∀e∈E,0<e.length/\e.length<=300/\inW e I=true
 t0:0<T.length
 tl:T.length<=65537
 go:goT I O T 0 1=some T.length
 ok:∀r∈T,r.length=I/\∀e∈r,e.1 = -1\/(0<=e.1/\e.1<T.length)
 err:N4 I O S E I O T=0
structure A7 (g:Gb) (n:Nat) (S E:Wq) (T:Tq) (sv ev tv:AV):Prop where
 s:Cu g n S sv
 e:Cu g n E ev
 t:Cf g n T tv
theorem A7.mono{g g': Gb}{n n': Nat}{S E:Wq}{T:Tq}{sv ev Q:AV}(h:A7 g n S E T sv ev Q)(f:n<=n')(A:∀a,a<n->g' a=g a):A7 g' n' S E T sv ev Q:=
 ⟨h.s.ext f λa x D hx=>(A a D).trans hx,h.e.ext f λa x D hx=>(A a D).trans hx,h.t.mono f A⟩
theorem Cu.listT{g:Gb}{n:Nat}{l:Wq}{sv:AV}(h:Cu g n l sv)(f:l.length<=1000000)(A:∀w∈l,w.length<=1000000):Pt g n l sv:=⟨f,A,h⟩
theorem Hw.check{I:Nat}{O:Int}{S E:Wq}{T:Tq}(f:Hw I O S E T){g:Gb}{n:Nat}{sv ev A:AV}(h:A7 g n S E T sv ev A):
  WC 0 prog 37 [.agg [.li I,.li O,sv,ev,.li I,.li O,A]] ⟨.fn g,n⟩ λr=>r=.ret (.li 0) ⟨.fn g,n⟩:=by
 have Q:=b5g I O I O S E T g n sv ev A (h.s.listT (by have:=f.sl;omega) λw D=>by have:=(f.sw w D).1;omega) (h.e.listT (by have:=f.el;omega) λw D=>by have:=(f.ew w D).2.1;omega) ⟨by have:=f.tl;omega,λr U=>by have:=(f.ok r U).1;have:=f.i2;omega,h.t⟩;rw[f.err] at Q;grind
end Go.Ai
