/- Parts of an interpreter and of a proof. No condition. -/
import Derived.Test.YtpimmmnkcgnjjaaGreatK25
import Derived.Test.YtpimmmnkcgnjjaaGreatK09
import Derived.Test.YtpimmmnkcgnjjaaGreatK12
import Derived.Test.YtpimmmnkcgnjjaaGreatK05
set_option linter.all false
set_option maxHeartbeats 40000000
set_option maxRecDepth 10000
open Go.Proofs
namespace Go.Ai
structure J4 (g:Gb) (n:Nat) (l:Wq) (sv:AV):Prop where
 len:l.length<=1000000
 words:∀w∈l,w.length<=1000000
 ex:∃svs,Af g n sv l.length svs/\RowsW g n l svs/\∀q∈svs,Av q
structure Py (g:Gb) (n:Nat) (T:Tq) (sv:AV):Prop where
 len:T.length<=1000000
 rows:∀r∈T,r.length<=1000000
 ex:∃svs,Af g n sv T.length svs/\RowsK g n T svs
theorem J4.mono{g g': Gb}{n n': Nat}{l:Wq}{sv:AV}(h:J4 g n l sv)(f:n<=n')(A:∀a,a<n->g' a=g a):J4 g' n' l sv:=
 ⟨h.len,h.words,let ⟨D,Q,U,Z⟩:=h.ex;⟨D,Q.mono f A,U.ext f λa x ha hx=>(A a ha).trans hx,Z⟩⟩
theorem Py.mono{g g': Gb}{n n': Nat}{l:Tq}{sv:AV}(h:Py g n l sv)(f:n<=n')(A:∀a,a<n->g' a=g a):Py g' n' l sv:=
 ⟨h.len,h.rows,let ⟨D,Q,U⟩:=h.ex;⟨D,Q.mono f A,U.ext f λa x Z hx=>(A a Z).trans hx⟩⟩
def Ob(g:Gb)(lo hi:Nat)(ws:Wq)(L:List AV):Prop:=
 L.length=ws.length/\∀(m:Nat),m<ws.length->∃sv,L[m]?=some sv/\((ws.getD m []=[]/\sv=.nl)\/(ws.getD m []≠[]/\∃a,lo<=a/\a<hi/\sv=.slq a 0 (ws.getD m []).length 0/\g a=some (.cells (wdC (ws.getD m [])) true 1)))
theorem Ob.ext{g g': Gb}{lo hi hi': Nat}{ws:Wq}{L:List AV}(h:Ob g lo hi ws L)(hh:hi<=hi')(A:∀a,lo<=a->a<hi->g' a=g a):Ob g' lo hi' ws L:=
 ⟨h.1,λm D=>let ⟨sv,Q,U⟩:=h.2 m D;⟨sv,Q,U.imp id λ⟨Z,a,f,h5,h6,h7⟩=>⟨Z,a,f,by omega,h6,(A a f h5).trans h7⟩⟩⟩
theorem Ob.set{g:Gb}{lo hi:Nat}{ws:Wq}{L:List AV}(h:Ob g lo hi ws L){t a:Nat}{w:Wd}(A:w≠[])(D:lo<=a)(Q:a<hi)(U:g a=some (.cells (wdC w) true 1)):Ob g lo hi (ws.set t w) (L.set t (.slq a 0 w.length 0)):=by
 refine⟨by rw[Xe,Xe,h.1],λm f=>?_⟩;rw[Xe] at f;by_cases e:t=m
 .subst e;refine⟨_,e7g (by rw[h.1];exact f),?_⟩;rw[Ro,if_pos ⟨rfl,f⟩];exact .inr ⟨A,a,D,Q,rfl,U⟩
 .obtain⟨sv,Z,h5⟩:=h.2 m f;refine⟨sv,by rw[e6k e];exact Z,?_⟩;rw[Ro,if_neg (λh=>e h.1)];exact h5
structure a5r (g gL:Gb) (n n' : Nat) (len:Nat) (st:WSt) (L:List AV):Prop where
 lt:n+3<=n'
 keep:∀b,b<n->gL b=g b
 words:Ob gL (n+3) n' st.out L
 lo:st.out.length=len
 ls:st.seen.length=len
 cnt:st.many=st.seen.count true
 short:∀m,(st.out.getD m []).length<=len
theorem a5r.put{g gN:Gb}{n f len:Nat}{s:WSt}{L:List AV}(h:a5r g gN n f len s L){t:Nat}(ht:t<len)(hs:s.seen.getD t false=false){w:Wd}{D:Nat}(a0:w.length=D)(hw:0<D)(a5:D<=len)
  {Q:Gb} {U A:Nat} (a2:f<=U) (a6:f<=A) (a3:A<U) (a4:Q A=some (.cells (wdC w) true 1)) (a1:∀b,b<f->b≠n+1->b≠n+1+1->Q b=gN b) :
  a5r g Q n U len ⟨s.out.set t w,s.seen.set t true,s.many+1⟩ (L.set t (.slq A 0 D 0)):=by
 have a7:=h.lt;refine⟨by omega,λb hb=>(a1 b (by omega) (by omega) (by omega)).trans (h.keep b hb),?_,by rw[Xe];exact h.lo,by rw[Xe];exact h.ls,?_,λm=>?_⟩
 .have Z:=(h.words.ext (g':=Q) (hi':=U) a2 λa h1 Z=>a1 a Z (by omega) (by omega)).set (t:=t) (a:=A) (w:=w) (by intro e;rw[e] at a0;simp at a0;omega) (by omega) a3 a4;rw[a0] at Z;exact Z
 .show s.many+1=(s.seen.set t true).count true;rw[count_set _ _ (by rw[h.ls];exact ht) hs,h.cnt]
 .show ((s.out.set t w).getD m []).length<=len;rw[Ro];split
  .omega
  .exact h.short m
def a5s(n:Nat)(g:Gb):Gb:=λa=>if n<=a then g a else none
theorem J4.low{n:Nat}{g:Gb}{n': Nat}{l:Wq}{sv:AV}(h:J4 (a5s n g) n' l sv):J4 g n' l sv:=
 have f:∀a x,a<n'->a5s n g a=some x->g a=some x:=λa x _ hx=>by
  unfold a5s at hx;split at hx
  .exact hx
  .cases hx
 ⟨h.len,h.words,let ⟨A,D,Q,U⟩:=h.ex;⟨A,Xx (Wy _) f D,Q.ext (Wy _) f,U⟩⟩
end Go.Ai
