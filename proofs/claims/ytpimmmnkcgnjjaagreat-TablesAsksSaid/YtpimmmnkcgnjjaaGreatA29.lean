/- Parts of an interpreter and of a proof. No condition. -/
import Derived.Test.YtpimmmnkcgnjjaaGreatA28
import Derived.Test.YtpimmmnkcgnjjaaGreatA09
import Derived.Test.YtpimmmnkcgnjjaaGreatA12
import Derived.Test.YtpimmmnkcgnjjaaGreatA05
set_option linter.all false
set_option maxHeartbeats 40000000
set_option maxRecDepth 10000
open Go.Proofs
namespace Go.Ai
structure M6 (g:Gb) (n:Nat) (l:Wq) (sv:AV):Prop where
 len:l.length<=1000000
 words:∀w∈l,w.length<=1000000
 ex:∃svs,Af g n sv l.length svs/\RowsW g n l svs/\∀q∈svs,Ay q
structure P0 (g:Gb) (n:Nat) (T:Tq) (sv:AV):Prop where
 len:T.length<=1000000
 rows:∀r∈T,r.length<=1000000
 ex:∃svs,Af g n sv T.length svs/\RowsK g n T svs
theorem M6.mono{g g': Gb}{n n': Nat}{l:Wq}{sv:AV}(h:M6 g n l sv)(A:n<=n')(D:∀a,a<n->g' a=g a):M6 g' n' l sv:=
 ⟨h.len,h.words,let ⟨svs,Q,U,Z⟩:=h.ex;⟨svs,Q.mono A D,U.ext A λa x ha hx=>(D a ha).trans hx,Z⟩⟩
theorem P0.mono{g g': Gb}{n n': Nat}{l:Tq}{sv:AV}(h:P0 g n l sv)(A:n<=n')(D:∀a,a<n->g' a=g a):P0 g' n' l sv:=
 ⟨h.len,h.rows,let ⟨svs,Q,U⟩:=h.ex;⟨svs,Q.mono A D,U.ext A λa x Z hx=>(D a Z).trans hx⟩⟩
def Oh(g:Gb)(lo hi:Nat)(ws:Wq)(L:List AV):Prop:=
 L.length=ws.length/\∀(m:Nat),m<ws.length->∃sv,L[m]?=some sv/\((ws.getD m []=[]/\sv=.nl)\/(ws.getD m []≠[]/\∃a,lo<=a/\a<hi/\sv=.slq a 0 (ws.getD m []).length 0/\g a=some (.cells (wdC (ws.getD m [])) true 1)))
theorem Oh.ext{g g': Gb}{lo hi hi': Nat}{ws:Wq}{L:List AV}(h:Oh g lo hi ws L)(hh:hi<=hi')(D:∀a,lo<=a->a<hi->g' a=g a):Oh g' lo hi' ws L:=
 ⟨h.1,λm Q=>let ⟨sv,U,Z⟩:=h.2 m Q;⟨sv,U,Z.imp id λ⟨h3,a,A,h5,h6,h7⟩=>⟨h3,a,A,by omega,h6,(D a A h5).trans h7⟩⟩⟩
theorem Oh.set{g:Gb}{lo hi:Nat}{ws:Wq}{L:List AV}(h:Oh g lo hi ws L){t a:Nat}{w:Wd}(D:w≠[])(Q:lo<=a)(U:a<hi)(Z:g a=some (.cells (wdC w) true 1)):Oh g lo hi (ws.set t w) (L.set t (.slq a 0 w.length 0)):=by
 refine⟨by rw[Xf,Xf,h.1],λm A=>?_⟩;rw[Xf] at A;by_cases e:t=m
 .subst e;refine⟨_,e7p (by rw[h.1];exact A),?_⟩;rw[Rj,if_pos ⟨rfl,A⟩];exact .inr ⟨D,a,Q,U,rfl,Z⟩
 .obtain⟨sv,h4,h5⟩:=h.2 m A;refine⟨sv,by rw[e6t e];exact h4,?_⟩;rw[Rj,if_neg (λh=>e h.1)];exact h5
structure a5s (g gL:Gb) (n n' : Nat) (len:Nat) (st:WSt) (L:List AV):Prop where
 lt:n+3<=n'
 keep:∀b,b<n->gL b=g b
 words:Oh gL (n+3) n' st.out L
 lo:st.out.length=len
 ls:st.seen.length=len
 cnt:st.many=st.seen.count true
 short:∀m,(st.out.getD m []).length<=len
theorem a5s.put{g gN:Gb}{n D len:Nat}{s:WSt}{L:List AV}(h:a5s g gN n D len s L){t:Nat}(ht:t<len)(hs:s.seen.getD t false=false){w:Wd}{Q:Nat}(a0:w.length=Q)(hw:0<Q)(a5:Q<=len)
  {U:Gb} {Z A:Nat} (a2:D<=Z) (a6:D<=A) (a3:A<Z) (a4:U A=some (.cells (wdC w) true 1)) (a1:∀b,b<D->b≠n+1->b≠n+1+1->U b=gN b) :
  a5s g U n Z len ⟨s.out.set t w,s.seen.set t true,s.many+1⟩ (L.set t (.slq A 0 Q 0)):=by
 have a7:=h.lt;refine⟨by omega,λb hb=>(a1 b (by omega) (by omega) (by omega)).trans (h.keep b hb),?_,by rw[Xf];exact h.lo,by rw[Xf];exact h.ls,?_,λm=>?_⟩
 .have h2:=(h.words.ext (g':=U) (hi':=Z) a2 λa h1 h2=>a1 a h2 (by omega) (by omega)).set (t:=t) (a:=A) (w:=w) (by intro e;rw[e] at a0;simp at a0;omega) (by omega) a3 a4;rw[a0] at h2;exact h2
 .show s.many+1=(s.seen.set t true).count true;rw[count_set _ _ (by rw[h.ls];exact ht) hs,h.cnt]
 .show ((s.out.set t w).getD m []).length<=len;rw[Rj];split
  .omega
  .exact h.short m
def a5t(n:Nat)(g:Gb):Gb:=λa=>if n<=a then g a else none
theorem M6.low{n:Nat}{g:Gb}{n': Nat}{l:Wq}{sv:AV}(h:M6 (a5t n g) n' l sv):M6 g n' l sv:=
 have A:∀a x,a<n'->a5t n g a=some x->g a=some x:=λa x _ hx=>by
  unfold a5t at hx;split at hx
  .exact hx
  .cases hx
 ⟨h.len,h.words,let ⟨svs,D,Q,U⟩:=h.ex;⟨svs,Xz (Wy _) A D,Q.ext (Wy _) A,U⟩⟩
end Go.Ai
