/- Parts of an interpreter and of a proof. No condition. -/
import Derived.Test.YtpimmmnkcgnjjaaGreatK12
import Derived.Test.YtpimmmnkcgnjjaaGreatK13
import Derived.Test.YtpimmmnkcgnjjaaGreatK06
set_option linter.all false
set_option maxHeartbeats 40000000
set_option maxRecDepth 10000
open Go.Proofs
namespace Go.Ai
variable {g g':Gb}{n x y z a n' B:Nat}{l:Wq}{sv:AV}{ts:Lq}
def Iv(x y z:Nat)(g:Gb):Gb:=λa=>if a=x\/a=y\/a=z then none else g a
theorem e1z{u:Blk}(h:Iv x y z g a=some u):g a=some u:=by
 unfold Iv at h;split at h
 .cases h
 .exact h
theorem e2a(f:a≠x)(h:a≠y)(A:a≠z):Iv x y z g a=g a:=if_neg (by omega)
theorem e2b(h:a≠x->a≠y->a≠z->g' a=g a):Iv x y z g' a=Iv x y z g a:=by
 unfold Iv;split
 .rfl
 .exact h (by omega) (by omega) (by omega)
def Cu(g:Gb)(n:Nat)(l:Wq)(sv:AV):Prop:=∃svs,Af g n sv l.length svs/\RowsW g n l svs/\∀q∈svs,Av q
theorem Cu.ext(h:Cu g n l sv)(f:n<=n')(A:∀a x,a<n->g a=some x->g' a=some x):Cu g' n' l sv:=
 let ⟨D,Q,U,Z⟩:=h;⟨D,Xx f A Q,U.ext f A,Z⟩
theorem Cu.listV(h:Cu g n l sv):Cd g n l sv:=let ⟨f,A,D,_⟩:=h;⟨f,A,D⟩
theorem Cu.one(h:Cu g n l sv):oneC sv=true:=let ⟨_,f,_⟩:=h;f.one
theorem Cu.cell(h:Cu g n l sv):cellsOf sv=[sv]:=let ⟨_,f,_⟩:=h;f.cell
theorem RowsT.snocT{cs:List AV}(h:RowsT g n ts cs){t:List Int×Wd}{s1 s2:AV}(D:Al g n t.1 s1)(Q:Al g n t.2 s2):RowsT g n (ts++[t]) (cs++[s1,s2]):=by
 have f:=h.1;refine⟨by simp[f];omega,λk U=>?_⟩;rw[W1,Xj] at U;by_cases A:k<ts.length
 .obtain⟨Z,u2,e1,e2,e3,e4⟩:=h.2 k A;rw[e6b A];exact⟨Z,u2,by rw[e5v (by omega)];exact e1,by rw[e5v (by omega)];exact e2,e3,e4⟩
 .have a0:k=ts.length:=by omega
  subst a0;refine⟨s1,s2,?_,?_,?_,?_⟩
  .rw[Xm (by omega),f,e6n];rfl
  .rw[Xm (by omega),f,show ts.length*2+1-ts.length*2=1 by omega];rfl
  .simpa using D
  .simpa using Q
def N7(g:Gb)(lo n x y B:Nat)(ts:Lq)(lv:AV):Prop:=∃cs,D4 g lo n B lv ts.length 2 cs/\RowsT (Iv x y B g) n ts cs/\∀v∈cs,Av v
theorem N7.one{lo:Nat}{f:AV}(h:N7 g lo n x y B ts f):oneC f=true:=let ⟨_,A,_⟩:=h;A.one
theorem N7.keep{lo:Nat}{f:AV}(h:N7 g lo n x y B ts f)(A:n<=n')(D:B≠x/\B≠y)(Q:∀a,a<n->a≠x->a≠y->g' a=g a):N7 g' lo n' x y B ts f:=by
 obtain⟨cs,U,Z,h3⟩:=h;refine⟨cs,U.keep A λ_ h5=>Q B h5 D.1 D.2,Z.ext A λa z ha hz=>?_,h3⟩;exact(e2b λk1 k2 _=>Q a ha k1 k2).trans hz
theorem N7.snoc{lo B': Nat}{cs:List AV}{t:List Int×Wd}{s1 s2:AV}(Q:RowsT (Iv x y B g) n ts cs)(U:∀v∈cs,Av v)(Z:cs.length=ts.length*2)(hn:n<=n')(D:n<=B'/\B' < n'/\lo<=B')(hg:∀a,a<n->a≠x->a≠y->a≠B->g' a=g a)(hb:g' B'=some (.cells (cs++[s1,s2]) true 2))
  (k1:Al (Iv x y B' g') n' t.1 s1) (k2:Al (Iv x y B' g') n' t.2 s2) (c1:Av s1) (c2:Av s2) {len:Nat} (hl:len=ts.length):N7 g' lo n' x y B' (ts++[t]) (.slq B' 0 (len+1) 0):=by
 subst hl;refine⟨cs++[s1,s2],?_,RowsT.snocT (Q.ext hn λa z ha A=>?_) k1 k2,?_⟩
 .rw[W1,Xj];exact .mk hb D.2.2 D.2.1 (by rw[W1,Z];simp;omega)
 .have f:a≠x/\a≠y/\a≠B:=by
   unfold Iv at A;split at A
   .cases A
   .omega
  rw[e2a f.1 f.2.1 (by omega),hg a ha f.1 f.2.1 f.2.2];exact e1z A
 .intro v hv;rcases W9.1 hv with h|h
  .exact U v h
  .rcases Xb.1 h with rfl|h
   .exact c1
   .rw[Xf.1 h];exact c2
end Go.Ai
