/- Parts of an interpreter and of a proof. No condition. -/
import Derived.Lib.Builder
import Derived.Laws.Externs
import Derived.RangeFuncRecord
import Derived.RangeFuncIn
import Derived.TacticsIn
import Derived.Test.YtpimmmnkcgnjjaaGreatA05
import Derived.Test.YtpimmmnkcgnjjaaGreatA02
set_option linter.all false
open Go.RowKit (Below)
namespace Go.Ai
variable {O I:Int}{α:Type}
def EdT(T:Tq)(p j t:Nat):Prop:=∃e,(T.getD p [])[j]?=some e/\e.1=(t:Int)
theorem Rp{T:Tq}{n i:Nat}(h:i<(T.getD n []).length):n<T.length:=by
 grind
theorem EdT.lt{T:Tq}{p j t:Nat}(h:EdT T p j t):p<T.length:=by
 obtain⟨e,h,-⟩:=h;grind
theorem EdT.fun {T:Tq} {p j t u:Nat} (h:EdT T p j t) (h2:EdT T p j u) : t=u:=by
 obtain⟨e,h,h'⟩:=h;obtain⟨f,h2,h2'⟩:=h2;grind
def Sn(st:WSt)(m:Nat):Prop:=st.seen.getD m false=true
structure Jt (T:Tq) (st:WSt):Prop where
 lo:st.out.length=T.length
 ls:st.seen.length=T.length
 s0:Sn st 0
 o0:st.out.getD 0 []=[]
 cnt:st.many=st.seen.count true
 src:∀m,Sn st m->m≠0->∃p j,EdT T p j m
def Ju(T:Tq)(st:WSt)(n i:Nat):Prop:=
 ∀j,j<i->∀t,EdT T n j t->Sn st t/\st.out.getD t []=st.out.getD n []++[(j:Int)]
structure Jv (st st' : WSt):Prop where
 keep:∀m,Sn st m->Sn st' m/\st'.out.getD m []=st.out.getD m []
 le:st.many<=st'.many
 eq:st'.many=st.many->st'=st
theorem Jv.refl(st:WSt):Jv st st:=⟨λ_ h=>⟨h,rfl⟩,Wy _,λ_=>rfl⟩
theorem Jv.trans{a b c:WSt}(A:Jv a b)(D:Jv b c):Jv a c:=
 ⟨λm h=>⟨(D.keep m (A.keep m h).1).1,((D.keep m (A.keep m h).1).2).trans (A.keep m h).2⟩,Xa A.le D.le,λe=>by
  have Q:=A.le;have e2:=D.le;rw[D.eq (by omega),A.eq (by omega)]⟩
theorem Ju.mono{T:Tq}{st A:WSt}{n i:Nat}(h:Ju T st n i)(D:Sn st n)(hx:Jv st A):Ju T A n i:=λj Q t U=>by
 obtain⟨Z,h2⟩:=h j Q t U;obtain⟨h3,h4⟩:=hx.keep t Z;exact⟨h3,by rw[h4,h2,(hx.keep n D).2]⟩
theorem count_set:∀(l:List Bool)(i:Nat),i<l.length->l.getD i false=false->(l.set i true).count true=l.count true+1
 | [],_,h,_=>by grind
 | b::l,0,_,h=>by
  grind
 | b::l,i+1,h,A=>by
  grind
theorem b1j{T:List α}{n:Nat}{d:α}(h:n<T.length):T.getD n d∈T:=by
 grind
theorem b1k{T:Tq}(A:∀r∈T,∀e∈r,okE T.length O e=true){n i:Nat}{e:Int×Int}(h:(T.getD n [])[i]?=some e):
  (1<=e.1/\e.1<T.length)\/e.1 = -1:=by
 obtain⟨hi,h⟩:=W8.1 h;have:=A _ (b1j (d:=[]) (Rp hi)) e (h ▸ W2 hi);unfold okE at this;grind
theorem a3d {T:Tq} (hok:∀ r∈T,∀ e∈r,okE T.length O e=true) (r n:Nat) :
  ∀ (es:List (Int×Int)) (i:Nat) (st st' : WSt),es=(T.getD n []).drop i->Jt T st->Ju T st n i->wI r n es i st=some st' ->
  Jt T st'/\Jv st st'/\(Sn st n->(st.out.getD n []).length=r->Ju T st' n (T.getD n []).length)/\(∀ m,Sn st' m->Sn st m\/(st'.out.getD m []).length=r+1)
 | [],i,st,st',he,hinv,hd,h=>by
  unfold wI at h;cases h;refine⟨hinv,.refl _,fun _ _=>?_,fun m hm=>.inl hm⟩;have:(T.getD n []).length<=i:=e7g.1 he.symm;intro j hj;exact hd j (by omega)
 | e :: es,i,st,st',he,hinv,hd,h=>by
  unfold wI at h;have hi:i<(T.getD n []).length:=by
   grind[List.drop_eq_nil_iff]
  have hcons:=Xd hi;rw[hcons] at he;injection he with he1 he2;have hei:(T.getD n [])[i]?=some e:=by grind
  have hnT:n<T.length:=Rp hi;by_cases hc:st.seen.getD n false=true/\(st.out.getD n []).length=r
  ·rw[if_pos hc] at h;by_cases h1:e.1 = -1
   ·rw[if_pos h1] at h;refine a3d hok r n es (i+1) st st' he2 hinv (fun j hj t ht=>?_) h;by_cases hji:j=i
    ·subst hji;obtain⟨f,hf,hf2⟩:=ht;grind
    ·exact hd j (by omega) t ht
   ·rw[if_neg h1] at h;have hb:=(b1k hok hei).resolve_right h1;obtain⟨t,ht⟩ : ∃ t:Nat,e.1=(t:Int):=⟨e.1.toNat,by omega⟩;have htn:e.1.toNat=t:=by omega
    have hEd:EdT T n i t:=⟨e,hei,ht⟩;rw[htn] at h;by_cases hs:st.seen.getD t false=true
    ·grind
    rw[if_neg hs] at h;have hs' : st.seen.getD t false=false:=by grind
    have ht0:t≠0:=by omega
    have htT:t<T.length:=by omega
    have hso:∀ m,(st.seen.set t true).getD m false=if t=m then true else st.seen.getD m false:=fun m=>by
     rw[Rj];by_cases hm:t=m
     ·rw[if_pos ⟨hm,by rw[hinv.ls];grind⟩,if_pos hm]
     grind
    have hoo:∀ m,(st.out.set t (st.out.getD n []++[(i:Int)])).getD m []=if t=m then st.out.getD n []++[(i:Int)] else st.out.getD m []:=fun m=>by
     rw[Rj];by_cases hm:t=m
     ·rw[if_pos ⟨hm,by rw[hinv.lo];grind⟩,if_pos hm]
     grind
    have hinv1:Jt T ⟨st.out.set t (st.out.getD n []++[(i:Int)]),st.seen.set t true,st.many+1⟩:=by
     refine⟨by rw[Xf,hinv.lo],by rw[Xf,hinv.ls],?_,?_,?_,?_⟩
     ·show (st.seen.set t true).getD 0 false=true;rw[hso,if_neg ht0];exact hinv.s0
     ·show (st.out.set t _).getD 0 []=[];rw[hoo,if_neg ht0];exact hinv.o0
     ·show st.many+1=(st.seen.set t true).count true;rw[count_set _ _ (by grind) hs',hinv.cnt]
     ·intro m hm hm0;by_cases e1:t=m
      ·grind
      ·refine hinv.src m ?_ hm0;have h2:(st.seen.set t true).getD m false=true:=hm;rw[hso,if_neg e1] at h2;exact h2
    have hx1:Jv st ⟨st.out.set t (st.out.getD n []++[(i:Int)]),st.seen.set t true,st.many+1⟩:=by
     refine⟨fun m hm=>?_,W5 _,fun h=>by grind⟩;have hne:t≠m:=fun e=>by subst e;exact hs hm
     refine⟨?_,?_⟩
     ·show (st.seen.set t true).getD m false=true;rw[hso,if_neg hne];exact hm
     grind
    have hnt:t≠n:=fun e=>by grind
    have hd1:Ju T ⟨st.out.set t (st.out.getD n []++[(i:Int)]),st.seen.set t true,st.many+1⟩ n (i+1):=by
     intro j hj u hu;by_cases hji:j=i
     ·subst hji;have:u=t:=hu.fun hEd;subst this;refine⟨?_,?_⟩
      ·show (st.seen.set u true).getD u false=true;grind
      grind
     ·exact hd.mono hc.1 hx1 j (by omega) u hu
    obtain⟨a1,a2,a3,a4⟩:=a3d hok r n es (i+1) _ st' he2 hinv1 hd1 h;have hsn1:Sn ⟨st.out.set t (st.out.getD n []++[(i:Int)]),st.seen.set t true,st.many+1⟩ n:=(hx1.keep n hc.1).1;refine⟨a1,hx1.trans a2,fun _ _=>a3 hsn1 ?_,fun m hm=>?_⟩
    ·grind
    ·rcases a4 m hm with h2|h2
     ·by_cases e1:t=m
      ·subst e1;right;rw[(a2.keep t h2).2];grind
      ·left;have h3:(st.seen.set t true).getD m false=true:=h2;rw[hso,if_neg e1] at h3;exact h3
     grind
  ·rw[if_neg hc] at h;cases h;exact⟨hinv,.refl _,fun h1 h2=>absurd ⟨h1,h2⟩ hc,fun m hm=>.inl hm⟩
structure WQ (T:Tq) (r:Nat) (st:WSt) (n:Nat):Prop where
 le:∀m,Sn st m->(st.out.getD m []).length<=r+1
 old:∀m,Sn st m->(st.out.getD m []).length<r->Ju T st m (T.getD m []).length
 now:∀m,Sn st m->(st.out.getD m []).length=r->m<n->Ju T st m (T.getD m []).length
theorem b1l{T:Tq}(a5:∀r∈T,∀e∈r,okE T.length O e=true)(r:Nat):
  ∀(rows:Tq)(n:Nat)(st D:WSt),rows=T.drop n->Jt T st->WQ T r st n->wN r rows n st=some D ->
  Jt T D/\Jv st D/\WQ T r D T.length
 | [],n,st,D,he,a0,Q,h=>by
  unfold wN at h;cases h;have:T.length<=n:=e7g.1 he.symm;exact⟨a0,.refl _,Q.le,Q.old,λm U hl a6=>Q.now m U hl (by omega)⟩
 | row::rows,n,st,D,he,a0,Q,h=>by
  unfold wN at h;have hi:n<T.length:=by
   grind[List.drop_eq_nil_iff]
  rw[Xd hi] at he;injection he with b0 a7;have b4:T.getD n []=row:=by grind
  cases hs:wI r n row 0 st with
  | none=>grind
  | some s =>
   rw[hs] at h;obtain⟨a1,Z,a3,a4⟩:=a3d a5 r n row 0 st s (by grind) a0 (λj hj=>by omega) hs;have a8:WQ T r s (n+1):=by
    refine⟨λm U=>?_,λm U hl=>?_,λm U hl a6=>?_⟩
    .rcases a4 m U with A|A
     .rw[(Z.keep m A).2];exact Q.le m A
     grind
    .rcases a4 m U with A|A
     .exact(Q.old m A (by rw[(Z.keep m A).2] at hl;grind)).mono A Z
     grind
    .rcases a4 m U with A|A
     .have a9:(st.out.getD m []).length=r:=by rw[(Z.keep m A).2] at hl;grind
      by_cases e:m=n
      .grind
      .exact(Q.now m A a9 (by omega)).mono A Z
     grind
   obtain⟨b1,b2,b3⟩:=b1l a5 r rows (n+1) s D a7 a1 a8 h;exact⟨b1,Z.trans b2,b3⟩
theorem b1m(st:WSt){T:Tq}(h:Jt T st):st.many<=T.length:=by
 rw[h.cnt,<- h.ls];grind
theorem a3e{T:Tq}(a4:∀r∈T,∀e∈r,okE T.length O e=true):
  ∀(k r:Nat)(st D:WSt),k+r=T.length->Jt T st->(∀m,Sn st m->(st.out.getD m []).length<=r) ->
  (∀m,Sn st m->(st.out.getD m []).length<r->Ju T st m (T.getD m []).length)->r+1<=st.many->wR T k r st=some D ->
  Jt T D/\∀m,Sn D m->Ju T D m (T.getD m []).length
 | 0,r,st,D,hk,Z,_,_,A,_=>by
  have:=b1m st Z;omega
 | k+1,r,st,D,hk,Z,a5,a6,A,h=>by
  unfold wR at h
  cases hs:wN r T 0 st with
  | none=>grind
  | some s =>
   rw[hs] at h;obtain⟨a1,a2,U⟩:=b1l a4 r T 0 st s rfl Z ⟨λm A=>by grind,a6,λm _ _ a0=>by omega⟩ hs;have a0:∀m,Sn s m->m<T.length:=λm A=>by
    by_cases hh:m<T.length
    .grind
    .have h2:s.seen.getD m false=true:=A;rw[Xo,e7a (by rw[a1.ls];omega)] at h2;grind
   by_cases he:s.many=st.many
   .have Q:(if s.many=st.many then some s else wR T k (r+1) s)=some D:=h;rw[if_pos he] at Q;injection Q with Q;have e:=a2.eq he;rw[<- Q,e];rw[e] at U a0;refine⟨Z,λm A=>?_⟩;have h4:=a5 m A;by_cases h5:(st.out.getD m []).length=r
    .exact U.now m A h5 (a0 m A)
    grind
   .have Q:(if s.many=st.many then some s else wR T k (r+1) s)=some D:=h;rw[if_neg he] at Q;have:=a2.le;refine a3e a4 k (r+1) s D (by omega) a1 U.le (λm A hl=>?_) (by omega) Q;by_cases h5:(s.out.getD m []).length=r
    .exact U.now m A h5 (a0 m A)
    .exact U.old m A (by omega)
theorem all_of_count:∀{l:List Bool},l.count true=l.length->∀m,m<l.length->l.getD m false=true
 | [],_,m,h=>by grind
 | b::l,A,m,h=>by
  have D:l.count true<=l.length:=List.count_le_length;rw[List.count_cons] at A
  cases b with
  | false=>simp at A;omega
  | true =>
   cases m with
   | zero=>rfl
   | succ m =>
    have:=all_of_count (l:=l) (by simpa using A) m (by simpa using h);simpa using this
theorem b1n{T:Tq}(U:∀r∈T,∀e∈r,okE T.length O e=true)(h1:1<=T.length)(hl:(Bd T).length=T.length):
  (∀p j t,EdT T p j t->t<T.length/\1<=t/\(Bd T).getD t []=(Bd T).getD p []++[(j:Int)])/\(∀t,1<=t->t<T.length->∃p j,EdT T p j t):=by
 cases hs:wR T T.length 0 (F1 T.length) with
 | none =>
  grind[Bd]
 | some s =>
  have a6:Bd T=if s.many<T.length then [] else s.out:=by grind[Bd]
  by_cases A:s.many<T.length
  .grind
  have hr:Bd T=s.out:=by grind
  rw[hr];have a0:∀m,Sn (F1 T.length) m->m=0:=λm A=>by
   have h2:((List.replicate T.length false).set 0 true).getD m false=true:=A;grind
  have a3:∀m,(F1 T.length).out.getD m []=[]:=λm=>by
   show (List.replicate T.length ([]:Wd)).getD m []=[];grind
  have a4:Jt T (F1 T.length):=by
   refine⟨by simp[F1],by simp[F1],?_,a3 0,?_,λm A h=>absurd (a0 m A) h⟩
   .show ((List.replicate T.length false).set 0 true).getD 0 false=true;grind
   .show 1=((List.replicate T.length false).set 0 true).count true;grind
  obtain⟨D,a2⟩:=a3e U T.length 0 _ s rfl a4 (λm A=>by grind) (λm A h=>by omega) (by show 0+1<=1;omega) hs;have Z:∀m,m<T.length->Sn s m:=λm a7=>by
   have h4:=b1m s D;exact all_of_count (by rw[<- D.cnt,D.ls];omega) m (by rw[D.ls];grind)
  refine⟨λp j t hE=>?_,λt a8 ht=>D.src t (Z t ht) (by omega)⟩;obtain⟨e,Q,a5⟩:=hE;have hb:=b1k U Q;have hj:j<(T.getD p []).length:=(W8.1 Q).1;exact⟨by omega,by omega,(a2 p (Z p (Rp hj)) j hj t ⟨e,Q,a5⟩).2⟩
structure BH (T:Tq) (next n i:Nat):Prop where
 lo:1<=next
 hi:next<=T.length
 a:∀t,1<=t->t<next->∃p j,(p<n\/p=n/\j<i)/\EdT T p j t
 b:∀p j t,(p<n\/p=n/\j<i)->EdT T p j t->t<next
theorem d4z{T:Tq}(A:∀r∈T,∀e∈r,okE T.length O e=true){n i:Nat}{e:Int×Int}(h:(T.getD n [])[i]?=some e):
  (1<=e.1/\e.1<T.length/\0<=e.2/\e.2<O)\/(e.1 = -1/\(e.2 = -1\/e.2 = -2)):=by
 obtain⟨hi,h⟩:=W8.1 h;have:=A _ (b1j (d:=[]) (Rp hi)) e (h ▸ W2 hi);unfold okE at this;grind
theorem a3f {T:Tq} (hok:∀ r∈T,∀ e∈r,okE T.length O e=true) (W:Wq)
  (hL:∀ p j t,EdT T p j t->t<T.length/\1<=t/\W.getD t []=W.getD p []++[(j:Int)]) (hC:∀ t,1<=t->t<T.length->∃ p j,EdT T p j t)
  (hI:∀ a b,a<b->b<T.length->SL (W.getD a []) (W.getD b [])) (n:Nat) :
  ∀ (es:List (Int×Int)) (i next:Nat),es=(T.getD n []).drop i->BH T next n i->∃ nx,goE O es next=some nx/\BH T nx n (T.getD n []).length
 | [],i,next,he,hb=>by
  have hle:(T.getD n []).length<=i:=e7g.1 he.symm;refine⟨next,rfl,hb.lo,hb.hi,fun t h1 h2=>?_,fun p j t h hE=>hb.b p j t (by omega) hE⟩;obtain⟨p,j,h,hE⟩:=hb.a t h1 h2;refine⟨p,j,?_,hE⟩;rcases h with h|⟨h,-⟩
  ·grind
  ·subst h;obtain⟨e,he,-⟩:=hE;grind
 | e :: es,i,next,he,hb=>by
  have hi:i<(T.getD n []).length:=by
   grind[List.drop_eq_nil_iff]
  have hcons:=Xd hi;rw[hcons] at he;injection he with he1 he2;have hei:(T.getD n [])[i]?=some e:=by grind
  have hnT:n<T.length:=Rp hi;unfold goE;rcases d4z hok hei with⟨o1,o2,o3,o4⟩|⟨o1,o2⟩
  ·obtain⟨t,ht⟩ : ∃ t:Nat,e.1=(t:Int):=⟨e.1.toNat,by omega⟩;have hE:EdT T n i t:=⟨e,hei,ht⟩;obtain⟨hl1,hl2,hl3⟩:=hL n i t hE;have hge:next<=t:=by
    by_cases h:next<=t
    ·exact h
    ·obtain⟨p,j,hbef,hE2⟩:=hb.a t hl2 (by omega);have h3:=(hL p j t hE2).2.2;rw[hl3] at h3;obtain⟨h4,h5⟩:=List.append_inj' h3 rfl;grind[SL.irrefl]
   have hle:t<=next:=by
    by_cases h:t<=next
    ·exact h
    ·obtain⟨p,j,hE2⟩:=hC next hb.lo (by omega);have h3:=(hL p j next hE2).2.2;have h4:=hI next t (by omega) hl1;rw[hl3,h3] at h4;by_cases h5:p<n\/p=n/\j<i
     ·have:=hb.b p j next h5 hE2;omega
     ·by_cases h6:p=n
      ·subst h6;by_cases h7:j=i
       ·subst h7;have:=hE.fun hE2;omega
       ·have h8:=SL.last (W.getD p []) (i:=(i:Int)) (j:=(j:Int)) (by omega);exact absurd (h4.trans h8) SL.irrefl
      ·have h8:=SL.app (hI n p (by omega) hE2.lt) (i:Int) (j:Int);exact absurd (h4.trans h8) SL.irrefl
   have htn:t=next:=by omega
   subst htn;have hed:Dd O t e=some (t+1):=by
    simp_all[Dd]
   rw[hed];refine a3f hok W hL hC hI n es (i+1) (t+1) he2 ⟨by omega,by omega,fun u h1 h2=>?_,fun p j u h hE2=>?_⟩
   ·by_cases hu:u=t
    ·grind
    ·obtain⟨p,j,h,hE2⟩:=hb.a u h1 (by omega);grind
   ·by_cases hpi:p=n/\j=i
    ·obtain⟨rfl,rfl⟩:=hpi;have:=hE.fun hE2;omega
    ·have:=hb.b p j u (by omega) hE2;omega
  ·have hed:Dd O next e=some next:=by
    simp_all[Dd]
   rw[hed];refine a3f hok W hL hC hI n es (i+1) next he2 ⟨hb.lo,hb.hi,fun u h1 h2=>?_,fun p j u h hE2=>?_⟩
   ·obtain⟨p,j,h,hE2⟩:=hb.a u h1 h2;grind
   ·by_cases hpi:p=n/\j=i
    ·obtain⟨rfl,rfl⟩:=hpi;obtain⟨f,hf,hf2⟩:=hE2;grind
    ·exact hb.b p j u (by omega) hE2
theorem b1o{T:Tq}(a0:∀r∈T,(r.length:Int)=I)(a3:∀r∈T,∀e∈r,okE T.length O e=true)(W:Wq)
  (Z:∀p j t,EdT T p j t->t<T.length/\1<=t/\W.getD t []=W.getD p []++[(j:Int)]) (hC:∀t,1<=t->t<T.length->∃p j,EdT T p j t)
  (hI:∀a b,a<b->b<T.length->SL (W.getD a []) (W.getD b [])) :
  ∀(rows:Tq)(n next:Nat),rows=T.drop n->n<=T.length->BH T next n 0->goT I O rows n next=some T.length
 | [],n,next,Q,hn,D=>by
  have a8:T.length<=n:=e7g.1 Q.symm;unfold goT;by_cases h:next=T.length
  .rw[h]
  .obtain⟨p,j,A⟩:=hC next D.lo (by have:=D.hi;omega);have:=D.b p j next (.inl (by have:=A.lt;omega)) A;omega
 | row::rows,n,next,Q,hn,D=>by
  have hi:n<T.length:=by
   grind
  rw[Xd hi] at Q;injection Q with a4 a5;have a9:T.getD n []=row:=by grind
  have a6:n<next:=by
   by_cases h0:n=0
   .have:=D.lo;omega
   .obtain⟨p,j,A⟩:=hC n (by omega) hi;have h3:=(Z p j n A).2.2;have a7:p<n:=by
     by_cases h:p<n
     .exact h
     .have hl:(W.getD n []).length<=(W.getD p []).length:=by
       by_cases e:n=p
       .grind
       .exact(hI n p (by omega) A.lt).le
      grind
    exact D.b p j n (.inl a7) A
  obtain⟨nx,h1,U⟩:=a3f a3 W Z hC hI n row 0 next (by grind) D;unfold goT;rw[if_pos ⟨a0 _ (a4 ▸ W2 hi),a6⟩,h1];show goT I O rows (n+1) nx=_;refine b1o a0 a3 W Z hC hI rows (n+1) nx a5 (by omega) ⟨U.lo,U.hi,λt a1 a2=>?_,λp j t h A=>?_⟩
  .obtain⟨p,j,h,A⟩:=U.a t a1 a2;grind
  .refine U.b p j t ?_ A;by_cases hp:p=n
   .subst hp;obtain⟨e,Q,-⟩:=A;grind
   grind
def F2(len:Nat)(ws:Wq):Wq:=ws++List.replicate (len-ws.length) []
def Hw(len k:Nat):List Bool:=List.replicate k true++List.replicate (len-k) false
def stW(len:Nat)(ws:Wq):WSt:=⟨F2 len ws,Hw len ws.length,ws.length⟩
theorem Uo(len:Nat)(ws:Wq)(m:Nat):(F2 len ws).getD m []=ws.getD m []:=by
 grind[F2]
theorem a3g(len k m:Nat):(Hw len k).getD m false=decide (m<k):=by
 unfold Hw;grind
theorem d5a(len:Nat)(ws:Wq)(w:Wd)(h:ws.length<len):(F2 len ws).set ws.length w=F2 len (ws++[w]):=by
 unfold F2;rw[e7k _ _ (Wy _),e6h,show len-ws.length=(len-(ws++[w]).length)+1 by grind,e7m,e7q];simp
theorem d5b(len k:Nat)(h:k<len):(Hw len k).set k true=Hw len (k+1):=by
 unfold Hw;rw[e7k _ _ (by simp),List.length_replicate,e6h,show len-k=(len-(k+1))+1 by omega,e7m,e7q,List.replicate_succ'];simp
theorem Rr:∀{es:List (Int×Int)} {next A:Nat},goE O es next=some A->next<=A
 | [],_,_,h=>by simp_all[goE]
 | e::es,next,A,h=>by
  unfold goE at h
  cases D:Dd O next e with
  | none=>grind
  | some k =>
   rw[D] at h;have Q:=Rr (es:=es) h
   (simp_all[Dd];grind)
theorem Rs:∀{rows:Tq}{n next k:Nat},goT I O rows n next=some k->next<=k
 | [],_,_,_,h=>by simp_all[goT]
 | r::rows,n,next,k,h=>by
  unfold goT at h;split at h
  .cases A:goE O r next with
   | none=>grind
   | some j =>
    rw[A] at h;have D:=Rs (rows:=rows) h;have Q:=Rr A;omega
  grind
theorem a3h{len:Nat}:∀{es:List (Int×Int)} {next Q:Nat},goE O es next=some Q->1<=next->Q<=len->∀e∈es,okE len O e=true
 | [],_,_,_,_,_=>λe A=>by grind
 | e::es,next,Q,h,Z,U=>by
  unfold goE at h
  cases A:Dd O next e with
  | none=>grind
  | some k =>
   rw[A] at h;have h3:=Rr (es:=es) h;unfold Dd at A;intro f D;split at A
   .rename_i hc;cases A;rcases Xb.1 D with rfl|D
    .simp_all[okE]
    .exact a3h (es:=es) h Z U f D
   .split at A
    .rename_i hc;cases A;rcases Xb.1 D with rfl|D
     .unfold okE;grind
     .exact a3h (es:=es) h (by omega) U f D
    grind
theorem Rt{len:Nat}:∀{rows:Tq}{n next k:Nat},goT I O rows n next=some k->1<=next->k<=len->∀r∈rows,(r.length:Int)=I/\∀e∈r,okE len O e=true
 | [],_,_,_,_,_,_=>λr A=>by grind
 | row::rows,n,next,k,h,Q,U=>by
  unfold goT at h;split at h
  .rename_i Z
   cases D:goE O row next with
   | none=>grind
   | some j =>
    rw[D] at h;have h3:=Rs (rows:=rows) h;have h4:=Rr D;intro r A;rcases Xb.1 A with rfl|A
    .exact⟨Z.1,a3h D Q (by omega)⟩
    .exact Rt (rows:=rows) h (by omega) U r A
  grind
def Srt(ws:Wq):Prop:=∀a b,a<b->b<ws.length->SL (ws.getD a []) (ws.getD b [])
def Fro(ws:Wq)(n i:Nat):Prop:=∀m,m<ws.length->SL (ws.getD m []) (ws.getD n []++[(i:Int)])
theorem Ru(l k:List α)(d:α){m:Nat}(h:m<l.length):(l++k).getD m d=l.getD m d:=by
 grind
theorem d5c(l:List α)(x d:α):(l++[x]).getD l.length d=x:=by
 grind
theorem a3i{len:Nat}(r n:Nat):∀(es:List (Int×Int)) (i:Nat) (ws:Wq) (A:Nat),goE O es ws.length=some A->A<=len->1<=ws.length->n<ws.length->(ws.getD n []).length=r->Srt ws->Fro ws n i ->
  ∃ext,wI r n es i (stW len ws)=some (stW len (ws++ext))/\(ws++ext).length=A/\(∀w∈ext,w.length=r+1)/\Srt (ws++ext)/\Fro (ws++ext) n (i+es.length)
 | [],i,ws,A,h,_,_,_,_,U,Z=>by
  unfold goE at h;cases h;exact⟨[],by rw[e6b];rfl,by simp,λw hw=>(by grind),by grind,by grind⟩
 | e::es,i,ws,A,h,a7,a9,hn,hr,U,Z=>by
  unfold goE at h;have a8:Fro ws n (i+1):=λm hm=>(Z m hm).trans (Y5 _ (by omega))
  cases D:Dd O ws.length e with
  | none=>grind
  | some k =>
   rw[D] at h;have h3:=Rr (es:=es) h;have b0:(stW len ws).seen.getD n false=true/\((stW len ws).out.getD n []).length=r:=⟨by show (Hw len ws.length).getD n false=true;grind[a3g],by show ((F2 len ws).getD n []).length=r;grind[Uo]⟩;unfold Dd at D;unfold wI;rw[if_pos b0];split at D
   .rename_i hc;cases D;rw[if_pos hc.1];obtain⟨ext,a1,a2,a3,a4,a5⟩:=a3i r n es (i+1) ws A h a7 a9 hn hr U a8;grind
   .split at D
    .rename_i hc;cases D;have b1:e.1.toNat=ws.length:=by omega
     have b6:ws.length<len:=by omega
     have b2:(⟨(stW len ws).out.set e.1.toNat ((stW len ws).out.getD n []++[(i:Int)]),(stW len ws).seen.set e.1.toNat true,(stW len ws).many+1⟩:WSt)=stW len (ws++[ws.getD n []++[(i:Int)]]):=by
      show (⟨(F2 len ws).set e.1.toNat ((F2 len ws).getD n []++[(i:Int)]),(Hw len ws.length).set e.1.toNat true,ws.length+1⟩:WSt)=⟨F2 len (ws++[ws.getD n []++[(i:Int)]]),Hw len (ws++[ws.getD n []++[(i:Int)]]).length,(ws++[ws.getD n []++[(i:Int)]]).length⟩;grind[d5b,d5a,Uo]
     rw[if_neg (by omega),if_neg (by rw[b1];show ¬(Hw len ws.length).getD ws.length false=true;grind[a3g]),b2];have a0:(ws++[ws.getD n []++[(i:Int)]]).length=ws.length+1:=by simp
     have b3:(ws++[ws.getD n []++[(i:Int)]]).getD n []=ws.getD n []:=Ru _ _ _ hn;have b4:Srt (ws++[ws.getD n []++[(i:Int)]]):=λa b a6 hb=>by
      rw[a0] at hb;by_cases Q:b<ws.length
      .rw[Ru _ _ _ Q,Ru _ _ _ (by omega)];exact U a b a6 Q
      .have:b=ws.length:=by omega
       subst this;rw[d5c,Ru _ _ _ a6];exact Z a a6
     have b5:Fro (ws++[ws.getD n []++[(i:Int)]]) n (i+1):=λm hm=>by
      rw[a0] at hm;rw[b3];by_cases Q:m<ws.length
      .rw[Ru _ _ _ Q];exact a8 m Q
      grind[SL.last]
     obtain⟨ext,a1,a2,a3,a4,a5⟩:=a3i r n es (i+1) (ws++[ws.getD n []++[(i:Int)]]) A (by rw[a0];exact h) a7 (by omega) (by omega) (by grind) b4 b5;grind
    grind
theorem b1p(r:Nat):∀(h A:Tq)(n:Nat)(st:WSt),wN r (h++A) n st=match wN r h n st with
  | none=>none
  | some s=>wN r A (n+h.length) s
 | [],A,n,st=>rfl
 | row::h,A,n,st=>by
  show (match wI r n row 0 st with|none=>none|some s=>wN r (h++A) (n+1) s)=match (match wI r n row 0 st with|none=>none|some s=>wN r h (n+1) s) with|none=>none|some s=>wN r A (n+(row::h).length) s
  cases wI r n row 0 st with
  | none=>rfl
  | some s =>
   show wN r (h++A) (n+1) s=match wN r h (n+1) s with|none=>none|some s=>wN r A (n+(row::h).length) s
   rw[b1p r h A (n+1) s,show n+1+h.length=n+(row::h).length by simp;omega]
theorem a3j(r:Nat)(st:WSt):∀(l:Tq)(n:Nat),(∀m,n<=m->m<n+l.length->¬(st.seen.getD m false=true/\(st.out.getD m []).length=r))->wN r l n st=some st
 | [],n,_=>rfl
 | row::l,n,h=>by
  unfold wN;have A:=h n (Wy _) (by simp);have:wI r n row 0 st=some st:=by
   cases row with
   | nil=>rfl
   | cons e es=>simp_all[wI]
  rw[this];exact a3j r st l (n+1) λm D Q=>h m (by omega) (by simp;omega)
theorem b1q {I O:Int} {T:Tq} (r:Nat) : ∀ (k n:Nat) (ws:Wq),n+k≤T.length→n+k≤ws.length→goT I O (T.drop n) n ws.length=some T.length →
  (∀ m,n≤m→m < n+k→(ws.getD m []).length=r)→Srt ws→(n < ws.length→Fro ws n 0) →
  ∃ ext,wN r ((T.drop n).take k) n (stW T.length ws)=some (stW T.length (ws++ext))∧goT I O (T.drop (n+k)) (n+k) (ws++ext).length=some T.length∧(∀ w∈ext,w.length=r+1)∧Srt (ws++ext)∧(n+k < (ws++ext).length→Fro (ws++ext) (n+k) 0)
 | 0,n,ws,_,_,hg,_,hs,hf=>⟨[],by rw [e6b]; rfl,by grind,fun w hw=>(by grind),by grind,by grind⟩
 | k+1,n,ws,hk,hkw,hg,hr,hs,hf=>by
  have hn:n < T.length:=by omega
  have hnw:n < ws.length:=by omega
  rw [Xd hn] at hg;rw [Xd hn,List.take_succ_cons];unfold goT at hg;split at hg
  ·rename_i hc
   cases he:goE O T[n] ws.length with
   | none=>grind
   | some j =>
    rw [he] at hg;have hj:=Rs (rows:=T.drop (n+1)) hg;obtain ⟨e1,a1,a2,a3,a4,a5⟩:=a3i (len:=T.length) r n T[n] 0 ws j he hj (by omega) hnw (hr n (Wy _) (by omega)) hs (hf hnw);have hf1:n+1 < (ws++e1).length→Fro (ws++e1) (n+1) 0:=fun h m hm=>(a5 m hm).trans ((a4 n (n+1) (by omega) h).app _ _);have h4:goT I O (T.drop (n+1)) (n+1) (ws++e1).length=some T.length:=by grind
    obtain ⟨e2,b1,b2,b3,b4,b5⟩:=b1q (I:=I) (O:=O) (T:=T) r k (n+1) (ws++e1) (by omega) (by grind) h4 (fun m h1 h2=>by grind) a4 hf1;grind [wN]
  grind
theorem b1r{T:Tq}{n:Nat}(h:goT I O (T.drop n) n n=some T.length):n=T.length:=by
 by_cases A:n<T.length
 .rw[Xd A] at h;simp_all[goT]
 grind[goT,List.drop_eq_nil_iff]
theorem b1s{T:Tq}:∀(k r lo:Nat)(ws:Wq),k+r=T.length->r<=lo->lo<=ws.length->lo<=T.length->goT I O (T.drop lo) lo ws.length=some T.length ->
  (∀m,m<lo->(ws.getD m []).length<r)->(∀m,lo<=m->m<ws.length->(ws.getD m []).length=r)->Srt ws->(lo<ws.length->Fro ws lo 0) ->
  ∃W,wR T k r (stW T.length ws)=some (stW T.length W)/\W.length=T.length/\Srt W
 | 0,r,lo,ws,hk,a0,a1,a2,A,_,_,hs,_=>by
  rw[e7g.2 (by omega)] at A;unfold goT at A;exact⟨ws,rfl,by grind,hs⟩
 | k+1,r,lo,ws,hk,a0,a1,a2,A,a6,a3,hs,hf=>by
  have a4:=Rs A;obtain⟨ext,b1,Q,b3,b4,b5⟩:=b1q (T:=T) r (ws.length-lo) lo ws (by omega) (by omega) A (λm U D=>a3 m U (by omega)) hs hf;rw[show lo+(ws.length-lo)=ws.length by omega] at Q b5;have hT:T=T.take lo++((T.drop lo).take (ws.length-lo)++T.drop ws.length):=by
   have U:T.drop ws.length=(T.drop lo).drop (ws.length-lo):=by simp_all
   grind[List.take_append_drop]
  have a5:wN r T 0 (stW T.length ws)=some (stW T.length (ws++ext)):=by
   have e1:wN r (T.take lo) 0 (stW T.length ws)=some (stW T.length ws):=a3j r _ _ _ λm _ D=>by
    rw[W4] at D;rintro⟨-,Z⟩;have h4:((F2 T.length ws).getD m []).length=r:=Z;grind[Uo]
   have e2:wN r (T.drop ws.length) ws.length (stW T.length (ws++ext))=some (stW T.length (ws++ext)):=a3j r _ _ _ λm U D=>by
    rintro⟨Z,h4⟩;have h5:(Hw T.length (ws++ext).length).getD m false=true:=Z;have h6:((F2 T.length (ws++ext)).getD m []).length=r:=h4;rw[a3g] at h5;rw[Uo] at h6;grind
   have a7:0+(T.take lo).length=lo:=by grind
   have a8:lo+((T.drop lo).take (ws.length-lo)).length=ws.length:=by grind
   grind[b1p]
  unfold wR;rw[a5];show ∃W,(if (ws++ext).length=ws.length then some (stW T.length (ws++ext)) else wR T k (r+1) (stW T.length (ws++ext)))=some (stW T.length W)/\W.length=T.length/\Srt W;by_cases he:(ws++ext).length=ws.length
  .rw[if_pos he];rw[he] at Q;exact⟨ws++ext,rfl,by grind[b1r],b4⟩
  .rw[if_neg he];have a9:lo<ws.length:=by
    by_cases h:lo<ws.length
    .exact h
    .have e:ws.length=lo:=by omega
     have D:ws.length=T.length:=by
      grind[b1r]
     have Z:=Rs Q;grind
   refine b1s k (r+1) ws.length (ws++ext) (by omega) (by omega) (by grind) a4 Q (λm hm=>?_) (λm U D=>?_) b4 b5
   all_goals grind
theorem d5d(I O:Int)(T:Tq):Ej I O T=a3c I O T:=by
 unfold Ej a3c;split
 .rfl
 split
 .rfl
 rename_i a6 a7;have Q:1<=T.length:=by omega
 congr 1;refine propext ⟨λh=>?_,λh=>?_⟩
 .have A:=Rt (len:=T.length) h (Wy _) (Wy _);obtain⟨W,U,a2,a3⟩:=b1s (I:=I) (O:=O) (T:=T) T.length 0 0 [[]] rfl (Wy _) (by simp) (by omega) h (λm D=>by omega) (λm _ D=>by
   grind) (λa b Z hb=>by grind) (λ_ m D=>by
   grind[SL.nil])
  have a0:stW T.length [[]]=F1 T.length:=by
   unfold stW F1 F2 Hw;obtain⟨m,D⟩:∃m,T.length=m+1:=⟨T.length-1,by omega⟩;grind
  rw[a0] at U;have hW:Bd T=W:=by
   unfold Bd;rw[U];show (if W.length<T.length then [] else F2 T.length W)=W;simp_all[F2]
  rw[hW,a2,decide_eq_true rfl,e7x,W1];refine⟨W7.2 λr hr=>?_,d4o λn hn=>a3 n (n+1) (by omega) hn⟩;grind
 .rw[W1,W1] at h;obtain⟨⟨h2,h3⟩,h4⟩:=h;have a4:(Bd T).length=T.length:=of_decide_eq_true h3;have a5:∀r∈T,(r.length:Int)=I:=λr hr=>by
   grind
  have A:∀r∈T,∀e∈r,okE T.length O e=true:=λr hr e he=>by
   grind
  obtain⟨hL,hC⟩:=b1n A Q a4;refine b1o a5 A (Bd T) hL hC (λa b Z hb=>b1i h4 a b Z (by omega)) T 0 1 rfl (by omega) ⟨Wy _,Q,λt a b=>by omega,λp j t h _=>by omega⟩
section
variable {P:Program}{H:Mem}{ev:Ev}{d:Option Tmp}{ty:TypeId}{p:String}{af:Array Edge}{g:Option (Nat×Bool)}
variable {i:Int}{n c:Nat}{k:IntKind}
theorem b1t(h:0<=i)(A:i.toNat<=n)(D:n<=c):Dh (some (.lit (.int k i))) none none n c=some (i.toNat,n,c):=by
 simp_all[I3,Dh,Io,e6s,Oi]
theorem b1u{t:TypeId}{x lo:Operand}{a off sz:Nat}{hx:ev x=some (.slq a off n c)}{hh:ev lo=some (.lit (.int k i))}(h:Bu P t=some (none,sz))(A:0<=i)(U:i.toNat<n):
  ex2 P H ev ⟨d,.slice t x (some lo) none none,ty,p,af,g⟩ x lo (some (.slq a off n c)) (some (.lit (.int k i))) hx hh=.val (.slq a (off+i.toNat*sz) (n-i.toNat) (c+i.toNat)) H:=by
 show opV P H ev _=_;rw[Ub hx rfl];obtain⟨e,Z,D,Q,h5⟩:=Jn h;unfold Gc E3;dsimp only;rw[hh];dsimp only;rw[Mb D Q];unfold I5;dsimp only;rw[b1t A (by omega) (Wy n)];grind[Sv,Nat.ble_eq_true_of_le,Nat.blt,ofOpt,Ee]
theorem d5e{t:TypeId}{x lo:Operand}{a off sz:Nat}{hx:ev x=some (.sl a off n c)}{hh:ev lo=some (.lit (.int k i))}(h:Bu P t=some (none,sz))(Q:0<=i)(U:i.toNat<n)(Z:n<=c):
  ex2 P H ev ⟨d,.slice t x (some lo) none none,ty,p,af,g⟩ x lo (some (.sl a off n c)) (some (.lit (.int k i))) hx hh=.val (.sl a (off+i.toNat*sz) (n-i.toNat) (c-i.toNat)) H:=by
 show opV P H ev _=_;rw[Ub hx rfl];obtain⟨e,i',A,D,h5⟩:=Jn h;unfold Gc E3;dsimp only;rw[hh];dsimp only;rw[Mb A D];grind[I5,b1t,I4,Nat.eq_of_beq_eq_true,ofOpt,Ee]
end
theorem Af.lo{P:Program}{g:Gb}{b len sz:Nat}{sv:AV}{cs:List AV}{t:TypeId}(he:Bu P t=some (none,sz))(h:Af g b sv len cs)(hc:Ay sv){k:Nat}(hk:k<len)(a0:cs.length=len*sz):
  ∃Q,Af g b Q (len-k) (cs.drop (k*sz))/\∀{H:Mem}{ev:Ev}{d:Option Tmp}{ty:TypeId}{p:String} {af:Array Edge} {gd:Option (Nat×Bool)} {x lo:Operand} {hx:ev x=some sv} {hl:ev lo=some (.li (k:Int))},
   ex2 P H ev ⟨d,.slice t x (some lo) none none,ty,p,af,gd⟩ x lo (some sv) (some (.li (k:Int))) hx hl=.val Q H:=by
 obtain⟨A,D,c,l,own,z,U,hv,hg,a1,a3⟩:=h.lenOf' (by omega);have a4:k*sz<=cs.length:=by rw[a0];exact e9d _ (by omega)
 have Z:Row g A (D+k*sz) (cs.drop (k*sz)):=by
  refine⟨l,own,z,hg,by grind,?_⟩;grind[List.drop_drop,List.drop_take]
 rcases hv with rfl|rfl
 .have a5:len<=c:=hc A D len c rfl;refine⟨.sl A (D+k*sz) (len-k) (c-k),.inr ⟨A,D+k*sz,U,.inl ⟨_,rfl⟩,Z⟩,?_⟩;simp_all[d5e]
 .refine⟨.slq A (D+k*sz) (len-k) (c+k),.inr ⟨A,D+k*sz,U,.inr ⟨_,rfl⟩,Z⟩,?_⟩;simp_all[b1u]
section
variable {P:Program}{H:Mem}{ev:Ev}{d:Option Tmp}{ty:TypeId}{p:String}{af:Array Edge}{g:Option (Nat×Bool)}
noncomputable def Uq(P:Program)(s t:TypeId):Option (Nat×Nat×List AV):=match Ft P s,S0 P (some t),Wl P (some t) with
 | some (e,size,bytes),false,true=>(Cb P e).map λz=>(size,bytes,z)
 | _,_,_=>none
theorem d5f{x y:Operand}{s t:TypeId}{n size bytes:Nat}{z:List AV}(hx:ev x=some (.nl))(hy:ev y=some (.li (n:Int)))(h:Uq P s t=some (size,bytes,z))(a3:0<n)(hn:n<=1048576)(hs:0<size)(hb:bytes<=1048576)(A:z.length=size):
  opV P H ev ⟨d,.call ⟨.builtin .append,#[x,y],#[s,t]⟩,ty,p,af,g⟩=.val (.slq H.next 0 n 0) (H.add (.cells (rep z n) true size)):=by
 show Br P H ev _ ⟨.builtin .append,#[x,y],#[s,t]⟩=_;unfold Br;have D:Bj ev (#[x,y]:Array Operand).toList=some [.nl,.li (n:Int)]:=by
  simp_all
 rw[D];dsimp only;unfold Fg;dsimp only;unfold P7;dsimp only;have e2:(#[s,t]:Array TypeId)[0]?=some s:=rfl;have e3:(#[s,t]:Array TypeId)[1]?=some t:=rfl;rw[e2,e3];dsimp only;unfold append;unfold Uq at h;split at h
 .rename_i e sz a4 Q U Z;obtain⟨z',a0,h'⟩:=e6a.1 h;cases h';rw[Q,U];dsimp only;rw[Z];dsimp only;unfold Wm;rw[Io (by omega)];obtain⟨j,rfl⟩:∃j,n=j+1:=⟨n-1,by omega⟩;rw[e6i];have a1:Nat.beq size 0=false:=by
   grind[Nat.eq_of_beq_eq_true]
  have a2:(Nat.ble (j+1) 1048576&&Nat.ble bytes 1048576)=true:=by simp_all
  show (match (match Nat.beq size 0,Nat.ble (j+1) 1048576&&Nat.ble bytes 1048576,Cb P e with|false,true,some z=>Ed H size bytes (j+1) (.nl) (rep z (j+1))|_,_,_=>none) with|some (v,H)=>R.val v H|none=>.bad)=_;rw[a1,a2,a0];dsimp only;unfold Ed;rw[Di,Gn,A,e8g];simp_all[Sy,Q0,Q1]
 grind
theorem d5g{x y:Operand}{s t:TypeId}{n:Nat}{z:List AV}{hx:ev x=some (.nl)}{hy:ev y=some (.li (n:Int))}(size bytes:Nat)(h:Uq P s t=some (size,bytes,z))(A:0<n)(D:n<=1048576)(Q:0<size)(U:bytes<=1048576)(Z:z.length=size):
  ex2 P H ev ⟨d,.call ⟨.builtin .append,#[x,y],#[s,t]⟩,ty,p,af,g⟩ x y (some (.nl)) (some (.li (n:Int))) hx hy=.val (.slq H.next 0 n 0) (H.add (.cells (rep z n) true size)):=
 d5f hx hy h A D Q U Z
theorem Af.apq0{g:Gb}{b:Nat}{sv:AV}{cs:List AV}(h:Af g b sv 0 cs):
  ∀{H:Mem}{ev:Ev}{d:Option Tmp}{ty:TypeId}{p:String} {af:Array Edge} {gd:Option (Nat×Bool)} {x y:Operand} {s t:TypeId} {a off k c:Nat} {hx:ev x=some (.slq a off k c)} {hy:ev y=some sv},(apI P s t).isSome=true ->
   ex2 P H ev ⟨d,.call ⟨.builtin .append,#[x,y],#[s,t]⟩,ty,p,af,gd⟩ x y (some (.slq a off k c)) (some sv) hx hy=.val (.slq a off k c) H:=by
 intro H ev d ty p af gd x y s t a off k c hx hy Q;have A:lenOf sv=some 0:=by
  rcases h with⟨_,_,rfl|rfl⟩|⟨a,off,_,⟨c,rfl⟩|⟨c,rfl⟩,_⟩<;>rfl
 cases D:apI P s t with
 | none=>grind
 | some q =>
  obtain⟨U,Z⟩:=q;show opV P H ev _=_;rw[G9 hx hy D];unfold En;rw[A];rfl
end
theorem LX.cut{G n:Nat}{P:Program}{b:Code}{fr:Fr}{H:Mem}{K Q:Out->Prop}(h:LX G P n b fr H K)(A:∀o,K o->Q o):LX G P n b fr H Q:=by
 intro B n0 ρ0 w0 ρ a w s D k cs;obtain⟨e,U,Z,⟨a0,h1,h2⟩,h3⟩:=h B n0 ρ0 w0 ρ a w s D k cs;exact⟨e,U,Z,⟨a0,A _ h1,h2⟩,h3⟩
abbrev Yn:=@LX.cut
def Jw(id:Nat)(K:(Nat->Option AV)->(Gb)->Nat->Prop):Out->Prop:=λo=>∃gf g n,o=.exit id (.f gf []) ⟨.fn g,n⟩/\K gf g n
theorem d5h{id:Nat}{K:(Nat->Option AV)->(Gb)->Nat->Prop}{A:Nat->Option AV}{g:Gb}{n:Nat}:Jw id K (.exit id (.f A []) ⟨.fn g,n⟩)=K A g n:=by
 apply propext;constructor
 .rintro⟨D,g',n',e,h⟩;grind
 .exact λh=>⟨_,_,_,rfl,h⟩
theorem d5i{D:Nat}(Q:tick=D){id:Nat}{K:(Nat->Option AV)->(Gb)->Nat->Prop}{o A:Out}(h:o=A):Jw id K o=Jw id K A:=by rw[h]
attribute [congr] d5i
attribute [simp] d5h
section
variable {B G:Nat}{P:Program}{n n0:Nat}{ρ0 ρ:Rn}{w0 w:World}{a:Act}{ops:Array Oper}{o:Oper}{callf:CallF}{fr:Fr}{g:Nat→Option AV}{ds:List Dfr}{H:Mem}{d:Tmp}{v:AV}
def und:Dg->Nat
 | .d0=>0|.d1=>1|.d2=>2|.d3=>3|.d4=>4|.d5=>5|.d6=>6|.d7=>7
 | .d8=>8|.d9=>9|.d10=>10|.d11=>11|.d12=>12|.d13=>13|.d14=>14|.d15=>15
theorem und_dig:∀n,n<16->und (dig n)=n:=by decide
theorem Rv{m k:Nat}(A:m<16)(D:k<16)(h:dig m=dig k):m=k:=by
 have:=congrArg und h;grind[und_dig]
theorem d5j{j k:Nat}(D:j<256)(Q:k<256)(h:d0 k=d0 j)(A:d1 k=d1 j):k=j:=by
 have U:k % 16=j % 16:=Rv (Xp _ (by omega)) (Xp _ (by omega)) h;have Z:k / 16 % 16=j / 16 % 16:=Rv (Xp _ (by omega)) (Xp _ (by omega)) A;omega
theorem d5k{j k:Nat}(Q:j<4096)(U:k<4096)(h:d0 k=d0 j)(A:d1 k=d1 j)(D:d2 k=d2 j):k=j:=by
 have Z:k % 16=j % 16:=Rv (Xp _ (by omega)) (Xp _ (by omega)) h;have e1:k / 16 % 16=j / 16 % 16:=Rv (Xp _ (by omega)) (Xp _ (by omega)) A;have e2:k / 256 % 16=j / 256 % 16:=Rv (Xp _ (by omega)) (Xp _ (by omega)) D;omega
theorem b1v{h:Type}(k:Nat)(x:h):M9 k (.v k x)=some x:=by simp[M9]
theorem d5l{h:Type}(t:T2 h){k j:Nat}(x:Lf h)(Q:k<256)(U:j<256)(Z:j≠k):Cq (u2 t k x) j=Cq t j:=by
 unfold Cq u2;rcases X5 (d0 k) (d0 j) with A|A
 .rw[A,Fj];rcases X5 (d1 k) (d1 j) with D|D
  all_goals grind[d5j,Fk]
 grind[Fk]
theorem d5m{h:Type}(t:T3 h){k j:Nat}(x:Lf h)(U:k<4096)(Z:j<4096)(a0:j≠k):Ia (u3 t k x) j=Ia t j:=by
 unfold Ia u3;rcases X5 (d0 k) (d0 j) with A|A
 .rw[A,Fj];rcases X5 (d1 k) (d1 j) with D|D
  .rw[D,Fj];rcases X5 (d2 k) (d2 j) with Q|Q
   all_goals grind[d5k,Fk]
  grind[Fk]
 grind[Fk]
noncomputable def D6(fr:Fr):Nat:=Fr.rec (motive:=λ_=>Nat) (λ_ _=>256) (λ_ _=>4096) (λ_ _=>0) fr
theorem b1w(fr:Fr)(d:Tmp)(v:AV):D6 (fr.upd d v)=D6 fr:=by
 cases fr<;>simp[Fr.upd,Fr.set,fpS,fpG,fpF,Nh,Ow,D6]
theorem b1x(fr:Fr)(d:Option Tmp)(v:AV):D6 (fr.put d v)=D6 fr:=by
 cases d with
 | none=>rfl
 | some d=>exact b1w fr d v
theorem a3k(fr:Fr)(x:Dfr):D6 (fr.defer x)=D6 fr:=by cases fr<;>rfl
theorem d5n(fr:Fr)(d:Tmp)(v:AV):(fr.upd d v).get d=some v:=by
 cases fr with
 | s t ds=>simp[Fr.upd,Fr.set,fpS,Nh,Fr.get,fgS];grind[Cq,a0a,b1v]
 | g t ds=>simp[Fr.upd,Fr.set,fpG,Ow,Fr.get,fgG];grind[Ia,a7g,b1v]
 | f g ds=>exact if_pos rfl
theorem d5o(fr:Fr){d k:Tmp}(v:AV)(A:d<D6 fr)(D:k<D6 fr)(h:k≠d):(fr.upd d v).get k=fr.get k:=by
 cases fr with
 | s t ds=>simp[Fr.upd,Fr.set,fpS,Nh,Fr.get,fgS];exact d5l _ _ A D h
 | g t ds=>simp[Fr.upd,Fr.set,fpG,Ow,Fr.get,fgG];exact d5m _ _ A D h
 | f g ds=>exact if_neg h
structure FE (fr:Fr) (g:Nat->Option AV) (ds:List Dfr):Prop where
 lo:∀k,k<D6 fr->fr.get k=g k
 up:∀k v,fr.get k=some v->g k=some v
 dfr:fr.defers=ds
theorem FE.refl(fr:Fr):FE fr fr.get fr.defers:=⟨λ_ _=>rfl,λ_ _ h=>h,rfl⟩
theorem FE.upd(h:FE fr g ds)(D:d<D6 fr)(v:AV):FE (fr.upd d v) (Fh g d v) ds:=by
 refine⟨λk A=>?_,λk y hy=>?_,(Yt fr d v).trans h.dfr⟩
 .rw[b1w] at A;unfold Fh;by_cases e:k=d
  .subst e;rw[if_pos rfl];grind[d5n]
  .rw[if_neg e,d5o fr v D A e];exact h.lo k A
 .unfold Fh;rcases Yl hy with⟨rfl,rfl⟩|⟨Q,hy⟩
  .grind
  .rw[if_neg Q];exact h.up k y hy
def b1y(g:Nat->Option AV)(d:Option Tmp)(v:AV):Nat->Option AV:=match d with|some d=>Fh g d v|none=>g
theorem b1z(g:Nat->Option AV)(ds:List Dfr)(d:Option Tmp)(v:AV):(Fr.f g ds).put d v=.f (b1y g d v) ds:=by cases d<;>rfl
theorem FE.put(h:FE fr g ds){d:Option Tmp}(A:∀t,d=some t->t<D6 fr)(v:AV):FE (fr.put d v) (b1y g d v) ds:=by
 cases d with
 | none=>exact h
 | some d=>exact h.upd (A d rfl) v
theorem FE.defer(h:FE fr g ds)(x:Dfr):FE (fr.defer x) g (x::ds):=
 ⟨λk A=>by rw[a3k] at A;rw[Yo];exact h.lo k A,λk v D=>by rw[Yo] at D;exact h.up k v D,by rw[Y9,h.dfr]⟩
theorem St.toF(s:St B G n n0 ρ0 w0 ρ fr H a w):St B G n n0 ρ0 w0 ρ (.f fr.get fr.defers) H a w:=⟨s.ext,s.sim,⟨s.frel.slot,s.frel.dfr,s.frel.size,s.frel.only⟩,s.le⟩
theorem St.ofF(h:FE fr g ds)(s:St B G n n0 ρ0 w0 ρ (.f g ds) H a w):St B G n n0 ρ0 w0 ρ fr H a w:=
 ⟨s.ext,s.sim,⟨λt v A D=>s.frel.slot t v (h.up t v A) D,by rw[h.dfr];exact s.frel.dfr,s.frel.size,λt v A=>s.frel.only t v (h.up t v A)⟩,s.le⟩
def a3l(o:Oper):Bool:=match o.op with|.select _ _=>false|_=>true
theorem d5p(h:a3l o=true):∀cs b,o.op≠.select cs b:=by
 grind[a3l]
def Ku(m:Nat)(o:Oper):Bool:=Cn m o&&(O8 o).all (λt=>Nat.blt t m)&&a3l o
theorem FE.op(h:FE fr g ds)(A:Ku (D6 fr) o=true):opV P H fr.ev o=opV P H (Fr.f g ds).ev o:=by
 unfold Ku at A;simp only[W1] at A;refine Uf (d5p A.2) λx hx=>?_
 cases x with
 | tmp t =>
  have:=W7.1 A.1.2 t (a2o hx);exact h.lo t (Wz this)
 | const v=>rfl
 | global g=>rfl
 | func f=>rfl
theorem a3m{m:Nat}(h:Ku m o=true):∀t,o.dst=some t->t<m:=by
 intro t A;simp_all[Cn,Ku]
def wOf(callf:CallF):WF:=λf args H K=>match callf f args H with
 | .bad=>False
 | r=>K r
theorem d5q(A:∀B,A8 B G P callf):WOK G P (wOf callf):=by
 intro f args H K h;refine a9q (O:=callf) A ?_;grind[wOf,orW]
theorem wOf_mono:Ir (wOf callf):=by
 intro f args H K A D h;grind[wOf]
theorem a3n{k:Fr->Mem->Out}{kk:Fr->Mem->Prop}{Q:Out->Prop}{r:Out}(he:FE fr g ds)(hr:Ku (D6 fr) o=true)(a4:ops.toList.all (Ku (D6 fr))=true)(h:Li P callf ops o fr H k=r)(a5:r≠.bad)
  (hk:∀Z g1 a1 A,FE Z g1 a1->D6 Z=D6 fr->k Z A=r->kk (.f g1 a1) A)
  (hp:∀v Z A,FE Z g ds->r=.panic v Z A->Q (.panic v (.f g ds) A)):Dm P (wOf callf) ops o (.f g ds) H kk Q:=by
 have a0:∀(v:AV)(A:Mem),(fr.putK o.dst v λfr=>k fr A)=r->kk ((Fr.f g ds).put o.dst v) A:=by
  intro v A D;rw[X8] at D;rw[b1z];exact hk _ _ _ _ (he.put (a3m hr) v) (b1x fr o.dst v) D
 have a2:after callf o fr k (opV P H fr.ev o)=r->Fx (wOf callf) o (.f g ds) kk Q (opV P H (Fr.f g ds).ev o):=by
  rw[<- he.op hr];generalize opV P H fr.ev o=x;intro D
  cases x with
  | val v A=>exact a0 v A D
  | skip A=>exact a0 _ A D
  | enter f args A =>
   have U:(match callf f args A with|.ret v H=>fr.putK o.dst v λfr=>k fr H|.panic v H=>.panic v fr H|.bad=>.bad)=r:=D
   (simp_all[wOf];grind)
  | dfr fn a3 args A =>
   have U:((fr.defer (fn,a3,args)).putK o.dst (.lit undef) λfr=>k fr A)=r:=D;rw[X8] at U;show kk ((Fr.f g ((fn,a3,args)::ds)).put o.dst (.lit undef)) A;rw[b1z];exact hk _ _ _ _ ((he.defer _).put (by rw[a3k];exact a3m hr) _) ((b1x _ _ _).trans (a3k _ _)) U
  | panic v A=>exact hp v fr A he D.symm
  | _=>exact absurd D.symm a5
 unfold Dm;unfold Li at h
 cases hg:o.guard with
 | none=>rw[hg] at h;exact a2 h
 | some gd =>
  rw[hg] at h;have U:Qc P callf ops o fr H k gd=r:=h;unfold Qc at U;have hs:D4 ops fr gd.1=D4 ops (.f g ds) gd.1:=by
   unfold D4;split
   .rename_i p a6;have hm:=W7.1 a4 p (e6e (Co.2 a6));split
    .rename_i d hd;exact he.lo d (a3m hm d hd)
    .rfl
   .rfl
  show Fo (D4 ops (.f g ds) gd.1) gd.2 _ _;rw[<- hs];have hw:∀x,Lh ops fr gd=some x->(x=true->(∃b,D4 ops fr gd.1=some (.lit (.bool b))/\b=gd.2)) /\
    (x=false->(∃b,D4 ops fr gd.1=some (.lit (.bool b))/\b = !gd.2)\/∃y,D4 ops fr gd.1=some (.lit (.tuple y))):=by
   intro x hx;unfold Lh Wt at hx;unfold D4;generalize gd.2=a7 at hx |-
   cases hp:ops[gd.1]? with
   | none=>grind
   | some p =>
    cases hd:p.dst with
    | none=>grind
    | some d =>
     simp only[hp,hd] at hx |-;revert hx;generalize fr.get d=z;intro hx;by_cases hb:∃b,z=some (.lit (.bool b))
     .obtain⟨b,rfl⟩:=hb;cases b<;>cases a7<;>first
       | (grind)
       | grind
     grind
  split at U
  .rename_i hx;obtain⟨b,hb,rfl⟩:=(hw _ hx).1 rfl;rw[hb];exact⟨λ_=>a2 U,λe=>by grind⟩
  .rename_i hx;rcases (hw _ hx).2 rfl with⟨b,hb,e⟩|⟨y,hy⟩
   .rw[hb];subst e;exact⟨λe=>by grind,λ_=>a0 _ _ U⟩
   .rw[hy];exact a0 _ _ U
  grind
end
section
variable {B G:Nat}{P:Program}{n n0:Nat}{ρ0 ρ:Rn}{w0 w:World}{a:Act}{ops:Array Oper}{callf:CallF}{loopf:LoopF}{fr:Fr}{g:Nat→Option AV}{ds:List Dfr}{H:Mem}
inductive FI where
 | run (o:Oper)
 | mk (i:Nat) (o:Oper)
 | gate (hs as:List Nat)
 | no
def itF(ops:Array Oper)(it:It):FI:=match it with
 | .run i=>match ops[i]? with|some o=>.run o|none=>.no
 | .mk i=>match ops[i]? with|some o=>.mk i o|none=>.no
 | .gate hs as=>.gate hs as
def eqU(x y:AV):Bool:=match x,y with
 | .lit (.tuple a),.lit (.tuple b)=>Nat.beq a.size 0&&Nat.beq b.size 0
 | x,y=>eqAV x y
theorem d5r{x y:AV}(h:eqU x y=true):x=y:=by
 unfold eqU at h;split at h
 .simp_all
 grind[eqAV_sound]
noncomputable def Rw(P:Program)(callf:CallF)(ops:Array Oper)(fr:Fr)(H:Mem):List Nat->Bool
 | []=>true
 | i::l=>match ops[i]? with
  | some o=>match Li P callf ops o fr H (λfr' H'=>.norm fr' H') with
   | .norm fr' _=>match Eh fr' o.dst,Eh fr o.dst with
    | some x,some y=>match eqU x y with|true=>Rw P callf ops fr H l|false=>false
    | _,_=>false
   | _=>false
  | none=>false
def Gp(i:Nat):List Nat->Bool
 | []=>false
 | j::l=>match Nat.beq i j with|true=>true|false=>Gp i l
theorem Ur{i:Nat}:∀{l:List Nat},i∈l->Gp i l=true
 | j::l,h=>by
  unfold Gp;split
  .rfl
  .rename_i A;rcases Xb.1 h with rfl|h
   all_goals simp_all[Ur]
noncomputable def Pf(H:Mem)(as:List Nat):AlP->Bool
 | []=>true
 | (i,a,b)::l=>match Gp i as with
  | true=>match H.get a,b with
   | some x,some y=>match eqBlk x y with|true=>Pf H as l|false=>false
   | _,_=>false
  | false=>Pf H as l
abbrev FlF:=Program->CallF->Array Oper->Fr->Mem->AlP->Out
noncomputable def flN:FlF:=λ_ _ _ fr H _=>.norm fr H
noncomputable def b2a(o:Oper):FlF->FlF:=λih P callf ops fr H als=>Li P callf ops o fr H λfr H=>ih P callf ops fr H als
noncomputable def b2b(i:Nat)(o:Oper):FlF->FlF:=λih P callf ops fr H als=>Li P callf ops o fr H λfr H'=>ih P callf ops fr H' ((i,H.next,H'.get H.next)::als)
noncomputable def b2c(hs as:List Nat):FlF->FlF:=λih P callf ops fr H als=>match Rw P callf ops fr H hs,Pf H as als with
 | true,true=>ih P callf ops fr H als
 | _,_=>.bad
noncomputable def flNo:FlF->FlF:=λ_ _ _ _ _ _ _=>.bad
noncomputable def flC(it:It)(_:List It)(ih:FlF):FlF:=λP callf ops fr H als=>FI.rec (motive:=λ_=>FlF->FlF) b2a b2b b2c flNo (itF ops it) ih P callf ops fr H als
noncomputable def Rx(P:Program)(callf:CallF)(ops:Array Oper)(l:List It)(fr:Fr)(H:Mem)(als:AlP):Out:=List.rec (motive:=λ_=>FlF) flN flC l P callf ops fr H als
def OE(r out:Out):Prop:=match r,out with
 | .norm fr H,.norm fr' H'=>H'=H/\∃g ds,fr'=.f g ds/\FE fr g ds
 | .panic v fr H,.panic v' fr' H'=>v'=v/\H'=H/\fr'=fr.clear
 | _,_=>False
theorem b2d(fr:Fr):fr.clear=.s e2 fr.defers:=by cases fr<;>rfl
theorem b2e(A:FE fr g ds)(D:ops.toList.all (Ku (D6 fr))=true):∀{l:List Nat},Rw P callf ops fr H l=true->Ht P (wOf callf) ops (.f g ds) H l
 | [],_=>trivial
 | i::l,h=>by
  unfold Rw at h;unfold Ht;split at h
  .rename_i o Q;have Z:=W7.1 D o (e6e (Co.2 Q));split at h
   .rename_i a3 H2 hr;split at h
    .rename_i x y hx hy;split at h
     .rename_i a0;have a1:=d5r a0;subst a1;refine⟨?_,b2e A D h⟩
      try rw[Q]
      try dsimp only
      refine a3n A Z D hr (by simp) (λa2 g1 a4 H1 a5 _ U=>?_) (λv a2 H1 _ U=>by grind);cases U;have key:∀{fr:Fr}{g:Nat->Option AV}{ds:List Dfr},FE fr g ds->∀{x},Eh fr o.dst=some x->Eh (.f g ds) o.dst=some x:=by
       intro fr g ds A x hx;unfold Eh at hx |-;split at hx
       .exact A.up _ _ hx
       grind
      grind
     grind
    grind
   grind
  grind
theorem a3o{as:List Nat}:∀{D:AlP},Pf H as D=true->Kp H as D
 | [],_=>trivial
 | (i,a,b)::l,h=>by
  unfold Pf at h;unfold Kp;split at h
  .split at h
   .rename_i x y hx;split at h
    .rename_i A;exact⟨λ_=>hx.trans (congrArg some (a0u A)),a3o h⟩
    grind
   grind
  .rename_i A;exact⟨λhi=>(by rw[Ur hi] at A;cases A),a3o h⟩
theorem flat_W:∀(l:List It){fr:Fr}{g:Nat->Option AV}{ds:List Dfr}{H:Mem} {D:AlP} {r:Out},FE fr g ds->ops.toList.all (Ku (D6 fr))=true->Rx P callf ops l fr H D=r->r≠.bad ->
  Bt P (wOf callf) ops (Iq (OE r)) l (.f g ds) H D
 | [],fr,g,ds,H,D,r,Z,U,h,Q=>by
  have A:Out.norm fr H=r:=h;subst A;exact⟨rfl,g,ds,rfl,Z⟩
 | it::l,fr,g,ds,H,D,r,Z,U,h,Q=>by
  have A:FI.rec (motive:=λ_=>FlF->FlF) b2a b2b b2c flNo (itF ops it) (λP callf ops fr H D=>Rx P callf ops l fr H D) P callf ops fr H D=r:=h;have hp:∀v a0 H1,FE a0 g ds->r=.panic v a0 H1->Iq (OE r) (.panic v (.f g ds) H1):=by
   rintro v a0 H1 a1 rfl;refine⟨rfl,rfl,?_⟩;rw[b2d,b2d,a1.dfr];rfl
  cases it with
  | run i =>
   unfold Bt
   cases ho:ops[i]? with
   | none =>
    rw[show itF ops (.run i)=.no by grind[itF]] at A;exact absurd A.symm Q
   | some o =>
    rw[show itF ops (.run i)=.run o by grind[itF]] at A;dsimp only;have hm:=W7.1 U o (e6e (Co.2 ho));exact a3n Z hm U A Q (λa0 g1 a2 H1 a1 a3 h1=>flat_W l a1 (by grind) h1 Q) hp
  | mk i =>
   unfold Bt
   cases ho:ops[i]? with
   | none =>
    rw[show itF ops (.mk i)=.no by grind[itF]] at A;exact absurd A.symm Q
   | some o =>
    rw[show itF ops (.mk i)=.mk i o by grind[itF]] at A;dsimp only;have hm:=W7.1 U o (e6e (Co.2 ho));exact a3n Z hm U A Q (λa0 g1 a2 H1 a1 a3 h1=>flat_W l a1 (by grind) h1 Q) hp
  | gate hs as =>
   have h2:(match Rw P callf ops fr H hs,Pf H as D with|true,true=>Rx P callf ops l fr H D|_,_=>.bad)=r:=A;unfold Bt;split at h2
   .rename_i h3 h4;exact⟨b2e Z U h3,a3o h4,flat_W l Z U h2 Q⟩
   .exact absurd h2.symm Q
noncomputable def d5s(r:Out):Out:=match r with
 | .panic v fr H=>.panic v fr.clear H
 | .norm fr H=>.norm fr H
 | _=>.bad
noncomputable def Mf(P:Program)(callf:CallF)(ops:Array Oper)(fr:Fr)(H:Mem):Out:=match Q7 P ops.toList,ops.toList.all (Ku (D6 fr)) with
 | true,true=>d5s (Rx P callf ops (Nt ops.toList) fr H [])
 | _,_=>.bad
theorem d5t{o:Oper}{a:Act}{next D:Act->World->Prop}{Q A:Exit->Act->World->Prop}(Z:∀a w,next a w->D a w)(hq:∀e a w,Q e a w->A e a w){r:Result Next}(h:o.upon P a next Q r):o.upon P a D A r:=by
 have hl:LetsOut Q->LetsOut A:=λ⟨a,w,h⟩=>⟨a,w,hq _ _ _ h⟩;unfold Oper.upon at h |-;split at h
 .grind
 .grind
 .grind
 .refine h.mono λe w' U=>?_;grind
 .exact h.mono λv w' U=>Z _ _ U
 all_goals grind
theorem Us{Q U:Exit->Act->World->Prop}(A:∀e a w,Q e a w->U e a w):∀(l:List Nat)(a:Act)(w:World),wpOps P ops Q l a w->wpOps P ops U l a w
 | [],a,w,h=>A _ _ _ h
 | i::l,a,w,h=>by
  unfold wpOps at h |-
  cases Z:ops[i]? with
  | none=>rw[Z] at h;exact Us A l a w h
  | some o =>
   rw[Z] at h;dsimp only at h |-;split at h
   .rename_i D;rw[if_pos D];rcases h with h|⟨h,a',w',h2⟩
    .exact .inl (d5t (Us A l) A h)
    .exact .inr ⟨h,a',w',A _ _ _ h2⟩
   .rename_i D;rw[if_neg D];exact Us A l _ _ h
theorem b2f(U:∀B,A8 B G P callf)(hG:G=P.globals.size){id:Nat}(s:St B G n n0 ρ0 w0 ρ fr H a w)(Z:Az n (.region id ops true)=true)(h:Mf P callf ops fr H≠.bad)(t:Nat):
  wpOps P ops (Dk B G n n0 ρ0 w0 (Mf P callf ops fr H)) (Region.schedule (P.follows .mixedOrders) ops t) a { w with drawn:=w.drawn+1 }:=by
 unfold Mf at h |-;split at h
 .rename_i a0 a1;generalize hr:Rx P callf ops (Nt ops.toList) fr H []=r at h |-;have a2:r≠.bad:=λe=>h (by rw[e];rfl);have key:=a1l (d5q U) (id:=id) hG s.toF Z (a2u wOf_mono a0 (flat_W _ (FE.refl fr) a1 hr a2)) t;refine Us ?_ _ _ _ key;rintro e a' w' ⟨Q,A,D⟩
  cases r with
  | norm a3 H1 =>
   cases Q with
   | norm a4 H2 =>
    obtain⟨rfl,g,ds,rfl,he⟩:=A
    cases e with
    | normal=>obtain⟨a5,s'⟩:=D;exact⟨a5,St.ofF he s'⟩
    | _=>exact D.elim
   | _=>exact A.elim
  | panic v a3 H1 =>
   cases Q with
   | panic v2 a4 H2 =>
    obtain⟨rfl,rfl,rfl⟩:=A;exact D
   | _=>exact A.elim
  | exit=>assumption
  | ret=>assumption
  | bad=>grind
 grind
theorem d5u(h:∀B,A8 B G P callf)(hG:G=P.globals.size){id:Nat}(s:St B G n n0 ρ0 w0 ρ fr H a w)(A:Az n (.region id ops true)=true)(D:Mf P callf ops fr H≠.bad):
  (Code.region id ops true).wp P (Dk B G n n0 ρ0 w0 (Mf P callf ops fr H)) a w:=by grind[id,b2f,wp_region_draw]
/- Codes. -/
noncomputable def d5v(_:Nat)(ops:Array Oper)(draw:Bool):XF:=λP callf _ fr H=>match draw with
 | false=>Oq P callf ops ops.toList fr H
 | true=>Mf P callf ops fr H
noncomputable def execCF:Code->XF:=Code.rec (motive:=λ_=>XF) xSkip d5v a6u a6v a6w a6x a6y a6z a7a a7b a7c xRet a7d
noncomputable def Dt(P:Program)(callf:CallF)(loopf:LoopF)(c:Code)(fr:Fr)(H:Mem):Out:=execCF c P callf loopf fr H
def b2g(B G:Nat)(P:Program)(callf:CallF)(loopf:LoopF)(c:Code):Prop:=
 ∀(n n0:Nat)(ρ0:Rn)(w0:World)(ρ:Rn)(fr:Fr) (H:Mem) (a:Act) (w:World),Az n c=true->St B G n n0 ρ0 w0 ρ fr H a w->Dt P callf loopf c fr H≠.bad ->
  c.wp P (Dk B G n n0 ρ0 w0 (Dt P callf loopf c fr H)) a w
theorem b2h{callf:CallF}{loopf:LoopF}{b:Code}(Q:Im B G P loopf)(U:b2g B G P callf loopf b)(n n0:Nat)(ρ0:Rn)(w0:World)(ρ:Rn)(fr:Fr)(H:Mem)(a:Act)(w:World)
  (D:Az n b=true) (s:St B G n n0 ρ0 w0 ρ fr H a w) (A:Dt P callf loopf (.loop b) fr H≠.bad):LW P b (Dk B G n n0 ρ0 w0 (Dt P callf loopf (.loop b) fr H)) a w:=by
 have Z:Dt P callf loopf (.loop b) fr H=Lj (Dt P callf loopf b fr H) (loopf (.loop b)):=rfl;rw[Z] at A |-;have hr:Dt P callf loopf b fr H≠.bad:=λh=>A (by rw[h];rfl);refine Y2 (Code.wp_mono (Tp A λa0 H' a1 a' w' a2 s' hk=>?_) (U n n0 ρ0 w0 ρ fr H a w D s hr));rw[a2];exact Q b n n0 ρ0 w0 a1 a0 H' a' w' D s' hk
theorem b2i{callf:CallF}{loopf:LoopF}(a3:∀B,A8 B G P callf)(hl:Im B G P loopf)(hG:G=P.globals.size):∀c:Code,b2g B G P callf loopf c:=by
 intro c;have hc:=a3 B
 induction c with
 | skip=>intro n n0 ρ0 w0 ρ fr H a w D s A;exact wp_skip ⟨ρ,s⟩
 | region id ops a5 =>
  intro n n0 ρ0 w0 ρ fr H a w D s A
  cases a5 with
  | false =>
   refine wp_region_list (a0t hc hG A ops.toList fr H ρ a w ?_ s rfl);exact λo ho=>W7.1 D o ho
  | true=>exact d5u a3 hG s D A
 | seq x y Z a0 =>
  intro n n0 ρ0 w0 ρ fr H a w D s A;have Q:Dt P callf loopf (.seq x y) fr H=Lj (Dt P callf loopf x fr H) (Dt P callf loopf y):=rfl;rw[Q] at A |-;simp only[Az,W1] at D;have hr:Dt P callf loopf x fr H≠.bad:=λh=>A (by rw[h];rfl);refine wp_seq (Code.wp_mono (Tp A λU H' a1 a' w' a6 s' hk=>?_) (Z n n0 ρ0 w0 ρ fr H a w D.1 s hr));rw[a6];exact a0 n n0 ρ0 w0 a1 U H' a' w' D.2 s' hk
 | cond a4 x y Z a0 =>
  intro n n0 ρ0 w0 ρ fr H a w D s A;have Q:Dt P callf loopf (.cond a4 x y) fr H=Qd (fr.ev a4) (Dt P callf loopf x) (Dt P callf loopf y) fr H:=rfl;rw[Q] at A |-;simp only[Az,W1] at D;unfold Qd at A |-;split at A
  .rename_i a2;have:=s.ev _ _ a2;exact wp_cond_true this (Z n n0 ρ0 w0 ρ fr H a w D.1 s A)
  .rename_i a2;have:=s.ev _ _ a2;exact wp_cond_false this (a0 n n0 ρ0 w0 ρ fr H a w D.2 s A)
  grind
 | block id b ih =>
  intro n n0 ρ0 w0 ρ fr H a w D s A;have Q:Dt P callf loopf (.block id b) fr H=Qe id (Dt P callf loopf b fr H):=rfl;rw[Q] at A |-;have hr:Dt P callf loopf b fr H≠.bad:=λh=>A (by rw[h];rfl);refine wp_block (Code.wp_mono ?_ (ih n n0 ρ0 w0 ρ fr H a w D s hr));intro e a' w' h;generalize Dt P callf loopf b fr H=r at h A |-
  cases r with
  | norm U H'=>cases e<;>first|exact h.elim|exact h
  | exit a9 U H' =>
   cases e with
   | exit a7 =>
    obtain⟨rfl,a1,s'⟩:=h;unfold Qe;dsimp only;split
    .rename_i hb;have:=Xe hb;subst this;simp only[Exit.inBlock,if_true];exact⟨a1,s'⟩
    .rename_i hb;have a8:a7≠id:=by intro h0;simp_all
     simp only[Exit.inBlock,a8,if_false];exact⟨rfl,a1,s'⟩
   | _=>exact h.elim
  | ret U H'=>cases e<;>first|exact h.elim|exact h
  | panic v U H'=>cases e<;>first|exact h.elim|exact h
  | bad=>exact absurd rfl A
 | loop b ih =>
  intro n n0 ρ0 w0 ρ fr H a w D s A;exact(b2h hl ih n n0 ρ0 w0 ρ fr H a w D s A).wp
 | rangeFunc f ps x y Z a0=>intro n n0 ρ0 w0 ρ fr H a w D s A;exact absurd rfl A
 | exit id=>intro n n0 ρ0 w0 ρ fr H a w D s A;exact wp_exit ⟨rfl,ρ,s⟩
 | scope b ih=>intro n n0 ρ0 w0 ρ fr H a w D s A;exact absurd rfl A
 | label l=>intro n n0 ρ0 w0 ρ fr H a w D s A;exact wp_label ⟨ρ,s⟩
 | goto l=>intro n n0 ρ0 w0 ρ fr H a w D s A;exact absurd rfl A
 | ret=>intro n n0 ρ0 w0 ρ fr H a w D s A;exact wp_ret ⟨ρ,s⟩
 | refuse b0=>intro n n0 ρ0 w0 ρ fr H a w D s A;exact absurd rfl A
noncomputable def b2j(P:Program)(callf:CallF)(loopf:LoopF)(fn:Func)(c:Code)(args:List AV)(H:Mem):A1:=
 match Az fn.ntmps c,Nat.ble (len args) fn.ntmps with
 | true,true=>a7f P callf loopf fn (Qh args (Cx fn.ntmps) λfr=>Dt P callf loopf c fr H)
 | _,_=>.bad
noncomputable def a3p(P:Program)(callf:CallF)(loopf:LoopF)(f:FuncId)(args:List AV)(H:Mem):A1:=
 match P.funcs[f]? with
 | some fn=>match fn.body with
  | some c=>b2j P callf loopf fn c args H
  | none=>.bad
 | none=>.bad
theorem d5w{callf:CallF}{loopf:LoopF}(a1:∀B,A8 B G P callf)(U:Im B G P loopf)(hG:G=P.globals.size):A8 B G P (a3p P callf loopf):=by
 have Z:=a1 B;intro f args H A ρ us w hs hv;unfold a3p at A |-;split at A
 .rename_i fn a2;split at A
  .rename_i c hb;unfold b2j at A |-;split at A
   .rename_i a3 a5;rw[a0x] at A |-;have a4:=a0y (n:=fn.ntmps) hv (by simp_all[Di]);have s1:St B G fn.ntmps H.next ρ w ρ (putArgs args (Cx fn.ntmps) 0) H { tmps:=us++Array.replicate (fn.ntmps-us.size) undef,defers:=[] } w:=⟨Ya _ _ _ _,hs,a4,Wy _⟩;have hr:Dt P callf loopf c (putArgs args (Cx fn.ntmps) 0) H≠.bad:=λh0=>A (by rw[h0];rfl);have key:=b2i a1 U hG c fn.ntmps H.next ρ w ρ _ H _ w a3 s1 hr;refine calls_of_wp_defers a2 hb (Code.wp_mono ?_ key);intro e a' w' h;generalize Dt P callf loopf c (putArgs args (Cx fn.ntmps) 0) H=r at h A |-
    cases r with
    | norm a0 H' =>
     cases e with
     | normal=>obtain⟨Q,D⟩:=h;exact L4 Z U hG A _ _ .returning H' Q .returning w' D.frel.dfr D rfl rfl
     | _=>exact h.elim
    | ret a0 H' =>
     cases e with
     | ret=>obtain⟨Q,D⟩:=h;exact L4 Z U hG A _ _ .returning H' Q .returning w' D.frel.dfr D rfl rfl
     | _=>exact h.elim
    | panic v a0 H' =>
     cases e with
     | panic a6=>obtain⟨Q,x,rfl,hx,D⟩:=h;exact L4 Z U hG A _ _ (.panicking v) H' Q _ w' D.frel.dfr D ⟨x,rfl,hx⟩ rfl
     | _=>exact h.elim
    | exit id a0 H'=>exact absurd rfl A
    | bad=>exact absurd rfl A
   grind
  grind
 grind
end
section
variable {ops:Array Oper}{w':World}{callf:CallF}{o:Oper}
abbrev J:=Option Nat
def jcode:J->Code
 | none=>.ret
 | some id=>.exit id
def jexit:J->Exit
 | none=>.ret
 | some id=>.exit id
inductive Ex where
 | norm (fr:Fr) (ys:List Nat) (p:Option J) (H:Mem)
 | jump (j:J) (fr:Fr) (ys:List Nat) (p:Option J) (H:Mem)
 | bad
inductive d5x where
 | ok (b:Bool) (p:Option J) (H:Mem)
 | bad
inductive Ut where
 | ok (j:Option J) (H:Mem)
 | bad
inductive KE where
 | mv
 | yl (args:Array Operand)
 | no
def a3q(o:Oper)(ys:List Nat):KE:=match o.op with
 | .move (.tmp t)=>(match Gp t ys with|true=>.mv|false=>.no)
 | .call c=>(match c.callee with
  | .value (.tmp t)=>(match Gp t ys with|true=>.yl c.args|false=>.no)
  | _=>.no)
 | _=>.no
def Hb(o:Oper):Bool:=match o.op with|.defer _=>false|_=>true
def Ry(d:Nat):List Nat->List Nat
 | []=>[]
 | t::l=>match Nat.beq d t with|true=>Ry d l|false=>t::Ry d l
def Nx(d:Option Tmp)(ys:List Nat):List Nat:=match d with|none=>ys|some d=>Ry d ys
abbrev YF:=List AV->Mem->d5x
abbrev RF:=Operand->Array Tmp->Code->Code->Fr->Mem->Ut
abbrev KF:=Fr->List Nat->Option J->Mem->Ex
noncomputable def mvE(o:Oper)(fr:Fr)(ys:List Nat)(p:Option J)(H:Mem)(K:KF):Ex:=match o.dst with
 | none=>.bad
 | some d=>match fr.get d with
  | none=>K fr (d::ys) p H
  | some _=>.bad
noncomputable def ylE(yf:YF)(o:Oper)(args:Array Operand)(fr:Fr)(ys:List Nat)(p:Option J)(H:Mem)(K:KF):Ex:=match p,Bj fr.ev args.toList with
 | none,some vs=>match yf vs H with
  | .ok b p' H'=>K (fr.put o.dst (.lit (.bool b))) (Nx o.dst ys) p' H'
  | .bad=>.bad
 | _,_=>.bad
noncomputable def afE(callf:CallF)(o:Oper)(fr:Fr)(ys:List Nat)(p:Option J)(K:KF)(r:R):Ex:=match r with
 | .val v H'=>K (fr.put o.dst v) (Nx o.dst ys) p H'
 | .skip H'=>K (fr.put o.dst (.lit undef)) (Nx o.dst ys) p H'
 | .enter f args H'=>match callf f args H' with
  | .ret v H''=>K (fr.put o.dst v) (Nx o.dst ys) p H''
  | _=>.bad
 | _=>.bad
noncomputable def opE(P:Program)(callf:CallF)(yf:YF)(o:Oper)(fr:Fr)(ys:List Nat)(p:Option J)(H:Mem)(K:KF):Ex:=match a3q o ys with
 | .mv=>mvE o fr ys p H K
 | .yl args=>ylE yf o args fr ys p H K
 | .no=>match Hb o with
  | true=>afE callf o fr ys p K (opV P H fr.ev o)
  | false=>.bad
noncomputable def a3r(ops:Array Oper)(o:Oper)(fr:Fr):Option Bool:=match o.guard with
 | none=>some true
 | some g=>Lh ops fr g
noncomputable def Rz(P:Program)(callf:CallF)(yf:YF)(ops:Array Oper):List Oper->KF
 | [],fr,ys,p,H=>.norm fr ys p H
 | o::l,fr,ys,p,H=>match a3r ops o fr with
  | some true=>opE P callf yf o fr ys p H (Rz P callf yf ops l)
  | some false=>Rz P callf yf ops l (fr.put o.dst (.lit undef)) (Nx o.dst ys) p H
  | none=>.bad
def Mg(r:Ex)(k:KF):Ex:=match r with
 | .norm fr ys p H=>k fr ys p H
 | r=>r
def a3s(id:Nat)(r:Ex):Ex:=match r with
 | .jump (some id') fr ys p H=>(match Nat.beq id' id with|true=>.norm fr ys p H|false=>.jump (some id') fr ys p H)
 | r=>r
abbrev LFE:=Code->KF
noncomputable def Uu(P:Program)(callf:CallF)(ops:Array Oper)(fr:Fr)(ys:List Nat)(p:Option J)(H:Mem):Ex:=match ys,ops.toList.all Hb with
 | [],true=>(match Mf P callf ops fr H with
  | .norm fr' H'=>(match fr'.defers with|[]=>.norm fr' [] p H'|_=>.bad)
  | _=>.bad)
 | _,_=>.bad
noncomputable def Cd(P:Program)(callf:CallF)(yf:YF)(rf:RF)(loopf:LFE):Code->KF
 | .skip,fr,ys,p,H=>.norm fr ys p H
 | .region _ ops draw,fr,ys,p,H=>(match draw with|true=>Uu P callf ops fr ys p H|false=>Rz P callf yf ops ops.toList fr ys p H)
 | .seq a b,fr,ys,p,H=>Mg (Cd P callf yf rf loopf a fr ys p H) (Cd P callf yf rf loopf b)
 | .cond c a b,fr,ys,p,H=>(match fr.ev c with
  | some (.lit (.bool true))=>Cd P callf yf rf loopf a fr ys p H
  | some (.lit (.bool false))=>Cd P callf yf rf loopf b fr ys p H
  | _=>.bad)
 | .block id b,fr,ys,p,H=>a3s id (Cd P callf yf rf loopf b fr ys p H)
 | .loop b,fr,ys,p,H=>Mg (Cd P callf yf rf loopf b fr ys p H) (loopf b)
 | .rangeFunc g ps asg body,fr,ys,p,H=>(match ys with
  | []=>(match rf g ps asg body fr H with
   | .ok none H'=>.norm fr [] p H'
   | .ok (some j) H'=>.jump j fr [] p H'
   | .bad=>.bad)
  | _=>.bad)
 | .exit id,fr,ys,p,H=>.jump (some id) fr ys p H
 | .label _,fr,ys,p,H=>.norm fr ys p H
 | .ret,fr,ys,p,H=>.jump none fr ys p H
 | _,_,_,_,_=>.bad
noncomputable def Iu(P:Program)(callf:CallF)(yf:YF)(rf:RF):Nat->LFE
 | 0=>λ_ _ _ _ _=>.bad
 | m+1=>λb fr ys p H=>Mg (Cd P callf yf rf (Iu P callf yf rf m) b fr ys p H) (Iu P callf yf rf m b)
def FR(r:Option Nat):Fence:={ Fence.wide with round:=r }
theorem a3t{r:Option Nat}{m:Nat}{P:Program}{f:FuncId}{args:Array Value}{w:World}{R:Ending->World->Prop}(h:Calls P f args w R):CallsIn (FR r) m P f args w R:=(callsIn_wide (n:=m)).2 h
theorem b2k{r:Option Nat}{m:Nat}{P:Program}{f:FuncId}{args:Array Value}{w:World}{R:Ending->World->Prop}(h:CallsIn (FR r) m P f args w R):Calls P f args w R:=(callsIn_wide (n:=m)).1 h
def Act.bare(a:Act):Act:={ a with defers:=[] }
theorem d5y(a:Act)(d:Option Tmp)(v:Value):Act.bare (a.put d v)=(Act.bare a).put d v:=by cases d<;>rfl
theorem d5z(a:Act):(Act.bare a).eval=a.eval:=by funext x;cases x<;>rfl
def KX(x:Option Nat)(w w' : World):Prop:=(∀(k:Nat)(o:Obj),w.heap[k]?=some o->isMk o=true->x≠some k->w'.heap[k]?=some o)/\w.drawn<=w'.drawn
theorem KX.refl(x:Option Nat)(w:World):KX x w w:=⟨λ_ _ h _ _=>h,Wy _⟩
abbrev Yg:=@KX.refl
theorem KX.trans{x:Option Nat}{a b c:World}(h:KX x a b)(k:KX x b c):KX x a c:=⟨λi o hi A hx=>k.1 i o (h.1 i o hi A hx) A hx,Xa h.2 k.2⟩
theorem KD.kx{x:Option Nat}{w:World}(h:KD w w'):KX x w w':=⟨λi o hi A _=>h.1 i o hi A,h.2⟩
theorem KX.kd{w:World}(h:KX none w w'):KD w w':=⟨λi o hi A=>h.1 i o hi A (by simp),h.2⟩
theorem Sim.mark{B G:Nat}{ρ:Rn}{H:Mem}{w:World}{l:Nat}{Z:Obj}(s:Sim B G ρ H w)(D:w.heap[l]?=some Z)(Q:isMk Z=true)(hw:∀k,k≠l->w'.heap[k]?=w.heap[k]?)(a0:w.heap.size<=w'.heap.size):Sim B G ρ H w':=by
 refine s.other a0 λa x b o k hx hr=>hw b λe=>?_;subst e;rcases s.blk a x hx with h|⟨b',o',k',h,U⟩
 .grind
 .rw[hr] at h;cases h
  cases x with
  | cells l own z=>obtain⟨c,e,fz,A,_⟩:=U;rw[D] at A;cases A;cases Q
  | map es a1=>obtain⟨a2,A,_⟩:=U;rw[D] at A;cases A;cases Q
  | siter s a3=>have A:=U.1;rw[D] at A;cases A;cases Q
  | typ T l ex=>obtain⟨_,_,c,A,_⟩:=U;rw[D] at A;cases A;cases Q
abbrev Inv:=Rn->Option J->List Deferred->World->Prop
def Gq(I:Inv):Prop:=∀ρ ρ' p ds w w',I ρ p ds w->KD w w'->w.heap.size<=w'.heap.size->Sub ρ ρ'->I ρ' p ds w'
structure StE (B G n n0:Nat) (ρ0:Rn) (w0:World) (x:Option Nat) (l:Nat) (I:Inv) (ρ:Rn) (fr:Fr) (ys:List Nat) (p:Option J) (H:Mem) (a:Act) (w:World):Prop where
 same:∀a,a<n0->ρ a=ρ0 a
 keeps:KX x w0 w
 below:Below B w0 w
 sim:Sim B G ρ H w
 frel:Dz n ρ fr (Act.bare a)
 le:n0<=H.next
 inv:I ρ p a.defers w
 ysl:∀t,t∈ys->t<n/\fr.get t=none/\a.tmps.getD t undef=.func (.yield l) #[] #[]
def Hx(B G n n0:Nat)(ρ0:Rn)(w0:World)(x:Option Nat)(l:Nat)(I:Inv)(out:Ex):Exit->Act->World->Prop:=λe a' w'=>match out with
 | .norm fr ys p H=>e=.normal/\∃ρ',StE B G n n0 ρ0 w0 x l I ρ' fr ys p H a' w'
 | .jump j fr ys p H=>e=jexit j/\∃ρ',StE B G n n0 ρ0 w0 x l I ρ' fr ys p H a' w'
 | .bad=>False
def YOK(B G:Nat)(P:Program)(r x:Option Nat)(l m:Nat)(I:Inv)(yf:YF):Prop:=∀vs H b p' H',yf vs H=.ok b p' H'->∀(ρ:Rn)(us:Array Value)(ds:List Deferred)(w:World),Sim B G ρ H w->VRs ρ vs us.toList->I ρ none ds w ->
 ∃f tm asg bd,(Instr.yield l us).run P w=.ok (.round l f tm asg bd) w /\
  RoundIn (FR r) m P l f tm asg bd w λe w'=>e=.returned (.bool b)/\∃ρ',(∀a,a<H.next->ρ' a=ρ a)/\KX x w w'/\Below B w w'/\Sim B G ρ' H' w'/\H.next<=H'.next/\I ρ' p' ds w'
def b2l(j:Option J)(fr:Fr)(p:Option J)(H:Mem):Ex:=match j with|none=>.norm fr [] p H|some j=>.jump j fr [] p H
def ROK(B G n n0:Nat)(P:Program)(r x:Option Nat)(l m:Nat)(I:Inv)(rf:RF):Prop:=∀g ps asg body fr H j H',rf g ps asg body fr H=.ok j H' ->
 ∀(ρ0:Rn)(w0:World)(ρ:Rn)(p:Option J)(a:Act) (w:World),StE B G n n0 ρ0 w0 x l I ρ fr [] p H a w ->
  (Code.rangeFunc g ps asg body).wpIn (FR r) m P (Hx B G n n0 ρ0 w0 x l I (b2l j fr p H')) a w
variable {B G n n0 m l:Nat}{P:Program}{ρ0 ρ:Rn}{w0 w:World}{x r:Option Nat}{I:Inv}{fr:Fr}{ys:List Nat}{p:Option J}{H:Mem}{a:Act}
theorem StE.st(s:StE B G n n0 ρ0 w0 x l I ρ fr ys p H a w):St B G n H.next ρ w ρ fr H (Act.bare a) w:=⟨Ya _ _ _ _,s.sim,s.frel,Wy _⟩
theorem StE.ev(s:StE B G n n0 ρ0 w0 x l I ρ fr ys p H a w):EvR ρ fr.ev a.eval:=by rw[<- d5z];exact s.st.ev
theorem a3u{d t:Nat}:∀{l:List Nat},t∈Ry d l->t∈l/\t≠d
 | y::l,h=>by
  unfold Ry at h;split at h
  .obtain⟨A,D⟩:=a3u h;exact⟨by simp[A],D⟩
  .rename_i Q;rcases Xb.1 h with rfl|h
   .refine⟨by simp,λe=>?_⟩;simp_all
   .obtain⟨A,D⟩:=a3u h;exact⟨by simp[A],D⟩
theorem d6a{d:Option Tmp}{v:AV}{u yv:Value}(h:∀t,t∈ys->t<n/\fr.get t=none/\a.tmps.getD t undef=yv):
  ∀t,t∈Nx d ys->t<n/\(fr.put d v).get t=none/\(a.put d u).tmps.getD t undef=yv:=by
 intro t A
 cases d with
 | none=>exact h t A
 | some d =>
  obtain⟨D,Z⟩:=a3u A;obtain⟨Q,h4,h5⟩:=h t D;refine⟨Q,?_,?_⟩
  .cases U:(fr.put (some d) v).get t with
   | none=>rfl
   | some y =>
    rcases Yl U with⟨rfl,_⟩|⟨_,hy⟩
    all_goals grind
  .show (a.tmps.setIfInBounds d u).getD t undef=yv;simp_all[Ne.symm]
theorem StE.step {ρ' : Rn} {H' : Mem} {w' : World} {v:AV} {u:Value} {d:Option Tmp} {p' : Option J} (s:StE B G n n0 ρ0 w0 x l I ρ fr ys p H a w) (h1:∀ a,a<H.next->ρ' a=ρ a) (h2:KX x w w') (h3:Below B w w') (hs:Sim B G ρ' H' w')
  (hv:VR ρ' v u) (hn:H.next<=H'.next) (hd:∀ t,d=some t->t<n) (hI:I ρ' p' a.defers w') : StE B G n n0 ρ0 w0 x l I ρ' (fr.put d v) (Nx d ys) p' H' (a.put d u) w':=by
 have hsub:Sub ρ ρ':=by
  intro a x hx
  rw[h1 a ?_];· grind
  rcases Nat.lt_or_ge a H.next with k|k
  ·exact k
  ·rw[s.sim.fresh a k] at hx;grind
 refine⟨fun b hb=>(h1 b (Nat.lt_of_lt_of_le hb s.le)).trans (s.same b hb),s.keeps.trans h2,s.below.trans h3,hs,?_,Nat.le_trans s.le hn,by grind[O0],d6a s.ysl⟩
 rw[d5y]
 exact(s.frel.mono hsub).put hd hv
theorem a3v{i:Nat}:∀{l:List Nat},Gp i l=true->i∈l
 | j::l,h=>by
  unfold Gp at h;split at h
  .rename_i A;simp[Xe A]
  .simp[a3v h]
theorem d6b{yf:YF}{a6:List Oper}{K:KF}{a0:Ex}(hc:A8 B G P callf)(hG:G=P.globals.size)(hy:∀m,YOK B G P r x l m I yf)
  (hI:Gq I) (b2:Cn n o=true) (s:StE B G n n0 ρ0 w0 x l I ρ fr ys p H a w)
  (hk:∀a7 a8 p' H' a2 a' w',StE B G n n0 ρ0 w0 x l I a2 a7 a8 p' H' a' w'->K a7 a8 p' H'=a0->wpListIn (FR r) m P ops (Hx B G n n0 ρ0 w0 x l I a0) a6 a' w')
  (A:opE P callf yf o fr ys p H K=a0) (c1:a0≠.bad) :
  o.wpIn (FR r) m P a w (wpListIn (FR r) m P ops (Hx B G n n0 ρ0 w0 x l I a0) a6) (Hx B G n n0 ρ0 w0 x l I a0):=by
 refine⟨λ_ _=>trivial,?_⟩;have hd:=Fl b2;unfold opE at A;split at A
 ·
  rename_i Q;unfold a3q at Q;split at Q
  .rename_i t a3;split at Q
   .rename_i ht;obtain⟨Z,D,h3⟩:=s.ysl t (a3v ht);have a9:(o.semAt (FR r).round a.eval).run P w=.ok (.value (.func (.yield l) #[] #[])) w:=by
     rw[Oper.semAt_eq _ _ _ (by grind)];have:a.eval (.tmp t)=.func (.yield l) #[] #[]:=h3;simp_all[execOp]
    rw[a9];show wpListIn _ _ _ _ _ _ (a.put o.dst _) w;unfold mvE at A;split at A
    .grind
    .rename_i d a4;split at A
     .rename_i hg;refine hk fr (d::ys) p H ρ _ w ⟨s.same,s.keeps,s.below,s.sim,?_,s.le,by rw[O0];exact s.inv,?_⟩ A
      .rw[a4];refine⟨λj v hj b3=>?_,s.frel.dfr,?_,s.frel.only⟩
       .have a5:j≠d:=λe=>by grind
        have:=s.frel.slot j v hj b3;show VR ρ v ((a.tmps.setIfInBounds d _).getD j undef);rw[Array.getD_eq_getD_getElem?,Array.getElem?_setIfInBounds_ne (Ne.symm a5),<- Array.getD_eq_getD_getElem?];exact this
       .show n<=(a.tmps.setIfInBounds d _).size;simp;exact s.frel.size
      .intro j hj;rw[a4];have b0:=hd d a4;have c2:d<a.tmps.size:=Xm b0 s.frel.size;by_cases a5:j=d
       .subst a5;refine⟨b0,hg,?_⟩;show (a.tmps.setIfInBounds j _).getD j undef=_;simp_all
       .have b4:j∈ys:=by grind
        obtain⟨k1,k2,k3⟩:=s.ysl j b4;refine⟨k1,k2,?_⟩;show (a.tmps.setIfInBounds d _).getD j undef=_;simp_all[Ne.symm]
     grind
   grind
  all_goals grind
 ·
  rename_i args Q;unfold a3q at Q;split at Q
  .grind
  .rename_i c a3;split at Q
   .rename_i t c6;split at Q
    .rename_i ht;cases Q;obtain⟨Z,D,h3⟩:=s.ysl t (a3v ht);unfold ylE at A;split at A
     .rename_i vs b5;split at A
      .rename_i b p' H' b6;have b7:VRs ρ vs (c.args.map a.eval).toList:=by simpa using evals_VRs s.ev b5
       obtain⟨f,tm,b8,bd,a9,b9⟩:=hy (m-1) vs H b p' H' b6 ρ (c.args.map a.eval) a.defers w s.sim b7 s.inv;have c0:(o.semAt (FR r).round a.eval).run P w=.ok (.round l f tm b8 bd) w:=by
        rw[Oper.semAt_eq _ _ _ (by grind)];have:a.eval (.tmp t)=.func (.yield l) #[] #[]:=h3;grind[invoke,Deferred.ofValue,resolve,execOp]
       rw[c0,Oper.uponIn_round];refine⟨λh=>(by cases h),b9.mono λe w' he=>?_⟩;obtain⟨rfl,a2,U,g2,g3,g4,g5,g6⟩:=he;exact hk _ _ _ _ _ _ _ (s.step (v:=.lit (.bool b)) (u:=.bool b) U g2 g3 g4 rfl g5 hd g6) A
      grind
     grind
    grind
   grind
  grind
 .rename_i Q;split at A
  .rename_i c7;have a3:∀c,o.op≠.defer c:=by
    grind[Hb]
   rw[Oper.semAt_eq _ _ _ a3];have a1:=Ij (o:=o) s.sim s.ev hG;unfold afE at A
   cases hr:opV P H fr.ev o with
   | val v H' =>
    rw[hr] at a1 A;obtain⟨a2,u,w',Z,D,h3,h4,h5⟩:=a1;rw[Z];exact hk _ _ _ _ _ _ _ (s.step D.same D.keeps.kx D.below h3 h4 h5 hd (hI _ _ _ _ _ _ s.inv D.keeps D.below.size (D.sub s.sim))) A
   | skip H' =>
    rw[hr] at a1 A;obtain⟨a2,w',Z,D,h3,h5⟩:=a1;rw[Z];exact hk _ _ _ _ _ _ _ (s.step D.same D.keeps.kx D.below h3 (Hm _) h5 hd (hI _ _ _ _ _ _ s.inv D.keeps D.below.size (D.sub s.sim))) A
   | enter f args H' =>
    rw[hr] at a1 A;obtain⟨us,Z,D,rfl⟩:=a1;rw[Z,Oper.uponIn_enter];refine⟨λh=>(by cases h),?_⟩
    cases b1:callf f args H' with
    | ret v H2 =>
     dsimp only at A;rw[b1] at A;have:=hc f args H' (by grind) ρ us w s.sim D;rw[b1] at this;refine(a3t this).mono λe w' he=>?_
     cases e with
     | returned u =>
      obtain⟨a2,U,g2,g3,g4⟩:=he;exact hk _ _ _ _ _ _ _ (s.step U.same U.keeps.kx U.below g2 g3 g4 hd (hI _ _ _ _ _ _ s.inv U.keeps U.below.size (U.sub s.sim))) A
     | panicked c8=>exact he.elim
     | outgrown=>exact he.elim
    | panic v H2=>grind
    | bad=>grind
   | dfr fn c9 args H'=>grind
   | recover=>grind
   | panic v H'=>grind
   | bad=>grind
  grind
theorem b2m{b:Bool}(s:StE B G n n0 ρ0 w0 x l I ρ fr ys p H a w)(h:a3r ops o fr=some b):Region.wanted o (yielded ops a.tmps)=b:=by
 unfold a3r at h
 cases A:o.guard with
 | none=>grind[Region.wanted]
 | some g=>rw[A] at h;exact Tj (a:=Act.bare a) s.st A h
theorem a3w{yf:YF}(Q:A8 B G P callf)(hG:G=P.globals.size)(hy:∀m,YOK B G P r x l m I yf)(U:Gq I){D:Ex}(Z:D≠.bad):
  ∀(A:List Oper)(fr:Fr)(ys:List Nat)(p:Option J)(H:Mem) (ρ:Rn) (a:Act) (w:World),(∀o∈A,Cn n o=true)->StE B G n n0 ρ0 w0 x l I ρ fr ys p H a w->Rz P callf yf ops A fr ys p H=D ->
   wpListIn (FR r) m P ops (Hx B G n n0 ρ0 w0 x l I D) A a w
 | [],fr,ys,p,H,ρ,a,w,_,s,h=>by
  have h' : Ex.norm fr ys p H=D:=h;subst h';exact wpListIn_nil ⟨rfl,ρ,s⟩
 | o::A,fr,ys,p,H,ρ,a,w,hd,s,h=>by
  have a0:=hd o (by simp);unfold Rz at h;unfold wpListIn;split at h
  .rename_i hw;rw[if_pos (b2m s hw)];exact d6b Q hG hy U a0 s (λa1 a2 p' H' a3 a' w' s' hk=>a3w Q hG hy U Z A a1 a2 p' H' a3 a' w' (λo ho=>hd o (by simp[ho])) s' hk) h Z
  .rename_i hw;rw[if_neg (by grind[b2m])];exact⟨λ_ _=>trivial,a3w Q hG hy U Z A _ _ _ _ ρ _ _ (λo ho=>hd o (by grind)) (s.step (λ_ _=>rfl) (Yg _ _) (Below.refl _ _) s.sim (Hm _) (Wy _) (Fl a0) s.inv) h⟩
  grind
def Act.df(a:Act)(x:List Deferred):Act:={ a with defers:=x }
theorem R0(a:Act)(x:List Deferred)(d:Option Tmp)(v:Value):(Act.df a x).put d v=Act.df (a.put d v) x:=by cases d<;>rfl
theorem d6c(a:Act)(x:List Deferred):(Act.df a x).eval=a.eval:=by rfl
theorem d6d{row:String}{args:Array Value}{w:World}{R:Value->World->Prop}(h:Rows P row args w R):RowsIn (FR r) m P row args w R:=
 λc cs _=>let ⟨v,w',A,s⟩:=h c cs;⟨v,w',A,stepsIn_wide.2 s⟩
theorem Kv{Q:Exit->Act->World->Prop}(Z:ops.toList.all Hb=true)(hQ:¬LetsOut Q)(D:List Deferred):∀(U:List Nat)(a:Act)(x:List Deferred)(w:World),a.defers=x++D->wpOps P ops Q U (Act.df a x) w ->
  wpOpsIn (FR r) m P ops (λe a' w'=>∃y,a'.defers=y++D/\Q e (Act.df a' y) w') U a w
 | [],a,x,w,ha,h=>⟨x,ha,h⟩
 | i::U,a,x,w,ha,h=>by
  unfold wpOps at h;unfold wpOpsIn
  cases ho:ops[i]? with
  | none=>rw[ho] at h;exact Kv Z hQ D U a x w ha h
  | some o =>
   rw[ho] at h;dsimp only at h |-;have a2:=W7.1 Z o (e6e (Co.2 ho));have a1:∀c,o.op≠.defer c:=by
    grind[Hb]
   have a0:∀d v,(a.put d v).defers=x++D:=λd v=>by grind[O0]
   split at h
   .rename_i hw;rw[if_pos (show Region.wanted o (yielded ops a.tmps)=true from hw)];rcases h with h|⟨_,h2⟩
    .refine⟨λ_ _=>trivial,?_⟩;rw[Oper.semAt_eq _ _ _ a1];unfold Oper.wp at h;rw[d6c] at h;unfold Oper.upon at h;split at h
     .rename_i A;rw[A];rw[R0] at h;exact Kv Z hQ D U _ x _ (a0 _ _) h
     .rename_i A;rw[A];rw[R0] at h;exact Kv Z hQ D U _ x _ (a0 _ _) h
     .rename_i d w' A;rw[A,Oper.uponIn_defer];refine Kv Z hQ D U _ (d::x) _ (by grind[O0]) ?_;have e:Act.df (({ a with defers:=d::a.defers }:Act).put o.dst undef) (d::x)=({ Act.df a x with defers:=d::(Act.df a x).defers }:Act).put o.dst undef:=by
       cases o.dst<;>rfl
      grind
     .rename_i f args w' A;rw[A,Oper.uponIn_enter];refine⟨λh=>(by cases h),(a3t h).mono λe w2 he=>?_⟩
      cases e with
      | returned v=>dsimp only at he |-;rw[R0] at he;exact Kv Z hQ D U _ x _ (a0 _ _) he
      | panicked c=>exact⟨x,ha,he⟩
      | outgrown=>exact absurd he hQ
     .rename_i row args w' A;rw[A,Oper.uponIn_row];refine⟨λh=>(by cases h),(d6d h).mono λv w2 he=>?_⟩;rw[R0] at he;exact Kv Z hQ D U _ x _ (a0 _ _) he
     .rename_i v w' A;rw[A];exact⟨x,ha,h⟩
     grind
    grind
   .rename_i hw;rw[if_neg (show ¬Region.wanted o (yielded ops a.tmps)=true from hw)];refine⟨λ_ _=>trivial,Kv Z hQ D U _ x _ (a0 _ _) ?_⟩;grind[R0]
theorem d6e{next U:Act->World->Prop}{Q A:Exit->Act->World->Prop}(hn:∀a w,next a w->U a w)(hq:∀e a w,Q e a w->A e a w){F:Fence}{Z:Result Next}(h:o.uponIn F m P a next Q Z):o.uponIn F m P a U A Z:=by
 have hl:LetsOut Q->LetsOut A:=λ⟨a,w,h⟩=>⟨a,w,hq _ _ _ h⟩;unfold Oper.uponIn at h |-;split at h
 .grind
 .grind
 .grind
 .refine⟨h.1,h.2.mono λe w' D=>?_⟩;grind
 .exact⟨h.1,h.2.mono λv w' D=>hn _ _ D⟩
 .refine⟨h.1,h.2.mono λe w' D=>?_⟩;grind
 all_goals grind
theorem R1{F:Fence}{Q U:Exit->Act->World->Prop}(A:∀e a w,Q e a w->U e a w):∀(l:List Nat)(a:Act)(w:World),wpOpsIn F m P ops Q l a w->wpOpsIn F m P ops U l a w
 | [],a,w,h=>A _ _ _ h
 | i::l,a,w,h=>by
  unfold wpOpsIn at h |-
  cases Z:ops[i]? with
  | none=>rw[Z] at h;exact R1 A l a w h
  | some o =>
   rw[Z] at h;dsimp only at h |-;split at h
   .rename_i D;rw[if_pos D];exact⟨h.1,d6e (R1 A l) A h.2⟩
   .rename_i D;rw[if_neg D];exact⟨h.1,R1 A l _ _ h.2⟩
theorem d6f{id:Nat}(a0:∀B,A8 B G P callf)(hG:G=P.globals.size)(hI:Gq I)(hd:Az n (.region id ops true)=true)
  (s:StE B G n n0 ρ0 w0 x l I ρ fr ys p H a w) (D:Uu P callf ops fr ys p H≠.bad):(Code.region id ops true).wpIn (FR r) m P (Hx B G n n0 ρ0 w0 x l I (Uu P callf ops fr ys p H)) a w:=by
 unfold Uu at D |-;split at D
 .rename_i a1;split at D
  .rename_i a2 H' Q;split at D
   case h_2=>grind
   rename_i a3;refine wpIn_region_draw λt=>?_;have hq:¬LetsOut (Dk B G n H.next ρ w (Mf P callf ops fr H)):=by
    rintro⟨U,w',h⟩;rw[Q] at h;assumption
   have key:=Kv (r:=r) (m:=m) a1 hq a.defers _ a [] _ rfl (b2f (id:=id) a0 hG s.st hd (by grind) t);refine R1 ?_ _ _ _ key;rintro e U w' ⟨y,hy,h⟩;rw[Q] at h
   cases e with
   | normal =>
    obtain⟨Z,A⟩:=h;have a4:y=[]:=by
     have h1:DR Z a2.defers y:=A.frel.dfr;rw[a3] at h1;exact h1
    subst a4;refine⟨rfl,Z,λb hb=>(A.ext.same b (Xm hb s.le)).trans (s.same b hb),s.keeps.trans A.ext.keeps.kx,s.below.trans A.ext.below,A.sim,A.frel,Xa s.le A.le,?_,by simp⟩;have a5:U.defers=a.defers:=by grind
    rw[a5];exact hI _ _ _ _ _ _ s.inv A.ext.keeps A.ext.below.size (A.ext.sub s.sim)
   | _=>exact h.elim
  grind
 grind
end
section
variable {B G n n0 m l:Nat}{P:Program}{ρ0 ρ:Rn}{w0 w:World}{x r:Option Nat}{I:Inv}{fr:Fr}{ys:List Nat}{p:Option J}{H:Mem}{a:Act}
def LWR(r:Option Nat)(P:Program)(c:Code)(Q:Exit->Act->World->Prop)(a:Act)(w:World):Prop:=
 ∀(b:Frame)(k:List Item)(cs:List Frame),b.roundOf=r->∃e a' w',Q e a' w'/\ArrivesIn (Machine.fenced P (FR r)) P (lone (b.atR a (.code c::.inLoop c::k)) cs w) b k cs e a' w'
theorem b2n(n:Nat):(FR r).room n:=λ_ h=>by cases h
theorem b2o{b:Frame}{k:List Item}{cs:List Frame}(A:b.roundOf=r)(h:(b.atR a k).about P w=none):(lone (b.atR a k) cs w).fenced P (FR r):=fenced_calm (n:=0) (F:=FR r) trivial (b2n _) h
theorem LWR.wp{c:Code}{Q:Exit->Act->World->Prop}(h:LWR r P c Q a w):(Code.loop c).wpIn (FR r) m P Q a w:=
 λb k cs A _ _=>let ⟨e,D,U,q,s⟩:=h b k cs A;⟨e,D,U,q,.of_steps (.one (b2o A rfl) stepR_loop) s⟩
theorem LWR.unroll{c:Code}{Q:Exit->Act->World->Prop}(h:c.wpIn (FR r) m P (Exit.then (LWR r P c Q) Q) a w):LWR r P c Q a w:=by
 intro b k cs a0;obtain⟨e,U,Z,A,D⟩:=h b (.inLoop c::k) cs a0 trivial (b2n _)
 cases e with
 | normal =>
  obtain⟨a1,a2,a3,a4,a5⟩:=A b k cs a0;exact⟨a1,a2,a3,a4,.of_steps (StepsIn.trans D (.one (b2o a0 rfl) stepR_inLoop)) a5⟩
 | exit id=>exact⟨_,U,Z,A,.pass (x:=.inLoop c) rfl (λ_ _=>.inl (by simp)) D⟩
 | goto l=>exact⟨_,U,Z,A,.pass (x:=.inLoop c) rfl (λ_ _=>.inl (by simp)) D⟩
 | ret=>exact⟨_,U,Z,A,.pass (x:=.inLoop c) rfl (λ_ _=>.inl (by simp)) D⟩
 | panic ch=>exact⟨_,U,Z,A,.pass (x:=.inLoop c) rfl (λ_ _=>.inl (by simp)) D⟩
 | outgrown=>exact⟨_,U,Z,A,.pass (x:=.inLoop c) rfl (λ_ _=>.inl (by simp)) D⟩
def b2p(B G n n0:Nat)(P:Program)(r x:Option Nat)(l m:Nat)(I:Inv)(ex:KF)(c:Code):Prop:=
 ∀(ρ0:Rn)(w0:World)(ρ:Rn)(fr:Fr)(ys:List Nat) (p:Option J) (H:Mem) (a:Act) (w:World),Az n c=true->StE B G n n0 ρ0 w0 x l I ρ fr ys p H a w->ex fr ys p H≠.bad ->
  c.wpIn (FR r) m P (Hx B G n n0 ρ0 w0 x l I (ex fr ys p H)) a w
def a3x(B G n n0:Nat)(P:Program)(r x:Option Nat)(l:Nat)(I:Inv)(loopf:LFE):Prop:=
 ∀(b:Code)(ρ0:Rn)(w0:World)(ρ:Rn)(fr:Fr) (ys:List Nat) (p:Option J) (H:Mem) (a:Act) (w:World),Az n b=true->StE B G n n0 ρ0 w0 x l I ρ fr ys p H a w->loopf b fr ys p H≠.bad ->
  LWR r P b (Hx B G n n0 ρ0 w0 x l I (loopf b fr ys p H)) a w
theorem b2q{o:Ex}{k:KF}{K:Act->World->Prop}(a1:Mg o k≠.bad)
  (hk:∀Q U Z H' a0 A D,o=.norm Q U Z H'->StE B G n n0 ρ0 w0 x l I a0 Q U Z H' A D->k Q U Z H'≠.bad->K A D) :
  ∀e A D,Hx B G n n0 ρ0 w0 x l I o e A D->Exit.then K (Hx B G n n0 ρ0 w0 x l I (Mg o k)) e A D:=by
 intro e A D h
 cases o with
 | norm Q U Z H'=>obtain⟨rfl,a0,s'⟩:=h;exact hk _ _ _ _ a0 A D rfl s' a1
 | jump j Q U Z H' =>
  have h0:=h;obtain⟨rfl,a0,s'⟩:=h0;cases j<;>exact h
 | bad=>exact absurd rfl a1
theorem b2r{callf:CallF}{A:YF}{D:RF}{loopf:LFE}{b:Code}(Z:a3x B G n n0 P r x l I loopf)(hb:b2p B G n n0 P r x l m I (Cd P callf A D loopf b) b)(ρ0:Rn)(w0:World)(ρ:Rn)(fr:Fr)(ys:List Nat)(p:Option J)(H:Mem)(a:Act)(w:World)
  (Q:Az n b=true) (s:StE B G n n0 ρ0 w0 x l I ρ fr ys p H a w) (U:Mg (Cd P callf A D loopf b fr ys p H) (loopf b)≠.bad) :
  LWR r P b (Hx B G n n0 ρ0 w0 x l I (Mg (Cd P callf A D loopf b fr ys p H) (loopf b))) a w:=by
 have hr:Cd P callf A D loopf b fr ys p H≠.bad:=λh=>U (by rw[h];rfl);refine LWR.unroll (m:=m) (Code.wpIn_mono (b2q U λa0 a1 p' H' a2 a' w' a3 s' hk=>?_) (hb ρ0 w0 ρ fr ys p H a w Q s hr));rw[a3];exact Z b ρ0 w0 a2 a0 a1 p' H' a' w' Q s' hk
theorem Pg{callf:CallF}{U:YF}{Q:RF}{loopf:LFE}(a7:∀B,A8 B G P callf)(hG:G=P.globals.size)(hy:∀m,YOK B G P r x l m I U)(hI:Gq I)
  (a8:ROK B G n n0 P r x l m I Q) (hl:a3x B G n n0 P r x l I loopf):∀c:Code,b2p B G n n0 P r x l m I (Cd P callf U Q loopf c) c:=by
 intro c
 induction c with
 | skip=>intro ρ0 w0 ρ fr ys p H a w D s A;exact wpIn_skip ⟨rfl,ρ,s⟩
 | region id ops b0 =>
  intro ρ0 w0 ρ fr ys p H a w D s A
  cases b0 with
  | false =>
   refine wpIn_region_list (a3w (a7 B) hG hy hI A ops.toList fr ys p H ρ a w ?_ s rfl);exact λo ho=>W7.1 D o ho
  | true=>exact d6f a7 hG hI D s A
 | seq Z c2 a1 a2 =>
  intro ρ0 w0 ρ fr ys p H a w D s A;have he:Cd P callf U Q loopf (.seq Z c2) fr ys p H=Mg (Cd P callf U Q loopf Z fr ys p H) (Cd P callf U Q loopf c2):=rfl;rw[he] at A |-;simp only[Az,W1] at D;have hr:Cd P callf U Q loopf Z fr ys p H≠.bad:=λh=>A (by rw[h];rfl);refine wpIn_seq (Code.wpIn_mono (b2q A λa3 a4 p' H' a0 a' w' b1 s' hk=>?_) (a1 ρ0 w0 ρ fr ys p H a w D.1 s hr));rw[b1];exact a2 ρ0 w0 a0 a3 a4 p' H' a' w' D.2 s' hk
 | cond a9 Z c2 a1 a2 =>
  intro ρ0 w0 ρ fr ys p H a w D s A;simp only[Az,W1] at D
  have he:Cd P callf U Q loopf (.cond a9 Z c2) fr ys p H=(match fr.ev a9 with
   | some (.lit (.bool true))=>Cd P callf U Q loopf Z fr ys p H
   | some (.lit (.bool false))=>Cd P callf U Q loopf c2 fr ys p H
   | _=>.bad):=rfl
  rw[he] at A |-;split at A
  .rename_i a5;exact wpIn_cond_true (s.ev _ _ a5) (a1 ρ0 w0 ρ fr ys p H a w D.1 s A)
  .rename_i a5;exact wpIn_cond_false (s.ev _ _ a5) (a2 ρ0 w0 ρ fr ys p H a w D.2 s A)
  grind
 | block id b ih =>
  intro ρ0 w0 ρ fr ys p H a w D s A;have he:Cd P callf U Q loopf (.block id b) fr ys p H=a3s id (Cd P callf U Q loopf b fr ys p H):=rfl;rw[he] at A |-;have hr:Cd P callf U Q loopf b fr ys p H≠.bad:=λh=>A (by rw[h];rfl);refine wpIn_block (Code.wpIn_mono ?_ (ih ρ0 w0 ρ fr ys p H a w D s hr));intro e a' w' h;generalize Cd P callf U Q loopf b fr ys p H=o at h A |-
  cases o with
  | norm a3 a4 p' H'=>obtain⟨rfl,h'⟩:=h;exact⟨rfl,h'⟩
  | jump j a3 a4 p' H' =>
   obtain⟨rfl,a0,s'⟩:=h
   cases j with
   | none=>exact⟨rfl,a0,s'⟩
   | some b2 =>
    unfold a3s;dsimp only[jexit];split
    .rename_i hb;have:=Xe hb;subst this;simp only[Exit.inBlock,if_true];exact⟨rfl,a0,s'⟩
    .rename_i hb;have b3:b2≠id:=by intro h0;simp_all
     simp only[Exit.inBlock,b3,if_false];exact⟨rfl,a0,s'⟩
  | bad=>exact absurd rfl A
 | loop b ih =>
  intro ρ0 w0 ρ fr ys p H a w D s A;exact(b2r hl ih ρ0 w0 ρ fr ys p H a w D s A).wp
 | rangeFunc g ps Z c2 a1 a2 =>
  intro ρ0 w0 ρ fr ys p H a w D s A
  cases ys with
  | cons y ys=>exact absurd rfl A
  | nil =>
   have he:Cd P callf U Q loopf (.rangeFunc g ps Z c2) fr [] p H=(match Q g ps Z c2 fr H with
    | .ok none H'=>.norm fr [] p H'
    | .ok (some j) H'=>.jump j fr [] p H'
    | .bad=>.bad):=rfl
   rw[he] at A |-;split at A
   .rename_i H' a6;exact a8 _ _ _ _ _ _ _ _ a6 ρ0 w0 ρ p a w s
   .rename_i j H' a6;exact a8 _ _ _ _ _ _ _ _ a6 ρ0 w0 ρ p a w s
   grind
 | exit id=>intro ρ0 w0 ρ fr ys p H a w D s A;exact wpIn_exit ⟨rfl,ρ,s⟩
 | scope b ih=>intro ρ0 w0 ρ fr ys p H a w D s A;exact absurd rfl A
 | label l=>intro ρ0 w0 ρ fr ys p H a w D s A;exact wpIn_label ⟨rfl,ρ,s⟩
 | goto l=>intro ρ0 w0 ρ fr ys p H a w D s A;exact absurd rfl A
 | ret=>intro ρ0 w0 ρ fr ys p H a w D s A;exact wpIn_ret ⟨rfl,ρ,s⟩
 | refuse b4=>intro ρ0 w0 ρ fr ys p H a w D s A;exact absurd rfl A
theorem Ny{callf:CallF}{U:YF}{Z:RF}(h:∀B,A8 B G P callf)(hG:G=P.globals.size)(hy:∀m,YOK B G P r x l m I U)(A:Gq I)
  (D:∀m,ROK B G n n0 P r x l m I Z):∀k,a3x B G n n0 P r x l I (Iu P callf U Z k)
 | 0=>λb ρ0 w0 ρ fr ys p H a w hd s Q=>absurd rfl Q
 | k+1=>λb ρ0 w0 ρ fr ys p H a w hd s Q=>b2r (m:=0) (Ny h hG hy A D k) (Pg h hG hy A (D 0) (Ny h hG hy A D k) b) ρ0 w0 ρ fr ys p H a w hd s Q
end
end Go.Ai
