/- Parts of an interpreter and of a proof. No condition. -/
import Derived.Lib.Builder
import Derived.Laws.Externs
import Derived.RangeFuncRecord
import Derived.RangeFuncIn
import Derived.TacticsIn
import Derived.Test.YtpimmmnkcgnjjaaGreatK05
import Derived.Test.YtpimmmnkcgnjjaaGreatK02
set_option linter.all false
open Go.RowKit (Below)
namespace Go.Ai
variable {O I:Int}
structure BH (T:Tq) (next n i:Nat):Prop where
 lo:1<=next
 hi:next<=T.length
 a:∀t,1<=t->t<next->∃p j,(p<n\/p=n/\j<i)/\EdT T p j t
 b:∀p j t,(p<n\/p=n/\j<i)->EdT T p j t->t<next
theorem d4y{T:Tq}(f:∀r∈T,∀e∈r,okE T.length O e=true){n i:Nat}{e:Int×Int}(h:(T.getD n [])[i]?=some e):
  (1<=e.1/\e.1<T.length/\0<=e.2/\e.2<O)\/(e.1 = -1/\(e.2 = -1\/e.2 = -2)):=by
 obtain⟨hi,h⟩:=W8.1 h;have:=f _ (b1o (d:=[]) (Ru hi)) e (h ▸ W2 hi);unfold okE at this;grind
theorem a3g {T:Tq} (hok:∀ r∈T,∀ e∈r,okE T.length O e=true) (W:Wq)
  (hL:∀ p j t,EdT T p j t->t<T.length/\1<=t/\W.getD t []=W.getD p []++[(j:Int)]) (hC:∀ t,1<=t->t<T.length->∃ p j,EdT T p j t)
  (hI:∀ a b,a<b->b<T.length->SL (W.getD a []) (W.getD b [])) (n:Nat) :
  ∀ (es:List (Int×Int)) (i next:Nat),es=(T.getD n []).drop i->BH T next n i->∃ nx,goE O es next=some nx/\BH T nx n (T.getD n []).length
 | [],i,next,he,hb=>by
  have hle:(T.getD n []).length<=i:=e7c.1 he.symm;refine⟨next,rfl,hb.lo,hb.hi,fun t h1 h2=>?_,fun p j t h hE=>hb.b p j t (by omega) hE⟩;obtain⟨p,j,h,hE⟩:=hb.a t h1 h2;refine⟨p,j,?_,hE⟩;rcases h with h|⟨h,-⟩
  ·grind
  ·subst h;obtain⟨e,he,-⟩:=hE;grind
 | e :: es,i,next,he,hb=>by
  have hi:i<(T.getD n []).length:=by
   grind[List.drop_eq_nil_iff]
  have hcons:=Xh hi;rw[hcons] at he;injection he with he1 he2;have hei:(T.getD n [])[i]?=some e:=by grind
  have hnT:n<T.length:=Ru hi;unfold goE;rcases d4y hok hei with⟨o1,o2,o3,o4⟩|⟨o1,o2⟩
  ·obtain⟨t,ht⟩ : ∃ t:Nat,e.1=(t:Int):=⟨e.1.toNat,by omega⟩;have hE:EdT T n i t:=⟨e,hei,ht⟩;obtain⟨hl1,hl2,hl3⟩:=hL n i t hE;have hge:next<=t:=by
    by_cases h:next<=t
    ·exact h
    ·obtain⟨p,j,hbef,hE2⟩:=hb.a t hl2 (by omega);have h3:=(hL p j t hE2).2.2;rw[hl3] at h3;obtain⟨h4,h5⟩:=List.append_inj' h3 rfl;grind[SL.irrefl]
   have hle:t<=next:=by
    by_cases h:t<=next
    ·exact h
    ·obtain⟨p,j,hE2⟩:=hC next hb.lo (by omega);have h3:=(hL p j next hE2).2.2;have h4:=hI next t (by omega) hl1;rw[hl3,h3] at h4;by_cases h5:p<n\/p=n/\j<i
     ·have:=hb.b p j next h5 hE2;omega
     ·by_cases h6:p=n
      ·subst h6;by_cases h7:j=i
       ·subst h7;have:=hE.fun hE2;omega
       ·have h8:=SL.last (W.getD p []) (i:=(i:Int)) (j:=(j:Int)) (by omega);exact absurd (h4.trans h8) SL.irrefl
      ·have h8:=SL.app (hI n p (by omega) hE2.lt) (i:Int) (j:Int);exact absurd (h4.trans h8) SL.irrefl
   have htn:t=next:=by omega
   subst htn;have hed:Cy O t e=some (t+1):=by
    simp_all[Cy]
   rw[hed];refine a3g hok W hL hC hI n es (i+1) (t+1) he2 ⟨by omega,by omega,fun u h1 h2=>?_,fun p j u h hE2=>?_⟩
   ·by_cases hu:u=t
    ·grind
    ·obtain⟨p,j,h,hE2⟩:=hb.a u h1 (by omega);grind
   ·by_cases hpi:p=n/\j=i
    ·obtain⟨rfl,rfl⟩:=hpi;have:=hE.fun hE2;omega
    ·have:=hb.b p j u (by omega) hE2;omega
  ·have hed:Cy O next e=some next:=by
    simp_all[Cy]
   rw[hed];refine a3g hok W hL hC hI n es (i+1) next he2 ⟨hb.lo,hb.hi,fun u h1 h2=>?_,fun p j u h hE2=>?_⟩
   ·obtain⟨p,j,h,hE2⟩:=hb.a u h1 h2;grind
   ·by_cases hpi:p=n/\j=i
    ·obtain⟨rfl,rfl⟩:=hpi;obtain⟨f,hf,hf2⟩:=hE2;grind
    ·exact hb.b p j u (by omega) hE2
theorem b1t{T:Tq}(a0:∀r∈T,(r.length:Int)=I)(a3:∀r∈T,∀e∈r,okE T.length O e=true)(W:Wq)
  (Z:∀p j t,EdT T p j t->t<T.length/\1<=t/\W.getD t []=W.getD p []++[(j:Int)]) (hC:∀t,1<=t->t<T.length->∃p j,EdT T p j t)
  (hI:∀a b,a<b->b<T.length->SL (W.getD a []) (W.getD b [])) :
  ∀(rows:Tq)(n next:Nat),rows=T.drop n->n<=T.length->BH T next n 0->goT I O rows n next=some T.length
 | [],n,next,Q,hn,A=>by
  have a8:T.length<=n:=e7c.1 Q.symm;unfold goT;by_cases h:next=T.length
  .rw[h]
  .obtain⟨p,j,f⟩:=hC next A.lo (by have:=A.hi;omega);have:=A.b p j next (.inl (by have:=f.lt;omega)) f;omega
 | row::rows,n,next,Q,hn,A=>by
  have hi:n<T.length:=by
   grind
  rw[Xh hi] at Q;injection Q with a4 a5;have a9:T.getD n []=row:=by grind
  have a6:n<next:=by
   by_cases h0:n=0
   .have:=A.lo;omega
   .obtain⟨p,j,f⟩:=hC n (by omega) hi;have h3:=(Z p j n f).2.2;have a7:p<n:=by
     by_cases h:p<n
     .exact h
     .have hl:(W.getD n []).length<=(W.getD p []).length:=by
       by_cases e:n=p
       .grind
       .exact(hI n p (by omega) f.lt).le
      grind
    exact A.b p j n (.inl a7) f
  obtain⟨nx,h1,U⟩:=a3g a3 W Z hC hI n row 0 next (by grind) A;unfold goT;rw[if_pos ⟨a0 _ (a4 ▸ W2 hi),a6⟩,h1];show goT I O rows (n+1) nx=_;refine b1t a0 a3 W Z hC hI rows (n+1) nx a5 (by omega) ⟨U.lo,U.hi,λt a1 a2=>?_,λp j t h f=>?_⟩
  .obtain⟨p,j,h,f⟩:=U.a t a1 a2;grind
  .refine U.b p j t ?_ f;by_cases hp:p=n
   .subst hp;obtain⟨e,Q,-⟩:=f;grind
   grind
def F0(len:Nat)(ws:Wq):Wq:=ws++List.replicate (len-ws.length) []
def Hp(len k:Nat):List Bool:=List.replicate k true++List.replicate (len-k) false
def stW(len:Nat)(ws:Wq):WSt:=⟨F0 len ws,Hp len ws.length,ws.length⟩
theorem Uw(len:Nat)(ws:Wq)(m:Nat):(F0 len ws).getD m []=ws.getD m []:=by
 grind[F0]
theorem a3h(len k m:Nat):(Hp len k).getD m false=decide (m<k):=by
 unfold Hp;grind
theorem d4z(len:Nat)(ws:Wq)(w:Wd)(h:ws.length<len):(F0 len ws).set ws.length w=F0 len (ws++[w]):=by
 unfold F0;rw[e8e _ _ (Wy _),e6n,show len-ws.length=(len-(ws++[w]).length)+1 by grind,e7m,e8g];simp
theorem d5a(len k:Nat)(h:k<len):(Hp len k).set k true=Hp len (k+1):=by
 unfold Hp;rw[e8e _ _ (by simp),e8x,e6n,show len-k=(len-(k+1))+1 by omega,e7m,e8g,List.replicate_succ'];simp
theorem Rv:∀{es:List (Int×Int)} {next f:Nat},goE O es next=some f->next<=f
 | [],_,_,h=>by simp_all[goE]
 | e::es,next,f,h=>by
  unfold goE at h
  cases A:Cy O next e with
  | none=>grind
  | some k =>
   rw[A] at h;have Q:=Rv (es:=es) h
   (simp_all[Cy];grind)
theorem Rw:∀{rows:Tq}{n next k:Nat},goT I O rows n next=some k->next<=k
 | [],_,_,_,h=>by simp_all[goT]
 | r::rows,n,next,k,h=>by
  unfold goT at h;split at h
  .cases f:goE O r next with
   | none=>grind
   | some j =>
    rw[f] at h;have A:=Rw (rows:=rows) h;have Q:=Rv f;omega
  grind
theorem a3i{len:Nat}:∀{es:List (Int×Int)} {next U:Nat},goE O es next=some U->1<=next->U<=len->∀e∈es,okE len O e=true
 | [],_,_,_,_,_=>λe A=>by grind
 | e::es,next,U,h,h1,Z=>by
  unfold goE at h
  cases A:Cy O next e with
  | none=>grind
  | some k =>
   rw[A] at h;have h3:=Rv (es:=es) h;unfold Cy at A;intro f Q;split at A
   .rename_i hc;cases A;rcases Xb.1 Q with rfl|Q
    .simp_all[okE]
    .exact a3i (es:=es) h h1 Z f Q
   .split at A
    .rename_i hc;cases A;rcases Xb.1 Q with rfl|Q
     .unfold okE;grind
     .exact a3i (es:=es) h (by omega) Z f Q
    grind
theorem Pc{len:Nat}:∀{rows:Tq}{n next k:Nat},goT I O rows n next=some k->1<=next->k<=len->∀r∈rows,(r.length:Int)=I/\∀e∈r,okE len O e=true
 | [],_,_,_,_,_,_=>λr f=>by grind
 | row::rows,n,next,k,h,Q,U=>by
  unfold goT at h;split at h
  .rename_i Z
   cases A:goE O row next with
   | none=>grind
   | some j =>
    rw[A] at h;have h3:=Rw (rows:=rows) h;have h4:=Rv A;intro r f;rcases Xb.1 f with rfl|f
    .exact⟨Z.1,a3i A Q (by omega)⟩
    .exact Pc (rows:=rows) h (by omega) U r f
  grind
def Srt(ws:Wq):Prop:=∀a b,a<b->b<ws.length->SL (ws.getD a []) (ws.getD b [])
def Fro(ws:Wq)(n i:Nat):Prop:=∀m,m<ws.length->SL (ws.getD m []) (ws.getD n []++[(i:Int)])
theorem Rx{f:Type}(l k:List f)(d:f){m:Nat}(h:m<l.length):(l++k).getD m d=l.getD m d:=by
 grind
theorem d5b{f:Type}(l:List f)(x d:f):(l++[x]).getD l.length d=x:=by
 grind
theorem a3j{len:Nat}(r n:Nat):∀(es:List (Int×Int)) (i:Nat) (ws:Wq) (f:Nat),goE O es ws.length=some f->f<=len->1<=ws.length->n<ws.length->(ws.getD n []).length=r->Srt ws->Fro ws n i ->
  ∃ext,wI r n es i (stW len ws)=some (stW len (ws++ext))/\(ws++ext).length=f/\(∀w∈ext,w.length=r+1)/\Srt (ws++ext)/\Fro (ws++ext) n (i+es.length)
 | [],i,ws,f,h,_,_,_,_,U,Z=>by
  unfold goE at h;cases h;exact⟨[],by rw[e5x];rfl,by simp,λw hw=>(by grind),by grind,by grind⟩
 | e::es,i,ws,f,h,a7,a9,hn,hr,U,Z=>by
  unfold goE at h;have a8:Fro ws n (i+1):=λm hm=>(Z m hm).trans (Y0 _ (by omega))
  cases A:Cy O ws.length e with
  | none=>grind
  | some k =>
   rw[A] at h;have h3:=Rv (es:=es) h;have b0:(stW len ws).seen.getD n false=true/\((stW len ws).out.getD n []).length=r:=⟨by show (Hp len ws.length).getD n false=true;grind[a3h],by show ((F0 len ws).getD n []).length=r;grind[Uw]⟩;unfold Cy at A;unfold wI;rw[if_pos b0];split at A
   .rename_i hc;cases A;rw[if_pos hc.1];obtain⟨ext,a1,a2,a3,a4,a5⟩:=a3j r n es (i+1) ws f h a7 a9 hn hr U a8;grind
   .split at A
    .rename_i hc;cases A;have b1:e.1.toNat=ws.length:=by omega
     have b6:ws.length<len:=by omega
     have b2:(⟨(stW len ws).out.set e.1.toNat ((stW len ws).out.getD n []++[(i:Int)]),(stW len ws).seen.set e.1.toNat true,(stW len ws).many+1⟩:WSt)=stW len (ws++[ws.getD n []++[(i:Int)]]):=by
      show (⟨(F0 len ws).set e.1.toNat ((F0 len ws).getD n []++[(i:Int)]),(Hp len ws.length).set e.1.toNat true,ws.length+1⟩:WSt)=⟨F0 len (ws++[ws.getD n []++[(i:Int)]]),Hp len (ws++[ws.getD n []++[(i:Int)]]).length,(ws++[ws.getD n []++[(i:Int)]]).length⟩;grind[d5a,d4z,Uw]
     rw[if_neg (by omega),if_neg (by rw[b1];show ¬(Hp len ws.length).getD ws.length false=true;grind[a3h]),b2];have a0:(ws++[ws.getD n []++[(i:Int)]]).length=ws.length+1:=by simp
     have b3:(ws++[ws.getD n []++[(i:Int)]]).getD n []=ws.getD n []:=Rx _ _ _ hn;have b4:Srt (ws++[ws.getD n []++[(i:Int)]]):=λa b a6 hb=>by
      rw[a0] at hb;by_cases Q:b<ws.length
      .rw[Rx _ _ _ Q,Rx _ _ _ (by omega)];exact U a b a6 Q
      .have:b=ws.length:=by omega
       subst this;rw[d5b,Rx _ _ _ a6];exact Z a a6
     have b5:Fro (ws++[ws.getD n []++[(i:Int)]]) n (i+1):=λm hm=>by
      rw[a0] at hm;rw[b3];by_cases Q:m<ws.length
      .rw[Rx _ _ _ Q];exact a8 m Q
      grind[SL.last]
     obtain⟨ext,a1,a2,a3,a4,a5⟩:=a3j r n es (i+1) (ws++[ws.getD n []++[(i:Int)]]) f (by rw[a0];exact h) a7 (by omega) (by omega) (by grind) b4 b5;grind
    grind
theorem b1u(r:Nat):∀(l1 f:Tq)(n:Nat)(st:WSt),wN r (l1++f) n st=match wN r l1 n st with
  | none=>none
  | some s=>wN r f (n+l1.length) s
 | [],f,n,st=>rfl
 | row::l1,f,n,st=>by
  show (match wI r n row 0 st with|none=>none|some s=>wN r (l1++f) (n+1) s)=match (match wI r n row 0 st with|none=>none|some s=>wN r l1 (n+1) s) with|none=>none|some s=>wN r f (n+(row::l1).length) s
  cases wI r n row 0 st with
  | none=>rfl
  | some s =>
   show wN r (l1++f) (n+1) s=match wN r l1 (n+1) s with|none=>none|some s=>wN r f (n+(row::l1).length) s
   rw[b1u r l1 f (n+1) s,show n+1+l1.length=n+(row::l1).length by simp;omega]
theorem a3k(r:Nat)(st:WSt):∀(l:Tq)(n:Nat),(∀m,n<=m->m<n+l.length->¬(st.seen.getD m false=true/\(st.out.getD m []).length=r))->wN r l n st=some st
 | [],n,_=>rfl
 | row::l,n,h=>by
  unfold wN;have f:=h n (Wy _) (by simp);have:wI r n row 0 st=some st:=by
   cases row with
   | nil=>rfl
   | cons e es=>simp_all[wI]
  rw[this];exact a3k r st l (n+1) λm A Q=>h m (by omega) (by simp;omega)
theorem b1v {I O:Int} {T:Tq} (r:Nat) : ∀ (k n:Nat) (ws:Wq),n+k≤T.length→n+k≤ws.length→goT I O (T.drop n) n ws.length=some T.length →
  (∀ m,n≤m→m < n+k→(ws.getD m []).length=r)→Srt ws→(n < ws.length→Fro ws n 0) →
  ∃ ext,wN r ((T.drop n).take k) n (stW T.length ws)=some (stW T.length (ws++ext))∧goT I O (T.drop (n+k)) (n+k) (ws++ext).length=some T.length∧(∀ w∈ext,w.length=r+1)∧Srt (ws++ext)∧(n+k < (ws++ext).length→Fro (ws++ext) (n+k) 0)
 | 0,n,ws,_,_,hg,_,hs,hf=>⟨[],by rw [e5x]; rfl,by grind,fun w hw=>(by grind),by grind,by grind⟩
 | k+1,n,ws,hk,hkw,hg,hr,hs,hf=>by
  have hn:n < T.length:=by omega
  have hnw:n < ws.length:=by omega
  rw [Xh hn] at hg;rw [Xh hn,List.take_succ_cons];unfold goT at hg;split at hg
  ·rename_i hc
   cases he:goE O T[n] ws.length with
   | none=>grind
   | some j =>
    rw [he] at hg;have hj:=Rw (rows:=T.drop (n+1)) hg;obtain ⟨e1,a1,a2,a3,a4,a5⟩:=a3j (len:=T.length) r n T[n] 0 ws j he hj (by omega) hnw (hr n (Wy _) (by omega)) hs (hf hnw);have hf1:n+1 < (ws++e1).length→Fro (ws++e1) (n+1) 0:=fun h m hm=>(a5 m hm).trans ((a4 n (n+1) (by omega) h).app _ _);have h4:goT I O (T.drop (n+1)) (n+1) (ws++e1).length=some T.length:=by grind
    obtain ⟨e2,b1,b2,b3,b4,b5⟩:=b1v (I:=I) (O:=O) (T:=T) r k (n+1) (ws++e1) (by omega) (by grind) h4 (fun m h1 h2=>by grind) a4 hf1;grind [wN]
  grind
theorem b1w{T:Tq}{n:Nat}(h:goT I O (T.drop n) n n=some T.length):n=T.length:=by
 by_cases f:n<T.length
 .rw[Xh f] at h;simp_all[goT]
 grind[goT,List.drop_eq_nil_iff]
theorem b1x{T:Tq}:∀(k r lo:Nat)(ws:Wq),k+r=T.length->r<=lo->lo<=ws.length->lo<=T.length->goT I O (T.drop lo) lo ws.length=some T.length ->
  (∀m,m<lo->(ws.getD m []).length<r)->(∀m,lo<=m->m<ws.length->(ws.getD m []).length=r)->Srt ws->(lo<ws.length->Fro ws lo 0) ->
  ∃W,wR T k r (stW T.length ws)=some (stW T.length W)/\W.length=T.length/\Srt W
 | 0,r,lo,ws,hk,a0,a1,a2,f,_,_,hs,_=>by
  rw[e7c.2 (by omega)] at f;unfold goT at f;exact⟨ws,rfl,by grind,hs⟩
 | k+1,r,lo,ws,hk,a0,a1,a2,f,a6,a3,hs,hf=>by
  have a4:=Rw f;obtain⟨ext,b1,Q,b3,b4,b5⟩:=b1v (T:=T) r (ws.length-lo) lo ws (by omega) (by omega) f (λm U A=>a3 m U (by omega)) hs hf;rw[show lo+(ws.length-lo)=ws.length by omega] at Q b5;have hT:T=T.take lo++((T.drop lo).take (ws.length-lo)++T.drop ws.length):=by
   have U:T.drop ws.length=(T.drop lo).drop (ws.length-lo):=by simp_all
   grind[List.take_append_drop]
  have a5:wN r T 0 (stW T.length ws)=some (stW T.length (ws++ext)):=by
   have e1:wN r (T.take lo) 0 (stW T.length ws)=some (stW T.length ws):=a3k r _ _ _ λm _ A=>by
    rw[Xa] at A;rintro⟨-,Z⟩;have h4:((F0 T.length ws).getD m []).length=r:=Z;grind[Uw]
   have e2:wN r (T.drop ws.length) ws.length (stW T.length (ws++ext))=some (stW T.length (ws++ext)):=a3k r _ _ _ λm U A=>by
    rintro⟨Z,h4⟩;have h5:(Hp T.length (ws++ext).length).getD m false=true:=Z;have h6:((F0 T.length (ws++ext)).getD m []).length=r:=h4;rw[a3h] at h5;rw[Uw] at h6;grind
   have a7:0+(T.take lo).length=lo:=by grind
   have a8:lo+((T.drop lo).take (ws.length-lo)).length=ws.length:=by grind
   grind[b1u]
  unfold wR;rw[a5];show ∃W,(if (ws++ext).length=ws.length then some (stW T.length (ws++ext)) else wR T k (r+1) (stW T.length (ws++ext)))=some (stW T.length W)/\W.length=T.length/\Srt W;by_cases he:(ws++ext).length=ws.length
  .rw[if_pos he];rw[he] at Q;exact⟨ws++ext,rfl,by grind[b1w],b4⟩
  .rw[if_neg he];have a9:lo<ws.length:=by
    by_cases h:lo<ws.length
    .exact h
    .have e:ws.length=lo:=by omega
     have A:ws.length=T.length:=by
      grind[b1w]
     have Z:=Rw Q;grind
   refine b1x k (r+1) ws.length (ws++ext) (by omega) (by omega) (by grind) a4 Q (λm hm=>?_) (λm U A=>?_) b4 b5
   all_goals grind
theorem d5c(I O:Int)(T:Tq):D5 I O T=a3d I O T:=by
 unfold D5 a3d;split
 .rfl
 split
 .rfl
 rename_i a6 a7;have Q:1<=T.length:=by omega
 congr 1;refine propext ⟨λh=>?_,λh=>?_⟩
 .have f:=Pc (len:=T.length) h (Wy _) (Wy _);obtain⟨W,U,a2,a3⟩:=b1x (I:=I) (O:=O) (T:=T) T.length 0 0 [[]] rfl (Wy _) (by simp) (by omega) h (λm A=>by omega) (λm _ A=>by
   grind) (λa b Z hb=>by grind) (λ_ m A=>by
   grind[SL.nil])
  have a0:stW T.length [[]]=Fz T.length:=by
   unfold stW Fz F0 Hp;obtain⟨m,A⟩:∃m,T.length=m+1:=⟨T.length-1,by omega⟩;grind
  rw[a0] at U;have hW:Bk T=W:=by
   unfold Bk;rw[U];show (if W.length<T.length then [] else F0 T.length W)=W;simp_all[F0]
  rw[hW,a2,decide_eq_true rfl,e7s,W0];refine⟨W7.2 λr hr=>?_,d4n λn hn=>a3 n (n+1) (by omega) hn⟩;grind
 .rw[W0,W0] at h;obtain⟨⟨h2,h3⟩,h4⟩:=h;have a4:(Bk T).length=T.length:=of_decide_eq_true h3;have a5:∀r∈T,(r.length:Int)=I:=λr hr=>by
   grind
  have f:∀r∈T,∀e∈r,okE T.length O e=true:=λr hr e he=>by
   grind
  obtain⟨hL,hC⟩:=b1s f Q a4;refine b1t a5 f (Bk T) hL hC (λa b Z hb=>b1n h4 a b Z (by omega)) T 0 1 rfl (by omega) ⟨Wy _,Q,λt a b=>by omega,λp j t h _=>by omega⟩
section
variable {P:Program}{H:Mem}{ev:Ev}{d:Option Tmp}{ty:TypeId}{p:String}{af:Array Edge}{g:Option (Nat×Bool)}
variable {i:Int}{n c:Nat}{k:IntKind}
theorem b1y(f:0<=i)(h:i.toNat<=n)(A:n<=c):C2 (some (.lit (.int k i))) none none n c=some (i.toNat,n,c):=by
 simp_all[Iz,C2,Ik,e6q,Oe]
theorem b1z{t:TypeId}{x lo:Operand}{a off sz:Nat}{hx:ev x=some (.slq a off n c)}{hh:ev lo=some (.lit (.int k i))}(f:Bp P t=some (none,sz))(h:0<=i)(U:i.toNat<n):
  ex2 P H ev ⟨d,.slice t x (some lo) none none,ty,p,af,g⟩ x lo (some (.slq a off n c)) (some (.lit (.int k i))) hx hh=.val (.slq a (off+i.toNat*sz) (n-i.toNat) (c+i.toNat)) H:=by
 show opV P H ev _=_;rw[Uh hx rfl];obtain⟨e,Z,A,Q,h5⟩:=Jn f;unfold Gg Er;dsimp only;rw[hh];dsimp only;rw[L4 A Q];unfold I1;dsimp only;rw[b1y h (by omega) (Wy n)];grind[S3,Nat.ble_eq_true_of_le,Nat.blt,ofOpt,Dy]
theorem d5d{t:TypeId}{x lo:Operand}{a off sz:Nat}{hx:ev x=some (.sl a off n c)}{hh:ev lo=some (.lit (.int k i))}(f:Bp P t=some (none,sz))(Q:0<=i)(U:i.toNat<n)(Z:n<=c):
  ex2 P H ev ⟨d,.slice t x (some lo) none none,ty,p,af,g⟩ x lo (some (.sl a off n c)) (some (.lit (.int k i))) hx hh=.val (.sl a (off+i.toNat*sz) (n-i.toNat) (c-i.toNat)) H:=by
 show opV P H ev _=_;rw[Uh hx rfl];obtain⟨e,i',h,A,h5⟩:=Jn f;unfold Gg Er;dsimp only;rw[hh];dsimp only;rw[L4 h A];grind[I1,b1y,I0,Nat.eq_of_beq_eq_true,ofOpt,Dy]
end
theorem Af.lo{P:Program}{g:Gb}{b len sz:Nat}{sv:AV}{cs:List AV}{t:TypeId}(he:Bp P t=some (none,sz))(h:Af g b sv len cs)(hc:Av sv){k:Nat}(hk:k<len)(a0:cs.length=len*sz):
  ∃Q,Af g b Q (len-k) (cs.drop (k*sz))/\∀{H:Mem}{ev:Ev}{d:Option Tmp}{ty:TypeId}{p:String} {af:Array Edge} {gd:Option (Nat×Bool)} {x lo:Operand} {hx:ev x=some sv} {hl:ev lo=some (.li (k:Int))},
   ex2 P H ev ⟨d,.slice t x (some lo) none none,ty,p,af,gd⟩ x lo (some sv) (some (.li (k:Int))) hx hl=.val Q H:=by
 obtain⟨f,A,c,l,own,z,U,hv,hg,a1,a3⟩:=h.lenOf' (by omega);have a4:k*sz<=cs.length:=by rw[a0];exact e7v _ (by omega)
 have Z:Row g f (A+k*sz) (cs.drop (k*sz)):=by
  refine⟨l,own,z,hg,by grind,?_⟩;grind[List.drop_drop,List.drop_take]
 rcases hv with rfl|rfl
 .have a5:len<=c:=hc f A len c rfl;refine⟨.sl f (A+k*sz) (len-k) (c-k),.inr ⟨f,A+k*sz,U,.inl ⟨_,rfl⟩,Z⟩,?_⟩;simp_all[d5d]
 .refine⟨.slq f (A+k*sz) (len-k) (c+k),.inr ⟨f,A+k*sz,U,.inr ⟨_,rfl⟩,Z⟩,?_⟩;simp_all[b1z]
section
variable {P:Program}{H:Mem}{ev:Ev}{d:Option Tmp}{ty:TypeId}{p:String}{af:Array Edge}{g:Option (Nat×Bool)}
noncomputable def Ux(P:Program)(s t:TypeId):Option (Nat×Nat×List AV):=match Fp P s,S8 P (some t),Wu P (some t) with
 | some (e,size,bytes),false,true=>(Br P e).map λz=>(size,bytes,z)
 | _,_,_=>none
theorem d5e{x y:Operand}{s t:TypeId}{n size bytes:Nat}{z:List AV}(hx:ev x=some (.nl))(hy:ev y=some (.li (n:Int)))(h:Ux P s t=some (size,bytes,z))(a3:0<n)(hn:n<=1048576)(hs:0<size)(hb:bytes<=1048576)(f:z.length=size):
  opV P H ev ⟨d,.call ⟨.builtin .append,#[x,y],#[s,t]⟩,ty,p,af,g⟩=.val (.slq H.next 0 n 0) (H.add (.cells (rep z n) true size)):=by
 show Bj P H ev _ ⟨.builtin .append,#[x,y],#[s,t]⟩=_;unfold Bj;have A:Be ev (#[x,y]:Array Operand).toList=some [.nl,.li (n:Int)]:=by
  simp_all
 rw[A];dsimp only;unfold E7;dsimp only;unfold P9;dsimp only;have e2:(#[s,t]:Array TypeId)[0]?=some s:=rfl;have e3:(#[s,t]:Array TypeId)[1]?=some t:=rfl;rw[e2,e3];dsimp only;unfold append;unfold Ux at h;split at h
 .rename_i e sz a4 Q U Z;obtain⟨z',a0,h'⟩:=Xq.1 h;cases h';rw[Q,U];dsimp only;rw[Z];dsimp only;unfold Wv;rw[Ik (by omega)];obtain⟨j,rfl⟩:∃j,n=j+1:=⟨n-1,by omega⟩;rw[e7b];have a1:Nat.beq size 0=false:=by
   grind[Nat.eq_of_beq_eq_true]
  have a2:(Nat.ble (j+1) 1048576&&Nat.ble bytes 1048576)=true:=by simp_all
  show (match (match Nat.beq size 0,Nat.ble (j+1) 1048576&&Nat.ble bytes 1048576,Br P e with|false,true,some z=>Dx H size bytes (j+1) (.nl) (rep z (j+1))|_,_,_=>none) with|some (v,H)=>R.val v H|none=>.bad)=_;rw[a1,a2,a0];dsimp only;unfold Dx;rw[C3,Fj,f,e8c];simp_all[S6,Q4,Q5]
 grind
theorem d5f{x y:Operand}{s t:TypeId}{n:Nat}{z:List AV}{hx:ev x=some (.nl)}{hy:ev y=some (.li (n:Int))}(size bytes:Nat)(h:Ux P s t=some (size,bytes,z))(f:0<n)(A:n<=1048576)(Q:0<size)(U:bytes<=1048576)(Z:z.length=size):
  ex2 P H ev ⟨d,.call ⟨.builtin .append,#[x,y],#[s,t]⟩,ty,p,af,g⟩ x y (some (.nl)) (some (.li (n:Int))) hx hy=.val (.slq H.next 0 n 0) (H.add (.cells (rep z n) true size)):=
 d5e hx hy h f A Q U Z
theorem Af.apq0{g:Gb}{b:Nat}{sv:AV}{cs:List AV}(h:Af g b sv 0 cs):
  ∀{H:Mem}{ev:Ev}{d:Option Tmp}{ty:TypeId}{p:String} {af:Array Edge} {gd:Option (Nat×Bool)} {x y:Operand} {s t:TypeId} {a off k c:Nat} {hx:ev x=some (.slq a off k c)} {hy:ev y=some sv},(apI P s t).isSome=true ->
   ex2 P H ev ⟨d,.call ⟨.builtin .append,#[x,y],#[s,t]⟩,ty,p,af,gd⟩ x y (some (.slq a off k c)) (some sv) hx hy=.val (.slq a off k c) H:=by
 intro H ev d ty p af gd x y s t a off k c hx hy Q;have f:lenOf sv=some 0:=by
  rcases h with⟨_,_,rfl|rfl⟩|⟨a,off,_,⟨c,rfl⟩|⟨c,rfl⟩,_⟩<;>rfl
 cases A:apI P s t with
 | none=>grind
 | some q =>
  obtain⟨U,Z⟩:=q;show opV P H ev _=_;rw[Hk hx hy A];unfold D9;rw[f];rfl
end
theorem LX.cut{G n:Nat}{P:Program}{b:Code}{fr:Fr}{H:Mem}{K Q:Out->Prop}(h:LX G P n b fr H K)(f:∀o,K o->Q o):LX G P n b fr H Q:=by
 intro B n0 ρ0 w0 ρ a w s A k cs;obtain⟨e,U,Z,⟨a0,h1,h2⟩,h3⟩:=h B n0 ρ0 w0 ρ a w s A k cs;exact⟨e,U,Z,⟨a0,f _ h1,h2⟩,h3⟩
abbrev Ys:=@LX.cut
def L6(id:Nat)(K:(Nat->Option AV)->(Gb)->Nat->Prop):Out->Prop:=λo=>∃gf g n,o=.exit id (.f gf []) ⟨.fn g,n⟩/\K gf g n
theorem d5g{id:Nat}{K:(Nat->Option AV)->(Gb)->Nat->Prop}{A:Nat->Option AV}{g:Gb}{n:Nat}:L6 id K (.exit id (.f A []) ⟨.fn g,n⟩)=K A g n:=by
 apply propext;constructor
 .rintro⟨Q,g',n',e,h⟩;grind
 .exact λh=>⟨_,_,_,rfl,h⟩
theorem d5h{A:Nat}(Q:tick=A){id:Nat}{K:(Nat->Option AV)->(Gb)->Nat->Prop}{o f:Out}(h:o=f):L6 id K o=L6 id K f:=by rw[h]
attribute [congr] d5h
attribute [simp] d5g
section
variable {B G:Nat}{P:Program}{n n0:Nat}{ρ0 ρ:Rn}{w0 w:World}{a:Act}{ops:Array Oper}{o:Oper}{callf:CallF}{fr:Fr}{g:Nat→Option AV}{ds:List Dfr}{H:Mem}{d:Tmp}{v:AV}
def und:Dg->Nat
 | .d0=>0|.d1=>1|.d2=>2|.d3=>3|.d4=>4|.d5=>5|.d6=>6|.d7=>7
 | .d8=>8|.d9=>9|.d10=>10|.d11=>11|.d12=>12|.d13=>13|.d14=>14|.d15=>15
theorem und_dig:∀n,n<16->und (dig n)=n:=by decide
theorem Ry{m k:Nat}(f:m<16)(A:k<16)(h:dig m=dig k):m=k:=by
 have:=congrArg und h;grind[und_dig]
theorem d5i{j k:Nat}(A:j<256)(Q:k<256)(f:d0 k=d0 j)(h:d1 k=d1 j):k=j:=by
 have U:k % 16=j % 16:=Ry (e6r _ (by omega)) (e6r _ (by omega)) f;have Z:k / 16 % 16=j / 16 % 16:=Ry (e6r _ (by omega)) (e6r _ (by omega)) h;omega
theorem d5j{j k:Nat}(Q:j<4096)(U:k<4096)(f:d0 k=d0 j)(h:d1 k=d1 j)(A:d2 k=d2 j):k=j:=by
 have Z:k % 16=j % 16:=Ry (e6r _ (by omega)) (e6r _ (by omega)) f;have e1:k / 16 % 16=j / 16 % 16:=Ry (e6r _ (by omega)) (e6r _ (by omega)) h;have e2:k / 256 % 16=j / 256 % 16:=Ry (e6r _ (by omega)) (e6r _ (by omega)) A;omega
theorem b2a{f:Type}(k:Nat)(x:f):Mz k (.v k x)=some x:=by simp[Mz]
theorem d5k{f:Type}(t:T2 f){k j:Nat}(x:Lf f)(Q:k<256)(U:j<256)(Z:j≠k):B9 (u2 t k x) j=B9 t j:=by
 unfold B9 u2;rcases X1 (d0 k) (d0 j) with h|h
 .rw[h,Fb];rcases X1 (d1 k) (d1 j) with A|A
  all_goals grind[d5i,Fc]
 grind[Fc]
theorem d5l{f:Type}(t:T3 f){k j:Nat}(x:Lf f)(U:k<4096)(Z:j<4096)(a0:j≠k):H7 (u3 t k x) j=H7 t j:=by
 unfold H7 u3;rcases X1 (d0 k) (d0 j) with h|h
 .rw[h,Fb];rcases X1 (d1 k) (d1 j) with A|A
  .rw[A,Fb];rcases X1 (d2 k) (d2 j) with Q|Q
   all_goals grind[d5j,Fc]
  grind[Fc]
 grind[Fc]
noncomputable def Dr(fr:Fr):Nat:=Fr.rec (motive:=λ_=>Nat) (λ_ _=>256) (λ_ _=>4096) (λ_ _=>0) fr
theorem b2b(fr:Fr)(d:Tmp)(v:AV):Dr (fr.upd d v)=Dr fr:=by
 cases fr<;>simp[Fr.upd,Fr.set,fpS,fpG,fpF,M8,On,Dr]
theorem b2c(fr:Fr)(d:Option Tmp)(v:AV):Dr (fr.put d v)=Dr fr:=by
 cases d with
 | none=>rfl
 | some d=>exact b2b fr d v
theorem a3l(fr:Fr)(x:Dfr):Dr (fr.defer x)=Dr fr:=by cases fr<;>rfl
theorem d5m(fr:Fr)(d:Tmp)(v:AV):(fr.upd d v).get d=some v:=by
 cases fr with
 | s t ds=>simp[Fr.upd,Fr.set,fpS,M8,Fr.get,fgS];grind[B9,a0h,b2a]
 | g t ds=>simp[Fr.upd,Fr.set,fpG,On,Fr.get,fgG];grind[H7,a7i,b2a]
 | f g ds=>exact if_pos rfl
theorem d5n(fr:Fr){d k:Tmp}(v:AV)(A:d<Dr fr)(Q:k<Dr fr)(h:k≠d):(fr.upd d v).get k=fr.get k:=by
 cases fr with
 | s t ds=>simp[Fr.upd,Fr.set,fpS,M8,Fr.get,fgS];exact d5k _ _ A Q h
 | g t ds=>simp[Fr.upd,Fr.set,fpG,On,Fr.get,fgG];exact d5l _ _ A Q h
 | f g ds=>exact if_neg h
structure FE (fr:Fr) (g:Nat->Option AV) (ds:List Dfr):Prop where
 lo:∀k,k<Dr fr->fr.get k=g k
 up:∀k v,fr.get k=some v->g k=some v
 dfr:fr.defers=ds
theorem FE.refl(fr:Fr):FE fr fr.get fr.defers:=⟨λ_ _=>rfl,λ_ _ h=>h,rfl⟩
theorem FE.upd(h:FE fr g ds)(A:d<Dr fr)(v:AV):FE (fr.upd d v) (E9 g d v) ds:=by
 refine⟨λk f=>?_,λk y hy=>?_,(Yk fr d v).trans h.dfr⟩
 .rw[b2b] at f;unfold E9;by_cases e:k=d
  .subst e;rw[if_pos rfl];grind[d5m]
  .rw[if_neg e,d5n fr v A f e];exact h.lo k f
 .unfold E9;rcases Yg hy with⟨rfl,rfl⟩|⟨Q,hy⟩
  .grind
  .rw[if_neg Q];exact h.up k y hy
def b2d(g:Nat->Option AV)(d:Option Tmp)(v:AV):Nat->Option AV:=match d with|some d=>E9 g d v|none=>g
theorem b2e(g:Nat->Option AV)(ds:List Dfr)(d:Option Tmp)(v:AV):(Fr.f g ds).put d v=.f (b2d g d v) ds:=by cases d<;>rfl
theorem FE.put(h:FE fr g ds){d:Option Tmp}(f:∀t,d=some t->t<Dr fr)(v:AV):FE (fr.put d v) (b2d g d v) ds:=by
 cases d with
 | none=>exact h
 | some d=>exact h.upd (f d rfl) v
theorem FE.defer(h:FE fr g ds)(x:Dfr):FE (fr.defer x) g (x::ds):=
 ⟨λk f=>by rw[a3l] at f;rw[Yi];exact h.lo k f,λk v A=>by rw[Yi] at A;exact h.up k v A,by rw[Y4,h.dfr]⟩
theorem St.toF(s:St B G n n0 ρ0 w0 ρ fr H a w):St B G n n0 ρ0 w0 ρ (.f fr.get fr.defers) H a w:=⟨s.ext,s.sim,⟨s.frel.slot,s.frel.dfr,s.frel.size,s.frel.only⟩,s.le⟩
theorem St.ofF(h:FE fr g ds)(s:St B G n n0 ρ0 w0 ρ (.f g ds) H a w):St B G n n0 ρ0 w0 ρ fr H a w:=
 ⟨s.ext,s.sim,⟨λt v A Q=>s.frel.slot t v (h.up t v A) Q,by rw[h.dfr];exact s.frel.dfr,s.frel.size,λt v A=>s.frel.only t v (h.up t v A)⟩,s.le⟩
def a3m(o:Oper):Bool:=match o.op with|.select _ _=>false|_=>true
theorem d5o(h:a3m o=true):∀cs b,o.op≠.select cs b:=by
 grind[a3m]
def Ks(m:Nat)(o:Oper):Bool:=B6 m o&&(O5 o).all (λt=>Nat.blt t m)&&a3m o
theorem FE.op(h:FE fr g ds)(A:Ks (Dr fr) o=true):opV P H fr.ev o=opV P H (Fr.f g ds).ev o:=by
 unfold Ks at A;simp only[W0] at A;refine Um (d5o A.2) λx hx=>?_
 cases x with
 | tmp t =>
  have:=W7.1 A.1.2 t (a2p hx);exact h.lo t (Wz this)
 | const v=>rfl
 | global g=>rfl
 | func f=>rfl
theorem a3n{m:Nat}(f:Ks m o=true):∀t,o.dst=some t->t<m:=by
 intro t h;simp_all[B6,Ks]
def wOf(callf:CallF):WF:=λf args H K=>match callf f args H with
 | .bad=>False
 | r=>K r
theorem d5p(A:∀B,A4 B G P callf):WOK G P (wOf callf):=by
 intro f args H K h;refine a9t (O:=callf) A ?_;grind[wOf,orW]
theorem wOf_mono:Io (wOf callf):=by
 intro f args H K A Q h;grind[wOf]
theorem a3o{k:Fr->Mem->Out}{kk:Fr->Mem->Prop}{Q:Out->Prop}{r:Out}(he:FE fr g ds)(hr:Ks (Dr fr) o=true)(a5:ops.toList.all (Ks (Dr fr))=true)(h:Lc P callf ops o fr H k=r)(a6:r≠.bad)
  (hk:∀a0 g1 a2 A,FE a0 g1 a2->Dr a0=Dr fr->k a0 A=r->kk (.f g1 a2) A)
  (hp:∀v a0 A,FE a0 g ds->r=.panic v a0 A->Q (.panic v (.f g ds) A)):C6 P (wOf callf) ops o (.f g ds) H kk Q:=by
 have a1:∀(v:AV)(A:Mem),(fr.putK o.dst v λfr=>k fr A)=r->kk ((Fr.f g ds).put o.dst v) A:=by
  intro v A U;rw[X3] at U;rw[b2e];exact hk _ _ _ _ (he.put (a3n hr) v) (b2c fr o.dst v) U
 have a3:after callf o fr k (opV P H fr.ev o)=r->Fv (wOf callf) o (.f g ds) kk Q (opV P H (Fr.f g ds).ev o):=by
  rw[<- he.op hr];generalize opV P H fr.ev o=x;intro U
  cases x with
  | val v A=>exact a1 v A U
  | skip A=>exact a1 _ A U
  | enter f args A =>
   have Z:(match callf f args A with|.ret v H=>fr.putK o.dst v λfr=>k fr H|.panic v H=>.panic v fr H|.bad=>.bad)=r:=U
   (simp_all[wOf];grind)
  | dfr fn a4 args A =>
   have Z:((fr.defer (fn,a4,args)).putK o.dst (.lit undef) λfr=>k fr A)=r:=U;rw[X3] at Z;show kk ((Fr.f g ((fn,a4,args)::ds)).put o.dst (.lit undef)) A;rw[b2e];exact hk _ _ _ _ ((he.defer _).put (by rw[a3l];exact a3n hr) _) ((b2c _ _ _).trans (a3l _ _)) Z
  | panic v A=>exact hp v fr A he U.symm
  | _=>exact absurd U.symm a6
 unfold C6;unfold Lc at h
 cases hg:o.guard with
 | none=>rw[hg] at h;exact a3 h
 | some gd =>
  rw[hg] at h;have Z:Qf P callf ops o fr H k gd=r:=h;unfold Qf at Z;have hs:Dp ops fr gd.1=Dp ops (.f g ds) gd.1:=by
   unfold Dp;split
   .rename_i p a7;have hm:=W7.1 a5 p (e5w (B7.2 a7));split
    .rename_i d hd;exact he.lo d (a3n hm d hd)
    .rfl
   .rfl
  show Fg (Dp ops (.f g ds) gd.1) gd.2 _ _;rw[<- hs];have hw:∀x,Lb ops fr gd=some x->(x=true->(∃b,Dp ops fr gd.1=some (.lit (.bool b))/\b=gd.2)) /\
    (x=false->(∃b,Dp ops fr gd.1=some (.lit (.bool b))/\b = !gd.2)\/∃y,Dp ops fr gd.1=some (.lit (.tuple y))):=by
   intro x hx;unfold Lb a0c at hx;unfold Dp;generalize gd.2=a8 at hx |-
   cases hp:ops[gd.1]? with
   | none=>grind
   | some p =>
    cases hd:p.dst with
    | none=>grind
    | some d =>
     simp only[hp,hd] at hx |-;revert hx;generalize fr.get d=z;intro hx;by_cases hb:∃b,z=some (.lit (.bool b))
     .obtain⟨b,rfl⟩:=hb;cases b<;>cases a8<;>first
       | (grind)
       | grind
     grind
  split at Z
  .rename_i hx;obtain⟨b,hb,rfl⟩:=(hw _ hx).1 rfl;rw[hb];exact⟨λ_=>a3 Z,λe=>by grind⟩
  .rename_i hx;rcases (hw _ hx).2 rfl with⟨b,hb,e⟩|⟨y,hy⟩
   .rw[hb];subst e;exact⟨λe=>by grind,λ_=>a1 _ _ Z⟩
   .rw[hy];exact a1 _ _ Z
  grind
end
section
variable {B G:Nat}{P:Program}{n n0:Nat}{ρ0 ρ:Rn}{w0 w:World}{a:Act}{ops:Array Oper}{callf:CallF}{loopf:LoopF}{fr:Fr}{g:Nat→Option AV}{ds:List Dfr}{H:Mem}
inductive FI where
 | run (o:Oper)
 | mk (i:Nat) (o:Oper)
 | gate (hs as:List Nat)
 | no
def itF(ops:Array Oper)(it:It):FI:=match it with
 | .run i=>match ops[i]? with|some o=>.run o|none=>.no
 | .mk i=>match ops[i]? with|some o=>.mk i o|none=>.no
 | .gate hs as=>.gate hs as
def eqU(x y:AV):Bool:=match x,y with
 | .lit (.tuple a),.lit (.tuple b)=>Nat.beq a.size 0&&Nat.beq b.size 0
 | x,y=>eqAV x y
theorem d5q{x y:AV}(h:eqU x y=true):x=y:=by
 unfold eqU at h;split at h
 .simp_all
 grind[eqAV_sound]
noncomputable def Rz(P:Program)(callf:CallF)(ops:Array Oper)(fr:Fr)(H:Mem):List Nat->Bool
 | []=>true
 | i::l=>match ops[i]? with
  | some o=>match Lc P callf ops o fr H (λfr' H'=>.norm fr' H') with
   | .norm fr' _=>match D2 fr' o.dst,D2 fr o.dst with
    | some x,some y=>match eqU x y with|true=>Rz P callf ops fr H l|false=>false
    | _,_=>false
   | _=>false
  | none=>false
def Gp(i:Nat):List Nat->Bool
 | []=>false
 | j::l=>match Nat.beq i j with|true=>true|false=>Gp i l
theorem Uy{i:Nat}:∀{l:List Nat},i∈l->Gp i l=true
 | j::l,h=>by
  unfold Gp;split
  .rfl
  .rename_i f;rcases Xb.1 h with rfl|h
   all_goals simp_all[Uy]
noncomputable def Pd(H:Mem)(as:List Nat):AlP->Bool
 | []=>true
 | (i,a,b)::l=>match Gp i as with
  | true=>match H.get a,b with
   | some x,some y=>match eqBlk x y with|true=>Pd H as l|false=>false
   | _,_=>false
  | false=>Pd H as l
abbrev FlF:=Program->CallF->Array Oper->Fr->Mem->AlP->Out
noncomputable def flN:FlF:=λ_ _ _ fr H _=>.norm fr H
noncomputable def b2f(o:Oper):FlF->FlF:=λih P callf ops fr H als=>Lc P callf ops o fr H λfr H=>ih P callf ops fr H als
noncomputable def b2g(i:Nat)(o:Oper):FlF->FlF:=λih P callf ops fr H als=>Lc P callf ops o fr H λfr H'=>ih P callf ops fr H' ((i,H.next,H'.get H.next)::als)
noncomputable def b2h(hs as:List Nat):FlF->FlF:=λih P callf ops fr H als=>match Rz P callf ops fr H hs,Pd H as als with
 | true,true=>ih P callf ops fr H als
 | _,_=>.bad
noncomputable def flNo:FlF->FlF:=λ_ _ _ _ _ _ _=>.bad
noncomputable def flC(it:It)(_:List It)(ih:FlF):FlF:=λP callf ops fr H als=>FI.rec (motive:=λ_=>FlF->FlF) b2f b2g b2h flNo (itF ops it) ih P callf ops fr H als
noncomputable def R0(P:Program)(callf:CallF)(ops:Array Oper)(l:List It)(fr:Fr)(H:Mem)(als:AlP):Out:=List.rec (motive:=λ_=>FlF) flN flC l P callf ops fr H als
def OE(r out:Out):Prop:=match r,out with
 | .norm fr H,.norm fr' H'=>H'=H/\∃g ds,fr'=.f g ds/\FE fr g ds
 | .panic v fr H,.panic v' fr' H'=>v'=v/\H'=H/\fr'=fr.clear
 | _,_=>False
theorem b2i(fr:Fr):fr.clear=.s e2 fr.defers:=by cases fr<;>rfl
theorem b2j(A:FE fr g ds)(Q:ops.toList.all (Ks (Dr fr))=true):∀{l:List Nat},Rz P callf ops fr H l=true->Hm P (wOf callf) ops (.f g ds) H l
 | [],_=>trivial
 | i::l,h=>by
  unfold Rz at h;unfold Hm;split at h
  .rename_i o U;have hm:=W7.1 Q o (e5w (B7.2 U));split at h
   .rename_i a3 H2 hr;split at h
    .rename_i x y hx hy;split at h
     .rename_i a0;have a1:=d5q a0;subst a1;refine⟨?_,b2j A Q h⟩
      try rw[U]
      try dsimp only
      refine a3o A hm Q hr (by simp) (λa2 g1 a4 H1 a5 _ Z=>?_) (λv a2 H1 _ Z=>by grind);cases Z;have key:∀{fr:Fr}{g:Nat->Option AV}{ds:List Dfr},FE fr g ds->∀{x},D2 fr o.dst=some x->D2 (.f g ds) o.dst=some x:=by
       intro fr g ds A x hx;unfold D2 at hx |-;split at hx
       .exact A.up _ _ hx
       grind
      grind
     grind
    grind
   grind
  grind
theorem a3p{as:List Nat}:∀{A:AlP},Pd H as A=true->Km H as A
 | [],_=>trivial
 | (i,a,b)::l,h=>by
  unfold Pd at h;unfold Km;split at h
  .split at h
   .rename_i x y hx;split at h
    .rename_i f;exact⟨λ_=>hx.trans (congrArg some (a1a f)),a3p h⟩
    grind
   grind
  .rename_i f;exact⟨λhi=>(by rw[Uy hi] at f;cases f),a3p h⟩
theorem flat_W:∀(l:List It){fr:Fr}{g:Nat->Option AV}{ds:List Dfr}{H:Mem} {Q:AlP} {r:Out},FE fr g ds->ops.toList.all (Ks (Dr fr))=true->R0 P callf ops l fr H Q=r->r≠.bad ->
  Bm P (wOf callf) ops (Im (OE r)) l (.f g ds) H Q
 | [],fr,g,ds,H,Q,r,he,Z,h,U=>by
  have A:Out.norm fr H=r:=h;subst A;exact⟨rfl,g,ds,rfl,he⟩
 | it::l,fr,g,ds,H,Q,r,he,Z,h,U=>by
  have A:FI.rec (motive:=λ_=>FlF->FlF) b2f b2g b2h flNo (itF ops it) (λP callf ops fr H Q=>R0 P callf ops l fr H Q) P callf ops fr H Q=r:=h;have hp:∀v a0 H1,FE a0 g ds->r=.panic v a0 H1->Im (OE r) (.panic v (.f g ds) H1):=by
   rintro v a0 H1 a1 rfl;refine⟨rfl,rfl,?_⟩;rw[b2i,b2i,a1.dfr];rfl
  cases it with
  | run i =>
   unfold Bm
   cases ho:ops[i]? with
   | none =>
    rw[show itF ops (.run i)=.no by grind[itF]] at A;exact absurd A.symm U
   | some o =>
    rw[show itF ops (.run i)=.run o by grind[itF]] at A;dsimp only;have hm:=W7.1 Z o (e5w (B7.2 ho));exact a3o he hm Z A U (λa0 g1 a2 H1 a1 a3 h1=>flat_W l a1 (by grind) h1 U) hp
  | mk i =>
   unfold Bm
   cases ho:ops[i]? with
   | none =>
    rw[show itF ops (.mk i)=.no by grind[itF]] at A;exact absurd A.symm U
   | some o =>
    rw[show itF ops (.mk i)=.mk i o by grind[itF]] at A;dsimp only;have hm:=W7.1 Z o (e5w (B7.2 ho));exact a3o he hm Z A U (λa0 g1 a2 H1 a1 a3 h1=>flat_W l a1 (by grind) h1 U) hp
  | gate hs as =>
   have h2:(match Rz P callf ops fr H hs,Pd H as Q with|true,true=>R0 P callf ops l fr H Q|_,_=>.bad)=r:=A;unfold Bm;split at h2
   .rename_i h3 h4;exact⟨b2j he Z h3,a3p h4,flat_W l he Z h2 U⟩
   .exact absurd h2.symm U
noncomputable def d5r(r:Out):Out:=match r with
 | .panic v fr H=>.panic v fr.clear H
 | .norm fr H=>.norm fr H
 | _=>.bad
noncomputable def L7(P:Program)(callf:CallF)(ops:Array Oper)(fr:Fr)(H:Mem):Out:=match Rb P ops.toList,ops.toList.all (Ks (Dr fr)) with
 | true,true=>d5r (R0 P callf ops (Nk ops.toList) fr H [])
 | _,_=>.bad
theorem d5s{o:Oper}{a:Act}{next A:Act->World->Prop}{Q f:Exit->Act->World->Prop}(Z:∀a w,next a w->A a w)(hq:∀e a w,Q e a w->f e a w){r:Result Next}(h:o.upon P a next Q r):o.upon P a A f r:=by
 have hl:LetsOut Q->LetsOut f:=λ⟨a,w,h⟩=>⟨a,w,hq _ _ _ h⟩;unfold Oper.upon at h |-;split at h
 .grind
 .grind
 .grind
 .refine h.mono λe w' U=>?_;grind
 .exact h.mono λv w' U=>Z _ _ U
 all_goals grind
theorem Uz{Q U:Exit->Act->World->Prop}(f:∀e a w,Q e a w->U e a w):∀(l:List Nat)(a:Act)(w:World),wpOps P ops Q l a w->wpOps P ops U l a w
 | [],a,w,h=>f _ _ _ h
 | i::l,a,w,h=>by
  unfold wpOps at h |-
  cases Z:ops[i]? with
  | none=>rw[Z] at h;exact Uz f l a w h
  | some o =>
   rw[Z] at h;dsimp only at h |-;split at h
   .rename_i A;rw[if_pos A];rcases h with h|⟨h,a',w',h2⟩
    .exact .inl (d5s (Uz f l) f h)
    .exact .inr ⟨h,a',w',f _ _ _ h2⟩
   .rename_i A;rw[if_neg A];exact Uz f l _ _ h
theorem b2k(U:∀B,A4 B G P callf)(hG:G=P.globals.size){id:Nat}(s:St B G n n0 ρ0 w0 ρ fr H a w)(Z:Aw n (.region id ops true)=true)(f:L7 P callf ops fr H≠.bad)(t:Nat):
  wpOps P ops (C5 B G n n0 ρ0 w0 (L7 P callf ops fr H)) (Region.schedule (P.follows .mixedOrders) ops t) a { w with drawn:=w.drawn+1 }:=by
 unfold L7 at f |-;split at f
 .rename_i a0 a1;generalize hr:R0 P callf ops (Nk ops.toList) fr H []=r at f |-;have a2:r≠.bad:=λe=>f (by rw[e];rfl);have key:=a1r (d5p U) (id:=id) hG s.toF Z (a2v wOf_mono a0 (flat_W _ (FE.refl fr) a1 hr a2)) t;refine Uz ?_ _ _ _ key;rintro e a' w' ⟨Q,h,A⟩
  cases r with
  | norm a3 H1 =>
   cases Q with
   | norm a4 H2 =>
    obtain⟨rfl,g,ds,rfl,he⟩:=h
    cases e with
    | normal=>obtain⟨a5,s'⟩:=A;exact⟨a5,St.ofF he s'⟩
    | _=>exact A.elim
   | _=>exact h.elim
  | panic v a3 H1 =>
   cases Q with
   | panic v2 a4 H2 =>
    obtain⟨rfl,rfl,rfl⟩:=h;exact A
   | _=>exact h.elim
  | exit=>assumption
  | ret=>assumption
  | bad=>grind
 grind
theorem d5t(f:∀B,A4 B G P callf)(hG:G=P.globals.size){id:Nat}(s:St B G n n0 ρ0 w0 ρ fr H a w)(h:Aw n (.region id ops true)=true)(A:L7 P callf ops fr H≠.bad):
  (Code.region id ops true).wp P (C5 B G n n0 ρ0 w0 (L7 P callf ops fr H)) a w:=by grind[id,b2k,wp_region_draw]
/- Codes. -/
noncomputable def d5u(_:Nat)(ops:Array Oper)(draw:Bool):XF:=λP callf _ fr H=>match draw with
 | false=>Oj P callf ops ops.toList fr H
 | true=>L7 P callf ops fr H
noncomputable def execCF:Code->XF:=Code.rec (motive:=λ_=>XF) xSkip d5u a6w a6x a6y a6z a7a a7b a7c a7d a7e xRet a7f
noncomputable def Dd(P:Program)(callf:CallF)(loopf:LoopF)(c:Code)(fr:Fr)(H:Mem):Out:=execCF c P callf loopf fr H
def b2l(B G:Nat)(P:Program)(callf:CallF)(loopf:LoopF)(c:Code):Prop:=
 ∀(n n0:Nat)(ρ0:Rn)(w0:World)(ρ:Rn)(fr:Fr) (H:Mem) (a:Act) (w:World),Aw n c=true->St B G n n0 ρ0 w0 ρ fr H a w->Dd P callf loopf c fr H≠.bad ->
  c.wp P (C5 B G n n0 ρ0 w0 (Dd P callf loopf c fr H)) a w
theorem b2m{callf:CallF}{loopf:LoopF}{b:Code}(Q:Ij B G P loopf)(U:b2l B G P callf loopf b)(n n0:Nat)(ρ0:Rn)(w0:World)(ρ:Rn)(fr:Fr)(H:Mem)(a:Act)(w:World)
  (A:Aw n b=true) (s:St B G n n0 ρ0 w0 ρ fr H a w) (f:Dd P callf loopf (.loop b) fr H≠.bad):LW P b (C5 B G n n0 ρ0 w0 (Dd P callf loopf (.loop b) fr H)) a w:=by
 have Z:Dd P callf loopf (.loop b) fr H=Ld (Dd P callf loopf b fr H) (loopf (.loop b)):=rfl;rw[Z] at f |-;have hr:Dd P callf loopf b fr H≠.bad:=λh=>f (by rw[h];rfl);refine Yx (Code.wp_mono (Tw f λa0 H' a1 a' w' a2 s' hk=>?_) (U n n0 ρ0 w0 ρ fr H a w A s hr));rw[a2];exact Q b n n0 ρ0 w0 a1 a0 H' a' w' A s' hk
theorem b2n{callf:CallF}{loopf:LoopF}(a4:∀B,A4 B G P callf)(hl:Ij B G P loopf)(hG:G=P.globals.size):∀c:Code,b2l B G P callf loopf c:=by
 intro c;have hc:=a4 B
 induction c with
 | skip=>intro n n0 ρ0 w0 ρ fr H a w Q s A;exact wp_skip ⟨ρ,s⟩
 | region id ops a6 =>
  intro n n0 ρ0 w0 ρ fr H a w Q s A
  cases a6 with
  | false =>
   refine wp_region_list (a0z hc hG A ops.toList fr H ρ a w ?_ s rfl);exact λo ho=>W7.1 Q o ho
  | true=>exact d5t a4 hG s Q A
 | seq x y a0 a1 =>
  intro n n0 ρ0 w0 ρ fr H a w Q s A;have U:Dd P callf loopf (.seq x y) fr H=Ld (Dd P callf loopf x fr H) (Dd P callf loopf y):=rfl;rw[U] at A |-;simp only[Aw,W0] at Q;have hr:Dd P callf loopf x fr H≠.bad:=λh=>A (by rw[h];rfl);refine wp_seq (Code.wp_mono (Tw A λZ H' a2 a' w' a7 s' hk=>?_) (a0 n n0 ρ0 w0 ρ fr H a w Q.1 s hr));rw[a7];exact a1 n n0 ρ0 w0 a2 Z H' a' w' Q.2 s' hk
 | cond a5 x y a0 a1 =>
  intro n n0 ρ0 w0 ρ fr H a w Q s A;have U:Dd P callf loopf (.cond a5 x y) fr H=Qg (fr.ev a5) (Dd P callf loopf x) (Dd P callf loopf y) fr H:=rfl;rw[U] at A |-;simp only[Aw,W0] at Q;unfold Qg at A |-;split at A
  .rename_i a3;have:=s.ev _ _ a3;exact wp_cond_true this (a0 n n0 ρ0 w0 ρ fr H a w Q.1 s A)
  .rename_i a3;have:=s.ev _ _ a3;exact wp_cond_false this (a1 n n0 ρ0 w0 ρ fr H a w Q.2 s A)
  grind
 | block id b ih =>
  intro n n0 ρ0 w0 ρ fr H a w Q s A;have U:Dd P callf loopf (.block id b) fr H=Qh id (Dd P callf loopf b fr H):=rfl;rw[U] at A |-;have hr:Dd P callf loopf b fr H≠.bad:=λh=>A (by rw[h];rfl);refine wp_block (Code.wp_mono ?_ (ih n n0 ρ0 w0 ρ fr H a w Q s hr));intro e a' w' h;generalize Dd P callf loopf b fr H=r at h A |-
  cases r with
  | norm Z H'=>cases e<;>first|exact h.elim|exact h
  | exit b0 Z H' =>
   cases e with
   | exit a8 =>
    obtain⟨rfl,a2,s'⟩:=h;unfold Qh;dsimp only;split
    .rename_i hb;have:=Xd hb;subst this;simp only[Exit.inBlock,if_true];exact⟨a2,s'⟩
    .rename_i hb;have a9:a8≠id:=by intro h0;simp_all
     simp only[Exit.inBlock,a9,if_false];exact⟨rfl,a2,s'⟩
   | _=>exact h.elim
  | ret Z H'=>cases e<;>first|exact h.elim|exact h
  | panic v Z H'=>cases e<;>first|exact h.elim|exact h
  | bad=>exact absurd rfl A
 | loop b ih =>
  intro n n0 ρ0 w0 ρ fr H a w Q s A;exact(b2m hl ih n n0 ρ0 w0 ρ fr H a w Q s A).wp
 | rangeFunc f ps x y a0 a1=>intro n n0 ρ0 w0 ρ fr H a w Q s A;exact absurd rfl A
 | exit id=>intro n n0 ρ0 w0 ρ fr H a w Q s A;exact wp_exit ⟨rfl,ρ,s⟩
 | scope b ih=>intro n n0 ρ0 w0 ρ fr H a w Q s A;exact absurd rfl A
 | label l=>intro n n0 ρ0 w0 ρ fr H a w Q s A;exact wp_label ⟨ρ,s⟩
 | goto l=>intro n n0 ρ0 w0 ρ fr H a w Q s A;exact absurd rfl A
 | ret=>intro n n0 ρ0 w0 ρ fr H a w Q s A;exact wp_ret ⟨ρ,s⟩
 | refuse b1=>intro n n0 ρ0 w0 ρ fr H a w Q s A;exact absurd rfl A
noncomputable def b2o(P:Program)(callf:CallF)(loopf:LoopF)(fn:Func)(c:Code)(args:List AV)(H:Mem):Ay:=
 match Aw fn.ntmps c,Nat.ble (len args) fn.ntmps with
 | true,true=>a7h P callf loopf fn (Qk args (Ck fn.ntmps) λfr=>Dd P callf loopf c fr H)
 | _,_=>.bad
noncomputable def a3q(P:Program)(callf:CallF)(loopf:LoopF)(f:FuncId)(args:List AV)(H:Mem):Ay:=
 match P.funcs[f]? with
 | some fn=>match fn.body with
  | some c=>b2o P callf loopf fn c args H
  | none=>.bad
 | none=>.bad
theorem d5v{callf:CallF}{loopf:LoopF}(a1:∀B,A4 B G P callf)(Z:Ij B G P loopf)(hG:G=P.globals.size):A4 B G P (a3q P callf loopf):=by
 have hc:=a1 B;intro f args H A ρ us w hs hv;unfold a3q at A |-;split at A
 .rename_i fn a2;split at A
  .rename_i c hb;unfold b2o at A |-;split at A
   .rename_i a3 a5;rw[a1d] at A |-;have a4:=a1e (n:=fn.ntmps) hv (by simp_all[C3]);have s1:St B G fn.ntmps H.next ρ w ρ (putArgs args (Ck fn.ntmps) 0) H { tmps:=us++Array.replicate (fn.ntmps-us.size) undef,defers:=[] } w:=⟨X6 _ _ _ _,hs,a4,Wy _⟩;have hr:Dd P callf loopf c (putArgs args (Ck fn.ntmps) 0) H≠.bad:=λh0=>A (by rw[h0];rfl);have key:=b2n a1 Z hG c fn.ntmps H.next ρ w ρ _ H _ w a3 s1 hr;refine calls_of_wp_defers a2 hb (Code.wp_mono ?_ key);intro e a' w' h;generalize Dd P callf loopf c (putArgs args (Ck fn.ntmps) 0) H=r at h A |-
    cases r with
    | norm a0 H' =>
     cases e with
     | normal=>obtain⟨U,Q⟩:=h;exact Lx hc Z hG A _ _ .returning H' U .returning w' Q.frel.dfr Q rfl rfl
     | _=>exact h.elim
    | ret a0 H' =>
     cases e with
     | ret=>obtain⟨U,Q⟩:=h;exact Lx hc Z hG A _ _ .returning H' U .returning w' Q.frel.dfr Q rfl rfl
     | _=>exact h.elim
    | panic v a0 H' =>
     cases e with
     | panic a6=>obtain⟨U,x,rfl,hx,Q⟩:=h;exact Lx hc Z hG A _ _ (.panicking v) H' U _ w' Q.frel.dfr Q ⟨x,rfl,hx⟩ rfl
     | _=>exact h.elim
    | exit id a0 H'=>exact absurd rfl A
    | bad=>exact absurd rfl A
   grind
  grind
 grind
end
section
variable {ops:Array Oper}{w':World}{callf:CallF}{o:Oper}
abbrev J:=Option Nat
def jcode:J->Code
 | none=>.ret
 | some id=>.exit id
def jexit:J->Exit
 | none=>.ret
 | some id=>.exit id
inductive Eh where
 | norm (fr:Fr) (ys:List Nat) (p:Option J) (H:Mem)
 | jump (j:J) (fr:Fr) (ys:List Nat) (p:Option J) (H:Mem)
 | bad
inductive d5w where
 | ok (b:Bool) (p:Option J) (H:Mem)
 | bad
inductive U0 where
 | ok (j:Option J) (H:Mem)
 | bad
inductive KE where
 | mv
 | yl (args:Array Operand)
 | no
def a3r(o:Oper)(ys:List Nat):KE:=match o.op with
 | .move (.tmp t)=>(match Gp t ys with|true=>.mv|false=>.no)
 | .call c=>(match c.callee with
  | .value (.tmp t)=>(match Gp t ys with|true=>.yl c.args|false=>.no)
  | _=>.no)
 | _=>.no
def G5(o:Oper):Bool:=match o.op with|.defer _=>false|_=>true
def R1(d:Nat):List Nat->List Nat
 | []=>[]
 | t::l=>match Nat.beq d t with|true=>R1 d l|false=>t::R1 d l
def Np(d:Option Tmp)(ys:List Nat):List Nat:=match d with|none=>ys|some d=>R1 d ys
abbrev YF:=List AV->Mem->d5w
abbrev RF:=Operand->Array Tmp->Code->Code->Fr->Mem->U0
abbrev KF:=Fr->List Nat->Option J->Mem->Eh
noncomputable def mvE(o:Oper)(fr:Fr)(ys:List Nat)(p:Option J)(H:Mem)(K:KF):Eh:=match o.dst with
 | none=>.bad
 | some d=>match fr.get d with
  | none=>K fr (d::ys) p H
  | some _=>.bad
noncomputable def ylE(yf:YF)(o:Oper)(args:Array Operand)(fr:Fr)(ys:List Nat)(p:Option J)(H:Mem)(K:KF):Eh:=match p,Be fr.ev args.toList with
 | none,some vs=>match yf vs H with
  | .ok b p' H'=>K (fr.put o.dst (.lit (.bool b))) (Np o.dst ys) p' H'
  | .bad=>.bad
 | _,_=>.bad
noncomputable def afE(callf:CallF)(o:Oper)(fr:Fr)(ys:List Nat)(p:Option J)(K:KF)(r:R):Eh:=match r with
 | .val v H'=>K (fr.put o.dst v) (Np o.dst ys) p H'
 | .skip H'=>K (fr.put o.dst (.lit undef)) (Np o.dst ys) p H'
 | .enter f args H'=>match callf f args H' with
  | .ret v H''=>K (fr.put o.dst v) (Np o.dst ys) p H''
  | _=>.bad
 | _=>.bad
noncomputable def opE(P:Program)(callf:CallF)(yf:YF)(o:Oper)(fr:Fr)(ys:List Nat)(p:Option J)(H:Mem)(K:KF):Eh:=match a3r o ys with
 | .mv=>mvE o fr ys p H K
 | .yl args=>ylE yf o args fr ys p H K
 | .no=>match G5 o with
  | true=>afE callf o fr ys p K (opV P H fr.ev o)
  | false=>.bad
noncomputable def a3s(ops:Array Oper)(o:Oper)(fr:Fr):Option Bool:=match o.guard with
 | none=>some true
 | some g=>Lb ops fr g
noncomputable def R2(P:Program)(callf:CallF)(yf:YF)(ops:Array Oper):List Oper->KF
 | [],fr,ys,p,H=>.norm fr ys p H
 | o::l,fr,ys,p,H=>match a3s ops o fr with
  | some true=>opE P callf yf o fr ys p H (R2 P callf yf ops l)
  | some false=>R2 P callf yf ops l (fr.put o.dst (.lit undef)) (Np o.dst ys) p H
  | none=>.bad
def L8(r:Eh)(k:KF):Eh:=match r with
 | .norm fr ys p H=>k fr ys p H
 | r=>r
def a3t(id:Nat)(r:Eh):Eh:=match r with
 | .jump (some id') fr ys p H=>(match Nat.beq id' id with|true=>.norm fr ys p H|false=>.jump (some id') fr ys p H)
 | r=>r
abbrev LFE:=Code->KF
noncomputable def U1(P:Program)(callf:CallF)(ops:Array Oper)(fr:Fr)(ys:List Nat)(p:Option J)(H:Mem):Eh:=match ys,ops.toList.all G5 with
 | [],true=>(match L7 P callf ops fr H with
  | .norm fr' H'=>(match fr'.defers with|[]=>.norm fr' [] p H'|_=>.bad)
  | _=>.bad)
 | _,_=>.bad
noncomputable def Bz(P:Program)(callf:CallF)(yf:YF)(rf:RF)(loopf:LFE):Code->KF
 | .skip,fr,ys,p,H=>.norm fr ys p H
 | .region _ ops draw,fr,ys,p,H=>(match draw with|true=>U1 P callf ops fr ys p H|false=>R2 P callf yf ops ops.toList fr ys p H)
 | .seq a b,fr,ys,p,H=>L8 (Bz P callf yf rf loopf a fr ys p H) (Bz P callf yf rf loopf b)
 | .cond c a b,fr,ys,p,H=>(match fr.ev c with
  | some (.lit (.bool true))=>Bz P callf yf rf loopf a fr ys p H
  | some (.lit (.bool false))=>Bz P callf yf rf loopf b fr ys p H
  | _=>.bad)
 | .block id b,fr,ys,p,H=>a3t id (Bz P callf yf rf loopf b fr ys p H)
 | .loop b,fr,ys,p,H=>L8 (Bz P callf yf rf loopf b fr ys p H) (loopf b)
 | .rangeFunc g ps asg body,fr,ys,p,H=>(match ys with
  | []=>(match rf g ps asg body fr H with
   | .ok none H'=>.norm fr [] p H'
   | .ok (some j) H'=>.jump j fr [] p H'
   | .bad=>.bad)
  | _=>.bad)
 | .exit id,fr,ys,p,H=>.jump (some id) fr ys p H
 | .label _,fr,ys,p,H=>.norm fr ys p H
 | .ret,fr,ys,p,H=>.jump none fr ys p H
 | _,_,_,_,_=>.bad
noncomputable def Ip(P:Program)(callf:CallF)(yf:YF)(rf:RF):Nat->LFE
 | 0=>λ_ _ _ _ _=>.bad
 | m+1=>λb fr ys p H=>L8 (Bz P callf yf rf (Ip P callf yf rf m) b fr ys p H) (Ip P callf yf rf m b)
def FR(r:Option Nat):Fence:={ Fence.wide with round:=r }
theorem a3u{r:Option Nat}{m:Nat}{P:Program}{f:FuncId}{args:Array Value}{w:World}{R:Ending->World->Prop}(h:Calls P f args w R):CallsIn (FR r) m P f args w R:=(callsIn_wide (n:=m)).2 h
theorem b2p{r:Option Nat}{m:Nat}{P:Program}{f:FuncId}{args:Array Value}{w:World}{R:Ending->World->Prop}(h:CallsIn (FR r) m P f args w R):Calls P f args w R:=(callsIn_wide (n:=m)).1 h
def Act.bare(a:Act):Act:={ a with defers:=[] }
theorem d5x(a:Act)(d:Option Tmp)(v:Value):Act.bare (a.put d v)=(Act.bare a).put d v:=by cases d<;>rfl
theorem d5y(a:Act):(Act.bare a).eval=a.eval:=by funext x;cases x<;>rfl
def KX(x:Option Nat)(w w' : World):Prop:=(∀(k:Nat)(o:Obj),w.heap[k]?=some o->isMk o=true->x≠some k->w'.heap[k]?=some o)/\w.drawn<=w'.drawn
theorem KX.refl(x:Option Nat)(w:World):KX x w w:=⟨λ_ _ h _ _=>h,Wy _⟩
abbrev Yc:=@KX.refl
theorem KX.trans{x:Option Nat}{a b c:World}(h:KX x a b)(k:KX x b c):KX x a c:=⟨λi o hi f hx=>k.1 i o (h.1 i o hi f hx) f hx,W6 h.2 k.2⟩
theorem KD.kx{x:Option Nat}{w:World}(h:KD w w'):KX x w w':=⟨λi o hi f _=>h.1 i o hi f,h.2⟩
theorem KX.kd{w:World}(h:KX none w w'):KD w w':=⟨λi o hi f=>h.1 i o hi f (by simp),h.2⟩
theorem Sim.mark{B G:Nat}{ρ:Rn}{H:Mem}{w:World}{l:Nat}{Z:Obj}(s:Sim B G ρ H w)(A:w.heap[l]?=some Z)(Q:isMk Z=true)(hw:∀k,k≠l->w'.heap[k]?=w.heap[k]?)(a0:w.heap.size<=w'.heap.size):Sim B G ρ H w':=by
 refine s.other a0 λa x b o k hx hr=>hw b λe=>?_;subst e;rcases s.blk a x hx with h|⟨b',o',k',h,U⟩
 .grind
 .rw[hr] at h;cases h
  cases x with
  | cells l own z=>obtain⟨c,e,fz,f,_⟩:=U;rw[A] at f;cases f;cases Q
  | map es a1=>obtain⟨a2,f,_⟩:=U;rw[A] at f;cases f;cases Q
  | siter s a3=>have f:=U.1;rw[A] at f;cases f;cases Q
  | typ T l ex=>obtain⟨_,_,c,f,_⟩:=U;rw[A] at f;cases f;cases Q
abbrev Inv:=Rn->Option J->List Deferred->World->Prop
def Gq(I:Inv):Prop:=∀ρ ρ' p ds w w',I ρ p ds w->KD w w'->w.heap.size<=w'.heap.size->Sub ρ ρ'->I ρ' p ds w'
structure StE (B G n n0:Nat) (ρ0:Rn) (w0:World) (x:Option Nat) (l:Nat) (I:Inv) (ρ:Rn) (fr:Fr) (ys:List Nat) (p:Option J) (H:Mem) (a:Act) (w:World):Prop where
 same:∀a,a<n0->ρ a=ρ0 a
 keeps:KX x w0 w
 below:Below B w0 w
 sim:Sim B G ρ H w
 frel:Dj n ρ fr (Act.bare a)
 le:n0<=H.next
 inv:I ρ p a.defers w
 ysl:∀t,t∈ys->t<n/\fr.get t=none/\a.tmps.getD t undef=.func (.yield l) #[] #[]
def Hq(B G n n0:Nat)(ρ0:Rn)(w0:World)(x:Option Nat)(l:Nat)(I:Inv)(out:Eh):Exit->Act->World->Prop:=λe a' w'=>match out with
 | .norm fr ys p H=>e=.normal/\∃ρ',StE B G n n0 ρ0 w0 x l I ρ' fr ys p H a' w'
 | .jump j fr ys p H=>e=jexit j/\∃ρ',StE B G n n0 ρ0 w0 x l I ρ' fr ys p H a' w'
 | .bad=>False
def YOK(B G:Nat)(P:Program)(r x:Option Nat)(l m:Nat)(I:Inv)(yf:YF):Prop:=∀vs H b p' H',yf vs H=.ok b p' H'->∀(ρ:Rn)(us:Array Value)(ds:List Deferred)(w:World),Sim B G ρ H w->VRs ρ vs us.toList->I ρ none ds w ->
 ∃f tm asg bd,(Instr.yield l us).run P w=.ok (.round l f tm asg bd) w /\
  RoundIn (FR r) m P l f tm asg bd w λe w'=>e=.returned (.bool b)/\∃ρ',(∀a,a<H.next->ρ' a=ρ a)/\KX x w w'/\Below B w w'/\Sim B G ρ' H' w'/\H.next<=H'.next/\I ρ' p' ds w'
def b2q(j:Option J)(fr:Fr)(p:Option J)(H:Mem):Eh:=match j with|none=>.norm fr [] p H|some j=>.jump j fr [] p H
def ROK(B G n n0:Nat)(P:Program)(r x:Option Nat)(l m:Nat)(I:Inv)(rf:RF):Prop:=∀g ps asg body fr H j H',rf g ps asg body fr H=.ok j H' ->
 ∀(ρ0:Rn)(w0:World)(ρ:Rn)(p:Option J)(a:Act) (w:World),StE B G n n0 ρ0 w0 x l I ρ fr [] p H a w ->
  (Code.rangeFunc g ps asg body).wpIn (FR r) m P (Hq B G n n0 ρ0 w0 x l I (b2q j fr p H')) a w
variable {B G n n0 m l:Nat}{P:Program}{ρ0 ρ:Rn}{w0 w:World}{x r:Option Nat}{I:Inv}{fr:Fr}{ys:List Nat}{p:Option J}{H:Mem}{a:Act}
theorem StE.st(s:StE B G n n0 ρ0 w0 x l I ρ fr ys p H a w):St B G n H.next ρ w ρ fr H (Act.bare a) w:=⟨X6 _ _ _ _,s.sim,s.frel,Wy _⟩
theorem StE.ev(s:StE B G n n0 ρ0 w0 x l I ρ fr ys p H a w):EvR ρ fr.ev a.eval:=by rw[<- d5y];exact s.st.ev
theorem a3v{d t:Nat}:∀{l:List Nat},t∈R1 d l->t∈l/\t≠d
 | y::l,h=>by
  unfold R1 at h;split at h
  .obtain⟨f,A⟩:=a3v h;exact⟨by simp[f],A⟩
  .rename_i Q;rcases Xb.1 h with rfl|h
   .refine⟨by simp,λe=>?_⟩;simp_all
   .obtain⟨f,A⟩:=a3v h;exact⟨by simp[f],A⟩
theorem d5z{d:Option Tmp}{v:AV}{u yv:Value}(h:∀t,t∈ys->t<n/\fr.get t=none/\a.tmps.getD t undef=yv):
  ∀t,t∈Np d ys->t<n/\(fr.put d v).get t=none/\(a.put d u).tmps.getD t undef=yv:=by
 intro t f
 cases d with
 | none=>exact h t f
 | some d =>
  obtain⟨A,Z⟩:=a3v f;obtain⟨Q,h4,h5⟩:=h t A;refine⟨Q,?_,?_⟩
  .cases U:(fr.put (some d) v).get t with
   | none=>rfl
   | some y =>
    rcases Yg U with⟨rfl,_⟩|⟨_,hy⟩
    all_goals grind
  .show (a.tmps.setIfInBounds d u).getD t undef=yv;simp_all[Ne.symm]
theorem StE.step {ρ' : Rn} {H' : Mem} {w' : World} {v:AV} {u:Value} {d:Option Tmp} {p' : Option J} (s:StE B G n n0 ρ0 w0 x l I ρ fr ys p H a w) (h1:∀ a,a<H.next->ρ' a=ρ a) (h2:KX x w w') (h3:Below B w w') (hs:Sim B G ρ' H' w')
  (hv:VR ρ' v u) (hn:H.next<=H'.next) (hd:∀ t,d=some t->t<n) (hI:I ρ' p' a.defers w') : StE B G n n0 ρ0 w0 x l I ρ' (fr.put d v) (Np d ys) p' H' (a.put d u) w':=by
 have hsub:Sub ρ ρ':=by
  intro a x hx
  rw[h1 a ?_];· grind
  rcases Nat.lt_or_ge a H.next with k|k
  ·exact k
  ·rw[s.sim.fresh a k] at hx;grind
 refine⟨fun b hb=>(h1 b (Nat.lt_of_lt_of_le hb s.le)).trans (s.same b hb),s.keeps.trans h2,s.below.trans h3,hs,?_,Nat.le_trans s.le hn,by grind[Ow],d5z s.ysl⟩
 rw[d5x]
 exact(s.frel.mono hsub).put hd hv
theorem a3w{i:Nat}:∀{l:List Nat},Gp i l=true->i∈l
 | j::l,h=>by
  unfold Gp at h;split at h
  .rename_i f;simp[Xd f]
  .simp[a3w h]
theorem d6a{yf:YF}{a6:List Oper}{K:KF}{a0:Eh}(hc:A4 B G P callf)(hG:G=P.globals.size)(hy:∀m,YOK B G P r x l m I yf)
  (hI:Gq I) (b2:B6 n o=true) (s:StE B G n n0 ρ0 w0 x l I ρ fr ys p H a w)
  (hk:∀a7 a8 p' H' a2 a' w',StE B G n n0 ρ0 w0 x l I a2 a7 a8 p' H' a' w'->K a7 a8 p' H'=a0->wpListIn (FR r) m P ops (Hq B G n n0 ρ0 w0 x l I a0) a6 a' w')
  (A:opE P callf yf o fr ys p H K=a0) (c0:a0≠.bad) :
  o.wpIn (FR r) m P a w (wpListIn (FR r) m P ops (Hq B G n n0 ρ0 w0 x l I a0) a6) (Hq B G n n0 ρ0 w0 x l I a0):=by
 refine⟨λ_ _=>trivial,?_⟩;have hd:=Fe b2;unfold opE at A;split at A
 ·
  rename_i U;unfold a3r at U;split at U
  .rename_i t a3;split at U
   .rename_i ht;obtain⟨h1,Q,h3⟩:=s.ysl t (a3w ht);have a9:(o.semAt (FR r).round a.eval).run P w=.ok (.value (.func (.yield l) #[] #[])) w:=by
     rw[Oper.semAt_eq _ _ _ (by grind)];have:a.eval (.tmp t)=.func (.yield l) #[] #[]:=h3;simp_all[execOp]
    rw[a9];show wpListIn _ _ _ _ _ _ (a.put o.dst _) w;unfold mvE at A;split at A
    .grind
    .rename_i d a4;split at A
     .rename_i hg;refine hk fr (d::ys) p H ρ _ w ⟨s.same,s.keeps,s.below,s.sim,?_,s.le,by rw[Ow];exact s.inv,?_⟩ A
      .rw[a4];refine⟨λj v hj b3=>?_,s.frel.dfr,?_,s.frel.only⟩
       .have a5:j≠d:=λe=>by grind
        have:=s.frel.slot j v hj b3;show VR ρ v ((a.tmps.setIfInBounds d _).getD j undef);rw[Array.getD_eq_getD_getElem?,Array.getElem?_setIfInBounds_ne (Ne.symm a5),<- Array.getD_eq_getD_getElem?];exact this
       .show n<=(a.tmps.setIfInBounds d _).size;simp;exact s.frel.size
      .intro j hj;rw[a4];have b0:=hd d a4;have c1:d<a.tmps.size:=Xg b0 s.frel.size;by_cases a5:j=d
       .subst a5;refine⟨b0,hg,?_⟩;show (a.tmps.setIfInBounds j _).getD j undef=_;simp_all
       .have b4:j∈ys:=by grind
        obtain⟨k1,k2,k3⟩:=s.ysl j b4;refine⟨k1,k2,?_⟩;show (a.tmps.setIfInBounds d _).getD j undef=_;simp_all[Ne.symm]
     grind
   grind
  all_goals grind
 ·
  rename_i args U;unfold a3r at U;split at U
  .grind
  .rename_i c a3;split at U
   .rename_i t c2;split at U
    .rename_i ht;cases U;obtain⟨h1,Q,h3⟩:=s.ysl t (a3w ht);unfold ylE at A;split at A
     .rename_i vs b5;split at A
      .rename_i b p' H' b6;have b7:VRs ρ vs (c.args.map a.eval).toList:=by simpa using evals_VRs s.ev b5
       obtain⟨f,tm,asg,bd,a9,b8⟩:=hy (m-1) vs H b p' H' b6 ρ (c.args.map a.eval) a.defers w s.sim b7 s.inv;have b9:(o.semAt (FR r).round a.eval).run P w=.ok (.round l f tm asg bd) w:=by
        rw[Oper.semAt_eq _ _ _ (by grind)];have:a.eval (.tmp t)=.func (.yield l) #[] #[]:=h3;grind[invoke,Deferred.ofValue,resolve,execOp]
       rw[b9,Oper.uponIn_round];refine⟨λh=>(by cases h),b8.mono λe w' he=>?_⟩;obtain⟨rfl,a2,Z,g2,g3,g4,g5,g6⟩:=he;exact hk _ _ _ _ _ _ _ (s.step (v:=.lit (.bool b)) (u:=.bool b) Z g2 g3 g4 rfl g5 hd g6) A
      grind
     grind
    grind
   grind
  grind
 .rename_i U;split at A
  .rename_i c6;have a3:∀c,o.op≠.defer c:=by
    grind[G5]
   rw[Oper.semAt_eq _ _ _ a3];have a1:=Ig (o:=o) s.sim s.ev hG;unfold afE at A
   cases hr:opV P H fr.ev o with
   | val v H' =>
    rw[hr] at a1 A;obtain⟨a2,u,w',h1,Q,h3,h4,h5⟩:=a1;rw[h1];exact hk _ _ _ _ _ _ _ (s.step Q.same Q.keeps.kx Q.below h3 h4 h5 hd (hI _ _ _ _ _ _ s.inv Q.keeps Q.below.size (Q.sub s.sim))) A
   | skip H' =>
    rw[hr] at a1 A;obtain⟨a2,w',h1,Q,h3,h5⟩:=a1;rw[h1];exact hk _ _ _ _ _ _ _ (s.step Q.same Q.keeps.kx Q.below h3 (He _) h5 hd (hI _ _ _ _ _ _ s.inv Q.keeps Q.below.size (Q.sub s.sim))) A
   | enter f args H' =>
    rw[hr] at a1 A;obtain⟨us,h1,Q,rfl⟩:=a1;rw[h1,Oper.uponIn_enter];refine⟨λh=>(by cases h),?_⟩
    cases b1:callf f args H' with
    | ret v H2 =>
     dsimp only at A;rw[b1] at A;have:=hc f args H' (by grind) ρ us w s.sim Q;rw[b1] at this;refine(a3u this).mono λe w' he=>?_
     cases e with
     | returned u =>
      obtain⟨a2,Z,g2,g3,g4⟩:=he;exact hk _ _ _ _ _ _ _ (s.step Z.same Z.keeps.kx Z.below g2 g3 g4 hd (hI _ _ _ _ _ _ s.inv Z.keeps Z.below.size (Z.sub s.sim))) A
     | panicked c7=>exact he.elim
     | outgrown=>exact he.elim
    | panic v H2=>grind
    | bad=>grind
   | dfr fn c8 args H'=>grind
   | recover=>grind
   | panic v H'=>grind
   | bad=>grind
  grind
theorem b2r{b:Bool}(s:StE B G n n0 ρ0 w0 x l I ρ fr ys p H a w)(h:a3s ops o fr=some b):Region.wanted o (yielded ops a.tmps)=b:=by
 unfold a3s at h
 cases f:o.guard with
 | none=>grind[Region.wanted]
 | some g=>rw[f] at h;exact Tr (a:=Act.bare a) s.st f h
theorem a3x{yf:YF}(Q:A4 B G P callf)(hG:G=P.globals.size)(hy:∀m,YOK B G P r x l m I yf)(U:Gq I){A:Eh}(Z:A≠.bad):
  ∀(f:List Oper)(fr:Fr)(ys:List Nat)(p:Option J)(H:Mem) (ρ:Rn) (a:Act) (w:World),(∀o∈f,B6 n o=true)->StE B G n n0 ρ0 w0 x l I ρ fr ys p H a w->R2 P callf yf ops f fr ys p H=A ->
   wpListIn (FR r) m P ops (Hq B G n n0 ρ0 w0 x l I A) f a w
 | [],fr,ys,p,H,ρ,a,w,_,s,h=>by
  have h' : Eh.norm fr ys p H=A:=h;subst h';exact wpListIn_nil ⟨rfl,ρ,s⟩
 | o::f,fr,ys,p,H,ρ,a,w,hd,s,h=>by
  have a0:=hd o (by simp);unfold R2 at h;unfold wpListIn;split at h
  .rename_i hw;rw[if_pos (b2r s hw)];exact d6a Q hG hy U a0 s (λa1 a2 p' H' a3 a' w' s' hk=>a3x Q hG hy U Z f a1 a2 p' H' a3 a' w' (λo ho=>hd o (by simp[ho])) s' hk) h Z
  .rename_i hw;rw[if_neg (by grind[b2r])];exact⟨λ_ _=>trivial,a3x Q hG hy U Z f _ _ _ _ ρ _ _ (λo ho=>hd o (by grind)) (s.step (λ_ _=>rfl) (Yc _ _) (Below.refl _ _) s.sim (He _) (Wy _) (Fe a0) s.inv) h⟩
  grind
def Act.df(a:Act)(x:List Deferred):Act:={ a with defers:=x }
theorem R3(a:Act)(x:List Deferred)(d:Option Tmp)(v:Value):(Act.df a x).put d v=Act.df (a.put d v) x:=by cases d<;>rfl
theorem d6b(a:Act)(x:List Deferred):(Act.df a x).eval=a.eval:=by rfl
theorem d6c{row:String}{args:Array Value}{w:World}{R:Value->World->Prop}(h:Rows P row args w R):RowsIn (FR r) m P row args w R:=
 λc cs _=>let ⟨v,w',f,s⟩:=h c cs;⟨v,w',f,stepsIn_wide.2 s⟩
theorem Kt{Q:Exit->Act->World->Prop}(a0:ops.toList.all G5=true)(hQ:¬LetsOut Q)(U:List Deferred):∀(Z:List Nat)(a:Act)(x:List Deferred)(w:World),a.defers=x++U->wpOps P ops Q Z (Act.df a x) w ->
  wpOpsIn (FR r) m P ops (λe a' w'=>∃y,a'.defers=y++U/\Q e (Act.df a' y) w') Z a w
 | [],a,x,w,ha,h=>⟨x,ha,h⟩
 | i::Z,a,x,w,ha,h=>by
  unfold wpOps at h;unfold wpOpsIn
  cases ho:ops[i]? with
  | none=>rw[ho] at h;exact Kt a0 hQ U Z a x w ha h
  | some o =>
   rw[ho] at h;dsimp only at h |-;have a3:=W7.1 a0 o (e5w (B7.2 ho));have a2:∀c,o.op≠.defer c:=by
    grind[G5]
   have a1:∀d v,(a.put d v).defers=x++U:=λd v=>by grind[Ow]
   split at h
   .rename_i hw;rw[if_pos (show Region.wanted o (yielded ops a.tmps)=true from hw)];rcases h with h|⟨_,h2⟩
    .refine⟨λ_ _=>trivial,?_⟩;rw[Oper.semAt_eq _ _ _ a2];unfold Oper.wp at h;rw[d6b] at h;unfold Oper.upon at h;split at h
     .rename_i A;rw[A];rw[R3] at h;exact Kt a0 hQ U Z _ x _ (a1 _ _) h
     .rename_i A;rw[A];rw[R3] at h;exact Kt a0 hQ U Z _ x _ (a1 _ _) h
     .rename_i d w' A;rw[A,Oper.uponIn_defer];refine Kt a0 hQ U Z _ (d::x) _ (by grind[Ow]) ?_;have e:Act.df (({ a with defers:=d::a.defers }:Act).put o.dst undef) (d::x)=({ Act.df a x with defers:=d::(Act.df a x).defers }:Act).put o.dst undef:=by
       cases o.dst<;>rfl
      grind
     .rename_i f args w' A;rw[A,Oper.uponIn_enter];refine⟨λh=>(by cases h),(a3u h).mono λe w2 he=>?_⟩
      cases e with
      | returned v=>dsimp only at he |-;rw[R3] at he;exact Kt a0 hQ U Z _ x _ (a1 _ _) he
      | panicked c=>exact⟨x,ha,he⟩
      | outgrown=>exact absurd he hQ
     .rename_i row args w' A;rw[A,Oper.uponIn_row];refine⟨λh=>(by cases h),(d6c h).mono λv w2 he=>?_⟩;rw[R3] at he;exact Kt a0 hQ U Z _ x _ (a1 _ _) he
     .rename_i v w' A;rw[A];exact⟨x,ha,h⟩
     grind
    grind
   .rename_i hw;rw[if_neg (show ¬Region.wanted o (yielded ops a.tmps)=true from hw)];refine⟨λ_ _=>trivial,Kt a0 hQ U Z _ x _ (a1 _ _) ?_⟩;grind[R3]
theorem d6d{next U:Act->World->Prop}{Q f:Exit->Act->World->Prop}(hn:∀a w,next a w->U a w)(hq:∀e a w,Q e a w->f e a w){F:Fence}{Z:Result Next}(h:o.uponIn F m P a next Q Z):o.uponIn F m P a U f Z:=by
 have hl:LetsOut Q->LetsOut f:=λ⟨a,w,h⟩=>⟨a,w,hq _ _ _ h⟩;unfold Oper.uponIn at h |-;split at h
 .grind
 .grind
 .grind
 .refine⟨h.1,h.2.mono λe w' A=>?_⟩;grind
 .exact⟨h.1,h.2.mono λv w' A=>hn _ _ A⟩
 .refine⟨h.1,h.2.mono λe w' A=>?_⟩;grind
 all_goals grind
theorem R4{F:Fence}{Q U:Exit->Act->World->Prop}(f:∀e a w,Q e a w->U e a w):∀(l:List Nat)(a:Act)(w:World),wpOpsIn F m P ops Q l a w->wpOpsIn F m P ops U l a w
 | [],a,w,h=>f _ _ _ h
 | i::l,a,w,h=>by
  unfold wpOpsIn at h |-
  cases Z:ops[i]? with
  | none=>rw[Z] at h;exact R4 f l a w h
  | some o =>
   rw[Z] at h;dsimp only at h |-;split at h
   .rename_i A;rw[if_pos A];exact⟨h.1,d6d (R4 f l) f h.2⟩
   .rename_i A;rw[if_neg A];exact⟨h.1,R4 f l _ _ h.2⟩
theorem d6e{id:Nat}(a0:∀B,A4 B G P callf)(hG:G=P.globals.size)(hI:Gq I)(hd:Aw n (.region id ops true)=true)
  (s:StE B G n n0 ρ0 w0 x l I ρ fr ys p H a w) (A:U1 P callf ops fr ys p H≠.bad):(Code.region id ops true).wpIn (FR r) m P (Hq B G n n0 ρ0 w0 x l I (U1 P callf ops fr ys p H)) a w:=by
 unfold U1 at A |-;split at A
 .rename_i a1;split at A
  .rename_i a2 H' Q;split at A
   case h_2=>grind
   rename_i a3;refine wpIn_region_draw λt=>?_;have hq:¬LetsOut (C5 B G n H.next ρ w (L7 P callf ops fr H)):=by
    rintro⟨U,w',h⟩;rw[Q] at h;assumption
   have key:=Kt (r:=r) (m:=m) a1 hq a.defers _ a [] _ rfl (b2k (id:=id) a0 hG s.st hd (by grind) t);refine R4 ?_ _ _ _ key;rintro e U w' ⟨y,hy,h⟩;rw[Q] at h
   cases e with
   | normal =>
    obtain⟨Z,f⟩:=h;have a4:y=[]:=by
     have h1:DR Z a2.defers y:=f.frel.dfr;rw[a3] at h1;exact h1
    subst a4;refine⟨rfl,Z,λb hb=>(f.ext.same b (Xg hb s.le)).trans (s.same b hb),s.keeps.trans f.ext.keeps.kx,s.below.trans f.ext.below,f.sim,f.frel,W6 s.le f.le,?_,by simp⟩;have a5:U.defers=a.defers:=by grind
    rw[a5];exact hI _ _ _ _ _ _ s.inv f.ext.keeps f.ext.below.size (f.ext.sub s.sim)
   | _=>exact h.elim
  grind
 grind
end
section
variable {B G n n0 m l:Nat}{P:Program}{ρ0 ρ:Rn}{w0 w:World}{x r:Option Nat}{I:Inv}{fr:Fr}{ys:List Nat}{p:Option J}{H:Mem}{a:Act}
def LWR(r:Option Nat)(P:Program)(c:Code)(Q:Exit->Act->World->Prop)(a:Act)(w:World):Prop:=
 ∀(b:Frame)(k:List Item)(cs:List Frame),b.roundOf=r->∃e a' w',Q e a' w'/\ArrivesIn (Machine.fenced P (FR r)) P (lone (b.atR a (.code c::.inLoop c::k)) cs w) b k cs e a' w'
theorem b2s(n:Nat):(FR r).room n:=λ_ h=>by cases h
theorem b2t{b:Frame}{k:List Item}{cs:List Frame}(h:b.roundOf=r)(f:(b.atR a k).about P w=none):(lone (b.atR a k) cs w).fenced P (FR r):=fenced_calm (n:=0) (F:=FR r) trivial (b2s _) f
theorem LWR.wp{c:Code}{Q:Exit->Act->World->Prop}(h:LWR r P c Q a w):(Code.loop c).wpIn (FR r) m P Q a w:=
 λb k cs f _ _=>let ⟨e,A,U,q,s⟩:=h b k cs f;⟨e,A,U,q,.of_steps (.one (b2t f rfl) stepR_loop) s⟩
theorem LWR.unroll{c:Code}{Q:Exit->Act->World->Prop}(h:c.wpIn (FR r) m P (Exit.then (LWR r P c Q) Q) a w):LWR r P c Q a w:=by
 intro b k cs a0;obtain⟨e,U,Z,f,A⟩:=h b (.inLoop c::k) cs a0 trivial (b2s _)
 cases e with
 | normal =>
  obtain⟨a1,a2,a3,a4,a5⟩:=f b k cs a0;exact⟨a1,a2,a3,a4,.of_steps (StepsIn.trans A (.one (b2t a0 rfl) stepR_inLoop)) a5⟩
 | exit id=>exact⟨_,U,Z,f,.pass (x:=.inLoop c) rfl (λ_ _=>.inl (by simp)) A⟩
 | goto l=>exact⟨_,U,Z,f,.pass (x:=.inLoop c) rfl (λ_ _=>.inl (by simp)) A⟩
 | ret=>exact⟨_,U,Z,f,.pass (x:=.inLoop c) rfl (λ_ _=>.inl (by simp)) A⟩
 | panic ch=>exact⟨_,U,Z,f,.pass (x:=.inLoop c) rfl (λ_ _=>.inl (by simp)) A⟩
 | outgrown=>exact⟨_,U,Z,f,.pass (x:=.inLoop c) rfl (λ_ _=>.inl (by simp)) A⟩
def b2u(B G n n0:Nat)(P:Program)(r x:Option Nat)(l m:Nat)(I:Inv)(ex:KF)(c:Code):Prop:=
 ∀(ρ0:Rn)(w0:World)(ρ:Rn)(fr:Fr)(ys:List Nat) (p:Option J) (H:Mem) (a:Act) (w:World),Aw n c=true->StE B G n n0 ρ0 w0 x l I ρ fr ys p H a w->ex fr ys p H≠.bad ->
  c.wpIn (FR r) m P (Hq B G n n0 ρ0 w0 x l I (ex fr ys p H)) a w
def a3y(B G n n0:Nat)(P:Program)(r x:Option Nat)(l:Nat)(I:Inv)(loopf:LFE):Prop:=
 ∀(b:Code)(ρ0:Rn)(w0:World)(ρ:Rn)(fr:Fr) (ys:List Nat) (p:Option J) (H:Mem) (a:Act) (w:World),Aw n b=true->StE B G n n0 ρ0 w0 x l I ρ fr ys p H a w->loopf b fr ys p H≠.bad ->
  LWR r P b (Hq B G n n0 ρ0 w0 x l I (loopf b fr ys p H)) a w
theorem b2v{o:Eh}{k:KF}{K:Act->World->Prop}(a1:L8 o k≠.bad)
  (hk:∀Q U Z H' a0 f A,o=.norm Q U Z H'->StE B G n n0 ρ0 w0 x l I a0 Q U Z H' f A->k Q U Z H'≠.bad->K f A) :
  ∀e f A,Hq B G n n0 ρ0 w0 x l I o e f A->Exit.then K (Hq B G n n0 ρ0 w0 x l I (L8 o k)) e f A:=by
 intro e f A h
 cases o with
 | norm Q U Z H'=>obtain⟨rfl,a0,s'⟩:=h;exact hk _ _ _ _ a0 f A rfl s' a1
 | jump j Q U Z H' =>
  have h0:=h;obtain⟨rfl,a0,s'⟩:=h0;cases j<;>exact h
 | bad=>exact absurd rfl a1
theorem b2w{callf:CallF}{f:YF}{A:RF}{loopf:LFE}{b:Code}(Z:a3y B G n n0 P r x l I loopf)(hb:b2u B G n n0 P r x l m I (Bz P callf f A loopf b) b)(ρ0:Rn)(w0:World)(ρ:Rn)(fr:Fr)(ys:List Nat)(p:Option J)(H:Mem)(a:Act)(w:World)
  (Q:Aw n b=true) (s:StE B G n n0 ρ0 w0 x l I ρ fr ys p H a w) (U:L8 (Bz P callf f A loopf b fr ys p H) (loopf b)≠.bad) :
  LWR r P b (Hq B G n n0 ρ0 w0 x l I (L8 (Bz P callf f A loopf b fr ys p H) (loopf b))) a w:=by
 have hr:Bz P callf f A loopf b fr ys p H≠.bad:=λh=>U (by rw[h];rfl);refine LWR.unroll (m:=m) (Code.wpIn_mono (b2v U λa0 a1 p' H' a2 a' w' a3 s' hk=>?_) (hb ρ0 w0 ρ fr ys p H a w Q s hr));rw[a3];exact Z b ρ0 w0 a2 a0 a1 p' H' a' w' Q s' hk
theorem Pe{callf:CallF}{U:YF}{Q:RF}{loopf:LFE}(a7:∀B,A4 B G P callf)(hG:G=P.globals.size)(hy:∀m,YOK B G P r x l m I U)(hI:Gq I)
  (a8:ROK B G n n0 P r x l m I Q) (hl:a3y B G n n0 P r x l I loopf):∀c:Code,b2u B G n n0 P r x l m I (Bz P callf U Q loopf c) c:=by
 intro c
 induction c with
 | skip=>intro ρ0 w0 ρ fr ys p H a w A s f;exact wpIn_skip ⟨rfl,ρ,s⟩
 | region id ops b0 =>
  intro ρ0 w0 ρ fr ys p H a w A s f
  cases b0 with
  | false =>
   refine wpIn_region_list (a3x (a7 B) hG hy hI f ops.toList fr ys p H ρ a w ?_ s rfl);exact λo ho=>W7.1 A o ho
  | true=>exact d6e a7 hG hI A s f
 | seq Z c2 a1 a2 =>
  intro ρ0 w0 ρ fr ys p H a w A s f;have he:Bz P callf U Q loopf (.seq Z c2) fr ys p H=L8 (Bz P callf U Q loopf Z fr ys p H) (Bz P callf U Q loopf c2):=rfl;rw[he] at f |-;simp only[Aw,W0] at A;have hr:Bz P callf U Q loopf Z fr ys p H≠.bad:=λh=>f (by rw[h];rfl);refine wpIn_seq (Code.wpIn_mono (b2v f λa3 a4 p' H' a0 a' w' b1 s' hk=>?_) (a1 ρ0 w0 ρ fr ys p H a w A.1 s hr));rw[b1];exact a2 ρ0 w0 a0 a3 a4 p' H' a' w' A.2 s' hk
 | cond a9 Z c2 a1 a2 =>
  intro ρ0 w0 ρ fr ys p H a w A s f;simp only[Aw,W0] at A
  have he:Bz P callf U Q loopf (.cond a9 Z c2) fr ys p H=(match fr.ev a9 with
   | some (.lit (.bool true))=>Bz P callf U Q loopf Z fr ys p H
   | some (.lit (.bool false))=>Bz P callf U Q loopf c2 fr ys p H
   | _=>.bad):=rfl
  rw[he] at f |-;split at f
  .rename_i a5;exact wpIn_cond_true (s.ev _ _ a5) (a1 ρ0 w0 ρ fr ys p H a w A.1 s f)
  .rename_i a5;exact wpIn_cond_false (s.ev _ _ a5) (a2 ρ0 w0 ρ fr ys p H a w A.2 s f)
  grind
 | block id b ih =>
  intro ρ0 w0 ρ fr ys p H a w A s f;have he:Bz P callf U Q loopf (.block id b) fr ys p H=a3t id (Bz P callf U Q loopf b fr ys p H):=rfl;rw[he] at f |-;have hr:Bz P callf U Q loopf b fr ys p H≠.bad:=λh=>f (by rw[h];rfl);refine wpIn_block (Code.wpIn_mono ?_ (ih ρ0 w0 ρ fr ys p H a w A s hr));intro e a' w' h;generalize Bz P callf U Q loopf b fr ys p H=o at h f |-
  cases o with
  | norm a3 a4 p' H'=>obtain⟨rfl,h'⟩:=h;exact⟨rfl,h'⟩
  | jump j a3 a4 p' H' =>
   obtain⟨rfl,a0,s'⟩:=h
   cases j with
   | none=>exact⟨rfl,a0,s'⟩
   | some b2 =>
    unfold a3t;dsimp only[jexit];split
    .rename_i hb;have:=Xd hb;subst this;simp only[Exit.inBlock,if_true];exact⟨rfl,a0,s'⟩
    .rename_i hb;have b3:b2≠id:=by intro h0;simp_all
     simp only[Exit.inBlock,b3,if_false];exact⟨rfl,a0,s'⟩
  | bad=>exact absurd rfl f
 | loop b ih =>
  intro ρ0 w0 ρ fr ys p H a w A s f;exact(b2w hl ih ρ0 w0 ρ fr ys p H a w A s f).wp
 | rangeFunc g ps Z c2 a1 a2 =>
  intro ρ0 w0 ρ fr ys p H a w A s f
  cases ys with
  | cons y ys=>exact absurd rfl f
  | nil =>
   have he:Bz P callf U Q loopf (.rangeFunc g ps Z c2) fr [] p H=(match Q g ps Z c2 fr H with
    | .ok none H'=>.norm fr [] p H'
    | .ok (some j) H'=>.jump j fr [] p H'
    | .bad=>.bad):=rfl
   rw[he] at f |-;split at f
   .rename_i H' a6;exact a8 _ _ _ _ _ _ _ _ a6 ρ0 w0 ρ p a w s
   .rename_i j H' a6;exact a8 _ _ _ _ _ _ _ _ a6 ρ0 w0 ρ p a w s
   grind
 | exit id=>intro ρ0 w0 ρ fr ys p H a w A s f;exact wpIn_exit ⟨rfl,ρ,s⟩
 | scope b ih=>intro ρ0 w0 ρ fr ys p H a w A s f;exact absurd rfl f
 | label l=>intro ρ0 w0 ρ fr ys p H a w A s f;exact wpIn_label ⟨rfl,ρ,s⟩
 | goto l=>intro ρ0 w0 ρ fr ys p H a w A s f;exact absurd rfl f
 | ret=>intro ρ0 w0 ρ fr ys p H a w A s f;exact wpIn_ret ⟨rfl,ρ,s⟩
 | refuse b4=>intro ρ0 w0 ρ fr ys p H a w A s f;exact absurd rfl f
theorem Nq{callf:CallF}{U:YF}{Z:RF}(f:∀B,A4 B G P callf)(hG:G=P.globals.size)(hy:∀m,YOK B G P r x l m I U)(h:Gq I)
  (A:∀m,ROK B G n n0 P r x l m I Z):∀k,a3y B G n n0 P r x l I (Ip P callf U Z k)
 | 0=>λb ρ0 w0 ρ fr ys p H a w hd s Q=>absurd rfl Q
 | k+1=>λb ρ0 w0 ρ fr ys p H a w hd s Q=>b2w (m:=0) (Nq f hG hy h A k) (Pe f hG hy h (A 0) (Nq f hG hy h A k) b) ρ0 w0 ρ fr ys p H a w hd s Q
end
section
variable {B G n n0 m l:Nat}{P:Program}{ρ0 ρ:Rn}{w0 w:World}{x r:Option Nat}{I:Inv}{fr fr0:Fr}{ys:List Nat}{p:Option J}{H:Mem}{a:Act}{callf:CallF}{fid D:Nat}{tm:Array Value}{ps:Array Tmp}{asg body:Code}{fuel:Nat}
theorem Nr{o:Obj}(f:B<=l):Below B w (w.putObj l o):=⟨rfl,rfl,rfl,by simp,λk h=>World.putObj_heap_other (by omega)⟩
theorem U2{o:Obj}:KX (some l) w (w.putObj l o):=⟨λk f h A hx=>by
 grind[World.putObj_heap_other],Wy _⟩
theorem Ns{o f:Obj}(s:Sim B G ρ H w)(h:w.heap[l]?=some f)(A:isMk f=true):Sim B G ρ H (w.putObj l o):=
 s.mark h A (λk Q=>World.putObj_heap_other Q) (by simp)
noncomputable def yBad:YF:=λ_ _=>.bad
noncomputable def rBad:RF:=λ_ _ _ _ _ _=>.bad
theorem L9(m:Nat):YOK B G P r x l m I yBad:=λ_ _ _ _ _ h=>by cases h
theorem Ma(m:Nat):ROK B G n n0 P r x l m I rBad:=λ_ _ _ _ _ _ _ _ h=>by cases h
noncomputable def putPs:List Tmp->List AV->Fr->Fr
 | t::ts,v::vs,fr=>putPs ts vs (fr.upd t v)
 | _,_,fr=>fr
theorem putPs_ok:∀{ps:List Tmp}{vs:List AV}{us:List Value}{fr:Fr}{tm:Array Value},(∀t∈ps,t<n)->VRs ρ vs us->Dj n ρ fr { tmps:=tm,defers:=[] } ->
  Dj n ρ (putPs ps vs fr) { tmps:=(ps.zip us).foldl (λtmps (t,a)=>tmps.setIfInBounds t a) tm,defers:=[] }
 | [],vs,us,fr,tm,_,_,h=>by assumption
 | t::ts,[],us,fr,tm,_,f,h=>by cases f;assumption
 | t::ts,v::vs,us,fr,tm,A,f,h=>by
  obtain⟨u,Q,rfl,U,Z⟩:=f;have:=Dj.put (d:=some t) h (λj hj=>by simp_all) U;exact putPs_ok (ps:=ts) (vs:=vs) (us:=Q) (fr:=fr.upd t v) (tm:=tm.setIfInBounds t u) (λj hj=>A j (by grind)) Z this
def Ds(fid:FuncId)(tm:Array Value)(ps:Array Tmp)(asg body:Code)(D:Nat)(st:LoopState)(pd:Option Code):Loop:={ state:=st,pending:=pd,fn:=fid,tmps:=tm,params:=ps,assign:=asg,body:=body,defers:=D }
def IR(fid:FuncId)(tm:Array Value)(ps:Array Tmp)(asg body:Code)(D l:Nat)(st:LoopState):Inv:=λ_ _ ds w=>ds=[]/\w.heap[l]?=some (.loop (Ds fid tm ps asg body D st none))
def Iq(p:Option J):LoopState:=match p with|none=>.ready|some _=>.done
def II(n:Nat)(fr0:Fr)(fid:FuncId)(tm:Array Value)(ps:Array Tmp)(asg body:Code)(D l:Nat):Inv:=λρ p ds w=>ds=[]/\Dj n ρ fr0 { tmps:=tm,defers:=[] }/\w.heap[l]?=some (.loop (Ds fid tm ps asg body D (Iq p) (p.map jcode)))
theorem Mb{st:LoopState}:Gq (IR fid tm ps asg body D l st):=λ_ _ _ _ _ _ h f _ _=>⟨h.1,f.1 _ _ h.2 rfl⟩
theorem II_ok:Gq (II n fr0 fid tm ps asg body D l):=λ_ _ _ _ _ _ h f _ A=>⟨h.1,h.2.1.mono A,f.1 _ _ h.2.2 rfl⟩
noncomputable def yfR(P:Program)(callf:CallF)(fuel:Nat)(ps:Array Tmp)(asg body:Code)(fr0:Fr):YF:=λvs H=>match Nat.beq vs.length ps.size with
 | true=>(match Bz P callf yBad rBad (Ip P callf yBad rBad fuel) asg (putPs ps.toList vs fr0) [] none H with
  | .norm fr1 ys1 p1 H1=>(match Bz P callf yBad rBad (Ip P callf yBad rBad fuel) body fr1 ys1 p1 H1 with
   | .norm _ _ _ H2=>.ok true none H2
   | .jump j _ _ _ H2=>.ok false (some j) H2
   | .bad=>.bad)
  | _=>.bad)
 | false=>.bad
theorem U3 {ρ' : Rn} (s:Sim B G ρ H w) (h:∀ a,a<H.next->ρ' a=ρ a) : Sub ρ ρ':=by
 intro a y hy
 rw[h a ?_];· grind
 rcases Nat.lt_or_ge a H.next with k|k
 ·exact k
 ·rw[s.fresh a k] at hy;grind
theorem b2x(Q:∀B,A4 B G P callf)(hG:G=P.globals.size)(hB:B<=l)(b3:∀t∈ps.toList,t<n)(b4:Aw n asg=true)(b0:Aw n body=true)(m:Nat):
  YOK B G P none (some l) l m (II n fr0 fid tm ps asg body D l) (yfR P callf fuel ps asg body fr0):=by
 intro vs H b p' H' U ρ us ds w hs hv hI;obtain⟨rfl,b1,hl⟩:=hI;unfold yfR at U;split at U
 .rename_i b5;have c7:=Xd b5;have b6:us.size=ps.size:=by have:=hv.length;grind
  refine⟨fid,_,asg,body,run_yield hl b6,roundIn_of_wpIn trivial ?_⟩;generalize b7:((Ds fid tm ps asg body D (Iq none) (Option.map jcode none)).params.zip us).foldl (λtmps (t,a)=>tmps.setIfInBounds t a) (Ds fid tm ps asg body D (Iq none) (Option.map jcode none)).tmps=tm1;have b8:Dj n ρ (putPs ps.toList vs fr0) { tmps:=tm1,defers:=[] }:=by
   have:=putPs_ok b3 hv b1;rw[<- b7];show Dj n ρ (putPs ps.toList vs fr0) { tmps:=(ps.zip us).foldl (λtmps (t,a)=>tmps.setIfInBounds t a) tm,defers:=[] };grind[Array.toList_zip]
  have s0:StE B G n H.next ρ w none 0 (IR fid tm ps asg body D l .ready) ρ (putPs ps.toList vs fr0) [] none H { tmps:=tm1,defers:=[] } w:=
   ⟨λ_ _=>rfl,Yc _ _,Below.refl _ _,hs,b8,Wy _,⟨rfl,hl⟩,by simp⟩
  split at U
  .rename_i b9 c0 p1 H1 c1;have key:asg.wpIn (FR (some l)) m P _ _ _:=Pe (r:=some l) (m:=m) Q hG L9 Mb (Ma m) (Nq Q hG L9 Mb Ma fuel) asg ρ w ρ _ [] none H _ w b4 s0 (by grind);rw[c1] at key;refine Code.wpIn_mono ?_ key;rintro e a1 w1 ⟨rfl,A,s1⟩;obtain⟨c2,a6⟩:=s1.inv;refine⟨_,run_beginRound a6 rfl,?_⟩;have b2:(w1.putObj l (.loop { Ds fid tm ps asg body D .ready none with state:=.busy })).heap[l]?=some (.loop (Ds fid tm ps asg body D .busy none)):=World.putObj_heap_same (e5y.1 a6).1;generalize c6:w1.putObj l (.loop { Ds fid tm ps asg body D .ready none with state:=.busy })=h at b2 |-;have s2:StE B G n H1.next A h none 0 (IR fid tm ps asg body D l .busy) A b9 c0 p1 H1 a1 h:=
    ⟨λ_ _=>rfl,Yc _ _,Below.refl _ _,by rw[<- c6];exact Ns s1.sim a6 rfl,s1.frel,Wy _,⟨c2,b2⟩,s1.ysl⟩
   have fin:∀{Z:Mem}{a0:Rn}{a4:Fr}{a5:List Nat}{q:Option J} {a2:Act} {w3:World} (j:Option J),StE B G n H1.next A h none 0 (IR fid tm ps asg body D l .busy) a0 a4 a5 q Z a2 w3 ->
     ∃v w4,(Instr.endRound l (j.map jcode)).run P w3=.ok v w4/\(Ending.returned v=.returned (.bool j.isNone)/\∃a7,(∀a,a<H.next->a7 a=ρ a)/\KX (some l) w w4/\Below B w w4/\Sim B G a7 Z w4/\H.next<=Z.next/\II n fr0 fid tm ps asg body D l a7 j [] w4):=by
    intro Z a0 a4 a5 q a2 w3 j f;obtain⟨_,a8⟩:=f.inv;have c8:((j.map jcode).isNone)=j.isNone:=by grind
    refine⟨_,_,run_endRound _ a8,by grind,a0,λb hb=>?_,?_,?_,Ns f.sim a8 rfl,W6 s1.le f.le,rfl,?_,?_⟩
    .exact(f.same b (Xg hb s1.le)).trans (s1.same b hb)
    .have k1:KX (some l) w w1:=⟨λk o hk ho hx=>s1.keeps.1 k o hk ho (by simp),s1.keeps.2⟩;have k2:KX (some l) w1 h:=by grind[U2]
     have k3:KX (some l) h w3:=⟨λk o hk ho hx=>f.keeps.1 k o hk ho (by simp),f.keeps.2⟩;exact((k1.trans k2).trans k3).trans U2
    .have k2:Below B w1 h:=by grind[Nr]
     exact((s1.below.trans k2).trans f.below).trans (Nr hB)
    .exact b1.mono (U3 hs λb hb=>(f.same b (Xg hb s1.le)).trans (s1.same b hb))
    .rw[World.putObj_heap_same (e5y.1 a8).1];cases j<;>rfl
   split at U
   .rename_i a4 a5 p2 Z a9;cases U;have a3:body.wpIn (FR (some l)) m P _ _ _:=Pe (r:=some l) (m:=m) Q hG L9 Mb (Ma m) (Nq Q hG L9 Mb Ma fuel) body A h A _ _ _ H1 _ h b0 s2 (by grind);rw[a9] at a3;refine Code.wpIn_mono ?_ a3;rintro e a2 w3 ⟨rfl,a0,f⟩;exact fin none f
   .rename_i j a4 a5 p2 Z a9;cases U;have a3:body.wpIn (FR (some l)) m P _ _ _:=Pe (r:=some l) (m:=m) Q hG L9 Mb (Ma m) (Nq Q hG L9 Mb Ma fuel) body A h A _ _ _ H1 _ h b0 s2 (by grind);rw[a9] at a3;refine Code.wpIn_mono ?_ a3;rintro e a2 w3 ⟨rfl,a0,f⟩
    cases j with
    | none=>exact fin (some none) f
    | some id=>exact fin (some (some id)) f
   grind
  grind
 grind
end
section
variable {B G n n0 m l l1 lo:Nat}{P:Program}{ρ0 ρ:Rn}{w0 w:World}{x r:Option Nat}{I:Inv}{fr fr0:Fr}{ys:List Nat}{p:Option J}{H:Mem}{a:Act}{callf:CallF}{fid D:Nat}{tm:Array Value}{ps:Array Tmp}{asg body:Code}{fuel:Nat}
noncomputable def d6f(P:Program)(it:Func)(r:Eh):U0:=match r with
 | .norm fr _ p H=>(match Fa P it fr H with|some _=>.ok p H|none=>.bad)
 | .jump none fr _ p H=>(match Fa P it fr H with|some _=>.ok p H|none=>.bad)
 | _=>.bad
noncomputable def itE(P:Program)(callf:CallF)(fuel:Nat)(yf:YF)(f:FuncId)(cap:List AV)(H:Mem):U0:=match P.funcs[f]? with
 | some it=>(match it.body,Ao P f with
  | some c,true=>(match Aw it.ntmps c,Nat.ble (len cap+1) it.ntmps with
   | true,true=>d6f P it (Bz P callf yf rBad (Ip P callf yf rBad fuel) c (putArgs cap (Ck it.ntmps) 1) [0] none H)
   | _,_=>.bad)
  | _,_=>.bad)
 | none=>.bad
noncomputable def rfR(P:Program)(callf:CallF)(fuel n:Nat):RF:=λg ps asg body fr H=>match ps.toList.all (λt=>Nat.blt t n),Aw n asg&&Aw n body,fr.ev g with
 | true,true,some (.func (.func f) [] cap)=>itE P callf fuel (yfR P callf fuel ps asg body fr) f cap H
 | _,_,_=>.bad
def MKs(lo:Nat):List Deferred->World->Prop
 | [],_=>True
 | d::ds,w=>∃D,d.target=.collected D/\lo<=D/\w.heap[D]?=some (.deferred (some []))/\(∀d'∈ds,d'.target≠.collected D)/\MKs lo ds w
theorem MKs.keep{w f:World}(h:∀D:Nat,w.heap[D]?=some (Obj.deferred (some []))->f.heap[D]?=some (Obj.deferred (some []))):∀{ds:List Deferred},MKs lo ds w->MKs lo ds f
 | [],_=>trivial
 | _::_,⟨D,A,Q,U,Z,h5⟩=>⟨D,A,Q,h D U,Z,MKs.keep h h5⟩
theorem MKs.keepBut{w A:World}{E:Nat}(Q:∀D,D≠E->A.heap[D]?=w.heap[D]?):∀{ds:List Deferred},(∀f∈ds,f.target≠.collected E)->MKs lo ds w->MKs lo ds A
 | [],_,_=>trivial
 | d::_,U,⟨D,Z,h2,h3,h4,h5⟩=>⟨D,Z,h2,by grind,h4,MKs.keepBut Q (λf h=>U f (by grind)) h5⟩
theorem MKs.lt{w:World}:∀{ds:List Deferred},MKs lo ds w->∀f∈ds,f.target≠.collected w.heap.size
 | d::ds,⟨D,A,Z,Q,h4,U⟩,f,h=>by
  rcases Xb.1 h with rfl|h
  .rw[A];intro e;cases e;have:=(e5y.1 Q).1;omega
  .exact MKs.lt U f h
def Iv0(lo:Nat):Inv:=λ_ p ds w=>p=none/\lo<=w.heap.size/\MKs lo ds w
theorem IO_ok:Gq (Iv0 lo):=λ_ _ _ _ _ _ h f A _=>⟨h.1,W6 h.2.1 A,h.2.2.keep λD Q=>f.1 D _ Q rfl⟩
theorem d6g{f:List AV}{cs:Array Value}{yv:Value}(A:VRs ρ f cs.toList)(a0:f.length+1<=n):
  Dj n ρ (putArgs f (Ck n) 1) { tmps:=#[yv]++cs++Array.replicate (n-(#[yv]++cs).size) undef,defers:=[] } /\
  (∀t,t∈[0]->t<n/\(putArgs f (Ck n) 1).get t=none/\(#[yv]++cs++Array.replicate (n-(#[yv]++cs).size) undef).getD t undef=yv):=by
 have a1:cs.size=f.length:=by have:=A.length;grind
 have U:∀t v,(putArgs f (Ck n) 1).get t=some v->1<=t/\f[t-1]?=some v:=by
  intro t v h;rcases putArgs_get _ _ _ _ _ h with Q|Q
  all_goals grind[a7m]
 refine⟨⟨?_,?_,by grind,?_⟩,?_⟩
 .intro t v h _;obtain⟨Q,Z⟩:=U t v h;obtain⟨u,hu,a2⟩:=A.get (t-1) Z
  (simp_all;grind)
 .rw[putArgs_defers,a7n];rfl
 .grind
 .intro t ht;have:t=0:=by grind
  subst this;refine⟨by omega,?_,?_⟩
  .cases hg:(putArgs f (Ck n) 1).get 0 with
   | none=>rfl
   | some v=>grind
  simp[Array.getElem?_append_left]
theorem b2y(a4:∀B,A4 B G P callf)(hG:G=P.globals.size)(m:Nat):ROK B G n n0 P none none l1 m (Iv0 lo) (rfR P callf fuel n):=by
 intro g ps asg body fr H j H' U ρ0 w0 ρ p a w s;unfold rfR at U;split at U
 .rename_i f a5 b5 a1 b6;simp only[W0] at a1;have b0:∀t∈ps.toList,t<n:=λt ht=>Wz (W7.1 b5 t ht);obtain⟨f',c',hu,h1,h2⟩:=s.ev _ _ b6;have b7:f'=#[]:=by grind[VRs]
  subst b7;unfold itE at U;split at U
  .rename_i Z b8;split at U
   .rename_i c b9 c0;split at U
    .rename_i c1 e8;have c2:a5.length+1<=Z.ntmps:=by simp_all[C3]
     refine wpIn_rangeFunc λfn _=>?_;have a8:=run_enterLoop_outer (P:=P) (w:=w) fn a.tmps ps asg body;have a6:=World.alloc_heap_new (w.alloc (.deferred (some []))) (.loop { state:=.ready,pending:=none,fn:=fn,tmps:=a.tmps,params:=ps,assign:=asg,body:=body,defers:=w.heap.size });rw[World.size_alloc] at a6;generalize e9:w.heap.size+1=l at a8 a6;generalize a9:(w.alloc (.deferred (some []))).alloc (.loop { state:=.ready,pending:=none,fn:=fn,tmps:=a.tmps,params:=ps,assign:=asg,body:=body,defers:=w.heap.size })=A at a8 a6;refine⟨l,_,A,{ target:=.fn (.func f) c',args:=#[.func (.yield l) #[] #[]] },A,f,#[.func (.yield l) #[] #[]]++c',A,a8,?_,λ_ _=>trivial,?_,λh=>(by cases h),?_⟩
     .have g0:∀v:Value,a.eval (.const v)=v:=λ_=>rfl;simp_all[Deferred.ofValue,resolve]
     .exact Tm c0 _ _
     ·
      have g1:A.heap.size=w.heap.size+2:=by rw[<- a9];simp
      have c6:w.drawn<=A.drawn:=by rw[<- a9];simp
      have c7:∀k,k<w.heap.size->A.heap[k]?=w.heap[k]?:=by
       grind[Below.heap_alloc]
      have hD:A.heap[w.heap.size]?=some (.deferred (some [])):=by
       grind[World.alloc_heap_new,Below.heap_alloc]
      have hl:A.heap[l]?=some (.loop (Ds fn a.tmps ps asg body w.heap.size .ready none)):=a6;have c8:Below B w A:=by
       rw[<- a9];exact((Below.refl B w).alloc s.sim.base _).alloc (by simp;have:=s.sim.base;omega) _
      have c9:Sim B G ρ H A:=s.sim.other (by omega) λa x b o k hx hr=>c7 b (by
       rcases s.sim.blk a x hx with h|⟨b',o',k',h,hb⟩
       .grind
       .rw[hr] at h;cases h;exact hb.lt)
      obtain⟨e0,e1⟩:=d6g (yv:=.func (.yield l) #[] #[]) h2 c2;have hB:B<=l:=by have:=s.sim.base;omega
      have s1:StE B G Z.ntmps H.next ρ A (some l) l (II n fr fn a.tmps ps asg body w.heap.size l) ρ (putArgs a5 (Ck Z.ntmps) 1) [0] none H { tmps:=#[Value.func (.yield l) #[] #[]]++c'++Array.replicate (Z.ntmps-(#[Value.func (.yield l) #[] #[]]++c').size) undef,defers:=[] } A:=
       ⟨λ_ _=>rfl,Yc _ _,Below.refl _ _,c9,e0,Wy _,⟨rfl,s.frel,hl⟩,e1⟩
      have e5:Bz P callf (yfR P callf fuel ps asg body fr) rBad (Ip P callf (yfR P callf fuel ps asg body fr) rBad fuel) c (putArgs a5 (Ck Z.ntmps) 1) [0] none H≠.bad:=λe=>by rw[e] at U;cases U
      have key:=Pe (r:=none) (x:=some l) (l:=l) (m:=m-1) (I:=II n fr fn a.tmps ps asg body w.heap.size l) a4 hG (b2x a4 hG hB b0 a1.1 a1.2) II_ok (Ma _) (Nq a4 hG (b2x a4 hG hB b0 a1.1 a1.2) II_ok Ma fuel) c ρ A ρ _ [0] none H _ A c1 s1 e5;have fin:∀{a3:Fr}{a7:List Nat}{p2:Option J}{H2:Mem}{a0:Rn} {a2:Act} {w3:World},StE B G Z.ntmps H.next ρ A (some l) l (II n fr fn a.tmps ps asg body w.heap.size l) a0 a3 a7 p2 H2 a2 w3 ->
        (match Fa P Z a3 H2 with|some _=>U0.ok p2 H2|none=>.bad)=.ok j H'->a2.defers=[]/\∃v,(results Z a2.tmps).run P w3=.ok v w3 /\
         rangePost (FR none) m P l (Hq B G n n0 ρ0 w0 none l1 (Iv0 lo) (b2q j fr p H')) { a with defers:=[{ target:=.collected w.heap.size,args:=#[] }]++a.defers } (.returned v) w3:=by
       intro a3 a7 p2 H2 a0 a2 w3 Q b1;split at b1
       .rename_i v hv;cases b1;obtain⟨e6,g2,b2⟩:=Q.inv;obtain⟨u,e7,g3⟩:=Lw Q.st hG hv;refine⟨e6,u,e7,_,_,run_endLoop b2 (by cases j<;>simp[Ds,Iq]),?_⟩;have b3:KD w (w3.putObj l (.loop { Ds fn a.tmps ps asg body w.heap.size (Iq j) (j.map jcode) with state:=.exhausted })):=by
         refine⟨λk o hk ho=>?_,W6 c6 Q.keeps.2⟩;have g4:=(e5y.1 hk).1;rw[World.putObj_heap_other (by omega)];exact Q.keeps.1 k o (by grind) ho (by grind)
        have b4:∀a,a<H.next->a0 a=ρ a:=Q.same;have s4:StE B G n n0 ρ0 w0 none l1 (Iv0 lo) a0 fr [] p H' { a with defers:=[{ target:=.collected w.heap.size,args:=#[] }]++a.defers } (w3.putObj l (.loop { Ds fn a.tmps ps asg body w.heap.size (Iq j) (j.map jcode) with state:=.exhausted })):=by
         refine⟨λb hb=>(b4 b (Xg hb s.le)).trans (s.same b hb),s.keeps.trans b3.kx,((s.below.trans c8).trans Q.below).trans (Nr hB),Ns Q.sim b2 rfl,s.frel.mono (U3 s.sim b4),W6 s.le Q.le,?_,by simp⟩;obtain⟨i1,i2,i3⟩:=s.inv;have g5:=Q.below.size;refine⟨i1,by simp;omega,w.heap.size,rfl,i2,?_,i3.lt,i3.keep λD hD=>b3.1 D _ hD rfl⟩;rw[World.putObj_heap_other (by omega)];exact Q.keeps.1 _ _ hD rfl (by grind)
        cases j with
        | none=>exact⟨rfl,a0,s4⟩
        | some j =>
         cases j with
         | none=>exact wpIn_ret ⟨rfl,a0,s4⟩
         | some id=>exact wpIn_exit ⟨rfl,a0,s4⟩
       grind
      refine callsIn_of_wp b8 b9 trivial (Code.wpIn_mono ?_ key);intro e a2 w3 h;generalize Bz P callf (yfR P callf fuel ps asg body fr) rBad (Ip P callf (yfR P callf fuel ps asg body fr) rBad fuel) c (putArgs a5 (Ck Z.ntmps) 1) [0] none H=o at h U
      cases o with
      | norm a3 a7 p2 H2=>obtain⟨rfl,a0,Q⟩:=h;exact fin Q U
      | jump jj a3 a7 p2 H2 =>
       cases jj with
       | none=>obtain⟨rfl,a0,Q⟩:=h;exact fin Q U
       | some id=>cases U
      | bad=>cases U
    grind
   grind
  grind
 grind
end
end Go.Ai
