/- A small verified interpreter over names, its proofs, and what was proved with it. No condition. -/
import Derived.Test.YtiddfilinnbhaaaGreatDoorB06
set_option linter.all false
set_option linter.deprecated false
section
namespace Go.Ai
def EdT (T:List (List (Int×Int))) (p j t:Nat) : Prop:=∃ e,(T.getD p [])[j]?=some e∧e.1=(t:Int)
theorem getD_lt {T:List (List (Int×Int))} {n i:Nat} (h:i < (T.getD n []).length) : n < T.length:=by
 by_cases hp:n < T.length
 ·exact hp
 ·rw [List.getD_eq_getElem?_getD,List.getElem?_eq_none (by omega)] at h
  simp at h
theorem EdT.lt {T:List (List (Int×Int))} {p j t:Nat} (h:EdT T p j t) : p < T.length:=by
 obtain ⟨e,h,-⟩:=h
 exact getD_lt (List.getElem?_eq_some_iff.1 h).1
theorem EdT.fun {T:List (List (Int×Int))} {p j t u:Nat} (h:EdT T p j t) (h2:EdT T p j u) : t=u:=by
 obtain ⟨e,h,h'⟩:=h
 obtain ⟨f,h2,h2'⟩:=h2
 rw [h] at h2; cases h2; omega
def Sn (st:WSt) (m:Nat) : Prop:=st.seen.getD m false=true
structure WInv (T:List (List (Int×Int))) (st:WSt) : Prop where
 lo:st.out.length=T.length
 ls:st.seen.length=T.length
 s0:Sn st 0
 o0:st.out.getD 0 []=[]
 cnt:st.many=st.seen.count true
 src:∀ m,Sn st m→m≠0→∃ p j,EdT T p j m
def WDone (T:List (List (Int×Int))) (st:WSt) (n i:Nat) : Prop :=
 ∀ j,j < i→∀ t,EdT T n j t→Sn st t∧st.out.getD t []=st.out.getD n []++[(j:Int)]
structure WExt (st st' : WSt) : Prop where
 keep:∀ m,Sn st m→Sn st' m∧st'.out.getD m []=st.out.getD m []
 le:st.many≤st'.many
 eq:st'.many=st.many→st'=st
theorem WExt.refl (st:WSt) : WExt st st:=⟨fun _ h=>⟨h,rfl⟩,Nat.le_refl _,fun _=>rfl⟩
theorem WExt.trans {a b c:WSt} (h1:WExt a b) (h2:WExt b c) : WExt a c :=
 ⟨fun m h=>⟨(h2.keep m (h1.keep m h).1).1,((h2.keep m (h1.keep m h).1).2).trans (h1.keep m h).2⟩,Nat.le_trans h1.le h2.le,fun e=>by
  have e1:=h1.le
  have e2:=h2.le
  rw [h2.eq (by omega),h1.eq (by omega)]⟩
theorem WDone.mono {T:List (List (Int×Int))} {st st' : WSt} {n i:Nat} (h:WDone T st n i) (hn:Sn st n) (hx:WExt st st') : WDone T st' n i:=fun j hj t ht=>by
 obtain ⟨h1,h2⟩:=h j hj t ht
 obtain ⟨h3,h4⟩:=hx.keep t h1
 exact ⟨h3,by rw [h4,h2,(hx.keep n hn).2]⟩
theorem count_set:∀ (l:List Bool) (i:Nat),i < l.length→l.getD i false=false→(l.set i true).count true=l.count true+1
 | [],_,h,_=>by simp at h
 | b :: l,0,_,h=>by
  have:b=false:=by simpa using h
  subst this; simp
 | b :: l,i+1,h,h2=>by
  have:=count_set l i (by simpa using h) (by simpa using h2)
  rw [List.set_cons_succ,List.count_cons,List.count_cons,this]; omega
theorem getD_memT {α:Type} {T:List α} {n:Nat} {d:α} (h:n < T.length) : T.getD n d∈T:=by
 rw [List.getD_eq_getElem?_getD,List.getElem?_eq_getElem h]
 exact List.getElem_mem h
theorem okE_at {T:List (List (Int×Int))} {O:Int} (hok:∀ r∈T,∀ e∈r,okE T.length O e=true) {n i:Nat} {e:Int×Int} (h:(T.getD n [])[i]?=some e) :
  (1≤e.1∧e.1 < T.length)∨e.1 = -1:=by
 obtain ⟨hi,h⟩:=List.getElem?_eq_some_iff.1 h
 have:=hok _ (getD_memT (d:=[]) (getD_lt hi)) e (h ▸ List.getElem_mem hi)
 unfold okE at this
 rcases Bool.or_eq_true_iff.1 this with h2 | h2
 ·have h3:=of_decide_eq_true h2
  exact .inl ⟨h3.1,h3.2.1⟩
 ·exact .inr (of_decide_eq_true h2).1
theorem wI_inv {T:List (List (Int×Int))} {O:Int} (hok:∀ r∈T,∀ e∈r,okE T.length O e=true) (r n:Nat) :
  ∀ (es:List (Int×Int)) (i:Nat) (st st' : WSt),es=(T.getD n []).drop i→WInv T st→WDone T st n i→wI r n es i st=some st' →
  WInv T st'∧WExt st st'∧(Sn st n→(st.out.getD n []).length=r→WDone T st' n (T.getD n []).length)∧(∀ m,Sn st' m→Sn st m∨(st'.out.getD m []).length=r+1)
 | [],i,st,st',he,hinv,hd,h=>by
  unfold wI at h
  cases h
  refine ⟨hinv,.refl _,fun _ _=>?_,fun m hm=>.inl hm⟩
  have:(T.getD n []).length≤i:=List.drop_eq_nil_iff.1 he.symm
  intro j hj
  exact hd j (by omega)
 | e :: es,i,st,st',he,hinv,hd,h=>by
  unfold wI at h
  have hi:i < (T.getD n []).length:=by
   by_cases hh:i < (T.getD n []).length
   ·exact hh
   ·rw [List.drop_eq_nil_iff.2 (by omega)] at he; cases he
  have hcons:=List.drop_eq_getElem_cons hi
  rw [hcons] at he
  injection he with he1 he2
  have hei:(T.getD n [])[i]?=some e:=by rw [he1]; exact List.getElem?_eq_getElem hi
  have hnT:n < T.length:=getD_lt hi
  by_cases hc:st.seen.getD n false=true∧(st.out.getD n []).length=r
  ·rw [if_pos hc] at h
   by_cases h1:e.1 = -1
   ·rw [if_pos h1] at h
    refine wI_inv hok r n es (i+1) st st' he2 hinv (fun j hj t ht=>?_) h
    by_cases hji:j=i
    ·subst hji
     obtain ⟨f,hf,hf2⟩:=ht
     rw [hei] at hf; cases hf; omega
    ·exact hd j (by omega) t ht
   ·rw [if_neg h1] at h
    have hb:=(okE_at hok hei).resolve_right h1
    obtain ⟨t,ht⟩ : ∃ t:Nat,e.1=(t:Int):=⟨e.1.toNat,by omega⟩
    have htn:e.1.toNat=t:=by omega
    have hEd:EdT T n i t:=⟨e,hei,ht⟩
    rw [htn] at h
    by_cases hs:st.seen.getD t false=true
    ·rw [if_pos hs] at h; cases h
    rw [if_neg hs] at h
    have hs' : st.seen.getD t false=false:=by simpa using hs
    have ht0:t≠0:=by omega
    have htT:t < T.length:=by omega
    have hso:∀ m,(st.seen.set t true).getD m false=if t=m then true else st.seen.getD m false:=fun m=>by
     rw [getD_set]
     by_cases hm:t=m
     ·rw [if_pos ⟨hm,by rw [hinv.ls]; exact htT⟩,if_pos hm]
     ·rw [if_neg (fun h=>hm h.1),if_neg hm]
    have hoo:∀ m,(st.out.set t (st.out.getD n []++[(i:Int)])).getD m []=if t=m then st.out.getD n []++[(i:Int)] else st.out.getD m []:=fun m=>by
     rw [getD_set]
     by_cases hm:t=m
     ·rw [if_pos ⟨hm,by rw [hinv.lo]; exact htT⟩,if_pos hm]
     ·rw [if_neg (fun h=>hm h.1),if_neg hm]
    have hinv1:WInv T ⟨st.out.set t (st.out.getD n []++[(i:Int)]),st.seen.set t true,st.many+1⟩:=by
     refine ⟨by rw [List.length_set,hinv.lo],by rw [List.length_set,hinv.ls],?_,?_,?_,?_⟩
     ·show (st.seen.set t true).getD 0 false=true
      rw [hso,if_neg ht0]; exact hinv.s0
     ·show (st.out.set t _).getD 0 []=[]
      rw [hoo,if_neg ht0]; exact hinv.o0
     ·show st.many+1=(st.seen.set t true).count true
      rw [count_set _ _ (by rw [hinv.ls]; exact htT) hs',hinv.cnt]
     ·intro m hm hm0
      by_cases e1:t=m
      ·subst e1; exact ⟨n,i,hEd⟩
      ·refine hinv.src m ?_ hm0
       have h2:(st.seen.set t true).getD m false=true:=hm
       rw [hso,if_neg e1] at h2; exact h2
    have hx1:WExt st ⟨st.out.set t (st.out.getD n []++[(i:Int)]),st.seen.set t true,st.many+1⟩:=by
     refine ⟨fun m hm=>?_,Nat.le_succ _,fun h=>by have h2:st.many+1=st.many:=h; omega⟩
     have hne:t≠m:=fun e=>by subst e; exact hs hm
     refine ⟨?_,?_⟩
     ·show (st.seen.set t true).getD m false=true
      rw [hso,if_neg hne]; exact hm
     ·show (st.out.set t _).getD m []=_
      rw [hoo,if_neg hne]
    have hnt:t≠n:=fun e=>by subst e; exact hs hc.1
    have hd1:WDone T ⟨st.out.set t (st.out.getD n []++[(i:Int)]),st.seen.set t true,st.many+1⟩ n (i+1):=by
     intro j hj u hu
     by_cases hji:j=i
     ·subst hji
      have:u=t:=hu.fun hEd
      subst this
      refine ⟨?_,?_⟩
      ·show (st.seen.set u true).getD u false=true
       rw [hso,if_pos rfl]
      ·show (st.out.set u _).getD u []=(st.out.set u _).getD n []++_
       rw [hoo,if_pos rfl,hoo,if_neg hnt]
     ·exact hd.mono hc.1 hx1 j (by omega) u hu
    obtain ⟨a1,a2,a3,a4⟩:=wI_inv hok r n es (i+1) _ st' he2 hinv1 hd1 h
    have hsn1:Sn ⟨st.out.set t (st.out.getD n []++[(i:Int)]),st.seen.set t true,st.many+1⟩ n:=(hx1.keep n hc.1).1
    refine ⟨a1,hx1.trans a2,fun _ _=>a3 hsn1 ?_,fun m hm=>?_⟩
    ·rw [(hx1.keep n hc.1).2]; exact hc.2
    ·rcases a4 m hm with h2 | h2
     ·by_cases e1:t=m
      ·subst e1
       right
       rw [(a2.keep t h2).2]
       show ((st.out.set t _).getD t []).length=_
       rw [hoo,if_pos rfl,List.length_append,hc.2]; rfl
      ·left
       have h3:(st.seen.set t true).getD m false=true:=h2
       rw [hso,if_neg e1] at h3; exact h3
     ·exact .inr h2
  ·rw [if_neg hc] at h
   cases h
   exact ⟨hinv,.refl _,fun h1 h2=>absurd ⟨h1,h2⟩ hc,fun m hm=>.inl hm⟩
structure WQ (T:List (List (Int×Int))) (r:Nat) (st:WSt) (n:Nat) : Prop where
 le:∀ m,Sn st m→(st.out.getD m []).length≤r+1
 old:∀ m,Sn st m→(st.out.getD m []).length < r→WDone T st m (T.getD m []).length
 now:∀ m,Sn st m→(st.out.getD m []).length=r→m < n→WDone T st m (T.getD m []).length
theorem wN_inv {T:List (List (Int×Int))} {O:Int} (hok:∀ r∈T,∀ e∈r,okE T.length O e=true) (r:Nat) :
  ∀ (rows:List (List (Int×Int))) (n:Nat) (st st' : WSt),rows=T.drop n→WInv T st→WQ T r st n→wN r rows n st=some st' →
  WInv T st'∧WExt st st'∧WQ T r st' T.length
 | [],n,st,st',he,hinv,hq,h=>by
  unfold wN at h
  cases h
  have:T.length≤n:=List.drop_eq_nil_iff.1 he.symm
  exact ⟨hinv,.refl _,hq.le,hq.old,fun m hm hl hlt=>hq.now m hm hl (by omega)⟩
 | row :: rows,n,st,st',he,hinv,hq,h=>by
  unfold wN at h
  have hi:n < T.length:=by
   by_cases hh:n < T.length
   ·exact hh
   ·rw [List.drop_eq_nil_iff.2 (by omega)] at he; cases he
  rw [List.drop_eq_getElem_cons hi] at he
  injection he with he1 he2
  have hrow:T.getD n []=row:=by rw [he1,List.getD_eq_getElem?_getD,List.getElem?_eq_getElem hi]; rfl
  cases hs:wI r n row 0 st with
  | none=>rw [hs] at h; cases h
  | some s =>
   rw [hs] at h
   obtain ⟨a1,a2,a3,a4⟩:=wI_inv hok r n row 0 st s (by rw [hrow]; rfl) hinv (fun j hj=>by omega) hs
   have hq1:WQ T r s (n+1):=by
    refine ⟨fun m hm=>?_,fun m hm hl=>?_,fun m hm hl hlt=>?_⟩
    ·rcases a4 m hm with h2 | h2
     ·rw [(a2.keep m h2).2]; exact hq.le m h2
     ·omega
    ·rcases a4 m hm with h2 | h2
     ·exact (hq.old m h2 (by rw [(a2.keep m h2).2] at hl; exact hl)).mono h2 a2
     ·omega
    ·rcases a4 m hm with h2 | h2
     ·have hl2:(st.out.getD m []).length=r:=by rw [(a2.keep m h2).2] at hl; exact hl
      by_cases e:m=n
      ·subst e; exact a3 h2 hl2
      ·exact (hq.now m h2 hl2 (by omega)).mono h2 a2
     ·omega
   obtain ⟨b1,b2,b3⟩:=wN_inv hok r rows (n+1) s st' he2 a1 hq1 h
   exact ⟨b1,a2.trans b2,b3⟩
theorem count_le (st:WSt) {T:List (List (Int×Int))} (h:WInv T st) : st.many≤T.length:=by
 rw [h.cnt,← h.ls]; exact List.count_le_length
theorem wR_inv {T:List (List (Int×Int))} {O:Int} (hok:∀ r∈T,∀ e∈r,okE T.length O e=true) :
  ∀ (k r:Nat) (st st' : WSt),k+r=T.length→WInv T st→(∀ m,Sn st m→(st.out.getD m []).length≤r) →
  (∀ m,Sn st m→(st.out.getD m []).length < r→WDone T st m (T.getD m []).length)→r+1≤st.many→wR T k r st=some st' →
  WInv T st'∧∀ m,Sn st' m→WDone T st' m (T.getD m []).length
 | 0,r,st,st',hk,hinv,_,_,hm,_=>by
  have:=count_le st hinv; omega
 | k+1,r,st,st',hk,hinv,hle,hold,hm,h=>by
  unfold wR at h
  cases hs:wN r T 0 st with
  | none=>rw [hs] at h; cases h
  | some s =>
   rw [hs] at h
   obtain ⟨a1,a2,a3⟩:=wN_inv hok r T 0 st s rfl hinv ⟨fun m hm=>by have:=hle m hm; omega,hold,fun m _ _ hlt=>by omega⟩ hs
   have hlt:∀ m,Sn s m→m < T.length:=fun m hm=>by
    by_cases hh:m < T.length
    ·exact hh
    ·have h2:s.seen.getD m false=true:=hm
     rw [List.getD_eq_getElem?_getD,List.getElem?_eq_none (by rw [a1.ls]; omega)] at h2
     cases h2
   by_cases he:s.many=st.many
   ·have h3:(if s.many=st.many then some s else wR T k (r+1) s)=some st':=h
    rw [if_pos he] at h3
    injection h3 with h3
    have e:=a2.eq he
    rw [← h3,e]
    rw [e] at a3 hlt
    refine ⟨hinv,fun m hm=>?_⟩
    have h4:=hle m hm
    by_cases h5:(st.out.getD m []).length=r
    ·exact a3.now m hm h5 (hlt m hm)
    ·exact hold m hm (by omega)
   ·have h3:(if s.many=st.many then some s else wR T k (r+1) s)=some st':=h
    rw [if_neg he] at h3
    have:=a2.le
    refine wR_inv hok k (r+1) s st' (by omega) a1 a3.le (fun m hm hl=>?_) (by omega) h3
    by_cases h5:(s.out.getD m []).length=r
    ·exact a3.now m hm h5 (hlt m hm)
    ·exact a3.old m hm (by omega)
theorem all_of_count:∀ {l:List Bool},l.count true=l.length→∀ m,m < l.length→l.getD m false=true
 | [],_,m,h=>by simp at h
 | b :: l,hc,m,h=>by
  have h1:l.count true≤l.length:=List.count_le_length
  rw [List.count_cons] at hc
  cases b with
  | false=>simp at hc; omega
  | true =>
   cases m with
   | zero=>rfl
   | succ m =>
    have:=all_of_count (l:=l) (by simpa using hc) m (by simpa using h)
    simpa using this
theorem rWords_lab {T:List (List (Int×Int))} {O:Int} (hok:∀ r∈T,∀ e∈r,okE T.length O e=true) (h1:1≤T.length) (hl:(rWords T).length=T.length) :
  (∀ p j t,EdT T p j t→t < T.length∧1≤t∧(rWords T).getD t []=(rWords T).getD p []++[(j:Int)])∧(∀ t,1≤t→t < T.length→∃ p j,EdT T p j t):=by
 cases hs:wR T T.length 0 (wSt0 T.length) with
 | none =>
  have hr:rWords T=[]:=by unfold rWords; rw [hs]
  rw [hr] at hl; simp at hl; omega
 | some s =>
  have hr0:rWords T=if s.many < T.length then [] else s.out:=by unfold rWords; rw [hs]
  by_cases hm:s.many < T.length
  ·rw [hr0,if_pos hm] at hl; simp at hl; omega
  have hr:rWords T=s.out:=by rw [hr0,if_neg hm]
  rw [hr]
  have hs0:∀ m,Sn (wSt0 T.length) m→m=0:=fun m hm=>by
   have h2:((List.replicate T.length false).set 0 true).getD m false=true:=hm
   rw [getD_set] at h2
   by_cases e:0=m
   ·exact e.symm
   ·rw [if_neg (fun h=>e h.1)] at h2
    rw [List.getD_eq_getElem?_getD,List.getElem?_replicate] at h2
    split at h2 <;> simp at h2
  have ho0:∀ m,(wSt0 T.length).out.getD m []=[]:=fun m=>by
   show (List.replicate T.length ([] : List Int)).getD m []=[]
   rw [List.getD_eq_getElem?_getD,List.getElem?_replicate]
   split <;> rfl
  have hinv0:WInv T (wSt0 T.length):=by
   refine ⟨by simp [wSt0],by simp [wSt0],?_,ho0 0,?_,fun m hm h=>absurd (hs0 m hm) h⟩
   ·show ((List.replicate T.length false).set 0 true).getD 0 false=true
    rw [getD_set,if_pos ⟨rfl,by simp; omega⟩]
   ·show 1=((List.replicate T.length false).set 0 true).count true
    rw [count_set _ _ (by simp; omega) (by rw [List.getD_eq_getElem?_getD,List.getElem?_replicate]; split <;> rfl)]
    simp [List.count_replicate]
  obtain ⟨a1,a2⟩:=wR_inv hok T.length 0 _ s rfl hinv0 (fun m hm=>by rw [ho0]; simp) (fun m hm h=>by omega) (by show 0+1≤1; omega) hs
  have hall:∀ m,m < T.length→Sn s m:=fun m hm2=>by
   have h4:=count_le s a1
   exact all_of_count (by rw [← a1.cnt,a1.ls]; omega) m (by rw [a1.ls]; exact hm2)
  refine ⟨fun p j t hE=>?_,fun t ht1 ht=>a1.src t (hall t ht) (by omega)⟩
  obtain ⟨e,he,het⟩:=hE
  have hb:=okE_at hok he
  have hj:j < (T.getD p []).length:=(List.getElem?_eq_some_iff.1 he).1
  exact ⟨by omega,by omega,(a2 p (hall p (getD_lt hj)) j hj t ⟨e,he,het⟩).2⟩
structure BH (T:List (List (Int×Int))) (next n i:Nat) : Prop where
 lo:1≤next
 hi:next≤T.length
 a:∀ t,1≤t→t < next→∃ p j,(p < n∨p=n∧j < i)∧EdT T p j t
 b:∀ p j t,(p < n∨p=n∧j < i)→EdT T p j t→t < next
theorem okE_full {T:List (List (Int×Int))} {O:Int} (hok:∀ r∈T,∀ e∈r,okE T.length O e=true) {n i:Nat} {e:Int×Int} (h:(T.getD n [])[i]?=some e) :
  (1≤e.1∧e.1 < T.length∧0≤e.2∧e.2 < O)∨(e.1 = -1∧(e.2 = -1∨e.2 = -2)):=by
 obtain ⟨hi,h⟩:=List.getElem?_eq_some_iff.1 h
 have:=hok _ (getD_memT (d:=[]) (getD_lt hi)) e (h ▸ List.getElem_mem hi)
 unfold okE at this
 rcases Bool.or_eq_true_iff.1 this with h2 | h2
 ·exact .inl (of_decide_eq_true h2)
 ·exact .inr (of_decide_eq_true h2)
theorem lab_goE {T:List (List (Int×Int))} {O:Int} (hok:∀ r∈T,∀ e∈r,okE T.length O e=true) (W:List (List Int))
  (hL:∀ p j t,EdT T p j t→t < T.length∧1≤t∧W.getD t []=W.getD p []++[(j:Int)]) (hC:∀ t,1≤t→t < T.length→∃ p j,EdT T p j t)
  (hI:∀ a b,a < b→b < T.length→SL (W.getD a []) (W.getD b [])) (n:Nat) :
  ∀ (es:List (Int×Int)) (i next:Nat),es=(T.getD n []).drop i→BH T next n i→∃ nx,goE O es next=some nx∧BH T nx n (T.getD n []).length
 | [],i,next,he,hb=>by
  have hle:(T.getD n []).length≤i:=List.drop_eq_nil_iff.1 he.symm
  refine ⟨next,rfl,hb.lo,hb.hi,fun t h1 h2=>?_,fun p j t h hE=>hb.b p j t (by omega) hE⟩
  obtain ⟨p,j,h,hE⟩:=hb.a t h1 h2
  refine ⟨p,j,?_,hE⟩
  rcases h with h | ⟨h,-⟩
  ·exact .inl h
  ·subst h
   obtain ⟨e,he,-⟩:=hE
   exact .inr ⟨rfl,(List.getElem?_eq_some_iff.1 he).1⟩
 | e :: es,i,next,he,hb=>by
  have hi:i < (T.getD n []).length:=by
   by_cases hh:i < (T.getD n []).length
   ·exact hh
   ·rw [List.drop_eq_nil_iff.2 (by omega)] at he; cases he
  have hcons:=List.drop_eq_getElem_cons hi
  rw [hcons] at he
  injection he with he1 he2
  have hei:(T.getD n [])[i]?=some e:=by rw [he1]; exact List.getElem?_eq_getElem hi
  have hnT:n < T.length:=getD_lt hi
  unfold goE
  rcases okE_full hok hei with ⟨o1,o2,o3,o4⟩ | ⟨o1,o2⟩
  ·obtain ⟨t,ht⟩ : ∃ t:Nat,e.1=(t:Int):=⟨e.1.toNat,by omega⟩
   have hE:EdT T n i t:=⟨e,hei,ht⟩
   obtain ⟨hl1,hl2,hl3⟩:=hL n i t hE
   have hge:next≤t:=by
    by_cases h:next≤t
    ·exact h
    ·obtain ⟨p,j,hbef,hE2⟩:=hb.a t hl2 (by omega)
     have h3:=(hL p j t hE2).2.2
     rw [hl3] at h3
     obtain ⟨h4,h5⟩:=List.append_inj' h3 rfl
     have h6:(i:Int)=(j:Int):=by simpa using h5
     rcases hbef with hbef | ⟨hbef,hj⟩
     ·exact absurd (h4 ▸ hI p n hbef hnT) SL.irrefl
     ·omega
   have hle:t≤next:=by
    by_cases h:t≤next
    ·exact h
    ·obtain ⟨p,j,hE2⟩:=hC next hb.lo (by omega)
     have h3:=(hL p j next hE2).2.2
     have h4:=hI next t (by omega) hl1
     rw [hl3,h3] at h4
     by_cases h5:p < n∨p=n∧j < i
     ·have:=hb.b p j next h5 hE2; omega
     ·by_cases h6:p=n
      ·subst h6
       by_cases h7:j=i
       ·subst h7
        have:=hE.fun hE2; omega
       ·have h8:=SL.last (W.getD p []) (i:=(i:Int)) (j:=(j:Int)) (by omega)
        exact absurd (h4.trans h8) SL.irrefl
      ·have h8:=SL.app (hI n p (by omega) hE2.lt) (i:Int) (j:Int)
       exact absurd (h4.trans h8) SL.irrefl
   have htn:t=next:=by omega
   subst htn
   have hed:edOK O t e=some (t+1):=by
    unfold edOK
    rw [if_neg (by omega),if_pos ⟨ht,o3,o4⟩]
   rw [hed]
   refine lab_goE hok W hL hC hI n es (i+1) (t+1) he2 ⟨by omega,by omega,fun u h1 h2=>?_,fun p j u h hE2=>?_⟩
   ·by_cases hu:u=t
    ·subst hu; exact ⟨n,i,.inr ⟨rfl,by omega⟩,hE⟩
    ·obtain ⟨p,j,h,hE2⟩:=hb.a u h1 (by omega)
     exact ⟨p,j,by omega,hE2⟩
   ·by_cases hpi:p=n∧j=i
    ·obtain ⟨rfl,rfl⟩:=hpi
     have:=hE.fun hE2; omega
    ·have:=hb.b p j u (by omega) hE2; omega
  ·have hed:edOK O next e=some next:=by
    unfold edOK
    rw [if_pos ⟨o1,o2⟩]
   rw [hed]
   refine lab_goE hok W hL hC hI n es (i+1) next he2 ⟨hb.lo,hb.hi,fun u h1 h2=>?_,fun p j u h hE2=>?_⟩
   ·obtain ⟨p,j,h,hE2⟩:=hb.a u h1 h2
    exact ⟨p,j,by omega,hE2⟩
   ·by_cases hpi:p=n∧j=i
    ·obtain ⟨rfl,rfl⟩:=hpi
     obtain ⟨f,hf,hf2⟩:=hE2
     rw [hei] at hf; cases hf; omega
    ·exact hb.b p j u (by omega) hE2
theorem lab_goT {T:List (List (Int×Int))} {I O:Int} (hlen:∀ r∈T,(r.length:Int)=I) (hok:∀ r∈T,∀ e∈r,okE T.length O e=true) (W:List (List Int))
  (hL:∀ p j t,EdT T p j t→t < T.length∧1≤t∧W.getD t []=W.getD p []++[(j:Int)]) (hC:∀ t,1≤t→t < T.length→∃ p j,EdT T p j t)
  (hI:∀ a b,a < b→b < T.length→SL (W.getD a []) (W.getD b [])) :
  ∀ (rows:List (List (Int×Int))) (n next:Nat),rows=T.drop n→n≤T.length→BH T next n 0→goT I O rows n next=some T.length
 | [],n,next,he,hn,hb=>by
  have hle:T.length≤n:=List.drop_eq_nil_iff.1 he.symm
  unfold goT
  by_cases h:next=T.length
  ·rw [h]
  ·obtain ⟨p,j,hE⟩:=hC next hb.lo (by have:=hb.hi; omega)
   have:=hb.b p j next (.inl (by have:=hE.lt; omega)) hE
   omega
 | row :: rows,n,next,he,hn,hb=>by
  have hi:n < T.length:=by
   by_cases hh:n < T.length
   ·exact hh
   ·rw [List.drop_eq_nil_iff.2 (by omega)] at he; cases he
  rw [List.drop_eq_getElem_cons hi] at he
  injection he with he1 he2
  have hrow:T.getD n []=row:=by rw [he1,List.getD_eq_getElem?_getD,List.getElem?_eq_getElem hi]; rfl
  have hlt:n < next:=by
   by_cases h0:n=0
   ·have:=hb.lo; omega
   ·obtain ⟨p,j,hE⟩:=hC n (by omega) hi
    have h3:=(hL p j n hE).2.2
    have hpn:p < n:=by
     by_cases h:p < n
     ·exact h
     ·have hl:(W.getD n []).length≤(W.getD p []).length:=by
       by_cases e:n=p
       ·rw [e]; exact Nat.le_refl _
       ·exact (hI n p (by omega) hE.lt).le
      rw [h3,List.length_append,show [(j:Int)].length=1 from rfl] at hl
      omega
    exact hb.b p j n (.inl hpn) hE
  obtain ⟨nx,h1,h2⟩:=lab_goE hok W hL hC hI n row 0 next (by rw [hrow]; rfl) hb
  unfold goT
  rw [if_pos ⟨hlen _ (he1 ▸ List.getElem_mem hi),hlt⟩,h1]
  show goT I O rows (n+1) nx=_
  refine lab_goT hlen hok W hL hC hI rows (n+1) nx he2 (by omega) ⟨h2.lo,h2.hi,fun t a1 a2=>?_,fun p j t h hE=>?_⟩
  ·obtain ⟨p,j,h,hE⟩:=h2.a t a1 a2
   exact ⟨p,j,by omega,hE⟩
  ·refine h2.b p j t ?_ hE
   by_cases hp:p=n
   ·subst hp
    obtain ⟨e,he,-⟩:=hE
    exact .inr ⟨rfl,(List.getElem?_eq_some_iff.1 he).1⟩
   ·omega
def padW (len:Nat) (ws:List (List Int)) : List (List Int):=ws++List.replicate (len - ws.length) []
def padS (len k:Nat) : List Bool:=List.replicate k true++List.replicate (len - k) false
def stW (len:Nat) (ws:List (List Int)) : WSt:=⟨padW len ws,padS len ws.length,ws.length⟩
theorem padW_getD (len:Nat) (ws:List (List Int)) (m:Nat) : (padW len ws).getD m []=ws.getD m []:=by
 unfold padW
 rw [List.getD_eq_getElem?_getD,List.getD_eq_getElem?_getD,List.getElem?_append]
 split
 ·rfl
 ·rename_i h
  rw [List.getElem?_eq_none (l:=ws) (by omega),List.getElem?_replicate]
  split <;> rfl
theorem padS_getD (len k m:Nat) : (padS len k).getD m false=decide (m < k):=by
 unfold padS
 rw [List.getD_eq_getElem?_getD,List.getElem?_append,List.length_replicate]
 by_cases h:m < k
 ·rw [if_pos h,List.getElem?_replicate,if_pos h,decide_eq_true h]; rfl
 ·rw [if_neg h,List.getElem?_replicate,decide_eq_false h]
  split <;> rfl
theorem padW_set (len:Nat) (ws:List (List Int)) (w:List Int) (h:ws.length < len) : (padW len ws).set ws.length w=padW len (ws++[w]):=by
 unfold padW
 rw [List.set_append_right _ _ (Nat.le_refl _),Nat.sub_self,show len - ws.length=(len - (ws++[w]).length)+1 by simp; omega,List.replicate_succ,List.set_cons_zero]
 simp
theorem padS_set (len k:Nat) (h:k < len) : (padS len k).set k true=padS len (k+1):=by
 unfold padS
 rw [List.set_append_right _ _ (by simp),List.length_replicate,Nat.sub_self,show len - k=(len - (k+1))+1 by omega,List.replicate_succ,List.set_cons_zero,List.replicate_succ']
 simp
theorem goE_le {O:Int} : ∀ {es:List (Int×Int)} {next nx:Nat},goE O es next=some nx→next≤nx
 | [],_,_,h=>by unfold goE at h; cases h; exact Nat.le_refl _
 | e :: es,next,nx,h=>by
  unfold goE at h
  cases he:edOK O next e with
  | none=>rw [he] at h; cases h
  | some k =>
   rw [he] at h
   have h1:=goE_le (es:=es) h
   have h2:next≤k:=by
    unfold edOK at he
    split at he
    ·cases he; exact Nat.le_refl _
    ·split at he
     ·cases he; exact Nat.le_succ _
     ·cases he
   omega
theorem goT_le {I O:Int} : ∀ {rows:List (List (Int×Int))} {n next k:Nat},goT I O rows n next=some k→next≤k
 | [],_,_,_,h=>by unfold goT at h; cases h; exact Nat.le_refl _
 | r :: rows,n,next,k,h=>by
  unfold goT at h
  split at h
  ·cases he:goE O r next with
   | none=>rw [he] at h; cases h
   | some j =>
    rw [he] at h
    have h1:=goT_le (rows:=rows) h
    have h2:=goE_le he
    omega
  ·cases h
theorem goE_ok {O:Int} {len:Nat} : ∀ {es:List (Int×Int)} {next nx:Nat},goE O es next=some nx→1≤next→nx≤len→∀ e∈es,okE len O e=true
 | [],_,_,_,_,_=>fun e he=>by cases he
 | e :: es,next,nx,h,h1,h2=>by
  unfold goE at h
  cases he:edOK O next e with
  | none=>rw [he] at h; cases h
  | some k =>
   rw [he] at h
   have h3:=goE_le (es:=es) h
   unfold edOK at he
   intro f hf
   split at he
   ·rename_i hc
    cases he
    rcases List.mem_cons.1 hf with rfl | hf
    ·unfold okE; rw [decide_eq_true hc,Bool.or_true]
    ·exact goE_ok (es:=es) h h1 h2 f hf
   ·split at he
    ·rename_i hc
     cases he
     rcases List.mem_cons.1 hf with rfl | hf
     ·unfold okE
      rw [decide_eq_true (by omega:1≤f.1∧f.1 < (len:Int)∧0≤f.2∧f.2 < O),Bool.true_or]
     ·exact goE_ok (es:=es) h (by omega) h2 f hf
    ·cases he
theorem goT_ok {I O:Int} {len:Nat} : ∀ {rows:List (List (Int×Int))} {n next k:Nat},goT I O rows n next=some k→1≤next→k≤len→∀ r∈rows,(r.length:Int)=I∧∀ e∈r,okE len O e=true
 | [],_,_,_,_,_,_=>fun r hr=>by cases hr
 | row :: rows,n,next,k,h,h1,h2=>by
  unfold goT at h
  split at h
  ·rename_i hc
   cases he:goE O row next with
   | none=>rw [he] at h; cases h
   | some j =>
    rw [he] at h
    have h3:=goT_le (rows:=rows) h
    have h4:=goE_le he
    intro r hr
    rcases List.mem_cons.1 hr with rfl | hr
    ·exact ⟨hc.1,goE_ok he h1 (by omega)⟩
    ·exact goT_ok (rows:=rows) h (by omega) h2 r hr
  ·cases h
def Srt (ws:List (List Int)) : Prop:=∀ a b,a < b→b < ws.length→SL (ws.getD a []) (ws.getD b [])
def Fro (ws:List (List Int)) (n i:Nat) : Prop:=∀ m,m < ws.length→SL (ws.getD m []) (ws.getD n []++[(i:Int)])
theorem getD_app1 {α:Type} (l k:List α) (d:α) {m:Nat} (h:m < l.length) : (l++k).getD m d=l.getD m d:=by
 rw [List.getD_eq_getElem?_getD,List.getElem?_append_left h,List.getD_eq_getElem?_getD]
theorem getD_last {α:Type} (l:List α) (x d:α) : (l++[x]).getD l.length d=x:=by
 rw [List.getD_eq_getElem?_getD,List.getElem?_append_right (Nat.le_refl _)]; simp
theorem sim_row {O:Int} {len:Nat} (r n:Nat) : ∀ (es:List (Int×Int)) (i:Nat) (ws:List (List Int)) (nx:Nat),goE O es ws.length=some nx→nx≤len→1≤ws.length→n < ws.length→(ws.getD n []).length=r→Srt ws→Fro ws n i →
  ∃ ext,wI r n es i (stW len ws)=some (stW len (ws++ext))∧(ws++ext).length=nx∧(∀ w∈ext,w.length=r+1)∧Srt (ws++ext)∧Fro (ws++ext) n (i+es.length)
 | [],i,ws,nx,h,_,_,_,_,hs,hf=>by
  unfold goE at h
  cases h
  exact ⟨[],by rw [List.append_nil]; rfl,by simp,fun w hw=>(by cases hw),by rw [List.append_nil]; exact hs,by rw [List.append_nil]; exact hf⟩
 | e :: es,i,ws,nx,h,hnx,hw1,hn,hr,hs,hf=>by
  unfold goE at h
  have hf' : Fro ws n (i+1):=fun m hm=>(hf m hm).trans (SL.last _ (by omega))
  cases he:edOK O ws.length e with
  | none=>rw [he] at h; cases h
  | some k =>
   rw [he] at h
   have h3:=goE_le (es:=es) h
   have hcond:(stW len ws).seen.getD n false=true∧((stW len ws).out.getD n []).length=r:=⟨by show (padS len ws.length).getD n false=true; rw [padS_getD]; exact decide_eq_true hn,by show ((padW len ws).getD n []).length=r; rw [padW_getD]; exact hr⟩
   unfold edOK at he
   unfold wI
   rw [if_pos hcond]
   split at he
   ·rename_i hc
    cases he
    rw [if_pos hc.1]
    obtain ⟨ext,a1,a2,a3,a4,a5⟩:=sim_row r n es (i+1) ws nx h hnx hw1 hn hr hs hf'
    exact ⟨ext,a1,a2,a3,a4,by rw [show i+(e :: es).length=i+1+es.length by simp; omega]; exact a5⟩
   ·split at he
    ·rename_i hc
     cases he
     have hto:e.1.toNat=ws.length:=by omega
     have hlt:ws.length < len:=by omega
     have hst:(⟨(stW len ws).out.set e.1.toNat ((stW len ws).out.getD n []++[(i:Int)]),(stW len ws).seen.set e.1.toNat true,(stW len ws).many+1⟩ : WSt)=stW len (ws++[ws.getD n []++[(i:Int)]]):=by
      show (⟨(padW len ws).set e.1.toNat ((padW len ws).getD n []++[(i:Int)]),(padS len ws.length).set e.1.toNat true,ws.length+1⟩ : WSt)=⟨padW len (ws++[ws.getD n []++[(i:Int)]]),padS len (ws++[ws.getD n []++[(i:Int)]]).length,(ws++[ws.getD n []++[(i:Int)]]).length⟩
      rw [hto,padW_getD,padW_set _ _ _ hlt,padS_set _ _ hlt]
      simp
     rw [if_neg (by omega),if_neg (by rw [hto]; show ¬(padS len ws.length).getD ws.length false=true; rw [padS_getD]; simp),hst]
     have hlen1:(ws++[ws.getD n []++[(i:Int)]]).length=ws.length+1:=by simp
     have hgn:(ws++[ws.getD n []++[(i:Int)]]).getD n []=ws.getD n []:=getD_app1 _ _ _ hn
     have hs1:Srt (ws++[ws.getD n []++[(i:Int)]]):=fun a b hab hb=>by
      rw [hlen1] at hb
      by_cases hbl:b < ws.length
      ·rw [getD_app1 _ _ _ hbl,getD_app1 _ _ _ (by omega)]; exact hs a b hab hbl
      ·have:b=ws.length:=by omega
       subst this
       rw [getD_last,getD_app1 _ _ _ hab]
       exact hf a hab
     have hf1:Fro (ws++[ws.getD n []++[(i:Int)]]) n (i+1):=fun m hm=>by
      rw [hlen1] at hm
      rw [hgn]
      by_cases hbl:m < ws.length
      ·rw [getD_app1 _ _ _ hbl]; exact hf' m hbl
      ·have:m=ws.length:=by omega
       subst this
       rw [getD_last]
       exact SL.last _ (by omega)
     obtain ⟨ext,a1,a2,a3,a4,a5⟩:=sim_row r n es (i+1) (ws++[ws.getD n []++[(i:Int)]]) nx (by rw [hlen1]; exact h) hnx (by omega) (by omega) (by rw [hgn]; exact hr) hs1 hf1
     rw [List.append_assoc] at a1 a2 a4 a5
     refine ⟨[ws.getD n []++[(i:Int)]]++ext,a1,a2,fun w hw=>?_,a4,by rw [show i+(e :: es).length=i+1+es.length by simp; omega]; exact a5⟩
     rcases List.mem_append.1 hw with hw | hw
     ·rw [List.mem_singleton.1 hw,List.length_append,hr]; rfl
     ·exact a3 w hw
    ·cases he
theorem wN_app (r:Nat) : ∀ (l1 l2:List (List (Int×Int))) (n:Nat) (st:WSt),wN r (l1++l2) n st=match wN r l1 n st with
  | none=>none
  | some s=>wN r l2 (n+l1.length) s
 | [],l2,n,st=>rfl
 | row :: l1,l2,n,st=>by
  show (match wI r n row 0 st with | none=>none | some s=>wN r (l1++l2) (n+1) s)=match (match wI r n row 0 st with | none=>none | some s=>wN r l1 (n+1) s) with | none=>none | some s=>wN r l2 (n+(row :: l1).length) s
  cases wI r n row 0 st with
  | none=>rfl
  | some s =>
   show wN r (l1++l2) (n+1) s=match wN r l1 (n+1) s with | none=>none | some s=>wN r l2 (n+(row :: l1).length) s
   rw [wN_app r l1 l2 (n+1) s,show n+1+l1.length=n+(row :: l1).length by simp; omega]
theorem wN_skip (r:Nat) (st:WSt) : ∀ (l:List (List (Int×Int))) (n:Nat),(∀ m,n≤m→m < n+l.length→¬(st.seen.getD m false=true∧(st.out.getD m []).length=r))→wN r l n st=some st
 | [],n,_=>rfl
 | row :: l,n,h=>by
  unfold wN
  have h0:=h n (Nat.le_refl _) (by simp)
  have:wI r n row 0 st=some st:=by
   cases row with
   | nil=>rfl
   | cons e es=>unfold wI; rw [if_neg h0]
  rw [this]
  exact wN_skip r st l (n+1) fun m h1 h2=>h m (by omega) (by simp; omega)
theorem sim_B {I O:Int} {T:List (List (Int×Int))} (r:Nat) : ∀ (k n:Nat) (ws:List (List Int)),n+k≤T.length→n+k≤ws.length→goT I O (T.drop n) n ws.length=some T.length →
  (∀ m,n≤m→m < n+k→(ws.getD m []).length=r)→Srt ws→(n < ws.length→Fro ws n 0) →
  ∃ ext,wN r ((T.drop n).take k) n (stW T.length ws)=some (stW T.length (ws++ext))∧goT I O (T.drop (n+k)) (n+k) (ws++ext).length=some T.length∧(∀ w∈ext,w.length=r+1)∧Srt (ws++ext)∧(n+k < (ws++ext).length→Fro (ws++ext) (n+k) 0)
 | 0,n,ws,_,_,hg,_,hs,hf=>⟨[],by rw [List.append_nil]; rfl,by rw [List.append_nil]; exact hg,fun w hw=>(by cases hw),by rw [List.append_nil]; exact hs,by rw [List.append_nil]; exact hf⟩
 | k+1,n,ws,hk,hkw,hg,hr,hs,hf=>by
  have hn:n < T.length:=by omega
  have hnw:n < ws.length:=by omega
  rw [List.drop_eq_getElem_cons hn] at hg
  rw [List.drop_eq_getElem_cons hn,List.take_succ_cons]
  unfold goT at hg
  split at hg
  ·rename_i hc
   cases he:goE O T[n] ws.length with
   | none=>rw [he] at hg; cases hg
   | some j =>
    rw [he] at hg
    have hj:=goT_le (rows:=T.drop (n+1)) hg
    obtain ⟨e1,a1,a2,a3,a4,a5⟩:=sim_row (len:=T.length) r n T[n] 0 ws j he hj (by omega) hnw (hr n (Nat.le_refl _) (by omega)) hs (hf hnw)
    have hf1:n+1 < (ws++e1).length→Fro (ws++e1) (n+1) 0:=fun h m hm=>(a5 m hm).trans ((a4 n (n+1) (by omega) h).app _ _)
    have h4:goT I O (T.drop (n+1)) (n+1) (ws++e1).length=some T.length:=by rw [a2]; exact hg
    obtain ⟨e2,b1,b2,b3,b4,b5⟩:=sim_B (I:=I) (O:=O) (T:=T) r k (n+1) (ws++e1) (by omega) (by rw [List.length_append]; omega) h4 (fun m h1 h2=>by rw [getD_app1 _ _ _ (by omega)]; exact hr m (by omega) (by omega)) a4 hf1
    refine ⟨e1++e2,?_,?_,fun w hw=>?_,?_,?_⟩
    ·unfold wN
     rw [a1]
     show wN r ((T.drop (n+1)).take k) (n+1) (stW T.length (ws++e1))=_
     rw [b1,List.append_assoc]
    ·rw [← List.append_assoc,show n+(k+1)=n+1+k by omega]; exact b2
    ·rcases List.mem_append.1 hw with hw | hw
     ·exact a3 w hw
     ·exact b3 w hw
    ·rw [← List.append_assoc]; exact b4
    ·rw [← List.append_assoc,show n+(k+1)=n+1+k by omega]; exact b5
  ·cases hg
theorem goT_stuck {I O:Int} {T:List (List (Int×Int))} {n:Nat} (h:goT I O (T.drop n) n n=some T.length) : n=T.length:=by
 by_cases hn:n < T.length
 ·rw [List.drop_eq_getElem_cons hn] at h
  unfold goT at h
  rw [if_neg (by omega)] at h
  cases h
 ·rw [List.drop_eq_nil_iff.2 (by omega)] at h
  unfold goT at h
  cases h
  rfl
theorem sim_R {I O:Int} {T:List (List (Int×Int))} : ∀ (k r lo:Nat) (ws:List (List Int)),k+r=T.length→r≤lo→lo≤ws.length→lo≤T.length→goT I O (T.drop lo) lo ws.length=some T.length →
  (∀ m,m < lo→(ws.getD m []).length < r)→(∀ m,lo≤m→m < ws.length→(ws.getD m []).length=r)→Srt ws→(lo < ws.length→Fro ws lo 0) →
  ∃ W,wR T k r (stW T.length ws)=some (stW T.length W)∧W.length=T.length∧Srt W
 | 0,r,lo,ws,hk,hrl,hlw,hlT,hg,_,_,hs,_=>by
  rw [List.drop_eq_nil_iff.2 (by omega)] at hg
  unfold goT at hg
  exact ⟨ws,rfl,by injection hg,hs⟩
 | k+1,r,lo,ws,hk,hrl,hlw,hlT,hg,hlo,hmid,hs,hf=>by
  have hwT:=goT_le hg
  obtain ⟨ext,b1,b2,b3,b4,b5⟩:=sim_B (T:=T) r (ws.length - lo) lo ws (by omega) (by omega) hg (fun m h1 h2=>hmid m h1 (by omega)) hs hf
  rw [show lo+(ws.length - lo)=ws.length by omega] at b2 b5
  have hT:T=T.take lo++((T.drop lo).take (ws.length - lo)++T.drop ws.length):=by
   have h1:T.drop ws.length=(T.drop lo).drop (ws.length - lo):=by rw [List.drop_drop]; congr 1; omega
   rw [h1,List.take_append_drop,List.take_append_drop]
  have hrun:wN r T 0 (stW T.length ws)=some (stW T.length (ws++ext)):=by
   have e1:wN r (T.take lo) 0 (stW T.length ws)=some (stW T.length ws):=wN_skip r _ _ _ fun m _ h2=>by
    rw [List.length_take] at h2
    rintro ⟨-,h3⟩
    have h4:((padW T.length ws).getD m []).length=r:=h3
    rw [padW_getD] at h4
    have:=hlo m (by omega)
    omega
   have e2:wN r (T.drop ws.length) ws.length (stW T.length (ws++ext))=some (stW T.length (ws++ext)):=wN_skip r _ _ _ fun m h1 h2=>by
    rintro ⟨h3,h4⟩
    have h5:(padS T.length (ws++ext).length).getD m false=true:=h3
    have h6:((padW T.length (ws++ext)).getD m []).length=r:=h4
    rw [padS_getD] at h5
    rw [padW_getD] at h6
    have h7:m < (ws++ext).length:=of_decide_eq_true h5
    have h8:(ws++ext).getD m []∈ext:=by
     rw [List.getD_eq_getElem?_getD,List.getElem?_append_right h1]
     rw [List.length_append] at h7
     rw [List.getElem?_eq_getElem (by omega)]
     exact List.getElem_mem _
    have:=b3 _ h8
    omega
   have hl1:0+(T.take lo).length=lo:=by rw [List.length_take]; omega
   have hl2:lo+((T.drop lo).take (ws.length - lo)).length=ws.length:=by rw [List.length_take,List.length_drop]; omega
   calc wN r T 0 (stW T.length ws)=wN r (T.take lo++((T.drop lo).take (ws.length - lo)++T.drop ws.length)) 0 (stW T.length ws):=by rw [← hT]
    _=wN r ((T.drop lo).take (ws.length - lo)++T.drop ws.length) lo (stW T.length ws):=by rw [wN_app,e1,← hl1]; simp [hl1]
    _=some (stW T.length (ws++ext)):=by rw [wN_app,b1]; show wN r (T.drop ws.length) (lo+_) _=_; rw [hl2,e2]
  unfold wR
  rw [hrun]
  show ∃ W,(if (ws++ext).length=ws.length then some (stW T.length (ws++ext)) else wR T k (r+1) (stW T.length (ws++ext)))=some (stW T.length W)∧W.length=T.length∧Srt W
  by_cases he:(ws++ext).length=ws.length
  ·rw [if_pos he]
   rw [he] at b2
   exact ⟨ws++ext,rfl,by rw [he]; exact goT_stuck b2,b4⟩
  ·rw [if_neg he]
   have hlt:lo < ws.length:=by
    by_cases h:lo < ws.length
    ·exact h
    ·have e:ws.length=lo:=by omega
     have h2:ws.length=T.length:=by
      rw [e] at hg ⊢
      exact goT_stuck hg
     have h3:=goT_le b2
     rw [List.length_append] at he h3
     omega
   refine sim_R k (r+1) ws.length (ws++ext) (by omega) (by omega) (by rw [List.length_append]; omega) hwT b2 (fun m hm=>?_) (fun m h1 h2=>?_) b4 b5
   ·rw [getD_app1 _ _ _ hm]
    by_cases h:m < lo
    ·have:=hlo m h; omega
    ·have:=hmid m (by omega) hm; omega
   ·have h8:(ws++ext).getD m []∈ext:=by
     rw [List.getD_eq_getElem?_getD,List.getElem?_append_right h1]
     rw [List.length_append] at h2
     rw [List.getElem?_eq_getElem (by omega)]
     exact List.getElem_mem _
    exact b3 _ h8
theorem treeErr_eq (I O:Int) (T:List (List (Int×Int))) : treeErr I O T=rTreeErr I O T:=by
  unfold treeErr rTreeErr
  split
  · rfl
  split
  · rfl
  rename_i hN1 hN2
  have h1:1≤T.length:=by omega
  congr 1
  refine propext ⟨fun h=>?_,fun h=>?_⟩
  · have hok:=goT_ok (len:=T.length) h (Nat.le_refl _) (Nat.le_refl _)
    obtain ⟨W,a1,a2,a3⟩:=sim_R (I:=I) (O:=O) (T:=T) T.length 0 0 [[]] rfl (Nat.le_refl _) (by simp) (by omega) h (fun m hm=>by omega) (fun m _ hm=>by
      have:m=0:=by simpa using hm
      subst this; rfl) (fun a b hab hb => by have : b = 0 := by simpa using hb
                                             omega) (fun _ m hm=>by
      have:m=0:=by simpa using hm
      subst this
      exact SL.nil [] 0)
    have hst:stW T.length [[]]=wSt0 T.length:=by
      unfold stW wSt0 padW padS
      obtain ⟨m,hm⟩ : ∃ m,T.length=m+1:=⟨T.length - 1,by omega⟩
      rw [hm]
      simp [List.replicate_succ]
    rw [hst] at a1
    have hW:rWords T=W:=by
      unfold rWords
      rw [a1]
      show (if W.length < T.length then [] else padW T.length W)=W
      rw [if_neg (by omega)]
      unfold padW
      rw [a2,Nat.sub_self]; simp
    rw [hW,a2,decide_eq_true rfl,Bool.and_true,Bool.and_eq_true]
    refine ⟨List.all_eq_true.2 fun r hr=>?_,SL_inc fun n hn=>a3 n (n+1) (by omega) hn⟩
    rw [decide_eq_true (hok r hr).1,Bool.true_and]
    exact List.all_eq_true.2 (hok r hr).2
  · rw [Bool.and_eq_true,Bool.and_eq_true] at h
    obtain ⟨⟨h2,h3⟩,h4⟩:=h
    have h3' : (rWords T).length=T.length:=of_decide_eq_true h3
    have hlen:∀ r∈T,(r.length:Int)=I:=fun r hr=>by
      have:=List.all_eq_true.1 h2 r hr
      rw [Bool.and_eq_true] at this
      exact of_decide_eq_true this.1
    have hok:∀ r∈T,∀ e∈r,okE T.length O e=true:=fun r hr e he=>by
      have:=List.all_eq_true.1 h2 r hr
      rw [Bool.and_eq_true] at this
      exact List.all_eq_true.1 this.2 e he
    obtain ⟨hL,hC⟩:=rWords_lab hok h1 h3'
    refine lab_goT hlen hok (rWords T) hL hC (fun a b hab hb=>inc_SL h4 a b hab (by omega)) T 0 1 rfl (by omega) ⟨Nat.le_refl _,h1,fun t a b=>by omega,fun p j t h _=>by omega⟩
end Go.Ai
end
