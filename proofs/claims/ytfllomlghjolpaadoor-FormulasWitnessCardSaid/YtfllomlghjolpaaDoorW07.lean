/- A small verified interpreter over names, its proofs, and what was proved with it. No condition. -/
import Derived.ProofKit
import Derived.Deep.DeepHandedRow
import Derived.Test.YtfllomlghjolpaaDoorW06
import Derived.Test.YtfllomlghjolpaaDoorW05
import Derived.Test.YtfllomlghjolpaaDoorW03
set_option linter.all false
set_option linter.deprecated false
section
namespace Go.Ai
theorem iGet_snoc (k q:Int) (v:AV) (c:Nat) : ∀ l:List (Int×AV×Nat),iGet k (l++[(q,v,c)])=match iGet k l with | some x=>some x | none=>if k=q then some v else none
 | []=>by simp [iGet]
 | x :: l=>by
  have ih:=iGet_snoc k q v c l
  simp only [List.cons_append,iGet]
  by_cases h:k=x.1
  ·simp [h]
  ·simp only [h,if_false]; exact ih
def bRow (b:Nat→Bool) (w:List Nat) : List (Int×Int)→Nat→List (Nat×List Nat)→List Nat ⊕ List (Nat×List Nat)
 | [],_,st=>.inr st
 | e :: es,i,st=>if e.1 < 0 then bRow b w es (i+1) st
  else if b e.1.toNat then .inl (w++[i])
  else if e.1.toNat∈st.map (·.1) then bRow b w es (i+1) st
  else bRow b w es (i+1) (st++[(e.1.toNat,w++[i])])
def bfs (M:MachM) (a b:Nat→Bool) : Nat→Nat→List (Nat×List Nat)→Option (List Nat)
 | 0,_,_=>none
 | f+1,n,st=>match st[n]? with
  | none=>none
  | some q=>if a q.1 then match bRow b q.2 (M.rows.getD q.1 []) 0 st with
    | .inl w=>some w
    | .inr st'=>bfs M a b f (n+1) st'
   else bfs M a b f (n+1) st
def wayM (M:MachM) (s:Nat) (a b:Nat→Bool) (steps:Int) : Option (List Nat) :=
 if steps=0∧b s=true then some [] else bfs M a b (M.rows.length+1) 0 [(s,[])]
theorem nodup_lt:∀ (N:Nat) (l:List Nat),l.Nodup→(∀ x∈l,x < N)→l.length≤N
 | 0,l,_,h=>by
  cases l with
  | nil=>simp
  | cons x l=>exact absurd (h x (by simp)) (by omega)
 | N+1,l,hn,h=>by
  have hn':=hn.erase N
  have h2:∀ x∈l.erase N,x < N:=fun x hx=>by
   have h3:=(hn.mem_erase_iff).1 hx
   have:=h x h3.2
   omega
  have:=nodup_lt N _ hn' h2
  by_cases hm:N∈l
  ·rw [List.length_erase_of_mem hm] at this; omega
  ·rw [List.erase_of_not_mem hm] at this; omega
structure BOK (N s:Nat) (st:List (Nat×List Nat)) : Prop where
 head:st[0]?=some (s,[])
 lt:∀ q∈st,q.1 < N
 nd:(st.map (·.1)).Nodup
 short:∀ (j:Nat) (q:Nat×List Nat),st[j]?=some q→q.2.length≤j
theorem BOK.start {N s:Nat} (h:s < N) : BOK N s [(s,[])]:=⟨rfl,fun q hq=>by simp at hq; subst hq; exact h,by simp,fun j q hq=>by
 cases j with
 | zero=>simp at hq; subst hq; simp
 | succ j=>simp at hq⟩
theorem BOK.len {N s:Nat} {st:List (Nat×List Nat)} (h:BOK N s st) : st.length≤N:=by
 have:=nodup_lt N _ h.nd (fun x hx=>by obtain ⟨q,hq,rfl⟩:=List.mem_map.1 hx; exact h.lt q hq)
 simpa using this
theorem BOK.pos {N s:Nat} {st:List (Nat×List Nat)} (h:BOK N s st) : 0 < st.length:=by
 have:=h.head
 cases st with
 | nil=>simp at this
 | cons x l=>simp
theorem BOK.snoc {N s:Nat} {st:List (Nat×List Nat)} (h:BOK N s st) {t:Nat} {w:List Nat} (ht:t < N) (hn:t ∉ st.map (·.1)) (hw:w.length≤st.length) : BOK N s (st++[(t,w)]):=by
 refine ⟨?_,?_,?_,?_⟩
 ·rw [List.getElem?_append_left h.pos]; exact h.head
 ·intro q hq
  rcases List.mem_append.1 hq with hq | hq
  ·exact h.lt q hq
  ·simp at hq; subst hq; exact ht
 ·rw [List.map_append,List.nodup_append]
  refine ⟨h.nd,by simp,?_⟩
  intro x hx y hy
  simp at hy
  subst hy
  intro e
  subst e
  exact hn hx
 ·intro j q hj
  by_cases hl:j < st.length
  ·rw [List.getElem?_append_left hl] at hj; exact h.short j q hj
  ·rw [List.getElem?_append_right (by omega)] at hj
   cases hk:j - st.length with
   | zero=>rw [hk] at hj; simp at hj; subst hj; show w.length≤j; omega
   | succ k=>rw [hk] at hj; simp at hj
structure ByOK (s:Nat) (st:List (Nat×List Nat)) (by_:List (Int×AV×Nat)) : Prop where
 old:∀ (j:Nat) (q:Nat×List Nat),st[j]?=some q→0 < j→∃ (j' : Nat) (q' : Nat×List Nat) (i:Nat),j' < j∧st[j']?=some q'∧q.2=q'.2++[i]∧iGet (q.1:Int) by_=some (.agg [.lit (.int .i64 (q'.1:Nat)),.lit (.int .i64 (i:Nat))])
 new:∀ t:Nat,(t ∉ st.map (·.1)∨t=s)→iGet (t:Int) by_=none
theorem ByOK.start {s:Nat} : ByOK s [(s,[])] []:=⟨fun j q hj h0=>by
 cases j with
 | zero=>omega
 | succ j=>simp at hj,fun t _=>rfl⟩
theorem ByOK.snoc {N s:Nat} {st:List (Nat×List Nat)} {by_:List (Int×AV×Nat)} (h:ByOK s st by_) (hb:BOK N s st) {t n i c:Nat} {q:Nat×List Nat} (hn:t ∉ st.map (·.1)) (hq:st[n]?=some q) :
  ByOK s (st++[(t,q.2++[i])]) (by_++[((t:Int),.agg [.lit (.int .i64 (q.1:Nat)),.lit (.int .i64 (i:Nat))],c)]):=by
 have hnl:n < st.length:=by
  rcases Nat.lt_or_ge n st.length with h | h
  ·exact h
  ·rw [List.getElem?_eq_none h] at hq; cases hq
 refine ⟨?_,?_⟩
 ·intro j p hj h0
  by_cases hl:j < st.length
  ·rw [List.getElem?_append_left hl] at hj
   obtain ⟨j',q',i',h1,h2,h3,h4⟩:=h.old j p hj h0
   exact ⟨j',q',i',h1,by rw [List.getElem?_append_left (by omega)]; exact h2,h3,by rw [iGet_snoc,h4]⟩
  ·rw [List.getElem?_append_right (by omega)] at hj
   cases hk:j - st.length with
   | zero =>
    rw [hk] at hj; simp at hj; subst hj
    refine ⟨n,q,i,by omega,by rw [List.getElem?_append_left hnl]; exact hq,rfl,?_⟩
    rw [iGet_snoc,h.new t (Or.inl hn)]
    simp
   | succ k=>rw [hk] at hj; simp at hj
 ·intro u hu
  have hs:s∈st.map (·.1):=List.mem_map.2 ⟨(s,[]),List.mem_of_getElem? hb.head,rfl⟩
  have hut:u≠t:=by
   rintro rfl
   rcases hu with hu | rfl
   ·exact hu (by simp)
   ·exact hn hs
  have h1:iGet (u:Int) by_=none:=by
   refine h.new u ?_
   rcases hu with hu | hu
   ·refine Or.inl fun hm=>hu ?_
    rw [List.map_append]; exact List.mem_append_left _ hm
   ·exact Or.inr hu
  rw [iGet_snoc,h1]
  have:¬((u:Int)=(t:Int)):=by omega
  simp [this]
def firstIn (t:Nat→Bool) : List (Int×Int)→Nat→Option (Nat×Nat)
 | [],_=>none
 | e :: es,i=>if 0≤e.1∧t e.1.toNat=true then some (i,e.1.toNat) else firstIn t es (i+1)
def lassoM (M:MachM) (t:Nat→Bool) : Nat→Nat→List Nat→List Nat→List Nat×Int
 | 0,_,w,_=>(w,-1)
 | f+1,s,w,seen=>match firstIn t (M.rows.getD s []) 0 with
  | none=>(w,-1)
  | some q=>match seen.idxOf? q.2 with
   | some k=>(w++[q.1],(k:Int))
   | none=>lassoM M t f q.2 (w++[q.1]) (seen++[q.2])
theorem firstIn_spec (t:Nat→Bool) : ∀ (l:List (Int×Int)) (i:Nat),match firstIn t l i with
  | some q=>i≤q.1∧(∃ e,l[q.1 - i]?=some e∧0≤e.1∧e.1.toNat=q.2)∧t q.2=true
  | none=>∀ e∈l,0≤e.1→t e.1.toNat=false
 | [],i=>by simp [firstIn]
 | e :: es,i=>by
  unfold firstIn
  by_cases h:0≤e.1∧t e.1.toNat=true
  ·rw [if_pos h]; exact ⟨Nat.le_refl _,⟨e,by simp,h.1,rfl⟩,h.2⟩
  ·rw [if_neg h]
   have ih:=firstIn_spec t es (i+1)
   cases hk:firstIn t es (i+1) with
   | none =>
    rw [hk] at ih
    intro y hy h0
    rcases List.mem_cons.1 hy with rfl | hy
    ·cases hh:t y.1.toNat with
     | false=>rfl
     | true=>exact absurd ⟨h0,hh⟩ h
    ·exact ih y hy h0
   | some q =>
    rw [hk] at ih
    obtain ⟨h1,⟨y,h2,h3,h4⟩,h5⟩:=ih
    exact ⟨by omega,⟨y,by rw [show q.1 - i=(q.1 - (i+1))+1 by omega]; simpa using h2,h3,h4⟩,h5⟩
end Go.Ai
end
section
namespace Go.Ai
theorem bRow_spec (b:Nat→Bool) (w:List Nat) : ∀ (l:List (Int×Int)) (i:Nat) (st:List (Nat×List Nat)),match bRow b w l i st with
  | .inl v=>∃ j,v=w++[j]
  | .inr st'=>(∀ x∈st.map (·.1),x∈st'.map (·.1))∧(∀ e∈l,0≤e.1→b e.1.toNat=false∧e.1.toNat∈st'.map (·.1))∧(∀ x∈st'.map (·.1),x∈st.map (·.1)∨b x=false)∧∃ more,st'=st++more
 | [],i,st=>by
  unfold bRow
  exact ⟨fun _ h=>h,(fun e he=>by cases he),(fun x h=>Or.inl h),[],by simp⟩
 | e :: es,i,st=>by
  unfold bRow
  by_cases h:e.1 < 0
  ·rw [if_pos h]
   have ih:=bRow_spec b w es (i+1) st
   cases hk:bRow b w es (i+1) st with
   | inl v=>rw [hk] at ih; exact ih
   | inr st' =>
    rw [hk] at ih
    obtain ⟨h1,h2,h3,h4⟩:=ih
    refine ⟨h1,?_,h3,h4⟩
    intro y hy h0
    rcases List.mem_cons.1 hy with rfl | hy
    ·omega
    ·exact h2 y hy h0
  ·rw [if_neg h]
   cases hb:b e.1.toNat with
   | true=>exact ⟨i,rfl⟩
   | false =>
    rw [if_neg (by decide)]
    by_cases hm:e.1.toNat∈st.map (·.1)
    ·rw [if_pos hm]
     have ih:=bRow_spec b w es (i+1) st
     cases hk:bRow b w es (i+1) st with
     | inl v=>rw [hk] at ih; exact ih
     | inr st' =>
      rw [hk] at ih
      obtain ⟨h1,h2,h3,h4⟩:=ih
      refine ⟨h1,?_,h3,h4⟩
      intro y hy h0
      rcases List.mem_cons.1 hy with rfl | hy
      ·exact ⟨hb,h1 _ hm⟩
      ·exact h2 y hy h0
    ·rw [if_neg hm]
     have ih:=bRow_spec b w es (i+1) (st++[(e.1.toNat,w++[i])])
     cases hk:bRow b w es (i+1) (st++[(e.1.toNat,w++[i])]) with
     | inl v=>rw [hk] at ih; exact ih
     | inr st' =>
      rw [hk] at ih
      obtain ⟨h1,h2,h3,more,h4⟩:=ih
      refine ⟨fun x hx=>h1 x (by rw [List.map_append]; exact List.mem_append_left _ hx),?_,?_,(e.1.toNat,w++[i]) :: more,by rw [h4]; simp⟩
      ·intro y hy h0
       rcases List.mem_cons.1 hy with rfl | hy
       ·exact ⟨hb,h1 _ (by rw [List.map_append]; exact List.mem_append_right _ (by simp))⟩
       ·exact h2 y hy h0
      ·intro x hx
       rcases h3 x hx with hx | hx
       ·rw [List.map_append] at hx
        rcases List.mem_append.1 hx with hx | hx
        ·exact Or.inl hx
        ·simp at hx; subst hx; exact Or.inr hb
       ·exact Or.inr hx
theorem bRow_ok {N s:Nat} (b:Nat→Bool) (w:List Nat) : ∀ (l:List (Int×Int)) (i:Nat) (st:List (Nat×List Nat)),BOK N s st→(∀ e∈l,0≤e.1→e.1.toNat < N)→w.length < st.length→match bRow b w l i st with
  | .inl _=>True
  | .inr st'=>BOK N s st'
 | [],i,st,hb,_,_=>by unfold bRow; exact hb
 | e :: es,i,st,hb,he,hw=>by
  unfold bRow
  by_cases h:e.1 < 0
  ·rw [if_pos h]; exact bRow_ok b w es (i+1) st hb (fun y hy=>he y (List.mem_cons_of_mem _ hy)) hw
  ·rw [if_neg h]
   cases hbe:b e.1.toNat with
   | true=>trivial
   | false =>
    rw [if_neg (by decide)]
    by_cases hm:e.1.toNat∈st.map (·.1)
    ·rw [if_pos hm]; exact bRow_ok b w es (i+1) st hb (fun y hy=>he y (List.mem_cons_of_mem _ hy)) hw
    ·rw [if_neg hm]
     refine bRow_ok b w es (i+1) _ (hb.snoc (he e (by simp) (by omega)) hm ?_) (fun y hy=>he y (List.mem_cons_of_mem _ hy)) ?_
     ·rw [List.length_append]; simp; omega
     ·rw [List.length_append]; simp; omega
structure BDone (M:MachM) (a b:Nat→Bool) (s n:Nat) (st:List (Nat×List Nat)) : Prop where
 done:∀ j q,j < n→st[j]?=some q→a q.1=true→∀ t∈M.gr.succ q.1,b t=false∧t∈st.map (·.1)
 no:∀ x∈st.map (·.1),x=s∨b x=false
theorem bfs_none {M:MachM} {a b:Nat→Bool} {s:Nat} : ∀ (f n:Nat) (st:List (Nat×List Nat)),BOK M.rows.length s st→(∀ r∈M.rows,∀ e∈r,e.1 < (M.rows.length:Int))→M.rows.length < n+f→n≤st.length→BDone M a b s n st→bfs M a b f n st=none →
  ∃ st',BOK M.rows.length s st'∧BDone M a b s st'.length st'
 | 0,n,st,hb,he,hf,hn,hd,h=>by
  have:=hb.len
  omega
 | f+1,n,st,hb,he,hf,hn,hd,h=>by
  unfold bfs at h
  cases hq:st[n]? with
  | none =>
   have:st.length≤n:=List.getElem?_eq_none_iff.1 hq
   have e:n=st.length:=by omega
   subst e
   exact ⟨st,hb,hd⟩
  | some q =>
   have hnl:n < st.length:=by
    rcases Nat.lt_or_ge n st.length with h | h
    ·exact h
    ·rw [List.getElem?_eq_none h] at hq; cases hq
   rw [hq] at h
   dsimp only at h
   cases ha:a q.1 with
   | false =>
    rw [ha] at h
    refine bfs_none f (n+1) st hb he (by omega) hnl ⟨?_,hd.no⟩ h
    intro j p hj hp hap
    by_cases e:j=n
    ·subst e; rw [hq] at hp; cases hp; rw [ha] at hap; cases hap
    ·exact hd.done j p (by omega) hp hap
   | true =>
    rw [ha] at h
    simp only [if_true] at h
    have hql:q.1 < M.rows.length:=hb.lt q (List.mem_of_getElem? hq)
    have hrow:M.rows.getD q.1 []∈M.rows:=by
     rw [List.getD_eq_getElem?_getD,List.getElem?_eq_getElem hql]; exact List.getElem_mem hql
    have hsp:=bRow_spec b q.2 (M.rows.getD q.1 []) 0 st
    have hbk:=bRow_ok b q.2 (M.rows.getD q.1 []) 0 st hb (fun e h1 h2=>by have:=he _ hrow e h1; omega) (by have:=hb.short n q hq; omega)
    cases hk:bRow b q.2 (M.rows.getD q.1 []) 0 st with
    | inl v=>rw [hk] at h; cases h
    | inr st' =>
     rw [hk] at h hsp hbk
     obtain ⟨h1,h2,h3,more,h4⟩:=hsp
     have hlen:st.length≤st'.length:=by rw [h4,List.length_append]; omega
     refine bfs_none f (n+1) st' hbk he (by omega) (by omega) ⟨?_,?_⟩ h
     ·intro j p hj hp hap t ht
      have hp' : st[j]?=some p:=by
       rw [h4,List.getElem?_append_left (by omega)] at hp; exact hp
      by_cases e:j=n
      ·subst e
       rw [hq] at hp'; cases hp'
       obtain ⟨e,he1,he2,he3⟩:=succL_mem ht
       have:=h2 e he1 he2
       rw [he3] at this
       exact this
      ·have:=hd.done j p (by omega) hp' hap t ht
       exact ⟨this.1,h1 t this.2⟩
     ·intro x hx
      rcases h3 x hx with hx | hx
      ·exact hd.no x hx
      ·exact Or.inr hx
theorem edges_lt {M:MachM} (hM:M.ok) : ∀ r∈M.rows,∀ e∈r,e.1 < (M.rows.length:Int):=fun r hr e he=>by
 have h2:=(hM.2.2.2.2.2.2 r hr).2 e he
 have h1:=hM.2.2.2.2.1
 unfold edgeOK at h2
 simp only [Bool.or_eq_true,Bool.and_eq_true,decide_eq_true_eq] at h2
 rcases h2 with h2 | h2
 ·rw [h2]; show (-1:Int) < _; omega
 ·omega
theorem bfs_start {M:MachM} (hM:M.ok) {a b:Nat→Bool} {s:Nat} (hs:s < M.rows.length) (h:bfs M a b (M.rows.length+1) 0 [(s,[])]=none) : ∃ st',BOK M.rows.length s st'∧BDone M a b s st'.length st' :=
 bfs_none _ _ _ (.start hs) (edges_lt hM) (by omega) (by simp) ⟨fun j q hj=>by omega,fun x hx=>by simp at hx; exact Or.inl hx⟩ h
theorem way_until {M:MachM} (hM:M.ok) {a b X:SetS} {s:Nat} (hs:s < M.rows.length) (hX:IsL M.gr.n (M.gr.fE a b) X) (hx:X s=true) : ∃ w,wayM M s a b 0=some w:=by
 unfold wayM
 cases hb:b s with
 | true=>exact ⟨[],by simp⟩
 | false =>
  rw [if_neg (by simp)]
  cases hk:bfs M a b (M.rows.length+1) 0 [(s,[])] with
  | some w=>exact ⟨w,rfl⟩
  | none =>
   exfalso
   obtain ⟨st,h1,h2⟩:=bfs_start hM hs hk
   have hms:s∈st.map (·.1):=List.mem_map.2 ⟨(s,[]),List.mem_of_getElem? h1.head,rfl⟩
   have hZ:=hX.least (fun x=>!decide (x∈st.map (·.1))) (fun x hx hf=>by
    simp only [Bool.not_eq_true',decide_eq_false_iff_not]
    intro hm
    simp only [GraphM.fE,Bool.or_eq_true,Bool.and_eq_true,GraphM.pre,List.any_eq_true,Bool.not_eq_true',decide_eq_false_iff_not] at hf
    rcases hf with hf | ⟨ha,t,ht,hn⟩
    ·rcases h2.no x hm with rfl | h
     ·rw [hb] at hf; cases hf
     ·rw [hf] at h; cases h
    ·obtain ⟨q,hq,rfl⟩:=List.mem_map.1 hm
     obtain ⟨j,hj⟩:=List.mem_iff_getElem?.1 hq
     have hjl:j < st.length:=by
      rcases Nat.lt_or_ge j st.length with h | h
      ·exact h
      ·rw [List.getElem?_eq_none h] at hj; cases hj
     exact hn (h2.done j q hjl hj ha t ht).2) s hs hx
   simp only [Bool.not_eq_true',decide_eq_false_iff_not] at hZ
   exact hZ hms
theorem way_next {M:MachM} (hM:M.ok) {a b:SetS} {s:Nat} (hs:s < M.rows.length) (ha:a s=true) (hx:M.gr.pre b s=true) : ∃ w,wayM M s a b 1=some w:=by
 unfold wayM
 rw [if_neg (by omega)]
 cases hk:bfs M a b (M.rows.length+1) 0 [(s,[])] with
 | some w=>exact ⟨w,rfl⟩
 | none =>
  exfalso
  obtain ⟨st,h1,h2⟩:=bfs_start hM hs hk
  simp only [GraphM.pre,List.any_eq_true] at hx
  obtain ⟨t,ht,hb⟩:=hx
  have:=(h2.done 0 (s,[]) h1.pos h1.head ha t ht).1
  rw [hb] at this; cases this
theorem bRow_cong {b b' : Nat→Bool} {N:Nat} (h:eqS N b b') (w:List Nat) : ∀ (l:List (Int×Int)) (i:Nat) (st:List (Nat×List Nat)),(∀ e∈l,0≤e.1→e.1.toNat < N)→bRow b w l i st=bRow b' w l i st
 | [],_,_,_=>rfl
 | e :: es,i,st,he=>by
  unfold bRow
  by_cases h0:e.1 < 0
  ·rw [if_pos h0,if_pos h0]; exact bRow_cong h w es _ _ (fun y hy=>he y (List.mem_cons_of_mem _ hy))
  ·rw [if_neg h0,if_neg h0,h _ (he e (by simp) (by omega)),bRow_cong h w es _ _ (fun y hy=>he y (List.mem_cons_of_mem _ hy)),bRow_cong h w es _ _ (fun y hy=>he y (List.mem_cons_of_mem _ hy))]
theorem bfs_cong {M:MachM} (hM:M.ok) {a b a' b' : SetS} {s:Nat} (ha:eqS M.rows.length a a') (hb:eqS M.rows.length b b') : ∀ (f n:Nat) (st:List (Nat×List Nat)),BOK M.rows.length s st→n≤st.length→bfs M a b f n st=bfs M a' b' f n st
 | 0,_,_,_,_=>rfl
 | f+1,n,st,hk,hn=>by
  unfold bfs
  cases hq:st[n]? with
  | none=>rfl
  | some q =>
   have hnl:n < st.length:=by
    rcases Nat.lt_or_ge n st.length with h | h
    ·exact h
    ·rw [List.getElem?_eq_none h] at hq; cases hq
   have hql:q.1 < M.rows.length:=hk.lt q (List.mem_of_getElem? hq)
   have hrow:M.rows.getD q.1 []∈M.rows:=by
    rw [List.getD_eq_getElem?_getD,List.getElem?_eq_getElem hql]; exact List.getElem_mem hql
   have hlt:∀ e∈M.rows.getD q.1 [],0≤e.1→e.1.toNat < M.rows.length:=fun e h1 h2=>by have:=edges_lt hM _ hrow e h1; omega
   dsimp only
   rw [ha q.1 hql,bRow_cong hb q.2 (M.rows.getD q.1 []) 0 st hlt,bfs_cong hM ha hb f (n+1) st hk hnl]
   have h1:=bRow_ok b' q.2 (M.rows.getD q.1 []) 0 st hk hlt (by have:=hk.short n q hq; omega)
   have h2:=bRow_spec b' q.2 (M.rows.getD q.1 []) 0 st
   cases hr:bRow b' q.2 (M.rows.getD q.1 []) 0 st with
   | inl w=>rfl
   | inr st' =>
    rw [hr] at h1 h2
    obtain ⟨_,_,_,more,h4⟩:=h2
    dsimp only
    rw [bfs_cong hM ha hb f (n+1) st' h1 (by rw [h4,List.length_append]; omega)]
theorem way_cong {M:MachM} (hM:M.ok) {a b a' b' : SetS} {s:Nat} {k:Int} (hs:s < M.rows.length) (ha:eqS M.rows.length a a') (hb:eqS M.rows.length b b') : wayM M s a b k=wayM M s a' b' k:=by
 unfold wayM
 rw [hb s hs,bfs_cong hM ha hb _ _ _ (.start hs) (by simp)]
end Go.Ai
end
section
namespace Go.Ai
theorem idx_snoc (t x:Nat) (l:List Nat) : (l++[x]).idxOf? t=match l.idxOf? t with | some k=>some k | none=>if t=x then some l.length else none:=by
 unfold List.idxOf?
 rw [List.findIdx?_append]
 cases h:List.findIdx? (fun y=>y == t) l with
 | some k=>simp
 | none =>
  by_cases e:t=x
  ·subst e; simp
  ·have:¬x=t:=fun h=>e h.symm
   simp [e,this]
theorem idx_none (t:Nat) (l:List Nat) : l.idxOf? t=none↔t ∉ l:=by
 unfold List.idxOf?
 rw [List.findIdx?_eq_none_iff]
 constructor
 ·intro h hm; have:=h t hm; simp at this
 ·intro h x hx
  cases hh:(x == t) with
  | false=>rfl
  | true=>exact absurd (by have:=eq_of_beq hh; rw [← this]; exact hx) h
def LOK (seen:List Nat) (by_:List (Int×AV×Nat)) : Prop:=∀ t:Nat,iGet (t:Int) by_=(seen.idxOf? t).map fun k=>AV.lit (.int .i64 ((k:Nat) : Int))
theorem LOK.start (s:Nat) (c:Nat) : LOK [s] [((s:Int),.lit (.int .i64 0),c)]:=fun t=>by
 unfold iGet
 by_cases h:t=s
 ·subst h; simp [List.idxOf?,iGet]
 ·have h2:¬((t:Int)=(s:Int)):=by omega
  have h3:¬s=t:=fun e=>h e.symm
  rw [if_neg h2]
  simp [List.idxOf?,iGet,h3]
theorem LOK.snoc {seen:List Nat} {by_:List (Int×AV×Nat)} (h:LOK seen by_) {x c:Nat} (_hx:x ∉ seen) : LOK (seen++[x]) (by_++[((x:Int),.lit (.int .i64 ((seen.length:Nat) : Int)),c)]):=fun t=>by
 rw [iGet_snoc,h t,idx_snoc]
 cases hk:seen.idxOf? t with
 | some k=>rfl
 | none =>
  by_cases e:t=x
  ·subst e; simp
  ·have h2:¬((t:Int)=(x:Int)):=by omega
   simp [e,h2]
structure SeenOK (N:Nat) (s:Nat) (w seen:List Nat) : Prop where
 lt:∀ x∈seen,x < N
 nd:seen.Nodup
 len:seen.length=w.length+1
 last:s∈seen
theorem SeenOK.start {N s:Nat} (h:s < N) : SeenOK N s [] [s]:=⟨fun x hx=>by simp at hx; omega,by simp,rfl,by simp⟩
theorem SeenOK.bound {N s:Nat} {w seen:List Nat} (h:SeenOK N s w seen) : seen.length≤N:=nodup_lt N _ h.nd h.lt
theorem SeenOK.snoc {N s:Nat} {w seen:List Nat} (h:SeenOK N s w seen) {t i:Nat} (ht:t < N) (hn:t ∉ seen) : SeenOK N t (w++[i]) (seen++[t]):=by
 refine ⟨?_,?_,by simp [h.len],by simp⟩
 ·intro x hx
  rcases List.mem_append.1 hx with hx | hx
  ·exact h.lt x hx
  ·simp at hx; omega
 ·rw [List.nodup_append]
  refine ⟨h.nd,by simp,?_⟩
  intro x hx y hy
  simp at hy
  subst hy
  intro e; subst e; exact hn hx
theorem firstIn_cong {t t' : Nat→Bool} {N:Nat} (h:eqS N t t') : ∀ (l:List (Int×Int)) (i:Nat),(∀ e∈l,0≤e.1→e.1.toNat < N)→firstIn t l i=firstIn t' l i
 | [],_,_=>rfl
 | e :: es,i,he=>by
  unfold firstIn
  by_cases h0:0≤e.1
  ·rw [h _ (he e (by simp) h0),firstIn_cong h es _ (fun y hy=>he y (List.mem_cons_of_mem _ hy))]
  ·rw [if_neg (fun hh=>h0 hh.1),if_neg (fun hh=>h0 hh.1),firstIn_cong h es _ (fun y hy=>he y (List.mem_cons_of_mem _ hy))]
theorem row_lt {M:MachM} (hM:M.ok) {s:Nat} (hs:s < M.rows.length) : ∀ e∈M.rows.getD s [],0≤e.1→e.1.toNat < M.rows.length:=fun e h1 h2=>by
 have hrow:M.rows.getD s []∈M.rows:=by
  rw [List.getD_eq_getElem?_getD,List.getElem?_eq_getElem hs]; exact List.getElem_mem hs
 have:=edges_lt hM _ hrow e h1; omega
theorem firstIn_lt {M:MachM} (hM:M.ok) {t:Nat→Bool} {s:Nat} (hs:s < M.rows.length) {q:Nat×Nat} (h:firstIn t (M.rows.getD s []) 0=some q) : q.2 < M.rows.length∧t q.2=true:=by
 have hsp:=firstIn_spec t (M.rows.getD s []) 0
 rw [h] at hsp
 obtain ⟨_,⟨e,h1,h2,h3⟩,h4⟩:=hsp
 exact ⟨by rw [← h3]; exact row_lt hM hs e (List.mem_of_getElem? h1) h2,h4⟩
theorem lasso_cong {M:MachM} (hM:M.ok) {t t' : SetS} (h:eqS M.rows.length t t') : ∀ (f s:Nat) (w seen:List Nat),s < M.rows.length→lassoM M t f s w seen=lassoM M t' f s w seen
 | 0,_,_,_,_=>rfl
 | f+1,s,w,seen,hs=>by
  unfold lassoM
  rw [firstIn_cong h _ 0 (row_lt hM hs)]
  cases hf:firstIn t' (M.rows.getD s []) 0 with
  | none=>rfl
  | some q =>
   dsimp only
   rw [lasso_cong hM h f q.2 _ _ (firstIn_lt hM hs hf).1]
theorem eg_edge {M:MachM} (hM:M.ok) {A B X:SetS} (h:opSem M 9 0 0 A B X) {s:Nat} (hs:s < M.rows.length) (hx:X s=true) : (firstIn X (M.rows.getD s []) 0=none↔M.gr.ends s=true):=by
 have h9:IsL M.gr.n (M.gr.fA allS (notS A)) (notS X):=h
 have hfix:=h9.fix s hs
 have hsp:=firstIn_spec X (M.rows.getD s []) 0
 constructor
 ·intro hn
  rw [hn] at hsp
  cases he:M.gr.ends s with
  | true=>rfl
  | false =>
   exfalso
   have hpost:M.gr.post (notS X) s=true:=by
    simp only [GraphM.post,List.all_eq_true]
    intro t ht
    obtain ⟨e,h1,h2,h3⟩:=succL_mem ht
    have:=hsp e h1 h2
    rw [h3] at this
    unfold notS; rw [this]; rfl
   unfold GraphM.fA at hfix
   rw [hpost,he] at hfix
   have:notS X s=false:=by unfold notS; rw [hx]; rfl
   rw [this] at hfix
   simp [allS] at hfix
 ·intro he
  cases hf:firstIn X (M.rows.getD s []) 0 with
  | none=>rfl
  | some q =>
   rw [hf] at hsp
   obtain ⟨_,⟨e,h1,h2,h3⟩,_⟩:=hsp
   exfalso
   have hm:q.2∈M.gr.succ s:=succL_iff.2 ⟨e,List.mem_of_getElem? h1,h2,h3⟩
   unfold GraphM.ends at he
   rw [List.isEmpty_iff] at he
   rw [he] at hm; cases hm
end Go.Ai
end
section
namespace Go.Ai
variable {P:Program} {H:Mem}
section
variable {ev:Ev} {d:Option Tmp} {ty:TypeId} {p:String} {af:Array Edge} {g:Option (Nat×Bool)}
theorem op_insert {t:TypeId} {m k x:Operand} : opV P H ev ⟨d,.insert t m k x,ty,p,af,g⟩=ex3 P H ev ⟨d,.insert t m k x,ty,p,af,g⟩ m k x (ev m) (ev k) (ev x) rfl rfl rfl:=(rfl)
theorem insert_ix {t:TypeId} {m k x:Operand} {a:Nat} {s:Int} {v:AV} {l:List (Int×AV×Nat)} {c:Nat} {hm:ev m=some (.map a)} {hk:ev k=some (.lit (.int .i64 s))} {hx:ev x=some v}
  {hg:H.get a=some (.map (imap l) c)} :
  exB3 P H ev ⟨d,.insert t m k x,ty,p,af,g⟩ m k x a (.lit (.int .i64 s)) v (some (.map (imap l) c)) hm hk hx hg=muI P H ev ⟨d,.insert t m k x,ty,p,af,g⟩ a s v l c (isImap P t) (iGet s l):=by
 cases hq:isImap P t with
 | none=>rfl
 | some z =>
  cases hn:iGet s l with
  | some y=>rfl
  | none =>
   show oMapUpdate P H t (ev m) (ev k) (ev x)=_
   obtain ⟨kt,et,k',h1,h2,h3⟩:=isImap_inv hq
   unfold oMapUpdate
   rw [hm,hk,hx]
   dsimp only
   rw [mapUpdate_ints h1 h2 hg hn]; rfl
theorem insert_i0 {t:TypeId} {m k x:Operand} {a:Nat} {s:Int} {v:AV} {c:Nat} {hm:ev m=some (.map a)} {hk:ev k=some (.lit (.int .i64 s))} {hx:ev x=some v}
  {hg:H.get a=some (.map (sset []) c)} :
  exB3 P H ev ⟨d,.insert t m k x,ty,p,af,g⟩ m k x a (.lit (.int .i64 s)) v (some (.map (sset []) c)) hm hk hx hg=muI P H ev ⟨d,.insert t m k x,ty,p,af,g⟩ a s v [] c (isImap P t) none :=
 insert_ix (l:=[]) (hg:=hg)
attribute [simp] op_insert insert_ix insert_i0
end
end Go.Ai
end
section
namespace Go.Ai
def NodeM.subs:NodeM→List NodeM
 | .mk _ _ _ l=>l
theorem one_sub {x:NodeM} {st inp out:Int} (hv:validM st inp out x=true) (h:x.op=7∨x.op=8∨x.op=9) : ∃ y,x.subs=[y]∧validM st inp out y=true∧sizeN y < sizeN x:=by
 cases x with
 | mk op a b subs =>
  unfold validM at hv
  simp only [Bool.and_eq_true,decide_eq_true_eq] at hv
  obtain ⟨v1,v2,v3,v4,v5,v6,v7⟩:=hv
  have h1:subs.length=1:=by rw [v2]; rcases h with h | h | h <;> (have h:op=_:=h; subst h; rfl)
  match subs,h1 with
  | [y],_ =>
   refine ⟨y,rfl,?_,by simp only [sizeN,sizeL]; omega⟩
   unfold validL at v7
   simp only [Bool.and_eq_true] at v7
   exact v7.1
theorem two_subs {x:NodeM} {st inp out:Int} (hv:validM st inp out x=true) (h:x.op=10) : ∃ y z,x.subs=[y,z]∧validM st inp out y=true∧sizeN y < sizeN x∧validM st inp out z=true∧sizeN z < sizeN x:=by
 cases x with
 | mk op a b subs =>
  unfold validM at hv
  simp only [Bool.and_eq_true,decide_eq_true_eq] at hv
  obtain ⟨v1,v2,v3,v4,v5,v6,v7⟩:=hv
  have h1:subs.length=2:=by rw [v2]; have h:op=_:=h; subst h; rfl
  match subs,h1 with
  | [y,z],_ =>
   unfold validL at v7
   unfold validL at v7
   simp only [Bool.and_eq_true] at v7
   exact ⟨y,z,rfl,v7.1,by simp only [sizeN,sizeL]; omega,v7.2.1,by simp only [sizeN,sizeL]; omega⟩
theorem wit7 {M:MachM} (hM:M.ok) {x y:NodeM} (ho:x.op=7) (hys:x.subs=[y]) {z z0 sn:Nat} (hN:sn < M.rows.length) (hx:semN M x (sOf z)) (hy:semN M y (sOf z0)) (hz:z.testBit sn=true) :
  ∃ w,wayM M sn (fun u=>decide (u=sn)) (sOf z0) 1=some w∧wayM M sn (fun u=>(bitN sn).testBit u) (fun u=>z0.testBit u) 1=some w:=by
 cases x with
 | mk op a b subs =>
  have ho:op=7:=ho
  have hys:subs=[y]:=hys
  subst ho hys
  obtain ⟨A,B,⟨h1,_⟩,h2⟩:=hx
  have h2:eqS M.gr.n (sOf z) (M.gr.pre A):=h2
  have hA:=semN_uniq hM y h1 hy
  have hp:=pre_eq (MachM.gr_ok hM) hA sn hN
  have hs:=h2 sn hN
  have hx:M.gr.pre (sOf z0) sn=true:=by rw [← hp,← hs]; exact hz
  obtain ⟨w,hw⟩:=way_next hM (a:=fun u=>decide (u=sn)) hN (by simp) hx
  refine ⟨w,hw,?_⟩
  rw [← hw]
  refine way_cong hM hN (fun u _=>?_) (fun u _=>rfl)
  rw [bitN_bit]
  exact decide_eq_decide.2 eq_comm
theorem wit8 {M:MachM} (hM:M.ok) {x y:NodeM} (ho:x.op=8) (hys:x.subs=[y]) {z z0 sn:Nat} (hN:sn < M.rows.length) (hx:semN M x (sOf z)) (hy:semN M y (sOf z0)) (hz:z.testBit sn=true) :
  ∃ w,wayM M sn allS (sOf z0) 0=some w∧wayM M sn (fun u=>(allK M.rows.length).testBit u) (fun u=>z0.testBit u) 0=some w:=by
 cases x with
 | mk op a b subs =>
  have ho:op=8:=ho
  have hys:subs=[y]:=hys
  subst ho hys
  obtain ⟨A,B,⟨h1,_⟩,h2⟩:=hx
  have h2:IsL M.gr.n (M.gr.fE allS A) (sOf z):=h2
  have hA:=semN_uniq hM y h1 hy
  have h3:=fEc (MachM.gr_ok hM) h2 (eqS.refl _ _) hA (eqS.refl _ _)
  obtain ⟨w,hw⟩:=way_until hM hN h3 hz
  refine ⟨w,hw,?_⟩
  rw [← hw]
  refine way_cong hM hN (fun u hu=>?_) (fun u _=>rfl)
  rw [allK_bit]
  exact decide_eq_true hu
theorem wit10 {M:MachM} (hM:M.ok) {x y y2:NodeM} (ho:x.op=10) (hys:x.subs=[y,y2]) {z z0 z1 sn:Nat} (hN:sn < M.rows.length) (hx:semN M x (sOf z)) (hy:semN M y (sOf z0)) (hy2:semN M y2 (sOf z1)) (hz:z.testBit sn=true) :
  ∃ w,wayM M sn (sOf z0) (sOf z1) 0=some w:=by
 cases x with
 | mk op a b subs =>
  have ho:op=10:=ho
  have hys:subs=[y,y2]:=hys
  subst ho hys
  obtain ⟨A,B,⟨h1,h1'⟩,h2⟩:=hx
  have h2:IsL M.gr.n (M.gr.fE A B) (sOf z):=h2
  have hA:=semN_uniq hM y h1 hy
  have hB:=semN_uniq hM y2 h1' hy2
  have h3:=fEc (MachM.gr_ok hM) h2 hA hB (eqS.refl _ _)
  exact way_until hM hN h3 hz
theorem wit9 {M:MachM} (hM:M.ok) {x:NodeM} (ho:x.op=9) {X:SetS} (hx:semN M x X) : ∀ u,u < M.rows.length→X u=true→(firstIn X (M.rows.getD u []) 0=none↔M.gr.ends u=true):=by
 cases x with
 | mk op a b subs =>
  have ho:op=9:=ho
  subst ho
  obtain ⟨A,B,_,h2⟩:=hx
  exact fun u hu h=>eg_edge (A:=A) (B:=B) hM h2 hu h
end Go.Ai
end
section
namespace Go.Ai
section
variable {P:Program} {H:Mem} {ev:Ev} {d:Option Tmp} {ty:TypeId} {p:String} {af:Array Edge} {g:Option (Nat×Bool)} {x y:Operand} {s t:TypeId} {size bytes:Nat}
theorem ap_nilR {a off n m:Nat} {hx:ev x=some (.sl a off n m)} {hy:ev y=some (.lit (.slice none 0 0))} (hp:(apI P s t).isSome=true) :
  ex2 P H ev ⟨d,.call ⟨.builtin .append,#[x,y],#[s,t]⟩,ty,p,af,g⟩ x y (some (.sl a off n m)) (some (.lit (.slice none 0 0))) hx hy=.val (.sl a off n m) H:=by
 cases hq:apI P s t with
 | none=>rw [hq] at hp; cases hp
 | some q =>
  obtain ⟨q1,q2⟩:=q
  show opV P H ev _=_
  rw [append_of hx hy hq]
  rfl
attribute [simp] ap_nilR
end
end Go.Ai
end
section
namespace Go.Ai
theorem bRow_len (b:Nat→Bool) (w:List Nat) : ∀ (l:List (Int×Int)) (i:Nat) (st:List (Nat×List Nat)),match bRow b w l i st with
  | .inl v=>v.length=w.length+1
  | .inr _=>True:=by
 intro l i st
 have h:=bRow_spec b w l i st
 cases hk:bRow b w l i st with
 | inl v=>rw [hk] at h; obtain ⟨j,rfl⟩:=h; simp
 | inr st'=>trivial
theorem bfs_len {M:MachM} (hM:M.ok) {a b:Nat→Bool} {s:Nat} : ∀ (f n:Nat) (st:List (Nat×List Nat)) (w:List Nat),BOK M.rows.length s st→bfs M a b f n st=some w→w.length≤M.rows.length
 | 0,n,st,w,hb,h=>by unfold bfs at h; cases h
 | f+1,n,st,w,hb,h=>by
  unfold bfs at h
  cases hq:st[n]? with
  | none=>rw [hq] at h; cases h
  | some q =>
   rw [hq] at h
   dsimp only at h
   have hnl:n < st.length:=by
    rcases Nat.lt_or_ge n st.length with h | h
    ·exact h
    ·rw [List.getElem?_eq_none h] at hq; cases hq
   cases ha:a q.1 with
   | false=>rw [ha] at h; exact bfs_len hM f (n+1) st w hb h
   | true =>
    rw [ha] at h
    simp only [if_true] at h
    have hql:q.1 < M.rows.length:=hb.lt q (List.mem_of_getElem? hq)
    have h1:=bRow_len b q.2 (M.rows.getD q.1 []) 0 st
    have h2:=hb.short n q hq
    have h3:=hb.len
    have hbk:=bRow_ok b q.2 (M.rows.getD q.1 []) 0 st hb (row_lt hM hql) (by omega)
    cases hk:bRow b q.2 (M.rows.getD q.1 []) 0 st with
    | inl v =>
     rw [hk] at h h1
     have h:v=w:=Option.some.inj h
     have h1:v.length=q.2.length+1:=h1
     subst h
     omega
    | inr st'=>rw [hk] at h hbk; exact bfs_len hM f (n+1) st' w hbk h
theorem way_len {M:MachM} (hM:M.ok) {a b:Nat→Bool} {s:Nat} {k:Int} {w:List Nat} (hs:s < M.rows.length) (h:wayM M s a b k=some w) : w.length≤1000000:=by
 have h64:M.rows.length≤64:=hM.2.2.2.2.2.1
 unfold wayM at h
 split at h
 ·cases h; simp
 ·have:=bfs_len hM _ _ _ _ (.start hs) h; omega
theorem lasso_len0 {M:MachM} {t:Nat→Bool} : ∀ (f s:Nat) (w seen:List Nat),(lassoM M t f s w seen).1.length≤w.length+f
 | 0,s,w,seen=>by unfold lassoM; exact Nat.le_refl _
 | f+1,s,w,seen=>by
  unfold lassoM
  cases hf:firstIn t (M.rows.getD s []) 0 with
  | none=>dsimp only; omega
  | some q =>
   dsimp only
   cases hk:seen.idxOf? q.2 with
   | some k=>dsimp only; rw [List.length_append]; simp only [List.length_singleton]; omega
   | none =>
    dsimp only
    have:=lasso_len0 (M:=M) (t:=t) f q.2 (w++[q.1]) (seen++[q.2])
    rw [List.length_append] at this; simp only [List.length_singleton] at this
    omega
theorem lasso_len {M:MachM} (hM:M.ok) {t:Nat→Bool} {s:Nat} : (lassoM M t (M.rows.length+1) s [] [s]).1.length≤1000000:=by
 have h64:M.rows.length≤64:=hM.2.2.2.2.2.1
 have:=lasso_len0 (M:=M) (t:=t) (M.rows.length+1) s [] [s]
 have e:([] : List Nat).length=0:=rfl
 omega
theorem intC_one (N s:Nat) (hs:s < N) : (List.replicate N (AV.lit (.int .i64 0))).set s (.lit (.int .i64 1))=intC N (fun u=>decide (u=s)):=by
 apply List.ext_getElem?
 intro i
 rw [List.getElem?_set,intC_at,List.getElem?_replicate,List.length_replicate]
 by_cases h:s=i
 ·subst h; simp [hs,b01]
 ·have:¬i=s:=fun e=>h e.symm
  by_cases hi:i < N <;> simp [h,hi,this,b01]
theorem sem_true {M:MachM} {X:SetS} (h:semN M (.mk 0 0 0 []) X) : eqS M.rows.length X allS:=by
 obtain ⟨A,B,_,h2⟩:=h
 exact h2
def witN (r:Nat) (x:NodeM) : NodeM:=if r=3 then bi 10 (un 4 x) x else un (7+r) x
theorem wit_good {s i o:Int} {x:NodeM} {r:Nat} (hr:r < 4) (hv:validM s i o x=true) (hz:sizeN x≤12) : validM s i o (witN r x)=true∧sizeN (witN r x)≤64:=by
 have:r=0∨r=1∨r=2∨r=3:=by omega
 rcases this with rfl | rfl | rfl | rfl
 ·exact ⟨valid_un (by omega) rfl hv,by show sizeN (un 7 x)≤64; rw [size_un]; omega⟩
 ·exact ⟨valid_un (by omega) rfl hv,by show sizeN (un 8 x)≤64; rw [size_un]; omega⟩
 ·exact ⟨valid_un (by omega) rfl hv,by show sizeN (un 9 x)≤64; rw [size_un]; omega⟩
 ·exact ⟨valid_bi (by omega) rfl (valid_un (by omega) rfl hv) hv,by show sizeN (bi 10 (un 4 x) x)≤64; rw [size_bi,size_un]; omega⟩
end Go.Ai
end
section
namespace Go.Ai
open Go.ChangeShapes Go.WideShapes Go.ChangeAt Go.RowKit
variable {H:Type} {enc:TypeId×Value→H} {P:Program}
theorem post_below {f:Func} {s:ChangeSpec} {apart fresh handsOn again:Bool} {W W' : World} {args:Array Value} {v:Value} {ds gs:List (DataW H)} {before pa pv:List MemPlace}
  (hW:DataW.Whole enc P f.params.toList s.vars apart W args.toList ds gs before)
  (hres:∀ (b:Nat) (sp:Nat→Bool) (hd:Bool),DataW.TrodAll enc P W' b sp hd f.resultTypes.toList (v.resultList f.resultTypes.size) (s.fn H (ds++gs)).results [])
  (hargs:∀ sp:Nat→Bool,(∀ p∈before,sp p.block=true)→DataW.TrodAll enc P W' 0 sp true f.params.toList args.toList (s.fn H (ds++gs)).args pa)
  (hvars:∀ sp:Nat→Bool,(∀ p∈before,sp p.block=true)→DataW.TrodVars enc P W' sp s.vars (s.fn H (ds++gs)).vars pv)
  (hps:before=pa++pv) (hB:Below W.heap.size W W')
  (hok:∀ (j:Nat) (t:TypeId) (r:Value),f.resultTypes[j]?=some t→(v.resultList f.resultTypes.size)[j]?=some r→Value.okWide P W' .any 0 t r) :
  s.post enc P f apart fresh handsOn again W args v W':=by
 have hlt:∀ p∈before,p.block < W.heap.size:=fun p hp=>hW.lt p hp
 have hold:∀ p∈before,(fun b=>decide (b < W.heap.size)) p.block=true:=fun p hp=>by simpa using hlt p hp
 refine ⟨ds,gs,before,[],pa,pv,hW,hres _ _ _,hargs _ hold,hvars _ hold,World.keptBut_mono (fun p hp=>⟨hp,?_⟩) (hB.frame (·∈before)),fun _=>?_⟩
 ·rw [hps,List.mem_append] at hp
  exact Or.inr hp
 ·obtain ⟨_,_,_,_,_,hz,hn⟩:=hW
  refine ⟨hok,_,_,([]++pa)++pv,⟨[]++pa,pv,trodAll_append (hargs _ (fun _ _=>rfl)) (hres _ _ _),hvars _ (fun _ _=>rfl),rfl,?_,?_⟩,?_⟩
  ·intro b off hp
   have hp' : MemPlace.cell b off∈before:=by rw [hps]; simpa using hp
   rw [hB.frozen (p:=⟨b,off,none⟩) (hlt _ hp')]
   exact hz b off hp'
  ·intro ha
   have:=hn ha
   rw [hps] at this
   simpa using this
  ·intro p hp _
   rw [hps]
   simpa using hp
end Go.Ai
end
section
namespace Go.Ai
open Go.ChangeShapes Go.WideShapes Go.ChangeAt Go.RowKit
variable {B G:Nat} {P:Program} {ρ:Rn} {w:World}
theorem vrs_lits {ρ:Rn} {k:IntKind} : ∀ (zs:List Int),VRs ρ (zs.map fun z=>.lit (.int k z)) (zs.map fun z=>.int k z)
 | []=>rfl
 | z :: zs=>⟨.int k z,_,rfl,rfl,vrs_lits zs⟩
theorem name_ints {k:IntKind} {g:Nat→Option Blk} {n:Nat} {v:Value} (s:Sim B G ρ ⟨.fn g,n⟩ w) (hno:NoOwn ⟨.fn g,n⟩)
  (h:v=.slice none 0 0∨∃ (a:Addr) (len cap:Nat) (zs:List Int),v=.slice (some a) len cap∧len≤cap∧zs.length=cap∧∀ i,i < zs.length→w.cell? (a.add i)=some (.int k (zs.getD i 0))) :
  ∃ (ρ' : Rn) (g' : Nat→Option Blk) (n' : Nat) (av:AV) (zs:List Int),Sim B G ρ' ⟨.fn g',n'⟩ w∧NoOwn ⟨.fn g',n'⟩∧VR ρ' av v∧Sub ρ ρ'∧oneC av=true∧n≤n'∧(∀ a,a < n→g' a=g a) ∧
   ((zs.length=0∧(av=.lit (.slice none 0 0)∨av=.es))∨∃ c,av=.sl n 0 zs.length c∧n < n'∧Row g' n 0 (zs.map fun z=>.lit (.int k z))) ∧
   (v=.slice none 0 0→zs=[])∧(∀ (a:Addr) (len cap:Nat) (ys:List Int),v=.slice (some a) len cap→(∀ i,i < ys.length→w.cell? (a.add i)=some (.int k (ys.getD i 0)))→ys.length=cap→len≤cap→zs=ys.take len):=by
 rcases h with rfl | ⟨a,len,cap,zs,rfl,hlen,hz,hc⟩
 ·exact ⟨ρ,g,n,.lit (.slice none 0 0),[],s,hno,rfl,fun _ _ h=>h,rfl,Nat.le_refl _,fun _ _=>rfl,.inl ⟨rfl,.inl rfl⟩,fun _=>rfl,fun a len cap ys h=>by cases h⟩
 ·have hys:∀ ys:List Int,(∀ i,i < ys.length→w.cell? (a.add i)=some (.int k (ys.getD i 0)))→ys.length=cap→ys=zs:=by
   intro ys h1 h2
   refine List.ext_getElem (by omega) fun i h3 h4=>?_
   have e:=(h1 i h3).symm.trans (hc i h4)
   simp only [Option.some.injEq,Value.int.injEq,true_and] at e
   rw [List.getD_eq_getElem?_getD,List.getD_eq_getElem?_getD,List.getElem?_eq_getElem h3,List.getElem?_eq_getElem h4] at e
   exact e
  by_cases h0:cap=0
  ·subst h0
   have hl0:len=0:=by omega
   subst hl0
   exact ⟨ρ,g,n,.es,[],s,hno,⟨a,0,rfl⟩,fun _ _ h=>h,rfl,Nat.le_refl _,fun _ _=>rfl,.inl ⟨rfl,.inr rfl⟩,fun _=>rfl,fun a' len' cap' ys h1 h2 h3 h4=>by
    cases h1; rw [List.take_zero]⟩
  ·obtain ⟨b,o,spt⟩:=a
   have hsp:spt=none:=by
    have h1:=hc 0 (by omega)
    have h2:(Addr.mk b o spt).add 0=⟨b,o,spt⟩:=by unfold Addr.add; rw [if_pos rfl]
    rw [h2] at h1
    exact spot_of_cell h1
   subst hsp
   have hbr:∀ ρ' : Rn,BR B ρ' (.cells (zs.map fun z=>.lit (.int k z)) false 0) b o 0 w:=fun ρ' =>
    br_of_cells (vrs_lits zs) (by intro e; have:=congrArg List.length e; simp at this; subst this; simp at hz; omega) (fun i hi=>by
     have hi' : i < zs.length:=by simpa using hi
     have h1:=hc i hi'
     rw [Addr.add_eq] at h1
     rw [h1,List.getElem?_map,List.getElem?_eq_getElem hi',List.getD_eq_getElem?_getD,List.getElem?_eq_getElem hi']
     rfl)
   have s2:=s.see hno (x:=.cells (zs.map fun z=>.lit (.int k z)) false 0) (b:=b) (o:=o) (k:=0) rfl (hbr _)
   refine ⟨_,gput g n (some (.cells (zs.map fun z=>.lit (.int k z)) false 0)),n+1,.sl n 0 len cap,zs.take len,s2,hno.add rfl,⟨b,o,0,upd_same _ _ _,hlen,rfl⟩,sub_upd s.none,rfl,Nat.le_succ _,fun a ha=>gput_lt ha,.inr ⟨cap,?_,Nat.lt_succ_self _,?_⟩,(fun h=>by cases h),fun a' len' cap' ys h1 h2 h3 h4=>?_⟩
   ·rw [List.length_take,Nat.min_eq_left (by omega)]
   ·refine ⟨zs.map fun z=>.lit (.int k z),false,0,if_pos rfl,?_,?_⟩
    ·simp; omega
    ·rw [List.drop_zero,List.length_map,← List.map_take,List.length_take,Nat.min_eq_left (by omega)]
   ·cases h1
    rw [hys ys h2 h3]
end Go.Ai
end
