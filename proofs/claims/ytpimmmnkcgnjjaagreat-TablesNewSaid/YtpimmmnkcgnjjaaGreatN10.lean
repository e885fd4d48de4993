/- A small verified interpreter over names, its proofs, and what was proved with it. No condition. -/
import Derived.Test.YtpimmmnkcgnjjaaGreatN09
import Derived.Test.YtpimmmnkcgnjjaaGreatN06
set_option linter.all false
set_option linter.deprecated false
section
namespace Go.Ai
set_option maxRecDepth 10000
theorem valT_snoc (t:List Int×List Int) (w:List Int) : ∀ (ts:List (List Int×List Int)),valT (ts++[t]) w=match valT ts w with
  | some o=>some o
  | none=>if w≠[]∧w.length≤t.1.length∧t.1.take w.length=w then some (t.2.getD (w.length - 1) 0) else none
 | []=>rfl
 | u :: ts=>by
  show (if w≠[]∧w.length≤u.1.length∧u.1.take w.length=w then some (u.2.getD (w.length - 1) 0) else valT (ts++[t]) w)=_
  by_cases h:w≠[]∧w.length≤u.1.length∧u.1.take w.length=w
  ·have e:valT (u :: ts) w=some (u.2.getD (w.length - 1) 0):=if_pos h
   rw [if_pos h,e]
  ·have e:valT (u :: ts) w=valT ts w:=if_neg h
   rw [if_neg h,e]
   exact valT_snoc t w ts
theorem addV_eq:∀ (w r:List Int) (V:List Int→Option Int) (p y:List Int),r.length=w.length→addV V p w r y=match V y with
  | some o=>some o
  | none=>if p.length < y.length∧y.length≤p.length+w.length∧(p++w).take y.length=y then some (r.getD (y.length - p.length - 1) 0) else none
 | [],_,V,p,y,_=>by
  show V y=_
  cases V y with
  | some o=>rfl
  | none =>
   dsimp only
   rw [if_neg]
   rintro ⟨h1,h2,_⟩
   rw [List.length_nil] at h2; omega
 | _ :: _,[],_,_,_,h=>by cases h
 | i :: w,o :: r,V,p,y,hl=>by
  show addV (updV V (p++[i]) o) (p++[i]) w r y=_
  rw [addV_eq w r _ _ y (by simpa using hl)]
  have hla:(p++[i]).length=p.length+1:=by simp
  by_cases hy:y=p++[i]
  ·cases hv:V y with
   | some o'=>rw [updV_known (hy ▸ hv),hv]
   | none =>
    have h1:updV V (p++[i]) o y=some o:=by rw [hy]; exact updV_self (hy ▸ hv)
    rw [h1]
    dsimp only
    have hyl:y.length=p.length+1:=by rw [hy]; exact hla
    have hpt:(p++i :: w).take y.length=y:=by
     rw [hyl,List.take_append,show p.length+1 - p.length=1 by omega,List.take_of_length_le (by omega),hy]
     rfl
    rw [if_pos ⟨by omega,by rw [List.length_cons]; omega,hpt⟩,hyl,show p.length+1 - p.length - 1=0 by omega]
    rfl
  ·rw [updV_ne hy]
   cases hv:V y with
   | some o'=>rfl
   | none =>
    dsimp only
    have hass:(p++[i])++w=p++i :: w:=by simp
    rw [hla,hass]
    by_cases hc:p.length+1 < y.length∧y.length≤p.length+1+w.length∧(p++i :: w).take y.length=y
    ·rw [if_pos hc,if_pos ⟨by omega,by simp; omega,hc.2.2⟩]
     rw [show y.length - p.length - 1=(y.length - (p.length+1) - 1)+1 by omega]
     rfl
    ·rw [if_neg hc,if_neg]
     rintro ⟨h1,h2,h3⟩
     simp at h2
     by_cases h4:y.length=p.length+1
     ·apply hy
      rw [← h3,h4,List.take_append,show p.length+1 - p.length=1 by omega,List.take_of_length_le (by omega)]
      rfl
     ·exact hc ⟨by omega,by omega,h3⟩
theorem addV_val {ts:List (List Int×List Int)} {t:List Int×List Int} (hl:t.2.length=t.1.length) : addV (valT ts) [] t.1 t.2=valT (ts++[t]):=by
 funext y
 rw [addV_eq _ _ _ _ _ hl,valT_snoc]
 cases valT ts y with
 | some o=>rfl
 | none =>
  dsimp only
  rw [List.nil_append,List.length_nil,Nat.zero_add,Nat.sub_zero]
  by_cases h:y=[]
  ·subst h
   rw [if_neg (by simp),if_neg (by simp)]
  ·have h1:0 < y.length:=List.length_pos_iff.2 h
   by_cases h2:y.length≤t.1.length∧t.1.take y.length=y
   ·rw [if_pos ⟨h1,h2⟩,if_pos ⟨h,h2⟩]
   ·rw [if_neg (fun h3=>h2 h3.2),if_neg (fun h3=>h2 h3.2)]
def Cons (ts:List (List Int×List Int)) : Prop:=∀ u∈ts,∀ t∈ts,∀ k,k < u.1.length→k < t.1.length→u.1.take (k+1)=t.1.take (k+1)→u.2.getD k 0=t.2.getD k 0
theorem stepL_iff:∀ (x a y b:List Int) (k:Nat),a.length=x.length→b.length=y.length→(stepL x a y b k=none↔∀ j,j < x.length→j < y.length→x.take (j+1)=y.take (j+1)→a.getD j 0=b.getD j 0)
 | [],_,_,_,_,_,_=>⟨fun _ j h=>(by cases h),fun _=>rfl⟩
 | _ :: _,[],_,_,_,h,_=>by cases h
 | _ :: _,_ :: _,[],_,_,_,_=>⟨fun _ j _ h=>(by cases h),fun _=>rfl⟩
 | _ :: _,_ :: _,_ :: _,[],_,_,h=>by cases h
 | i :: x,p :: a,j :: y,q :: b,k,ha,hb=>by
  have ih:=stepL_iff x a y b (k+1) (by simpa using ha) (by simpa using hb)
  show ((if i=j then (if p=q then stepL x a y b (k+1) else some k) else none)=none↔_)
  by_cases h:i=j
  ·subst h
   rw [if_pos rfl]
   by_cases h2:p=q
   ·subst h2
    rw [if_pos rfl,ih]
    constructor
    ·intro h3 m hm1 hm2 hm3
     cases m with
     | zero=>rfl
     | succ m =>
      rw [List.take_succ_cons,List.take_succ_cons] at hm3
      exact h3 m (by simpa using hm1) (by simpa using hm2) (by simpa using hm3)
    ·intro h3 m hm1 hm2 hm3
     exact h3 (m+1) (by simpa using hm1) (by simpa using hm2) (by rw [List.take_succ_cons,List.take_succ_cons,hm3])
   ·rw [if_neg h2]
    constructor
    ·intro h3; cases h3
    ·intro h3; exact absurd (h3 0 (by simp) (by simp) (by simp)) h2
  ·rw [if_neg h]
   constructor
   ·intro _ m _ _ hm3
    rw [List.take_succ_cons,List.take_succ_cons] at hm3
    exact absurd (List.cons.inj hm3).1 h
   ·intro _; rfl
theorem conA_iff (t:List Int×List Int) : ∀ (us:List (List Int×List Int)) (a:Nat),conA t us a=none↔∀ u∈us,stepL u.1 u.2 t.1 t.2 0=none
 | [],_=>⟨fun _ u hu=>(by cases hu),fun _=>rfl⟩
 | u :: us,a=>by
  have ih:=conA_iff t us (a+1)
  have e:conA t (u :: us) a=match stepL u.1 u.2 t.1 t.2 0 with | some k=>some (a,k) | none=>conA t us (a+1):=rfl
  rw [e]
  cases h:stepL u.1 u.2 t.1 t.2 0 with
  | some k =>
   constructor
   ·intro h2; cases h2
   ·intro h2; have:=h2 u (by simp); rw [h] at this; cases this
  | none =>
   dsimp only
   rw [ih]
   constructor
   ·intro h2 v hv
    rcases List.mem_cons.1 hv with rfl | hv
    ·exact h
    ·exact h2 v hv
   ·intro h2 v hv; exact h2 v (by simp [hv])
theorem conB_iff (ts:List (List Int×List Int)) : ∀ (us:List (List Int×List Int)) (b:Nat),conB ts us b=none↔∀ (i:Nat) (h:i < us.length),∀ u∈ts.take (b+i),stepL u.1 u.2 us[i].1 us[i].2 0=none
 | [],_=>⟨fun _ i hi=>(by cases hi),fun _=>rfl⟩
 | t :: us,b=>by
  have ih:=conB_iff ts us (b+1)
  have e:conB ts (t :: us) b=match conA t (ts.take b) 0 with | some (a,k)=>some (a,b,k) | none=>conB ts us (b+1):=rfl
  rw [e]
  cases h:conA t (ts.take b) 0 with
  | some x =>
   constructor
   ·intro h2; cases h2
   ·intro h2
    have h3:=(conA_iff t (ts.take b) 0).2 fun u hu=>h2 0 (by simp) u hu
    rw [h] at h3; cases h3
  | none =>
   dsimp only
   rw [ih]
   constructor
   ·intro h2 i hi u hu
    cases i with
    | zero=>exact (conA_iff t (ts.take b) 0).1 h u hu
    | succ i=>exact h2 i (by simpa using hi) u (by rw [show b+1+i=b+(i+1) by omega]; exact hu)
   ·intro h2 i hi u hu
    exact h2 (i+1) (by simpa using hi) u (by rw [show b+(i+1)=b+1+i by omega]; exact hu)
theorem cons_iff {ts:List (List Int×List Int)} (hl:∀ t∈ts,t.2.length=t.1.length) : conB ts ts 0=none↔Cons ts:=by
 rw [conB_iff]
 constructor
 ·intro h
  have key:∀ (a b:Nat) (ha:a < ts.length) (hb:b < ts.length),a < b→∀ k,k < ts[a].1.length→k < ts[b].1.length→ts[a].1.take (k+1)=ts[b].1.take (k+1)→ts[a].2.getD k 0=ts[b].2.getD k 0:=fun a b ha hb hab=>by
   have h1:=h b hb ts[a] (by
    rw [Nat.zero_add,List.mem_iff_getElem]
    exact ⟨a,by rw [List.length_take]; omega,by rw [List.getElem_take]⟩)
   exact (stepL_iff _ _ _ _ _ (hl _ (List.getElem_mem ha)) (hl _ (List.getElem_mem hb))).1 h1
  intro u hu t ht k h1 h2 h3
  obtain ⟨a,ha,rfl⟩:=List.mem_iff_getElem.1 hu
  obtain ⟨b,hb,rfl⟩:=List.mem_iff_getElem.1 ht
  rcases Nat.lt_trichotomy a b with hab | hab | hab
  ·exact key a b ha hb hab k h1 h2 h3
  ·subst hab; rfl
  ·exact (key b a hb ha hab k h2 h1 h3.symm).symm
 ·intro h i hi u hu
  have hu':=List.mem_of_mem_take hu
  exact (stepL_iff _ _ _ _ _ (hl _ hu') (hl _ (List.getElem_mem hi))).2 fun j=>h u hu' _ (List.getElem_mem hi) j
theorem valT_of {w:List Int} {o:Int} : ∀ {ts:List (List Int×List Int)},valT ts w=some o→∃ u∈ts,w≠[]∧w.length≤u.1.length∧u.1.take w.length=w∧o=u.2.getD (w.length - 1) 0
 | [],h=>by cases h
 | t :: ts,h=>by
  by_cases hc:w≠[]∧w.length≤t.1.length∧t.1.take w.length=w
  ·have e:valT (t :: ts) w=some (t.2.getD (w.length - 1) 0):=if_pos hc
   rw [e] at h
   cases h
   exact ⟨t,by simp,hc.1,hc.2.1,hc.2.2,rfl⟩
  ·have e:valT (t :: ts) w=valT ts w:=if_neg hc
   rw [e] at h
   obtain ⟨u,h1,h2⟩:=valT_of h
   exact ⟨u,by simp [h1],h2⟩
theorem valT_mem {ts:List (List Int×List Int)} (hc:Cons ts) {t:List Int×List Int} (ht:t∈ts) {k:Nat} (hk:k < t.1.length) : valT ts (t.1.take (k+1))=some (t.2.getD k 0):=by
 have hlen:(t.1.take (k+1)).length=k+1:=by rw [List.length_take]; omega
 have hne:t.1.take (k+1)≠[]:=fun e=>by rw [e] at hlen; cases hlen
 have hsome:∀ us:List (List Int×List Int),t∈us→∃ o,valT us (t.1.take (k+1))=some o:=by
  intro us
  induction us with
  | nil=>intro h; cases h
  | cons u us ih =>
   intro h
   by_cases hcc:t.1.take (k+1)≠[]∧(t.1.take (k+1)).length≤u.1.length∧u.1.take (t.1.take (k+1)).length=t.1.take (k+1)
   ·exact ⟨_,if_pos hcc⟩
   ·rcases List.mem_cons.1 h with rfl | h
    ·exact absurd ⟨hne,by rw [hlen]; omega,by rw [hlen]⟩ hcc
    ·obtain ⟨o,ho⟩:=ih h
     exact ⟨o,(if_neg hcc).trans ho⟩
 obtain ⟨o,ho⟩:=hsome ts ht
 obtain ⟨u,h1,_,h3,h4,h5⟩:=valT_of ho
 rw [hlen] at h3 h4 h5
 rw [ho,h5,Nat.add_sub_cancel]
 exact congrArg some (hc u h1 t ht k (by omega) hk h4)
theorem Cons.sub {ts us:List (List Int×List Int)} (h:Cons us) (hs:∀ t∈ts,t∈us) : Cons ts:=fun u hu t ht=>h u (hs u hu) t (hs t ht)
def treeM (I:Nat) (ts:List (List Int×List Int)) : List (List (Int×Int)):=ts.foldl (fun rows t=>enterM I rows 0 t.1 t.2) [List.replicate I (-1,-1)]
theorem tree_ok {I:Nat} {O:Int} : ∀ (n:Nat) (ts:List (List Int×List Int)),ts.length=n→Cons ts→(∀ t∈ts,validB I O t=true)→∃ us,Nod (valT ts) ([] :: us)∧treeM I ts=rowsT (valT ts) ([] :: us) I
 | 0,ts,hn,_,_=>by
  have e:=List.length_eq_zero_iff.1 hn
  subst e
  refine ⟨[],⟨by simp,fun w=>?_,fun x j o h=>by cases h⟩,?_⟩
  ·rw [List.mem_singleton]
   constructor
   ·intro h; exact .inl h
   ·rintro (h | ⟨o,h,_⟩)
    ·exact h
    ·cases h
  ·show [List.replicate I (-1,-1)]=[rowW (valT []) [[]] I []]
   congr 1
   unfold rowW
   symm
   rw [List.eq_replicate_iff]
   refine ⟨by simp,fun b hb=>?_⟩
   obtain ⟨j,_,rfl⟩:=List.mem_map.1 hb
   rfl
 | n+1,ts,hn,hc,hv=>by
  have hne:ts≠[]:=fun e=>by rw [e] at hn; cases hn
  have e:=List.dropLast_concat_getLast hne
  generalize ts.getLast hne=t at e
  generalize ts.dropLast=us at e
  subst e
  have hlu:us.length=n:=by rw [List.length_append] at hn; simpa using hn
  obtain ⟨vs,h1,h2⟩:=tree_ok n us hlu (hc.sub fun t ht=>by simp [ht]) fun t ht=>hv t (by simp [ht])
  have hvt:=hv t (by simp)
  unfold validB at hvt
  rw [Bool.and_eq_true,Bool.and_eq_true] at hvt
  have hlt:=of_decide_eq_true hvt.1.1
  obtain ⟨ks,h3,h4⟩:=enter_ok (O:=O) (I:=I) t.1 t.2 (valT us) ([] :: vs) [] h1 (by simp) hvt.1.2 hvt.2 hlt fun k hk o' ho'=>by
   rw [List.nil_append] at ho'
   obtain ⟨u,g1,_,g3,g4,g5⟩:=valT_of ho'
   have hlen:(t.1.take (k+1)).length=k+1:=by rw [List.length_take]; omega
   rw [hlen] at g3 g4 g5
   rw [g5,Nat.add_sub_cancel]
   exact hc u (by simp [g1]) t (by simp) k (by omega) hk g4
  rw [addV_val hlt] at h3 h4
  refine ⟨vs++ks,h3,?_⟩
  have e1:treeM I (us++[t])=enterM I (treeM I us) 0 t.1 t.2:=by unfold treeM; rw [List.foldl_append]; rfl
  rw [e1,h2]
  have e2:([] :: vs).idxOf ([] : List Int)=0:=by simp
  rw [e2] at h4
  exact h4
def Srt2 (ws:List (List Int)) : Prop:=∀ (a b:Nat) (ha:a < ws.length) (hb:b < ws.length),a < b→SL ws[a] ws[b]
theorem Srt2.nodup {ws:List (List Int)} (h:Srt2 ws) : ws.Nodup :=
 List.pairwise_iff_getElem.2 fun i j hi hj hij e=>by
  have h1:=h i j hi hj hij
  rw [e] at h1
  exact SL.irrefl h1
theorem Srt2.snoc {ws:List (List Int)} (h:Srt2 ws) {x:List Int} (hx:∀ w∈ws,SL w x) : Srt2 (ws++[x]):=by
 intro a b ha hb hab
 rw [List.length_append,List.length_singleton] at ha hb
 by_cases hb2:b < ws.length
 ·rw [List.getElem_append_left (by omega),List.getElem_append_left hb2]
  exact h a b (by omega) hb2 hab
 ·have e:b=ws.length:=by omega
  subst e
  rw [List.getElem_append_left (by omega),List.getElem_append_right (Nat.le_refl _)]
  simp
  exact hx _ (List.getElem_mem _)
def chL (V:List Int→Option Int) (w:List Int) : List Nat→List (List Int)
 | []=>[]
 | i :: l=>match V (w++[(i:Int)]) with
  | none=>chL V w l
  | some o=>if o = -1 then chL V w l else (w++[(i:Int)]) :: chL V w l
theorem chL_mem {V:List Int→Option Int} {w x:List Int} : ∀ {l:List Nat},x∈chL V w l↔∃ i∈l,x=w++[(i:Int)]∧∃ o,V x=some o∧o ≠ -1
 | []=>by simp [chL]
 | i :: l=>by
  have ih:=@chL_mem V w x l
  unfold chL
  cases h:V (w++[(i:Int)]) with
  | none =>
   dsimp only
   rw [ih]
   constructor
   ·rintro ⟨j,h1,h2⟩; exact ⟨j,by simp [h1],h2⟩
   ·rintro ⟨j,h1,h2,o,h3,h4⟩
    rcases List.mem_cons.1 h1 with rfl | h1
    ·rw [h2,h] at h3; cases h3
    ·exact ⟨j,h1,h2,o,h3,h4⟩
  | some o =>
   dsimp only
   by_cases ho:o = -1
   ·rw [if_pos ho,ih]
    constructor
    ·rintro ⟨j,h1,h2⟩; exact ⟨j,by simp [h1],h2⟩
    ·rintro ⟨j,h1,h2,o',h3,h4⟩
     rcases List.mem_cons.1 h1 with rfl | h1
     ·rw [h2,h] at h3; cases h3; exact absurd ho h4
     ·exact ⟨j,h1,h2,o',h3,h4⟩
   ·rw [if_neg ho,List.mem_cons,ih]
    constructor
    ·rintro (rfl | ⟨j,h1,h2⟩)
     ·exact ⟨i,by simp,rfl,o,h,ho⟩
     ·exact ⟨j,by simp [h1],h2⟩
    ·rintro ⟨j,h1,h2,h3⟩
     rcases List.mem_cons.1 h1 with rfl | h1
     ·exact .inl h2
     ·exact .inr ⟨j,h1,h2,h3⟩
def numE:Nat→List (Int×Int)→List (Int×Int)
 | _,[]=>[]
 | k,e :: es=>if e.1 = -1 then e :: numE k es else ((k:Int),e.2) :: numE (k+1) es
def oldE:List (Int×Int)→List Int
 | []=>[]
 | e :: es=>if e.1 = -1 then oldE es else e.1 :: oldE es
theorem oldE_row {V:List Int→Option Int} {ws:List (List Int)} {w:List Int} : ∀ (l:List Nat),oldE (l.map (entT V ws w))=(chL V w l).map fun x=>((ws.idxOf x:Nat) : Int)
 | []=>rfl
 | i :: l=>by
  have ih:=@oldE_row V ws w l
  rw [List.map_cons]
  unfold chL
  cases h:V (w++[(i:Int)]) with
  | none =>
   have e1:entT V ws w i=(-1,-1):=by unfold entT; rw [h]
   rw [e1]; exact ih
  | some o =>
   dsimp only
   by_cases ho:o = -1
   ·have e1:entT V ws w i=(-1,-2):=by unfold entT; rw [h]; exact if_pos ho
    rw [if_pos ho,e1]; exact ih
   ·have e1:entT V ws w i=(((ws.idxOf (w++[(i:Int)]) : Nat) : Int),o):=by unfold entT; rw [h]; exact if_neg ho
    rw [if_neg ho,e1,List.map_cons,← ih]
    exact if_neg (by show ¬((ws.idxOf _:Nat) : Int) = -1; omega)
theorem numE_row {V:List Int→Option Int} {ws:List (List Int)} {w:List Int} : ∀ (l:List Nat) (os:List (List Int)),l.Nodup→(∀ i∈l,w++[(i:Int)] ∉ os)→numE os.length (l.map (entT V ws w))=l.map (entT V (os++chL V w l) w)
 | [],_,_,_=>rfl
 | i :: l,os,hn,hos=>by
  have hn':=List.nodup_cons.1 hn
  rw [List.map_cons,List.map_cons]
  unfold chL
  cases h:V (w++[(i:Int)]) with
  | none =>
   have e1:∀ us,entT V us w i=(-1,-1):=fun us=>by unfold entT; rw [h]
   rw [e1,e1]
   show (-1,-1) :: numE os.length (l.map (entT V ws w))=_
   rw [numE_row l os hn'.2 fun j hj=>hos j (by simp [hj])]
  | some o =>
   dsimp only
   by_cases ho:o = -1
   ·rw [if_pos ho]
    have e1:∀ us,entT V us w i=(-1,-2):=fun us=>by unfold entT; rw [h]; exact if_pos ho
    rw [e1,e1]
    show (-1,-2) :: numE os.length (l.map (entT V ws w))=_
    rw [numE_row l os hn'.2 fun j hj=>hos j (by simp [hj])]
   ·rw [if_neg ho]
    have e1:∀ us,entT V us w i=(((us.idxOf (w++[(i:Int)]) : Nat) : Int),o):=fun us=>by unfold entT; rw [h]; exact if_neg ho
    rw [e1,e1]
    have e2:(os++(w++[(i:Int)]) :: chL V w l).idxOf (w++[(i:Int)])=os.length:=by
     rw [List.idxOf_append,if_neg (hos i (by simp))]; simp
    rw [e2]
    have e3:numE os.length ((((ws.idxOf (w++[(i:Int)]) : Nat) : Int),o) :: l.map (entT V ws w))=((os.length:Int),o) :: numE (os.length+1) (l.map (entT V ws w)):=by
     rw [numE,if_neg (by show ¬((ws.idxOf _:Nat) : Int) = -1; omega)]
    rw [e3]
    have ih:=numE_row (V:=V) (ws:=ws) (w:=w) l (os++[w++[(i:Int)]]) hn'.2 fun j hj hm=>by
     rcases List.mem_append.1 hm with h1 | h1
     ·exact hos j (by simp [hj]) h1
     ·have:=(snoc_inj (List.mem_singleton.1 h1)).2
      have e:j=i:=by omega
      exact hn'.1 (e ▸ hj)
    rw [List.length_append,List.length_singleton] at ih
    rw [ih,List.append_assoc]
    rfl
theorem goE_num {O:Int} {V:List Int→Option Int} {ws:List (List Int)} {w:List Int} (hV:∀ x o,V x=some o→o ≠ -1→0≤o∧o < O) : ∀ (l:List Nat) (k:Nat),goE O (numE k (l.map (entT V ws w))) k=some (k+(chL V w l).length)
 | [],_=>rfl
 | i :: l,k=>by
  rw [List.map_cons]
  unfold chL
  cases h:V (w++[(i:Int)]) with
  | none =>
   have e1:entT V ws w i=(-1,-1):=by unfold entT; rw [h]
   rw [e1]
   show goE O ((-1,-1) :: numE k (l.map (entT V ws w))) k=_
   exact goE_num hV l k
  | some o =>
   dsimp only
   by_cases ho:o = -1
   ·rw [if_pos ho]
    have e1:entT V ws w i=(-1,-2):=by unfold entT; rw [h]; exact if_pos ho
    rw [e1]
    show goE O ((-1,-2) :: numE k (l.map (entT V ws w))) k=_
    exact goE_num hV l k
   ·rw [if_neg ho]
    have e1:entT V ws w i=(((ws.idxOf (w++[(i:Int)]) : Nat) : Int),o):=by unfold entT; rw [h]; exact if_neg ho
    rw [e1]
    have e3:numE k ((((ws.idxOf (w++[(i:Int)]) : Nat) : Int),o) :: l.map (entT V ws w))=((k:Int),o) :: numE (k+1) (l.map (entT V ws w)):=by
     rw [numE,if_neg (by show ¬((ws.idxOf _:Nat) : Int) = -1; omega)]
    rw [e3]
    have hb:=hV _ _ h ho
    have e4:edOK O k ((k:Int),o)=some (k+1):=by
     unfold edOK
     rw [if_neg (fun h=>by have:=h.1; dsimp only at this; omega),if_pos ⟨rfl,hb⟩]
    show (match edOK O k ((k:Int),o) with | none=>none | some nx=>goE O (numE (k+1) (l.map (entT V ws w))) nx)=_
    rw [e4]
    dsimp only
    rw [goE_num hV l (k+1),List.length_cons]
    congr 1; omega
theorem goT_snoc {I O:Int} {r:List (Int×Int)} : ∀ (l:List (List (Int×Int))) (n nx k k' : Nat),goT I O l n nx=some k→(r.length:Int)=I→n+l.length < k→goE O r k=some k'→goT I O (l++[r]) n nx=some k'
 | [],n,nx,k,k',h,h1,h2,h3=>by
  have e:nx=k:=Option.some.inj h
  subst e
  show (if (r.length:Int)=I∧n < nx then (match goE O r nx with | none=>none | some q=>goT I O [] (n+1) q) else none)=_
  rw [if_pos ⟨h1,by simpa using h2⟩,h3]
  rfl
 | a :: l,n,nx,k,k',h,h1,h2,h3=>by
  have h' : (if (a.length:Int)=I∧n < nx then (match goE O a nx with | none=>none | some q=>goT I O l (n+1) q) else none)=some k:=h
  show (if (a.length:Int)=I∧n < nx then (match goE O a nx with | none=>none | some q=>goT I O (l++[r]) (n+1) q) else none)=_
  split at h'
  ·rename_i hc
   rw [if_pos hc]
   cases hq:goE O a nx with
   | none=>rw [hq] at h'; cases h'
   | some q =>
    rw [hq] at h'
    exact goT_snoc l (n+1) q k k' h' h1 (by rw [List.length_cons] at h2; omega) h3
  ·cases h'
structure Bfs (V:List Int→Option Int) (ws:List (List Int)) (I:Nat) (O:Int) (n:Nat) (os:List (List Int)) : Prop where
 srt:Srt2 os
 sub:∀ x∈os,x∈ws
 le:n≤os.length
 hd:os[0]?=some []
 ch:∀ (m:Nat) (h:m < os.length),m < n→∀ x∈chL V os[m] (List.range I),x∈os
 par:∀ x∈os,x=[]∨∃ (m:Nat) (h:m < os.length),m < n∧∃ i:Int,x=os[m]++[i]
 go:goT I O ((os.take n).map (rowW V os I)) 0 1=some os.length
theorem Bfs.zero {V:List Int→Option Int} {ws:List (List Int)} {I:Nat} {O:Int} (h:[]∈ws) : Bfs V ws I O 0 [[]] :=
 ⟨fun a b ha hb hab=>by simp at ha hb; omega,fun x hx=>by rw [List.mem_singleton] at hx; rw [hx]; exact h,by simp,rfl,fun m h hm=>by omega,fun x hx=>.inl (List.mem_singleton.1 hx),rfl⟩
theorem chL_asc {V:List Int→Option Int} {w:List Int} : ∀ (l:List Nat) (os:List (List Int)),Srt2 os→l.Pairwise (· < ·)→(∀ x∈os,∀ i∈l,SL x (w++[(i:Int)]))→Srt2 (os++chL V w l)
 | [],os,h,_,_=>by unfold chL; rw [List.append_nil]; exact h
 | i :: l,os,h,hp,hx=>by
  have hp':=List.pairwise_cons.1 hp
  unfold chL
  cases hv:V (w++[(i:Int)]) with
  | none=>exact chL_asc l os h hp'.2 fun x hx' j hj=>hx x hx' j (by simp [hj])
  | some o =>
   dsimp only
   split
   ·exact chL_asc l os h hp'.2 fun x hx' j hj=>hx x hx' j (by simp [hj])
   ·have h1:=chL_asc (V:=V) (w:=w) l (os++[w++[(i:Int)]]) (h.snoc fun x hx'=>hx x hx' i (by simp)) hp'.2 fun x hx' j hj=>by
     rcases List.mem_append.1 hx' with h2 | h2
     ·exact hx x h2 j (by simp [hj])
     ·rw [List.mem_singleton.1 h2]
      exact SL.last w (by have:=hp'.1 j hj; omega)
    rwa [List.append_assoc] at h1
theorem row_sub {V:List Int→Option Int} {os us:List (List Int)} {I:Nat} {w:List Int} (h:∀ x∈chL V w (List.range I),x∈os) : rowW V (os++us) I w=rowW V os I w:=by
 unfold rowW
 apply List.map_congr_left
 intro i hi
 unfold entT
 cases hv:V (w++[(i:Int)]) with
 | none=>rfl
 | some o =>
  dsimp only
  split
  ·rfl
  ·rename_i ho
   rw [idx_app (h _ (chL_mem.2 ⟨i,hi,rfl,o,hv,ho⟩))]
theorem Bfs.step {V:List Int→Option Int} {ws:List (List Int)} {I:Nat} {O:Int} {n:Nat} {os:List (List Int)} (h:Bfs V ws I O n os) (hN:Nod V ws) (hV:∀ x o,V x=some o→o ≠ -1→0≤o∧o < O) (hn:n < os.length) :
  Bfs V ws I O (n+1) (os++chL V os[n] (List.range I))∧numE os.length (rowW V ws I os[n])=rowW V (os++chL V os[n] (List.range I)) I os[n]:=by
 have hgt:∀ x∈os,∀ i∈List.range I,SL x (os[n]++[(i:Int)]):=fun x hx i _=>by
  rcases h.par x hx with rfl | ⟨m,hm,hmn,j,rfl⟩
  ·exact SL.nil _ _
  ·exact (h.srt m n hm hn hmn).app j i
 have hnot:∀ i∈List.range I,os[n]++[(i:Int)] ∉ os:=fun i hi hm=>SL.irrefl (hgt _ hm i hi)
 have hnum:=numE_row (V:=V) (ws:=ws) (w:=os[n]) (List.range I) os List.nodup_range hnot
 have hnum' : numE os.length (rowW V ws I os[n])=rowW V (os++chL V os[n] (List.range I)) I os[n]:=hnum
 refine ⟨⟨chL_asc _ _ h.srt List.pairwise_lt_range hgt,fun x hx=>?_,?_,?_,fun m hm hmn x hx=>?_,fun x hx=>?_,?_⟩,hnum⟩
 ·rcases List.mem_append.1 hx with h1 | h1
  ·exact h.sub x h1
  ·obtain ⟨i,_,_,o,h2,h3⟩:=chL_mem.1 h1
   exact (hN.mem x).2 (.inr ⟨o,h2,h3⟩)
 ·rw [List.length_append]; omega
 ·rw [List.getElem?_append_left (by omega)]; exact h.hd
 ·rw [List.mem_append]
  by_cases hmn2:m < n
  ·rw [List.getElem_append_left (by omega)] at hx
   exact .inl (h.ch m (by omega) hmn2 x hx)
  ·have e:m=n:=by omega
   subst e
   rw [List.getElem_append_left hn] at hx
   exact .inr hx
 ·rcases List.mem_append.1 hx with h1 | h1
  ·rcases h.par x h1 with h2 | ⟨m,hm,hmn,j,h2⟩
   ·exact .inl h2
   ·exact .inr ⟨m,by rw [List.length_append]; omega,by omega,j,by rw [List.getElem_append_left hm]; exact h2⟩
  ·obtain ⟨i,_,h2,_⟩:=chL_mem.1 h1
   exact .inr ⟨n,by rw [List.length_append]; omega,by omega,i,by rw [List.getElem_append_left hn]; exact h2⟩
 ·have e1:(os++chL V os[n] (List.range I)).take (n+1)=os.take n++[os[n]]:=by
   rw [List.take_append_of_le_length (by omega)]; exact take_snoc hn
  have e2:(os.take n).map (rowW V (os++chL V os[n] (List.range I)) I)=(os.take n).map (rowW V os I):=by
   apply List.map_congr_left
   intro w hw
   obtain ⟨m,hm,rfl⟩:=List.mem_iff_getElem.1 hw
   rw [List.length_take] at hm
   rw [List.getElem_take]
   exact row_sub fun x hx=>h.ch m (by omega) (by omega) x hx
  rw [e1,List.map_append,e2,List.map_singleton,← hnum']
  refine goT_snoc _ 0 1 os.length _ h.go ?_ ?_ ?_
  ·rw [hnum',rowW_len]
  ·rw [List.length_map,List.length_take]; omega
  ·rw [List.length_append]; exact goE_num hV _ _
theorem Bfs.rows {V:List Int→Option Int} {ws:List (List Int)} {I:Nat} {O:Int} {n:Nat} {os:List (List Int)} (h:Bfs V ws I O n os) (us:List (List Int)) : (os.take n).map (rowW V (os++us) I)=(os.take n).map (rowW V os I):=by
 apply List.map_congr_left
 intro w hw
 obtain ⟨m,hm,rfl⟩:=List.mem_iff_getElem.1 hw
 rw [List.length_take] at hm
 rw [List.getElem_take]
 exact row_sub fun x hx=>h.ch m (by omega) (by omega) x hx
theorem nodup_len:∀ {a b:List (List Int)},a.Nodup→(∀ x∈a,x∈b)→a.length≤b.length
 | [],b,_,_=>Nat.zero_le _
 | x :: a,b,hn,hs=>by
  have hn':=List.nodup_cons.1 hn
  have hx:=hs x (by simp)
  have h1:=@nodup_len a (b.erase x) hn'.2 fun y hy=>(List.mem_erase_of_ne (fun e=>hn'.1 (by rw [← e]; exact hy))).2 (hs y (by simp [hy]))
  rw [List.length_erase_of_mem hx] at h1
  have:0 < b.length:=List.length_pos_of_mem hx
  rw [List.length_cons]; omega
theorem Bfs.len {V:List Int→Option Int} {ws:List (List Int)} {I:Nat} {O:Int} {n:Nat} {os:List (List Int)} (h:Bfs V ws I O n os) : os.length≤ws.length:=nodup_len h.srt.nodup h.sub
theorem Bfs.done {V:List Int→Option Int} {ws:List (List Int)} {I:Nat} {O:Int} {os:List (List Int)} (h:Bfs V ws I O os.length os) (hN:Nod V ws) (hI:∀ (x:List Int) (i o:Int),V (x++[i])=some o→0≤i∧i < (I:Int)) : Nod V os:=by
 have hall:∀ (k:Nat) (x:List Int),x.length=k→x∈ws→x∈os:=by
  intro k
  induction k with
  | zero =>
   intro x hx _
   rw [List.length_eq_zero_iff.1 hx]
   exact List.mem_of_getElem? h.hd
  | succ k ih =>
   intro x hx hm
   have hne:x≠[]:=fun e=>by rw [e] at hx; cases hx
   have e:=List.dropLast_concat_getLast hne
   have hd:x.dropLast∈os:=ih x.dropLast (by rw [List.length_dropLast]; omega) (hN.up (by rw [e]; exact hm))
   obtain ⟨m,hm2,hm3⟩:=List.mem_iff_getElem.1 hd
   rcases (hN.mem x).1 hm with h1 | ⟨o,h1,h2⟩
   ·exact absurd h1 hne
   ·have h3:=hI x.dropLast (x.getLast hne) o (by rw [e]; exact h1)
    refine h.ch m hm2 hm2 x (chL_mem.2 ⟨(x.getLast hne).toNat,?_,?_,o,h1,h2⟩)
    ·rw [List.mem_range]; omega
    ·rw [hm3,Int.toNat_of_nonneg h3.1]; exact e.symm
 refine ⟨h.srt.nodup,fun w=>?_,hN.clo⟩
 rw [← hN.mem w]
 exact ⟨h.sub w,hall _ w rfl⟩
theorem srt_eq:∀ {a b:List (List Int)},Srt2 a→Srt2 b→(∀ x,x∈a↔x∈b)→a=b
 | [],[],_,_,_=>rfl
 | [],y :: b,_,_,h=>by have:=(h y).2 (by simp); cases this
 | x :: a,[],_,_,h=>by have:=(h x).1 (by simp); cases this
 | x :: a,y :: b,ha,hb,h=>by
  have hxa:∀ z∈a,SL x z:=fun z hz=>by
   obtain ⟨i,hi,rfl⟩:=List.mem_iff_getElem.1 hz
   exact ha 0 (i+1) (by simp) (by simpa using hi) (by omega)
  have hyb:∀ z∈b,SL y z:=fun z hz=>by
   obtain ⟨i,hi,rfl⟩:=List.mem_iff_getElem.1 hz
   exact hb 0 (i+1) (by simp) (by simpa using hi) (by omega)
  have e:x=y:=by
   rcases List.mem_cons.1 ((h x).1 (by simp)) with h1 | h1
   ·exact h1
   ·rcases List.mem_cons.1 ((h y).2 (by simp)) with h2 | h2
    ·exact h2.symm
    ·exact absurd ((hyb x h1).trans (hxa y h2)) SL.irrefl
  subst e
  have ta:Srt2 a:=fun i j hi hj hij=>ha (i+1) (j+1) (by simpa using hi) (by simpa using hj) (by omega)
  have tb:Srt2 b:=fun i j hi hj hij=>hb (i+1) (j+1) (by simpa using hi) (by simpa using hj) (by omega)
  rw [srt_eq ta tb fun z=>?_]
  constructor
  ·intro hz
   rcases List.mem_cons.1 ((h z).1 (by simp [hz])) with h1 | h1
   ·subst h1; exact absurd (hxa z hz) SL.irrefl
   ·exact h1
  ·intro hz
   rcases List.mem_cons.1 ((h z).2 (by simp [hz])) with h1 | h1
   ·subst h1; exact absurd (hyb z hz) SL.irrefl
   ·exact h1
theorem lexC_zero:∀ {a b:List Int},a.length=b.length→lexC a b=0→a=b
 | [],[],_,_=>rfl
 | [],_ :: _,h,_=>by simp at h
 | _ :: _,[],h,_=>by simp at h
 | x :: a,y :: b,hl,h=>by
  unfold lexC at h
  by_cases h1:x < y
  ·rw [if_pos h1] at h; omega
  ·rw [if_neg h1] at h
   by_cases h2:y < x
   ·rw [if_pos h2] at h; omega
   ·rw [if_neg h2] at h
    rw [lexC_zero (by simpa using hl) h,show x=y by omega]
theorem lexC_pos:∀ {a b:List Int},a.length=b.length→0 < lexC a b→LL b a
 | [],[],_,h=>by unfold lexC at h; omega
 | [],_ :: _,h,_=>by simp at h
 | _ :: _,[],h,_=>by simp at h
 | x :: a,y :: b,hl,h=>by
  unfold lexC at h
  by_cases h1:x < y
  ·rw [if_pos h1] at h; omega
  ·rw [if_neg h1] at h
   by_cases h2:y < x
   ·exact .inl h2
   ·rw [if_neg h2] at h
    exact .inr ⟨by omega,lexC_pos (by simpa using hl) h⟩
theorem cmpM_zero {a b:List Int} (h:cmpM a b=0) : a=b:=by
 unfold cmpM at h
 split at h
 ·omega
 ·split at h
  ·omega
  ·exact lexC_zero (by omega) h
theorem cmpM_pos {a b:List Int} (h:0 < cmpM a b) : SL b a:=by
 unfold cmpM at h
 split at h
 ·omega
 ·split at h
  ·rename_i h2; exact .inl h2
  ·exact .inr ⟨by omega,lexC_pos (by omega) h⟩
def insW (w:List Int) : List (List Int)→List (List Int)
 | []=>[w]
 | x :: l=>if cmpM w x < 0 then w :: x :: l else if cmpM w x=0 then x :: l else x :: insW w l
theorem insW_mem {w:List Int} : ∀ {l:List (List Int)} {x:List Int},x∈insW w l↔x=w∨x∈l
 | [],x=>by simp [insW]
 | y :: l,x=>by
  have ih:=@insW_mem w l x
  unfold insW
  split
  ·rw [List.mem_cons]
  ·split
   ·rename_i h
    rw [cmpM_zero h]
    constructor
    ·intro h; exact .inr h
    ·rintro (rfl | h)
     ·simp
     ·exact h
   ·rw [List.mem_cons,ih,List.mem_cons]
    constructor
    ·rintro (h | h | h)
     ·exact .inr (.inl h)
     ·exact .inl h
     ·exact .inr (.inr h)
    ·rintro (h | h | h)
     ·exact .inr (.inl h)
     ·exact .inl h
     ·exact .inr (.inr h)
theorem srt_cons {x:List Int} {l:List (List Int)} : Srt2 (x :: l)↔(∀ y∈l,SL x y)∧Srt2 l:=by
 constructor
 ·intro h
  refine ⟨fun y hy=>?_,fun a b ha hb hab=>h (a+1) (b+1) (by simpa using ha) (by simpa using hb) (by omega)⟩
  obtain ⟨i,hi,rfl⟩:=List.mem_iff_getElem.1 hy
  exact h 0 (i+1) (by simp) (by simpa using hi) (by omega)
 ·rintro ⟨h1,h2⟩ a b ha hb hab
  cases b with
  | zero=>omega
  | succ b =>
   cases a with
   | zero=>exact h1 _ (List.getElem_mem _)
   | succ a=>exact h2 a b (by simpa using ha) (by simpa using hb) (by omega)
theorem insW_srt {w:List Int} : ∀ {l:List (List Int)},Srt2 l→Srt2 (insW w l)
 | [],_=>fun a b ha hb hab=>by simp [insW] at ha hb; omega
 | y :: l,h=>by
  obtain ⟨h1,h2⟩:=srt_cons.1 h
  unfold insW
  split
  ·rename_i h3
   refine srt_cons.2 ⟨fun z hz=>?_,h⟩
   rcases List.mem_cons.1 hz with rfl | hz
   ·exact cmpM_SL.1 h3
   ·exact (cmpM_SL.1 h3).trans (h1 z hz)
  ·split
   ·exact h
   ·refine srt_cons.2 ⟨fun z hz=>?_,insW_srt h2⟩
    rcases insW_mem.1 hz with rfl | hz
    ·exact cmpM_pos (by omega)
    ·exact h1 z hz
def nodW:List (List Int)→List Int→List Int→List Int→List (List Int)
 | out,p,i :: w,o :: r=>if o = -1 then out else nodW (insW (p++[i]) out) (p++[i]) w r
 | out,_,_,_=>out
theorem nodW_srt:∀ (w r:List Int) (out:List (List Int)) (p:List Int),Srt2 out→Srt2 (nodW out p w r)
 | [],_,_,_,h=>h
 | _ :: _,[],_,_,h=>h
 | i :: w,o :: r,out,p,h=>by
  unfold nodW
  split
  ·exact h
  ·exact nodW_srt w r _ _ (insW_srt h)
theorem nodW_mem {O:Int} : ∀ (w r:List Int) (out:List (List Int)) (p x:List Int),r.length=w.length→okR O false r=true→(x∈nodW out p w r↔x∈out∨∃ k,k < w.length∧r.getD k 0 ≠ -1∧x=p++w.take (k+1))
 | [],_,_,_,_,_,_=>⟨fun h=>.inl h,fun h=>h.elim id fun ⟨k,h1,_⟩=>by cases h1⟩
 | _ :: _,[],_,_,_,h,_=>by cases h
 | i :: w,o :: r,out,p,x,hl,hr=>by
  obtain ⟨_,_,_,h4⟩:=okR_inv hr
  unfold nodW
  by_cases ho:o = -1
  ·rw [if_pos ho]
   rw [decide_eq_true ho] at h4
   constructor
   ·intro h; exact .inl h
   ·rintro (h | ⟨k,h1,h2,_⟩)
    ·exact h
    ·cases k with
     | zero=>exact absurd ho h2
     | succ k=>exact absurd (okR_all r k h4 (by rw [List.length_cons,List.length_cons] at hl; rw [List.length_cons] at h1; omega)) h2
  ·rw [if_neg ho,nodW_mem w r _ _ x (by simpa using hl) (by rw [decide_eq_false ho] at h4; exact h4),insW_mem]
   constructor
   ·rintro ((h | h) | ⟨k,h1,h2,h3⟩)
    ·exact .inr ⟨0,by simp,ho,by rw [take_cons_app,List.take_zero,List.append_nil]; exact h⟩
    ·exact .inl h
    ·exact .inr ⟨k+1,by simpa using h1,h2,by rw [take_cons_app]; exact h3⟩
   ·rintro (h | ⟨k,h1,h2,h3⟩)
    ·exact .inl (.inr h)
    ·cases k with
     | zero=>rw [take_cons_app,List.take_zero,List.append_nil] at h3; exact .inl (.inl h3)
     | succ k=>exact .inr ⟨k,by simpa using h1,h2,by rw [take_cons_app] at h3; exact h3⟩
def nodesM (ts:List (List Int×List Int)) : List (List Int):=ts.foldl (fun out t=>nodW out [] t.1 t.2) [[]]
theorem nodesM_ok {I O:Int} {ts:List (List Int×List Int)} (hv:∀ t∈ts,validB I O t=true) : Srt2 (nodesM ts)∧∀ x,x∈nodesM ts↔x=[]∨∃ t∈ts,∃ k,k < t.1.length∧t.2.getD k 0 ≠ -1∧x=t.1.take (k+1):=by
 have key:∀ (us:List (List Int×List Int)) (out:List (List Int)),(∀ t∈us,validB I O t=true)→Srt2 out→Srt2 (us.foldl (fun out t=>nodW out [] t.1 t.2) out)∧∀ x,x∈us.foldl (fun out t=>nodW out [] t.1 t.2) out↔x∈out∨∃ t∈us,∃ k,k < t.1.length∧t.2.getD k 0 ≠ -1∧x=t.1.take (k+1):=by
  intro us
  induction us with
  | nil=>intro out _ h; exact ⟨h,fun x=>⟨fun h=>.inl h,fun h=>h.elim id fun ⟨t,h1,_⟩=>by cases h1⟩⟩
  | cons t us ih =>
   intro out h1 h2
   rw [List.foldl_cons]
   have hvt:=h1 t (by simp)
   unfold validB at hvt
   rw [Bool.and_eq_true,Bool.and_eq_true] at hvt
   obtain ⟨h3,h4⟩:=ih (nodW out [] t.1 t.2) (fun u hu=>h1 u (by simp [hu])) (nodW_srt _ _ _ _ h2)
   refine ⟨h3,fun x=>?_⟩
   rw [h4 x,nodW_mem t.1 t.2 out [] x (of_decide_eq_true hvt.1.1) hvt.2]
   constructor
   ·rintro ((h | ⟨k,h5,h6,h7⟩) | ⟨u,hu,h5⟩)
    ·exact .inl h
    ·exact .inr ⟨t,by simp,k,h5,h6,h7⟩
    ·exact .inr ⟨u,by simp [hu],h5⟩
   ·rintro (h | ⟨u,hu,k,h5⟩)
    ·exact .inl (.inl h)
    ·rcases List.mem_cons.1 hu with rfl | hu
     ·exact .inl (.inr ⟨k,h5⟩)
     ·exact .inr ⟨u,hu,k,h5⟩
 obtain ⟨h1,h2⟩:=key ts [[]] hv fun a b ha hb hab=>by simp at ha hb; omega
 refine ⟨h1,fun x=>?_⟩
 rw [show nodesM ts=ts.foldl (fun out t=>nodW out [] t.1 t.2) [[]] from rfl,h2 x,List.mem_singleton]
theorem nodesM_val {I O:Int} {ts:List (List Int×List Int)} (hv:∀ t∈ts,validB I O t=true) (hc:Cons ts) (x:List Int) : x∈nodesM ts↔x=[]∨∃ o,valT ts x=some o∧o ≠ -1:=by
 rw [(nodesM_ok hv).2 x]
 constructor
 ·rintro (h | ⟨t,ht,k,h1,h2,rfl⟩)
  ·exact .inl h
  ·exact .inr ⟨_,valT_mem hc ht h1,h2⟩
 ·rintro (h | ⟨o,h1,h2⟩)
  ·exact .inl h
  ·obtain ⟨u,g1,g2,g3,g4,g5⟩:=valT_of h1
   have hpos:0 < x.length:=List.length_pos_iff.2 g2
   exact .inr ⟨u,g1,x.length - 1,by omega,by rw [← g5]; exact h2,by rw [show x.length - 1+1=x.length by omega]; exact g4.symm⟩
def rowsL (I:Nat) (ts:List (List Int×List Int)) : List (List (Int×Int)):=rowsT (valT ts) (nodesM ts) I
theorem valT_in {I O:Int} {ts:List (List Int×List Int)} (hv:∀ t∈ts,validB I O t=true) {x:List Int} {i o:Int} (h:valT ts (x++[i])=some o) : (0≤i∧i < I)∧(o ≠ -1→0≤o∧o < O):=by
 obtain ⟨u,g1,g2,g3,g4,g5⟩:=valT_of h
 have hvt:=hv u g1
 unfold validB at hvt
 rw [Bool.and_eq_true,Bool.and_eq_true] at hvt
 have hl:=of_decide_eq_true hvt.1.1
 rw [List.length_append,List.length_singleton] at g3 g4 g5
 constructor
 ·have hm:i∈u.1:=by
   have:i∈u.1.take (x.length+1):=by rw [g4]; simp
   exact List.mem_of_mem_take this
  exact of_decide_eq_true (List.all_eq_true.1 hvt.1.2 i hm)
 ·intro ho
  have h1:=okR_at u.2 (x.length+1 - 1) false hvt.2 (by omega)
  rw [← g5] at h1
  omega
theorem valT_V {I O:Int} {ts:List (List Int×List Int)} (hv:∀ t∈ts,validB I O t=true) {x:List Int} {o:Int} (h:valT ts x=some o) : o ≠ -1→0≤o∧o < O:=by
 obtain ⟨u,g1,g2,g3,g4,g5⟩:=valT_of h
 have e:=List.dropLast_concat_getLast g2
 rw [← e] at h
 exact (valT_in hv h).2
theorem bfs_end {I:Nat} {O:Int} {ts:List (List Int×List Int)} {ws os:List (List Int)} (hv:∀ t∈ts,validB I O t=true) (hc:Cons ts) (hN:Nod (valT ts) ws) (h:Bfs (valT ts) ws I O os.length os) : os=nodesM ts∧Nod (valT ts) os∧goT I O (rowsL I ts) 0 1=some (rowsL I ts).length:=by
 have hN2:=h.done hN fun x i o hx=>(valT_in hv hx).1
 have e:os=nodesM ts:=srt_eq h.srt (nodesM_ok hv).1 fun x=>(hN2.mem x).trans (nodesM_val hv hc x).symm
 refine ⟨e,hN2,?_⟩
 have h1:=h.go
 rw [List.take_length] at h1
 unfold rowsL
 rw [rowsT_len,← e]
 exact h1
end Go.Ai
end
section
namespace Go.Ai
open Go.Proofs
set_option maxRecDepth 10000
set_option maxHeartbeats 40000000
theorem mkI81:mkI Tryz.prog 98=none:=by kernel_rfl
theorem mk81 {H:Mem} {a b:Int} (h0:0≤a) (h1:a≤b) (h2:b≤1048576) : mksS Tryz.prog H 98 none (some (.lit (.int .i64 a))) (some (.lit (.int .i64 b)))=.val (.sl H.next 0 a.toNat b.toNat) (H.add (.cells (rep [.lit (.int .i64 0),.lit (.int .i64 0)] b.toNat) true 0)) :=
 oMakeSlice_ok (e:=97) (size:=2) (bytes:=16) (z:=[.lit (.int .i64 0),.lit (.int .i64 0)]) (by kernel_rfl) (by decide) (by decide) (by kernel_rfl) h0 h1 h2
attribute [simp] mkI81 mk81
theorem putR_row {row:List (Int×Int)} {i:Nat} (hi:i < row.length) (e:Int×Int) : putR (rowC row) (i * 2) [.lit (.int .i64 e.1),.lit (.int .i64 e.2)]=rowC (row.set i e):=by
 have hl:=rowC_len row
 apply List.ext_getElem?
 intro j
 by_cases hj:j < row.length * 2
 ·have hk:j / 2 < row.length:=by omega
  have h2:i * 2+([.lit (.int .i64 e.1),.lit (.int .i64 e.2)] : List AV).length≤(rowC row).length:=by rw [hl]; simp; omega
  have h3:=rowC_one (row.set i e) (j / 2) (by rw [List.length_set]; exact hk)
  have h4:=rowC_one row (j / 2) hk
  by_cases hij:i=j / 2
  ·subst hij
   simp only [List.getElem_set_self] at h3
   rcases Nat.mod_two_eq_zero_or_one j with hm | hm
   ·have ej:j=j / 2 * 2:=by omega
    rw [show (putR (rowC row) (j / 2 * 2) [.lit (.int .i64 e.1),.lit (.int .i64 e.2)])[j]?=(putR (rowC row) (j / 2 * 2) [.lit (.int .i64 e.1),.lit (.int .i64 e.2)])[j / 2 * 2]? from congrArg _ ej,putR_at0 (by simpa using h2),show (rowC (row.set (j / 2) e))[j]?=(rowC (row.set (j / 2) e))[j / 2 * 2]? from congrArg _ ej,h3.1]
   ·have ej:j=j / 2 * 2+1:=by omega
    rw [show (putR (rowC row) (j / 2 * 2) [.lit (.int .i64 e.1),.lit (.int .i64 e.2)])[j]?=(putR (rowC row) (j / 2 * 2) [.lit (.int .i64 e.1),.lit (.int .i64 e.2)])[j / 2 * 2+1]? from congrArg _ ej,putR_at1 (by simpa using h2),show (rowC (row.set (j / 2) e))[j]?=(rowC (row.set (j / 2) e))[j / 2 * 2+1]? from congrArg _ ej,h3.2]
  ·rw [putR_ne h2 (by simp; omega)]
   simp only [List.getElem_set_ne hij] at h3
   rcases Nat.mod_two_eq_zero_or_one j with hm | hm
   ·have ej:j=j / 2 * 2:=by omega
    rw [show (rowC row)[j]?=(rowC row)[j / 2 * 2]? from congrArg _ ej,show (rowC (row.set i e))[j]?=(rowC (row.set i e))[j / 2 * 2]? from congrArg _ ej,h4.1,h3.1]
   ·have ej:j=j / 2 * 2+1:=by omega
    rw [show (rowC row)[j]?=(rowC row)[j / 2 * 2+1]? from congrArg _ ej,show (rowC (row.set i e))[j]?=(rowC (row.set i e))[j / 2 * 2+1]? from congrArg _ ej,h4.2,h3.2]
 ·rw [List.getElem?_eq_none (by rw [putR_len (by rw [hl]; simp; omega),hl]; omega),List.getElem?_eq_none (by rw [rowC_len,List.length_set]; omega)]
theorem row_w (I:Nat) (hI:I≤16) (g:Nat→Option Blk) (n:Nat) :
  WC 0 Tryz.prog 105 [.lit (.int .i64 I)] ⟨.fn g,n⟩ fun r=>r=.ret (.sl n 0 I I) ⟨.fn (gput g n (some (.cells (rowC (List.replicate I (-1,-1))) true 0))),n+1⟩:=by
 have hI2:(I:Int)≤1048576:=by omega
 refine WC.enterP (noO_ok _ _) hG [] Tryz.func105 rfl (by decide +kernel) (Nat.le_of_ble_eq_true (by kernel_rfl)) ?_
 iterate 8 all_goals try first|with_reducible refine splitI (fun h=>?_) fun h=>?_|with_reducible refine splitBI (fun h=>?_) fun h=>?_|simp (maxSteps:=999999) (disch:=first|assumption|omega|(simp;done)|fail) [Tryz.results105, *]
 refine LX.ind (fun m gf H'=>∃ (k:Nat) (L:List AV),k≤I∧m=I - k∧H'=⟨.fn (gput g n (some (.cells L true 0))),n+1⟩∧L.length=I * 2∧Hide (L.take (k * 2)=rowC (List.replicate k (-1,-1)))∧gf 3=some (.sl n 0 I I)∧gf 8=some (.lit (.int .i64 I))∧gf 9=some (.lit (.int .i64 k))) (m0:=I) ?_ ?_
 ·exact ⟨0,rep [.lit (.int .i64 0),.lit (.int .i64 0)] I,Nat.zero_le _,rfl,by simp,by rw [rep_len]; rfl,⟨rfl⟩,by simp,by simp,by simp⟩
 rintro m gf H' ⟨k,L,hk,rfl,rfl,hLl,HT,w3,w8,w9⟩ ih
 refine LX.roundP (noO_ok _ _) hG [] (by decide +kernel) ?_
 by_cases hlt:k < I
 ·have hltI:(k:Int) < (I:Int):=by omega
  have hk2:k * 2+2≤L.length:=by omega
  have HP:Hide ((putR L (k * 2) [.lit (.int .i64 (-1)),.lit (.int .i64 (-1))]).length=I * 2∧(putR L (k * 2) [.lit (.int .i64 (-1)),.lit (.int .i64 (-1))]).take ((k+1) * 2)=rowC (List.replicate (k+1) (-1,-1))):=⟨by
   have h2:k * 2+([.lit (.int .i64 (-1)),.lit (.int .i64 (-1))] : List AV).length≤L.length:=hk2
   refine ⟨by rw [putR_len h2]; exact hLl,?_⟩
   rw [List.replicate_succ',rowC_snoc,← HT.out,← putR_take h2,show (k+1) * 2=k * 2+2 by omega]
   rfl⟩
  iterate 8 all_goals try first|with_reducible refine splitI (fun h=>?_) fun h=>?_|with_reducible refine splitBI (fun h=>?_) fun h=>?_|simp (maxSteps:=999999) (disch:=first|assumption|omega|(simp;done)|fail) [Tryz.results105, *]
  exact ih.out (I - (k+1)) _ _ (by omega) ⟨k+1,putR L (k * 2) [.lit (.int .i64 (-1)),.lit (.int .i64 (-1))],by omega,rfl,by simp [putR],HP.out.1,⟨HP.out.2⟩,by simp [*],by simp [*],by simp⟩
 ·have hltI:¬(k:Int) < (I:Int):=by omega
  have hkI:k=I:=by omega
  have HE:Hide (L=rowC (List.replicate I (-1,-1))):=⟨by
   have h:=HT.out
   rw [hkI,← hLl,List.take_length] at h
   exact h⟩
  clear hkI
  iterate 8 all_goals try first|with_reducible refine splitI (fun h=>?_) fun h=>?_|with_reducible refine splitBI (fun h=>?_) fun h=>?_|simp (maxSteps:=999999) (disch:=first|assumption|omega|(simp;done)|fail) [Tryz.results105, *]
  rw [HE.out]
def rowS (I:Nat) (bs:List Nat) : List AV:=bs.map fun b=>.sl b 0 I I
theorem rowS_len {I:Nat} {bs:List Nat} : (rowS I bs).length=bs.length:=by simp [rowS]
theorem rowS_at {I:Nat} {bs:List Nat} {k:Nat} (h:k < bs.length) : (rowS I bs)[k]'(by rw [rowS_len]; exact h)=.sl bs[k] 0 I I:=by simp [rowS]
structure RowsB (g:Nat→Option Blk) (lo n I:Nat) (rows:List (List (Int×Int))) (bs:List Nat) : Prop where
 len:bs.length=rows.length
 nd:bs.Nodup
 at' : ∀ (k:Nat) (h:k < bs.length) (h' : k < rows.length),lo≤bs[k]∧bs[k] < n∧g bs[k]=some (.cells (rowC rows[k]) true 0)∧rows[k].length=I
structure TreeMem (g:Nat→Option Blk) (lo n T I:Nat) (rows:List (List (Int×Int))) (bs:List Nat) (B:Nat) (sv:AV) : Prop where
 rb:RowsB g lo n I rows bs
 pos:0 < rows.length
 bl:lo≤B∧B < n
 tl:lo≤T∧T < n
 tb:T≠B
 tn:T ∉ bs
 bn:B ∉ bs
 gt:g T=some (.cells [sv] true 0)
 gb:(rows.length=1∧sv=.sl B 0 1 1∧g B=some (.cells (rowS I bs) true 0))∨(sv=.slq B 0 rows.length 0∧g B=some (.cells (rowS I bs) true 1))
def okRows (I:Nat) (rows:List (List (Int×Int))) : Prop:=∀ row∈rows,row.length=I∧∀ e∈row,e.1 = -1∨(0≤e.1∧e.1 < rows.length)
theorem okRows.set {I:Nat} {rows:List (List (Int×Int))} (h:okRows I rows) {a i:Nat} (ha:a < rows.length) {e:Int×Int} (he:e.1 = -1∨(0≤e.1∧e.1 < rows.length)) : okRows I (rows.set a ((rows.getD a []).set i e)):=by
 intro row hr
 rcases List.mem_or_eq_of_mem_set hr with h1 | rfl
 ·obtain ⟨h2,h3⟩:=h row h1
  exact ⟨h2,fun e he=>by rw [List.length_set]; exact h3 e he⟩
 ·have hm:=(getD_mem (d:=[]) ha).1
  obtain ⟨h2,h3⟩:=h _ hm
  refine ⟨by rw [List.length_set]; exact h2,fun e' he'=>?_⟩
  rw [List.length_set]
  rcases List.mem_or_eq_of_mem_set he' with h4 | rfl
  ·exact h3 e' h4
  ·exact he
theorem okRows.new {I:Nat} {rows:List (List (Int×Int))} (h:okRows I rows) {a i:Nat} (ha:a < rows.length) {o:Int} : okRows I (rows.set a ((rows.getD a []).set i ((rows.length:Int),o))++[List.replicate I (-1,-1)]):=by
 intro row hr
 rw [List.length_append,List.length_set,List.length_singleton]
 rcases List.mem_append.1 hr with hr | hr
 ·rcases List.mem_or_eq_of_mem_set hr with h1 | rfl
  ·obtain ⟨h2,h3⟩:=h row h1
   exact ⟨h2,fun e he=>by rcases h3 e he with h4 | h4; exact .inl h4; exact .inr ⟨h4.1,by omega⟩⟩
  ·have hm:=(getD_mem (d:=[]) ha).1
   obtain ⟨h2,h3⟩:=h _ hm
   refine ⟨by rw [List.length_set]; exact h2,fun e' he'=>?_⟩
   rcases List.mem_or_eq_of_mem_set he' with h4 | rfl
   ·rcases h3 e' h4 with h5 | h5
    ·exact .inl h5
    ·exact .inr ⟨h5.1,by omega⟩
   ·exact .inr ⟨by show (0:Int)≤rows.length; omega,by show (rows.length:Int) < _; omega⟩
 ·rw [List.mem_singleton.1 hr]
  exact ⟨by simp,fun e he=>.inl (by rw [(List.mem_replicate.1 he).2])⟩
theorem TreeMem.keep {g g' : Nat→Option Blk} {lo n n' T I:Nat} {rows:List (List (Int×Int))} {bs:List Nat} {B:Nat} {sv:AV} (h:TreeMem g lo n T I rows bs B sv) (hn:n≤n') (hg:∀ a,lo≤a→a < n→g' a=g a) : TreeMem g' lo n' T I rows bs B sv :=
 ⟨⟨h.rb.len,h.rb.nd,fun k h1 h2=>let ⟨e1,e2,e3,e4⟩:=h.rb.at' k h1 h2; ⟨e1,by omega,(hg _ e1 e2).trans e3,e4⟩⟩,h.pos,⟨h.bl.1,by have:=h.bl.2; omega⟩,⟨h.tl.1,by have:=h.tl.2; omega⟩,h.tb,h.tn,h.bn,(hg _ h.tl.1 h.tl.2).trans h.gt,h.gb.imp (fun ⟨e1,e2,e3⟩=>⟨e1,e2,(hg _ h.bl.1 h.bl.2).trans e3⟩) fun ⟨e1,e2⟩=>⟨e1,(hg _ h.bl.1 h.bl.2).trans e2⟩⟩
theorem TreeMem.store {g g' : Nat→Option Blk} {lo n T I:Nat} {rows:List (List (Int×Int))} {bs:List Nat} {B:Nat} {sv:AV} (h:TreeMem g lo n T I rows bs B sv) {a:Nat} (ha:a < rows.length) (ha' : a < bs.length) {row:List (Int×Int)} (hl:row.length=I) (hb:g' bs[a]=some (.cells (rowC row) true 0)) (hg:∀ b,b≠bs[a]→g' b=g b) : TreeMem g' lo n T I (rows.set a row) bs B sv:=by
 have hne:∀ x,x ∉ bs→x≠bs[a]:=fun x hx e=>hx (e ▸ List.getElem_mem ha')
 refine ⟨⟨by rw [List.length_set]; exact h.rb.len,h.rb.nd,fun k h1 h2=>?_⟩,by rw [List.length_set]; exact h.pos,h.bl,h.tl,h.tb,h.tn,h.bn,(hg _ (hne _ h.tn)).trans h.gt,?_⟩
 ·rw [List.length_set] at h2
  obtain ⟨e1,e2,e3,e4⟩:=h.rb.at' k h1 h2
  by_cases hk:a=k
  ·subst hk
   exact ⟨e1,e2,by simpa using hb,by simpa using hl⟩
  ·have hbk:bs[k]≠bs[a]:=fun e=>hk ((List.getElem_inj h.rb.nd).1 e).symm
   exact ⟨e1,e2,by rw [List.getElem_set_ne hk]; exact (hg _ hbk).trans e3,by rw [List.getElem_set_ne hk]; exact e4⟩
 ·rw [List.length_set]
  exact h.gb.imp (fun ⟨e1,e2,e3⟩=>⟨e1,e2,(hg _ (hne _ h.bn)).trans e3⟩) fun ⟨e1,e2⟩=>⟨e1,(hg _ (hne _ h.bn)).trans e2⟩
theorem TreeMem.push {g g' : Nat→Option Blk} {lo n n' T I:Nat} {rows:List (List (Int×Int))} {bs:List Nat} {B B' b:Nat} {sv:AV} (h:TreeMem g lo n T I rows bs B sv) {row:List (Int×Int)} (hl:row.length=I) (hb:n≤b) (hb' : b < n') (hB:n≤B') (hB' : B' < n') (hne:b≠B') (h1:g' b=some (.cells (rowC row) true 0)) (h2:g' B'=some (.cells (rowS I (bs++[b])) true 1)) (h3:g' T=some (.cells [.slq B' 0 (rows.length+1) 0] true 0)) (hg:∀ x∈bs,g' x=g x) : TreeMem g' lo n' T I (rows++[row]) (bs++[b]) B' (.slq B' 0 (rows.length+1) 0):=by
 have hlt:∀ x∈bs,lo≤x∧x < n:=fun x hx=>by
  obtain ⟨k,hk,rfl⟩:=List.mem_iff_getElem.1 hx
  obtain ⟨e1,e2,_⟩:=h.rb.at' k hk (by have:=h.rb.len; omega)
  exact ⟨e1,e2⟩
 have htl:=h.tl
 have hbl:=h.bl
 refine ⟨⟨by rw [List.length_append,List.length_append,h.rb.len]; rfl,?_,fun k k1 k2=>?_⟩,by simp,⟨by omega,hB'⟩,⟨htl.1,by omega⟩,by omega,?_,?_,h3,.inr ⟨by rw [List.length_append]; rfl,h2⟩⟩
 ·rw [List.nodup_append]
  refine ⟨h.rb.nd,by simp,fun x hx y hy e=>?_⟩
  rw [List.mem_singleton] at hy
  have:=hlt x hx
  omega
 ·rw [List.length_append,List.length_singleton] at k1
  by_cases hk:k < bs.length
  ·have hk2:k < rows.length:=by have:=h.rb.len; omega
   obtain ⟨e1,e2,e3,e4⟩:=h.rb.at' k hk hk2
   rw [List.getElem_append_left hk,List.getElem_append_left hk2]
   exact ⟨e1,by omega,(hg _ (List.getElem_mem hk)).trans e3,e4⟩
  ·have e:k=bs.length:=by omega
   have e2:k=rows.length:=by have:=h.rb.len; omega
   rw [List.getElem_append_right (by omega),List.getElem_append_right (by omega)]
   simp
   exact ⟨by omega,hb',h1,hl⟩
 ·rw [List.mem_append,List.mem_singleton]
  rintro (hx | hx)
  ·exact h.tn hx
  ·omega
 ·rw [List.mem_append,List.mem_singleton]
  rintro (hx | hx)
  ·have:=hlt _ hx; omega
  ·exact hne hx.symm
theorem enterM_cons {I:Nat} {rows:List (List (Int×Int))} {at' k:Nat} {w r:List Int} (hk:k < w.length) (hk2:k < r.length) : enterM I rows at' (w.drop k) (r.drop k)=if r[k] = -1 then rows.set at' ((rows.getD at' []).set (w[k]).toNat (-1,-2))
  else if ((rows.getD at' []).getD (w[k]).toNat (-1,-1)).1 = -1 then enterM I (rows.set at' ((rows.getD at' []).set (w[k]).toNat ((rows.length:Int),r[k]))++[List.replicate I (-1,-1)]) rows.length (w.drop (k+1)) (r.drop (k+1))
  else enterM I rows ((rows.getD at' []).getD (w[k]).toNat (-1,-1)).1.toNat (w.drop (k+1)) (r.drop (k+1)):=by
 rw [List.drop_eq_getElem_cons hk,List.drop_eq_getElem_cons hk2]; rfl
theorem enter_w {I:Nat} (hI:I≤16) {Oo:Int} {w r:List Int} (hl:r.length=w.length) (hw:inW w I=true) (hwl:w.length≤256) (lo n T Lg:Nat) (g:Nat→Option Blk) {rows:List (List (Int×Int))} {bs:List Nat} {B:Nat} {sv lv s1 s2:AV}
  (hT:TreeMem g lo n T I rows bs B sv) (hok:okRows I rows) (hrl:rows.length+w.length≤100000) (hLg:Lg < lo) (hgL:g Lg=some (.cells [.lit (.int .i64 I),.lit (.int .i64 Oo),lv] true 0)) (hlo:lo≤n) (h1:RepW g lo w s1) (h2:RepW g lo r s2) :
  WC 0 Tryz.prog 106 [.agg [s1,s2],.ptr T 0,.ptr Lg 0] ⟨.fn g,n⟩ fun q=>∃ g' n' bs' B' sv',q=.ret (.tup []) ⟨.fn g',n'⟩∧n≤n'∧(∀ b,b < lo→g' b=g b)∧TreeMem g' lo n' T I (enterM I rows 0 w r) bs' B' sv'∧okRows I (enterM I rows 0 w r)∧(enterM I rows 0 w r).length≤rows.length+w.length:=by
 have hlen1:=@lenV Tryz.prog _ _ _ _ _ h1
 have e1:oneC s1=true:=h1.one
 have e2:oneC s2=true:=h2.one
 have hone:allOne [s1,s2]=true:=by simp [e1,e2]
 have H1:=Hide.mk h1
 have H2:=Hide.mk h2
 have HT:=Hide.mk hT
 have HOK:=Hide.mk hok
 have HW:=Hide.mk hw
 have htl:=hT.tl
 clear h1 h2 hT hok hw
 obtain ⟨RES,hRES⟩ : ∃ x,x=enterM I rows 0 w r:=⟨_,rfl⟩
 rw [← hRES]
 have HRES:=Hide.mk hRES
 clear hRES
 refine WC.enterP (noO_ok _ _) hG pl106 Tryz.func106 rfl (by decide +kernel) (Nat.le_of_ble_eq_true (by kernel_rfl)) ?_
 iterate 8 all_goals try first|with_reducible refine splitI (fun h=>?_) fun h=>?_|with_reducible refine splitBI (fun h=>?_) fun h=>?_|simp (maxSteps:=999999) (disch:=first|assumption|omega|(simp;done)|fail) [Tryz.results106, *]
 refine LX.ind (fun m gf H'=>∃ (k n' : Nat) (gL:Nat→Option Blk) (rk:List (List (Int×Int))) (at' : Nat) (bk:List Nat) (B:Nat) (sv:AV),k≤w.length∧m=w.length - k∧H'=⟨.fn gL,n'⟩∧n+1≤n'∧Hide (∀ b,b < lo→gL b=g b)∧gL n=some (.cells [s1,s2] true 0)∧Hide (TreeMem gL lo n' T I rk bk B sv)∧Hide (n ∉ bk∧n≠B) ∧
  Hide (okRows I rk)∧at' < rk.length∧rk.length≤rows.length+k∧Hide (RES=enterM I rk at' (w.drop k) (r.drop k))∧gf 1=some (.ptr T 0)∧gf 2=some (.ptr Lg 0)∧gf 3=some (.ptr n 0)∧gf 4=some (.lit (.int .i64 at'))∧gf 9=some s1∧gf 10=some (.lit (.int .i64 w.length))∧gf 11=some (.lit (.int .i64 k))) (m0:=w.length) ?_ ?_
 ·refine ⟨0,n+1,_,rows,0,bs,B,sv,Nat.zero_le _,rfl,rfl,Nat.le_refl _,⟨fun b hb=>gput_lt (by omega)⟩,gput_eq,⟨HT.out.keep (by omega) fun a h1 h2=>gput_lt h2⟩,⟨fun hm=>?_,by have:=HT.out.bl.2; omega⟩,HOK,HT.out.pos,by omega,HRES,by simp,by simp,by simp,by simp,by simp,by simp,by simp⟩
  obtain ⟨j,hj,e⟩:=List.mem_iff_getElem.1 hm
  have:=(HT.out.rb.at' j hj (by have:=HT.out.rb.len; omega)).2.1
  omega
 clear HT HOK HRES B sv bs
 rintro m gf H' ⟨k,n',gL,rk,at',bk,B,sv,hk,rfl,rfl,hn',HG,hgn,HT,HNB,HOK,hat,hrk,HRES,q1,q2,q3,q4,q9,q10,q11⟩ ih
 refine LX.roundP (noO_ok _ _) hG pl106 (by decide +kernel) ?_
 by_cases hlt:k < w.length
 ·have hltI:(k:Int) < (w.length:Int):=by omega
  obtain ⟨a1,o1,ha1,hia1,hc1⟩:=RepW.at (n:=lo) (SliceV.mono (Nat.le_refl lo) HG.out H1.out) hlt
  obtain ⟨a2,o2,ha2,hia2,hc2⟩:=RepW.at (n:=lo) (SliceV.mono (Nat.le_refl lo) HG.out H2.out) (by omega:k < r.length)
  have HST:=Hide.mk (HRES.out.trans (enterM_cons hlt (by omega:k < r.length)))
  have hi0:=of_decide_eq_true (List.all_eq_true.1 HW.out _ (List.getElem_mem hlt))
  generalize w[k]=x at *
  generalize r[k]=o at *
  obtain ⟨i,rfl⟩ : ∃ i:Nat,x=i:=⟨x.toNat,by omega⟩
  have hiI:i < I:=by omega
  rw [Int.toNat_natCast] at HST
  have hbl:=HT.out.rb.len
  have hab:at' < bk.length:=by omega
  obtain ⟨l1,l2,l3,l4⟩:=HT.out.rb.at' at' hab hat
  have HGD:Hide (rk.getD at' []=rk[at']):=⟨(getD_mem (d:=[]) hat).2⟩
  rw [HGD.out] at HST
  have hmr:=(HOK.out _ (List.getElem_mem hat)).2
  have hrs:=rowS_at (I:=I) hab
  have HBB:Hide (bk[at']∈bk):=⟨List.getElem_mem hab⟩
  have HSTO:=Hide.mk fun (g' : Nat→Option Blk) (n2:Nat) (row:List (Int×Int)) (h1:n'≤n2) (h2:row.length=I) (h3:g' bk[at']=some (.cells (rowC row) true 0)) (h4:∀ b,b≠bk[at']→b < n'→g' b=gL b)=>show TreeMem g' lo n2 T I (rk.set at' row) bk B sv from
   ((HT.out.store (g':=fun z=>if z=bk[at'] then g' z else gL z) hat hab h2 ((if_pos rfl).trans h3) fun b hb=>if_neg hb).keep h1 fun a k1 k2=>by
    by_cases ha:a=bk[at']
    ·rw [if_pos ha]
    ·rw [if_neg ha]; exact h4 a ha k2)
  generalize rk[at']=row at *
  generalize bk[at']=b at *
  have hil:i < row.length:=by omega
  have hre:(rowC row)[i * 2]'(by rw [rowC_len]; omega)=.lit (.int .i64 row[i].1):=(List.getElem?_eq_some_iff.1 (rowC_one row i hil).1).2
  have hrcl:(rowC row).length=I * 2:=by rw [rowC_len,l4]
  have hei:=hmr _ (List.getElem_mem hil)
  have HENT:Hide (row.getD i (-1,-1)=row[i]):=⟨(getD_mem (d:=(-1,-1)) hil).2⟩
  rw [HENT.out] at HST
  generalize row[i]=e at *
  have hbT:b≠T:=fun h=>HT.out.tn (h ▸ HBB.out)
  have hbB:b≠B:=fun h=>HT.out.bn (h ▸ HBB.out)
  have hbn:b≠n:=fun h=>HNB.out.1 (h ▸ HBB.out)
  have hgT:=HT.out.gt
  have hTB:=HT.out.tb
  have hTlt:=HT.out.tl
  have hBlt:=HT.out.bl
  have hnB:=HNB.out.2
  have hTn:T≠n:=by omega
  have hput:∀ p q:Int,List.take (i * 2) (rowC row)++.lit (.int .i64 p) :: .lit (.int .i64 q) :: List.drop (i * 2+2) (rowC row)=rowC (row.set i (p,q)):=fun p q=>by
   have:=putR_row hil (p,q)
   unfold putR at this
   simpa using this
  have hi2:i * 2+2≤(rowC row).length:=by omega
  have hi3:i * 2 < (rowC row).length:=by omega
  have hrsl:at' < (rowS I bk).length:=by rw [rowS_len]; exact hab
  by_cases ho:o = -1
  ·rw [if_pos ho] at HST
   subst ho
   rcases HT.out.gb with ⟨g1,g2,g3⟩ | ⟨g2,g3⟩
   ·subst g2
    obtain rfl:at'=0:=by omega
    clear hmr
    iterate 8 all_goals try first|with_reducible refine splitI (fun h=>?_) fun h=>?_|with_reducible refine splitBI (fun h=>?_) fun h=>?_|simp (maxSteps:=999999) (disch:=first|assumption|omega|(simp;done)|fail) [Tryz.results106, *]
    refine ⟨_,_,⟨rfl,rfl⟩,by omega,fun c hc=>?_,⟨_,_,_,HST.out ▸ HSTO.out _ _ _ (Nat.le_refl _) (by rw [List.length_set]; exact l4) gput_eq fun c hc _=>gput_ne hc⟩,?_,?_⟩
    ·rw [gput_lt (by omega)]; exact HG.out c hc
    ·rw [HST.out,← HGD.out]; exact HOK.out.set hat (.inl rfl)
    ·rw [HST.out,List.length_set]; omega
   ·subst g2
    clear hmr
    iterate 8 all_goals try first|with_reducible refine splitI (fun h=>?_) fun h=>?_|with_reducible refine splitBI (fun h=>?_) fun h=>?_|simp (maxSteps:=999999) (disch:=first|assumption|omega|(simp;done)|fail) [Tryz.results106, *]
    refine ⟨_,_,⟨rfl,rfl⟩,by omega,fun c hc=>?_,⟨_,_,_,HST.out ▸ HSTO.out _ _ _ (Nat.le_refl _) (by rw [List.length_set]; exact l4) gput_eq fun c hc _=>gput_ne hc⟩,?_,?_⟩
    ·rw [gput_lt (by omega)]; exact HG.out c hc
    ·rw [HST.out,← HGD.out]; exact HOK.out.set hat (.inl rfl)
    ·rw [HST.out,List.length_set]; omega
  ·rw [if_neg ho] at HST
   have hgLL:gL Lg=some (.cells [.lit (.int .i64 I),.lit (.int .i64 Oo),lv] true 0):=(HG.out Lg hLg).trans hgL
   have hre2:∀ (p q:Int),(rowC (row.set i (p,q)))[i * 2]?=some (.lit (.int .i64 p)):=fun p q=>by
    have h1:=(rowC_one (row.set i (p,q)) i (by rw [List.length_set]; exact hil)).1
    rw [List.getElem_set_self] at h1
    exact h1
   have hrl3:∀ p q:Int,(rowC (row.set i (p,q))).length=I * 2:=fun p q=>by rw [rowC_len,List.length_set,l4]
   have hrs2:∀ (X:AV),(rowS I bk++[X])[at']?=some (.sl b 0 I I):=fun X=>by rw [List.getElem?_append_left hrsl,List.getElem?_eq_getElem hrsl,hrs]
   have hx1:∀ (G:Nat→Option Blk) (x:Option Blk),gput G b x T=G T:=fun G x=>gput_ne (Ne.symm hbT)
   have hx2:∀ (G:Nat→Option Blk) (x:Option Blk),gput G b x B=G B:=fun G x=>gput_ne (Ne.symm hbB)
   have hx3:∀ (G:Nat→Option Blk) (x:Option Blk),gput G b x n=G n:=fun G x=>gput_ne (Ne.symm hbn)
   have hx4:∀ (G:Nat→Option Blk) (x:Option Blk),gput G B x b=G b:=fun G x=>gput_ne hbB
   have hx5:∀ (G:Nat→Option Blk) (x:Option Blk),gput G T x b=G b:=fun G x=>gput_ne hbT
   have hx6:∀ (G:Nat→Option Blk) (x:Option Blk),gput G T x B=G B:=fun G x=>gput_ne (Ne.symm hTB)
   have hx7:∀ (G:Nat→Option Blk) (x:Option Blk),gput G B x T=G T:=fun G x=>gput_ne hTB
   have hx8:∀ (G:Nat→Option Blk) (x:Option Blk),gput G B x n=G n:=fun G x=>gput_ne hnB
   have hx9:∀ (G:Nat→Option Blk) (x:Option Blk),gput G T x n=G n:=fun G x=>gput_ne (Ne.symm hTn)
   have hrsL:(rowS I bk).length=rk.length:=by rw [rowS_len]; exact hbl
   have hrk2:rk.length≤1000000:=by omega
   have HOKN:Hide (okRows I (rk.set at' (row.set i ((rk.length:Int),o))++[List.replicate I (-1,-1)])):=⟨by rw [← HGD.out]; exact HOK.out.new hat⟩
   have HPU:=Hide.mk fun (gF:Nat→Option Blk) (h1:gF n'=some (.cells (rowC (List.replicate I (-1,-1))) true 0)) (h2:gF (n'+1+1)=some (.cells (rowS I bk++[.sl n' 0 I I]) true 1)) (h3:gF T=some (.cells [.slq (n'+1+1) 0 (rk.length+1) 0] true 0)) (h4:gF b=some (.cells (rowC (row.set i ((rk.length:Int),o))) true 0)) (h5:∀ c,c≠b→c≠T→c≠B→c < n'→gF c=gL c)=>show TreeMem gF lo (n'+1+1+1) T I (rk.set at' (row.set i ((rk.length:Int),o))++[List.replicate I (-1,-1)]) (bk++[n']) (n'+1+1) (.slq (n'+1+1) 0 (rk.length+1) 0) from by
    have hS:=HSTO.out (gput gL b (some (.cells (rowC (row.set i ((rk.length:Int),o))) true 0))) n' (row.set i ((rk.length:Int),o)) (Nat.le_refl _) (by rw [List.length_set]; exact l4) gput_eq fun c hc _=>gput_ne hc
    have hP:=hS.push (g':=gF) (n':=n'+1+1+1) (b:=n') (B':=n'+1+1) (row:=List.replicate I (-1,-1)) (by simp) (Nat.le_refl _) (by omega) (by omega) (by omega) (by omega) h1 (by rw [h2]; simp [rowS]) (by rw [h3,List.length_set]) fun x hx=>by
     by_cases hxb:x=b
     ·subst hxb; rw [h4,gput_eq]
     ·rw [gput_ne hxb]
      obtain ⟨j,hj,e⟩:=List.mem_iff_getElem.1 hx
      have:=(HT.out.rb.at' j hj (by have:=HT.out.rb.len; omega)).2.1
      exact h5 x hxb (fun h=>HT.out.tn (h ▸ hx)) (fun h=>HT.out.bn (h ▸ hx)) (by omega)
    rw [List.length_set] at hP
    exact hP
   by_cases he:e.1 = -1
   ·rw [if_pos he] at HST
    rcases HT.out.gb with ⟨g1,g2,g3⟩ | ⟨g2,g3⟩
    ·subst g2
     have hrsL1:(rowS I bk).length=1:=by rw [hrsL]; exact g1
     have htk1:List.take 1 (rowS I bk)=rowS I bk:=List.take_of_length_le (by omega)
     have hatI:(at' : Int) < 1:=by omega
     have hat1:at' < 1:=by omega
     have g1I:((rk.length:Nat) : Int)=1:=by omega
     have HZ:=Hide.mk g1
     rw [g1] at HST HPU HOKN
     clear hmr hei hrsL
     iterate 8 all_goals try first|with_reducible refine splitI (fun h=>?_) fun h=>?_|with_reducible refine splitBI (fun h=>?_) fun h=>?_|simp (maxSteps:=999999) (disch:=first|assumption|omega|(simp;done)|fail) [Tryz.results106, *]
     refine WC.mono (row_w I hI _ _) ?_
     rintro _ rfl
     iterate 8 all_goals try first|with_reducible refine splitI (fun h=>?_) fun h=>?_|with_reducible refine splitBI (fun h=>?_) fun h=>?_|simp (maxSteps:=999999) (disch:=first|assumption|omega|(simp;done)|fail) [Tryz.results106, *]
     refine ih.out (w.length - (k+1)) _ _ (by omega) ⟨k+1,n'+1+1+1,_,_,1,bk++[n'],n'+1+1,.slq (n'+1+1) 0 (1+1) 0,by omega,rfl,rfl,by omega,⟨fun c hc=>?_⟩,?_,⟨HPU.out _ ?_ ?_ ?_ ?_ ?_⟩,⟨fun hm=>?_,by omega⟩,HOKN,by rw [List.length_append,List.length_set,HZ.out]; simp,by rw [List.length_append,List.length_set,HZ.out]; simp; omega,HST,by simp [*],by simp [*],by simp [*],by simp,by simp [*],by simp [*],by simp⟩
     ·simp (disch:=omega) only [gput_lt,gput_ne]; exact HG.out c hc
     ·simp (disch:=omega) only [gput_lt,gput_ne]; exact hgn
     ·simp (disch:=omega) only [gput_lt,gput_ne,gput_eq]
     ·simp (disch:=omega) only [gput_ne,gput_eq]
     ·simp (disch:=omega) only [gput_eq]
     ·simp (disch:=omega) only [gput_ne,hx4,hx5,gput_eq]; rfl
     ·intro c c1 c2 c3 c4
      simp (disch:=omega) only [gput_ne]
     ·rcases List.mem_append.1 hm with h | h
      ·exact HNB.out.1 h
      ·have:=List.mem_singleton.1 h; omega
    ·subst g2
     clear hmr hei
     iterate 8 all_goals try first|with_reducible refine splitI (fun h=>?_) fun h=>?_|with_reducible refine splitBI (fun h=>?_) fun h=>?_|simp (maxSteps:=999999) (disch:=first|assumption|omega|(simp;done)|fail) [Tryz.results106, *]
     refine WC.mono (row_w I hI _ _) ?_
     rintro _ rfl
     iterate 8 all_goals try first|with_reducible refine splitI (fun h=>?_) fun h=>?_|with_reducible refine splitBI (fun h=>?_) fun h=>?_|simp (maxSteps:=999999) (disch:=first|assumption|omega|(simp;done)|fail) [Tryz.results106, *]
     refine ih.out (w.length - (k+1)) _ _ (by omega) ⟨k+1,n'+1+1+1,_,_,rk.length,bk++[n'],n'+1+1,.slq (n'+1+1) 0 (rk.length+1) 0,by omega,rfl,rfl,by omega,⟨fun c hc=>?_⟩,?_,⟨HPU.out _ ?_ ?_ ?_ ?_ ?_⟩,⟨fun hm=>?_,by omega⟩,HOKN,by rw [List.length_append,List.length_set]; simp,by rw [List.length_append,List.length_set]; simp; omega,HST,by simp [*],by simp [*],by simp [*],by simp,by simp [*],by simp [*],by simp⟩
     ·simp (disch:=omega) only [gput_lt,gput_ne]; exact HG.out c hc
     ·simp (disch:=omega) only [gput_lt,gput_ne]; exact hgn
     ·simp (disch:=omega) only [gput_lt,gput_ne,gput_eq]
     ·simp (disch:=omega) only [gput_ne,gput_eq]
     ·simp (disch:=omega) only [gput_eq]
     ·simp (disch:=omega) only [gput_ne,hx4,hx5,gput_eq]
     ·intro c c1 c2 c3 c4
      simp (disch:=omega) only [gput_ne]
     ·rcases List.mem_append.1 hm with h | h
      ·exact HNB.out.1 h
      ·have:=List.mem_singleton.1 h; omega
   ·rw [if_neg he] at HST
    obtain ⟨e0,e1⟩ : 0≤e.1∧e.1 < rk.length:=by rcases hei with h | h; exact absurd h he; exact h
    obtain ⟨t,ht⟩ : ∃ t:Nat,e.1=(t:Int):=⟨e.1.toNat,by omega⟩
    rw [ht] at hre he e1 HST
    rw [Int.toNat_natCast] at HST
    have htl:t < rk.length:=by omega
    rcases HT.out.gb with ⟨g1,g2,g3⟩ | ⟨g2,g3⟩
    ·subst g2
     obtain rfl:at'=0:=by omega
     clear hmr hei HPU HOKN ht
     iterate 8 all_goals try first|with_reducible refine splitI (fun h=>?_) fun h=>?_|with_reducible refine splitBI (fun h=>?_) fun h=>?_|simp (maxSteps:=999999) (disch:=first|assumption|omega|(simp;done)|fail) [Tryz.results106, *]
     exact ih.out (w.length - (k+1)) _ _ (by omega) ⟨k+1,n',gL,rk,t,bk,B,_,by omega,rfl,rfl,by omega,HG,hgn,HT,HNB,HOK,htl,by omega,HST,by simp [*],by simp [*],by simp [*],by simp [*],by simp [*],by simp [*],by simp⟩
    ·subst g2
     clear hmr hei HPU HOKN ht
     iterate 8 all_goals try first|with_reducible refine splitI (fun h=>?_) fun h=>?_|with_reducible refine splitBI (fun h=>?_) fun h=>?_|simp (maxSteps:=999999) (disch:=first|assumption|omega|(simp;done)|fail) [Tryz.results106, *]
     exact ih.out (w.length - (k+1)) _ _ (by omega) ⟨k+1,n',gL,rk,t,bk,B,_,by omega,rfl,rfl,by omega,HG,hgn,HT,HNB,HOK,htl,by omega,HST,by simp [*],by simp [*],by simp [*],by simp [*],by simp [*],by simp [*],by simp⟩
 ·have hltI:¬(k:Int) < (w.length:Int):=by omega
  have hRE:RES=rk:=by
   rw [HRES.out,List.drop_eq_nil_of_le (by omega)]
   cases r.drop k <;> rfl
  iterate 8 all_goals try first|with_reducible refine splitI (fun h=>?_) fun h=>?_|with_reducible refine splitBI (fun h=>?_) fun h=>?_|simp (maxSteps:=999999) (disch:=first|assumption|omega|(simp;done)|fail) [Tryz.results106, *]
  refine ⟨_,_,⟨rfl,rfl⟩,by omega,HG.out,⟨_,_,_,HT.out⟩,HOK.out,by omega⟩
theorem sl81:sliceT Tryz.prog 98=true:=by kernel_rfl
attribute [simp] sl81
theorem EClone_w {row:List (Int×Int)} (h0:0 < row.length) (hl:row.length≤1000) (g:Nat→Option Blk) (n b:Nat) (hb:b < n) (hg:g b=some (.cells (rowC row) true 0)) :
  WC 0 Tryz.prog 122 [.sl b 0 row.length row.length] ⟨.fn g,n⟩ fun r=>∃ g',r=.ret (.slq (n+1) 0 row.length 0) ⟨.fn g',n+1+1⟩∧(∀ x,x < n→g' x=g x)∧g' (n+1)=some (.cells (rowC row) true 2):=by
 have hv:SliceV g n (.sl b 0 row.length row.length) row.length (rowC row):=sliceV_all hg hb
 obtain ⟨a2,blk,ha2,hga2,hap⟩:=SliceV.ap0 (P:=Tryz.prog) (sz:=2) hv h0 (by omega) (by rw [rowC_len])
 clear hv
 refine WC.enterP (noO_ok _ _) hG [] Tryz.func122 rfl (by decide +kernel) (Nat.le_of_ble_eq_true (by kernel_rfl)) ?_
 iterate 8 all_goals try first|with_reducible refine splitI (fun h=>?_) fun h=>?_|with_reducible refine splitBI (fun h=>?_) fun h=>?_|simp (maxSteps:=999999) (disch:=first|assumption|omega|(simp;done)|fail) [Tryz.results122, *]
 intro x hx
 simp (disch:=omega) only [gput_lt]
theorem EClip_w {len a:Nat} (h0:0 < len) (H:Mem) : WC 0 Tryz.prog 121 [.slq a 0 len 0] H fun r=>r=.ret (.sl a 0 len len) H:=by
 refine WC.ofFn ?_
 refine WC.enterP (noO_ok _ _) hG [] Tryz.func121 rfl (by decide +kernel) (Nat.le_of_ble_eq_true (by kernel_rfl)) ?_
 iterate 8 all_goals try first|with_reducible refine splitI (fun h=>?_) fun h=>?_|with_reducible refine splitBI (fun h=>?_) fun h=>?_|simp (maxSteps:=999999) (disch:=first|assumption|omega|(simp;done)|fail) [Tryz.results121, *]
theorem mkI36:mkI Tryz.prog 23=some (.lit (.slice none 0 0)):=by kernel_rfl
theorem mk36 {H:Mem} {a b:Int} (h0:0≤a) (h1:a≤b) (h2:b≤1048576) : mksS Tryz.prog H 23 (some (.lit (.slice none 0 0))) (some (.lit (.int .i64 a))) (some (.lit (.int .i64 b)))=.val (.sl H.next 0 a.toNat b.toNat) (H.add (.cells (rep [.lit (.slice none 0 0)] b.toNat) true 0)):=by
 have hx:oMakeSlice Tryz.prog H 23 (some (.lit (.int .i64 a))) (some (.lit (.int .i64 b)))=_:=oMakeSlice_ok (e:=98) (size:=1) (bytes:=24) (z:=[.lit (.slice none 0 0)]) (by kernel_rfl) (by decide) (by decide) (by kernel_rfl) h0 h1 h2
 unfold mksS
 dsimp only
 split
 ·rename_i h
  obtain ⟨rfl,h3,h4⟩:=h
  rw [rep_one]
 ·exact hx
attribute [simp] mkI36 mk36
theorem numE_snoc {e:Int×Int} : ∀ (l:List (Int×Int)) (k:Nat),numE k (l++[e])=numE k l++[if e.1 = -1 then e else (((k+(oldE l).length:Nat) : Int),e.2)]
 | [],k=>by
  show numE k [e]=_
  unfold numE oldE
  split
  ·rfl
  ·rfl
 | a :: l,k=>by
  rw [List.cons_append]
  unfold numE oldE
  split
  ·rw [numE_snoc l k]; rfl
  ·rw [numE_snoc l (k+1),List.length_cons,show k+1+(oldE l).length=k+((oldE l).length+1) by omega]; rfl
theorem oldE_snoc {e:Int×Int} : ∀ (l:List (Int×Int)),oldE (l++[e])=oldE l++(if e.1 = -1 then [] else [e.1])
 | []=>by
  show oldE [e]=_
  unfold oldE
  split <;> rfl
 | a :: l=>by
  rw [List.cons_append]
  unfold oldE
  split
  ·exact oldE_snoc l
  ·rw [oldE_snoc l]; rfl
theorem numE_len:∀ (l:List (Int×Int)) (k:Nat),(numE k l).length=l.length
 | [],_=>rfl
 | a :: l,k=>by
  unfold numE
  split
  ·rw [List.length_cons,List.length_cons,numE_len l k]
  ·rw [List.length_cons,List.length_cons,numE_len l (k+1)]
def partE (k:Nat) (row:List (Int×Int)) (i:Nat) : List (Int×Int):=numE k (row.take i)++row.drop i
theorem partE_len {k:Nat} {row:List (Int×Int)} {i:Nat} : (partE k row i).length=row.length:=by
 unfold partE; rw [List.length_append,numE_len,List.length_take,List.length_drop]; omega
theorem partE_at {k:Nat} {row:List (Int×Int)} {i:Nat} (h:i < row.length) : (partE k row i)[i]'(by rw [partE_len]; exact h)=row[i]:=by
 unfold partE
 have hl:(numE k (row.take i)).length=i:=by rw [numE_len,List.length_take]; omega
 rw [List.getElem_append_right (by omega)]
 simp [hl]
theorem partE_step {k:Nat} {row:List (Int×Int)} {i:Nat} (h:i < row.length) : partE k row (i+1)=if row[i].1 = -1 then partE k row i else (partE k row i).set i (((k+(oldE (row.take i)).length:Nat) : Int),row[i].2):=by
 unfold partE
 have hl:(numE k (row.take i)).length=i:=by rw [numE_len,List.length_take]; omega
 have hd:row.drop i=row[i] :: row.drop (i+1):=List.drop_eq_getElem_cons h
 rw [take_snoc h,numE_snoc,List.append_assoc]
 split
 ·rw [hd]; rfl
 ·rw [List.set_append_right _ _ (by omega),hl,Nat.sub_self,hd]; rfl
theorem putR_set {l:List AV} {off:Nat} {u v:AV} (h:l[off+1]?=some v) : putR l off [u,v]=l.set off u:=by
 obtain ⟨h1,h2⟩:=List.getElem?_eq_some_iff.1 h
 unfold putR
 rw [List.set_eq_take_append_cons_drop,if_pos (by omega),List.append_assoc]
 congr 1
 show u :: v :: l.drop (off+2)=_
 rw [List.drop_eq_getElem_cons h1,h2]
theorem rowC_set0 {row:List (Int×Int)} {i:Nat} (hi:i < row.length) (p:Int) : (rowC row).set (i * 2) (.lit (.int .i64 p))=rowC (row.set i (p,row[i].2)):=by
 rw [← putR_row hi (p,row[i].2)]
 exact (putR_set (rowC_one row i hi).2).symm
theorem oldE_take:∀ (row:List (Int×Int)) (i:Nat),(oldE (row.take i)).length≤(oldE row).length
 | [],i=>by rw [List.take_nil]; exact Nat.le_refl _
 | e :: row,0=>Nat.zero_le _
 | e :: row,i+1=>by
  rw [List.take_succ_cons]
  unfold oldE
  have:=oldE_take row i
  split
  ·exact this
  ·rw [List.length_cons,List.length_cons]; omega
def idxL (ws os:List (List Int)) : List Int:=os.map fun x=>((ws.idxOf x:Nat) : Int)
structure RowsC (g:Nat→Option Blk) (lo n I:Nat) (rows:List (List (Int×Int))) (bs:List Nat) : Prop where
 len:bs.length=rows.length
 at' : ∀ (k:Nat) (h:k < bs.length) (h' : k < rows.length),lo≤bs[k]∧bs[k] < n∧g bs[k]=some (.cells (rowC rows[k]) true 2)∧rows[k].length=I
theorem RowsC.snoc {g g' : Nat→Option Blk} {lo n n' I:Nat} {rows:List (List (Int×Int))} {bs:List Nat} (h:RowsC g lo n I rows bs) (hn:n≤n') (hg:∀ a,lo≤a→a < n→g' a=g a) {b:Nat} {row:List (Int×Int)} (h1:lo≤b) (h2:b < n') (h3:g' b=some (.cells (rowC row) true 2)) (h4:row.length=I) : RowsC g' lo n' I (rows++[row]) (bs++[b]):=by
 have hl:=h.len
 refine ⟨by simp [hl],fun k k1 k2=>?_⟩
 rw [List.length_append,List.length_singleton] at k1
 by_cases hk:k < bs.length
 ·obtain ⟨e1,e2,e3,e4⟩:=h.at' k hk (by omega)
  rw [List.getElem_append_left hk,List.getElem_append_left (by omega)]
  exact ⟨e1,by omega,(hg _ e1 e2).trans e3,e4⟩
 ·rw [List.getElem_append_right (by omega),List.getElem_append_right (by omega)]
  simp
  exact ⟨h1,h2,h3,h4⟩
theorem numbered_w {V:List Int→Option Int} {ws:List (List Int)} {I:Nat} {O:Int} (hI1:1≤I) (hI:I≤16) (hN:Nod V ws) (hV:∀ x o,V x=some o→o ≠ -1→0≤o∧o < O) (hIn:∀ (x:List Int) (i o:Int),V (x++[i])=some o→0≤i∧i < (I:Int)) (h0:ws[0]?=some []) (hwl:ws.length≤100000) (lo n B:Nat) (g:Nat→Option Blk) (sv:AV) (bs:List Nat)
  (hrb:RowsB g lo n I (rowsT V ws I) bs) (hB:B < n) (hgb:(ws.length=1∧sv=.sl B 0 1 1∧g B=some (.cells (rowS I bs) true 0))∨(sv=.slq B 0 ws.length 0∧g B=some (.cells (rowS I bs) true 1))) :
  WC 0 Tryz.prog 107 [sv] ⟨.fn g,n⟩ fun r=>∃ g' n' bs' os,r=.ret (.sl (n+1) 0 ws.length ws.length) ⟨.fn g',n'⟩∧n+2≤n'∧(∀ b,b < n→g' b=g b)∧Bfs V ws I O os.length os∧os.length=ws.length∧RowsC g' n n' I (rowsT V os I) bs'∧g' (n+1)=some (.cells (rowS I bs') true 0):=by
 have hv:SliceV g n sv ws.length (rowS I bs):=by
  rcases hgb with ⟨e1,rfl,e3⟩ | ⟨rfl,e3⟩
  ·rw [e1]; exact sliceV_all e3 hB
  ·exact .inr ⟨B,0,hB,.inr ⟨0,rfl⟩,rowS I bs,true,1,e3,by simp,by simp⟩
 have hlen:=@lenV Tryz.prog _ _ _ _ _ hv
 have HV:=Hide.mk hv
 have hbl:bs.length=ws.length:=by rw [hrb.len,rowsT_len]
 have HRB:=Hide.mk hrb
 have HN:=Hide.mk hN
 have HVV:=Hide.mk hV
 have HIN:=Hide.mk hIn
 have hW1:1≤ws.length:=by
  have:=List.getElem?_eq_some_iff.1 h0
  obtain ⟨h,_⟩:=this
  omega
 have HW0:Hide ([]∈ws):=⟨List.mem_of_getElem? h0⟩
 have HI0:Hide (ws.idxOf []=0):=⟨by
  cases ws with
  | nil=>simp at h0
  | cons a l=>simp at h0; subst h0; simp⟩
 have hW2:(ws.length:Int)≤1048576:=by omega
 have hW3:(1:Int)≤(ws.length:Int):=by omega
 clear hv hgb hrb hN hV hIn h0
 refine WC.enterP (noO_ok _ _) hG [] Tryz.func107 rfl (by decide +kernel) (Nat.le_of_ble_eq_true (by kernel_rfl)) ?_
 iterate 8 all_goals try first|with_reducible refine splitI (fun h=>?_) fun h=>?_|with_reducible refine splitBI (fun h=>?_) fun h=>?_|simp (maxSteps:=999999) (disch:=first|assumption|omega|(simp;done)|fail) [Tryz.results107, *]
 refine LX.ind (fun m gf H'=>∃ (q n' : Nat) (gL:Nat→Option Blk) (os:List (List Int)) (bk:List Nat) (Lo Lr:List AV),q≤os.length∧os.length≤ws.length∧m=ws.length - q∧H'=⟨.fn gL,n'⟩∧n+1+1≤n'∧Hide (∀ b,b < n→gL b=g b) ∧
  gL n=some (.cells Lo true 0)∧Lo.length=ws.length∧Hide (Lo.take os.length=wdC (idxL ws os))∧gL (n+1)=some (.cells Lr true 0)∧Lr.length=ws.length∧Hide (Lr.take q=rowS I bk)∧Hide (RowsC gL (n+1+1) n' I ((os.take q).map (rowW V os I)) bk)∧Hide (Bfs V ws I O q os) ∧
  gf 0=some sv∧gf 3=some (.sl n 0 os.length ws.length)∧gf 4=some (.sl (n+1) 0 q ws.length)∧gf 5=some (.lit (.int .i64 q))) (m0:=ws.length) ?_ ?_
 ·refine ⟨0,_,_,[[]],[],rep [.lit (.int .i64 0)] ws.length,rep [.lit (.slice none 0 0)] ws.length,by simp,by simpa using hW1,rfl,rfl,Nat.le_refl _,⟨fun b hb=>?_⟩,?_,?_,⟨?_⟩,?_,?_,⟨rfl⟩,⟨⟨rfl,fun k h=>by cases h⟩⟩,⟨Bfs.zero HW0.out⟩,by simp,by simp,by simp,by simp⟩
  ·simp (disch:=omega) only [gput_lt]
  ·simp (disch:=omega) only [gput_lt,gput_eq]
  ·rw [rep_len]; simp
  ·have e:idxL ws [[]]=[0]:=by unfold idxL; simp [HI0.out]
   rw [e]
   obtain ⟨W,hW⟩ : ∃ W,ws.length=W+1:=⟨ws.length - 1,by omega⟩
   rw [hW,rep_succ]
   rfl
  ·simp (disch:=omega) only [gput_lt,gput_eq]
  ·rw [rep_len]; simp
 rintro m gf H' ⟨q,n',gL,os,bk,Lo,Lr,hq,hos,rfl,rfl,hn',HG,hgo,hLo,HLo,hgr,hLr,HLr,HRR,HBF,w0,w3,w4,w5⟩ ih
 refine LX.roundP (noO_ok _ _) hG [] (by decide +kernel) ?_
 by_cases hlt:q < os.length
 ·have hltI:(q:Int) < (os.length:Int):=by omega
  have hmem:os[q]∈ws:=HBF.out.sub _ (List.getElem_mem hlt)
  have ha:ws.idxOf os[q] < ws.length:=List.idxOf_lt_length_of_mem hmem
  have hat:ws[ws.idxOf os[q]]=os[q]:=List.getElem_idxOf ha
  have hLq:Lo[q]?=some (.lit (.int .i64 ((ws.idxOf os[q] : Nat) : Int))):=by
   have h1:(Lo.take os.length)[q]?=Lo[q]?:=by rw [List.getElem?_take,if_pos hlt]
   rw [← h1,HLo.out,wdC_at _ q (by simp [idxL]; exact hlt)]; simp [idxL]
  have hab:ws.idxOf os[q] < bs.length:=by omega
  obtain ⟨l1,l2,l3,l4⟩:=HRB.out.at' _ hab (by rw [rowsT_len]; exact ha)
  have hrr:(rowsT V ws I)[ws.idxOf os[q]]'(by rw [rowsT_len]; exact ha)=rowW V ws I os[q]:=by simp only [rowsT,List.getElem_map,hat]
  rw [hrr] at l3 l4
  clear hrr hat hmem
  obtain ⟨a2,off,ha2,hrow,hia⟩:=SliceV.ia (P:=Tryz.prog) (SliceV.mono (Nat.le_refl n) HG.out HV.out) ha 1
  simp only [Nat.mul_one] at hia
  have hcell:=hrow.one (k:=ws.idxOf os[q]) (s:=1) (by rw [rowS_len]; exact hab)
  rw [rowS_at hab] at hcell
  clear hrow
  have HST:=Hide.mk (HBF.out.step HN.out HVV.out hlt)
  have HLE:=Hide.mk HST.out.1.len
  have HOR:Hide (oldE (rowW V ws I os[q])=idxL ws (chL V os[q] (List.range I))):=⟨oldE_row (List.range I)⟩
  have hgb2:=(HG.out _ l2).trans l3
  have HGO:Hide ((os++chL V os[q] (List.range I)).take (q+1)=os.take q++[os[q]]):=⟨by rw [List.take_append_of_le_length (by omega)]; exact take_snoc hlt⟩
  have HBR:=Hide.mk (HBF.out.rows (chL V os[q] (List.range I)))
  have HRW:Hide (numE os.length (rowW V ws I os[q])=rowW V (os++chL V os[q] (List.range I)) I os[q]):=⟨HST.out.2⟩
  have HB1:Hide (Bfs V ws I O (q+1) (os++chL V os[q] (List.range I))):=⟨HST.out.1⟩
  clear HST
  generalize hre:rowW V ws I os[q]=row at *
  generalize bs[ws.idxOf os[q]]=b at *
  generalize ws.idxOf os[q]=a at *
  generalize chL V os[q] (List.range I)=cs at *
  clear l3 l1 hre
  have hLq2:Lo[q]'(by omega)=.lit (.int .i64 (a:Int)):=(List.getElem?_eq_some_iff.1 hLq).2
  have l5:gL b=some (.cells (rowC row) true 0):=hgb2
  clear hgb2
  have hcl:=HLE.out
  rw [List.length_append] at hcl
  have hoc:(oldE row).length=cs.length:=by rw [HOR.out]; simp [idxL]
  have hoT:∀ i,(oldE (row.take i)).length≤cs.length:=fun i=>by rw [← hoc]; exact oldE_take row i
  have HOT:=Hide.mk hoT
  clear hoT
  subst l4
  have hbn' : b < n':=by omega
  iterate 8 all_goals try first|with_reducible refine splitI (fun h=>?_) fun h=>?_|with_reducible refine splitBI (fun h=>?_) fun h=>?_|simp (maxSteps:=999999) (disch:=first|assumption|omega|(simp;done)|fail) [Tryz.results107, *]
  refine WC.mono (EClone_w (by omega) (by omega) gL n' b hbn' l5) ?_
  rintro _ ⟨g2,rfl,hg2,hg3⟩
  have HG2:=Hide.mk hg2
  clear hg2
  iterate 8 all_goals try first|with_reducible refine splitI (fun h=>?_) fun h=>?_|with_reducible refine splitBI (fun h=>?_) fun h=>?_|simp (maxSteps:=999999) (disch:=first|assumption|omega|(simp;done)|fail) [Tryz.results107, *]
  refine WC.mono (EClip_w (by omega) _) ?_
  rintro _ rfl
  iterate 8 all_goals try first|with_reducible refine splitI (fun h=>?_) fun h=>?_|with_reducible refine splitBI (fun h=>?_) fun h=>?_|simp (maxSteps:=999999) (disch:=first|assumption|omega|(simp;done)|fail) [Tryz.results107, *]
  refine LX.ind (fun m gf H'=>∃ (i n2 c:Nat) (gI:Nat→Option Blk) (Lo:List AV),i≤row.length∧m=row.length - i∧H'=⟨.fn gI,n2⟩∧n'+1+1≤n2∧Hide (∀ x,x < n'→x≠n→gI x=gL x)∧gI n=some (.cells Lo true 0)∧Lo.length=ws.length∧Hide (c=os.length+(oldE (row.take i)).length)∧c≤ws.length∧Hide (Lo.take c=wdC (idxL ws os++oldE (row.take i))) ∧
   gI (n'+1)=some (.cells (rowC (partE os.length row i)) true 2)∧gf 0=some sv∧gf 3=some (.sl n 0 c ws.length)∧gf 4=some (.sl (n+1) 0 q ws.length)∧gf 5=some (.lit (.int .i64 q))∧gf 6=some (.sl (n'+1) 0 row.length row.length)∧gf 30=some (.sl (n'+1) 0 row.length row.length)∧gf 31=some (.lit (.int .i64 row.length))∧gf 32=some (.lit (.int .i64 i))) (m0:=row.length) ?_ ?_
  ·refine ⟨0,_,os.length,g2,Lo,Nat.zero_le _,rfl,rfl,by omega,⟨fun x h _=>HG2.out x h⟩,(HG2.out n (by omega)).trans hgo,hLo,⟨by simp [oldE]⟩,hos,⟨by rw [HLo.out]; simp [oldE]⟩,?_,by simp [*],by simp [*],by simp [*],by simp [*],by simp,by simp,by simp,by simp⟩
   rw [hg3]; simp [partE,numE]
  clear HLo hLo hgo hLq hLq2 hg3 w0 w3 w4 w5 hlen hcell hia
  rintro m gf H' ⟨i,n2,c,gI,Lo,hi,rfl,rfl,hn2,HGI,hgn,hLo,HC,hcw,HLo,hgp,v0,v3,v4,v5,v6,v30,v31,v32⟩ ih2
  refine LX.roundP (noO_ok _ _) hG [] (by decide +kernel) ?_
  by_cases hil:i < row.length
  ·have hilI:(i:Int) < (row.length:Int):=by omega
   have hPl:=@partE_len os.length row i
   have hPi:=partE_at (k:=os.length) hil
   have HST:=Hide.mk (partE_step (k:=os.length) hil)
   have HOS:Hide (oldE (row.take (i+1))=oldE (row.take i)++(if row[i].1 = -1 then [] else [row[i].1])):=⟨by rw [take_snoc hil,oldE_snoc]⟩
   have hPil:i < (partE os.length row i).length:=by omega
   have hra:=rowC_at (partE os.length row i) i hPil
   rw [hPi] at hra
   have HR0:=Hide.mk (rowC_set0 hPil)
   rw [hPi] at HR0
   have hot1:=HOT.out (i+1)
   rw [HOS.out,List.length_append] at hot1
   have hcc:=HC.out
   have hRl:=rowC_len (partE os.length row i)
   rw [hPl] at hRl
   have hRl2:i * 2+2≤(rowC (partE os.length row i)).length:=by omega
   have hRl3:i * 2 < (rowC (partE os.length row i)).length:=by omega
   clear hPi
   generalize row[i]=e at *
   generalize partE os.length row i=pe at *
   by_cases he:e.1 = -1
   ·rw [if_pos he] at HST HOS
    rw [List.append_nil] at HOS
    clear hcc hot1
    iterate 8 all_goals try first|with_reducible refine splitI (fun h=>?_) fun h=>?_|with_reducible refine splitBI (fun h=>?_) fun h=>?_|simp (maxSteps:=999999) (disch:=first|assumption|omega|(simp;done)|fail) [Tryz.results107, *]
    refine ih2.out (row.length - (i+1)) _ _ (by omega) ⟨i+1,n2+1,c,_,Lo,by omega,rfl,rfl,by omega,⟨fun x h1 h2=>?_⟩,?_,hLo,⟨by rw [HOS.out]; exact HC.out⟩,hcw,⟨by rw [HOS.out]; exact HLo.out⟩,?_,by simp [*],by simp [*],by simp [*],by simp [*],by simp [*],by simp [*],by simp [*],by simp⟩
    ·simp (disch:=omega) only [gput_lt]; exact HGI.out x h1 h2
    ·simp (disch:=omega) only [gput_lt]; exact hgn
    ·simp (disch:=omega) only [gput_lt]; rw [HST.out]; exact hgp
   ·rw [if_neg he] at HST HOS
    rw [if_neg he] at hot1
    simp at hot1
    have hcW:c < ws.length:=by omega
    have hLc:c+([.lit (.int .i64 e.1)] : List AV).length≤Lo.length:=by simp; omega
    have HPL:Hide ((putR Lo c [.lit (.int .i64 e.1)]).length=ws.length∧(putR Lo c [.lit (.int .i64 e.1)]).take (c+1)=wdC (idxL ws os++oldE (row.take (i+1)))):=⟨by
     refine ⟨by rw [putR_len hLc]; exact hLo,?_⟩
     have h1:=putR_take hLc
     rw [HLo.out] at h1
     rw [HOS.out]
     exact h1.trans (by simp [wdC])⟩
    rw [← hcc] at HST
    clear hcc hot1
    iterate 8 all_goals try first|with_reducible refine splitI (fun h=>?_) fun h=>?_|with_reducible refine splitBI (fun h=>?_) fun h=>?_|simp (maxSteps:=999999) (disch:=first|assumption|omega|(simp;done)|fail) [Tryz.results107, *]
    refine ih2.out (row.length - (i+1)) _ _ (by omega) ⟨i+1,n2+1+1,c+1,_,putR Lo c [.lit (.int .i64 e.1)],by omega,rfl,rfl,by omega,⟨fun x h1 h2=>?_⟩,?_,HPL.out.1,⟨by rw [HOS.out,HC.out]; simp; omega⟩,by omega,⟨HPL.out.2⟩,?_,by simp [*],by simp [*],by simp [*],by simp [*],by simp [*],by simp [*],by simp [*],by simp⟩
    ·simp (disch:=omega) only [gput_lt,gput_ne]; exact HGI.out x h1 h2
    ·simp (disch:=omega) only [gput_eq]
    ·simp (disch:=omega) only [gput_lt,gput_ne,gput_eq]; rw [HST.out,HR0.out]
  ·have hilI:¬(i:Int) < (row.length:Int):=by omega
   have hir:i=row.length:=by omega
   have hgr2:gI (n+1)=some (.cells Lr true 0):=(HGI.out (n+1) (by omega) (by omega)).trans hgr
   have hqW:q < ws.length:=by omega
   iterate 8 all_goals try first|with_reducible refine splitI (fun h=>?_) fun h=>?_|with_reducible refine splitBI (fun h=>?_) fun h=>?_|simp (maxSteps:=999999) (disch:=first|assumption|omega|(simp;done)|fail) [Tryz.results107, *]
   have hPI:partE os.length row i=numE os.length row:=by rw [hir]; unfold partE; rw [List.take_length,List.drop_length,List.append_nil]
   have hOI:oldE (row.take i)=idxL ws cs:=by rw [hir,List.take_length]; exact HOR.out
   have hcI:c=(os++cs).length:=by rw [HC.out,hOI,List.length_append]; simp [idxL]
   have hLq3:q+([.sl (n'+1) 0 row.length row.length] : List AV).length≤Lr.length:=by simp; omega
   have HRL:Hide ((putR Lr q [.sl (n'+1) 0 row.length row.length]).length=ws.length∧(putR Lr q [.sl (n'+1) 0 row.length row.length]).take (q+1)=rowS row.length (bk++[n'+1])):=⟨by
    refine ⟨by rw [putR_len hLq3]; exact hLr,?_⟩
    have h1:=putR_take hLq3
    rw [HLr.out] at h1
    exact h1.trans (by simp [rowS])⟩
   subst hcI
   refine ih.out (ws.length - (q+1)) _ _ (by omega) ⟨q+1,n2+1,_,os++cs,bk++[n'+1],Lo,putR Lr q [.sl (n'+1) 0 row.length row.length],by rw [List.length_append]; omega,by rw [List.length_append]; exact hcl,rfl,rfl,by omega,⟨fun b hb=>?_⟩,?_,hLo,⟨?_⟩,?_,HRL.out.1,⟨HRL.out.2⟩,⟨?_⟩,HB1,by simp [*],by simp [*],by simp,by simp⟩
   ·simp (disch:=omega) only [gput_lt,gput_ne]; exact (HGI.out b (by omega) (by omega)).trans (HG.out b hb)
   ·simp (disch:=omega) only [gput_lt,gput_ne]; exact hgn
   ·rw [HLo.out,hOI]; simp [idxL]
   ·exact gput_eq
   ·rw [HGO.out,List.map_append,List.map_singleton,HBR.out,← HRW.out]
    refine HRR.out.snoc (by omega) (fun a h1 h2=>?_) (by omega) (by omega) ?_ (numE_len _ _)
    ·simp (disch:=omega) only [gput_lt,gput_ne]; exact HGI.out a h2 (by omega)
    ·simp (disch:=omega) only [gput_lt,gput_ne]; rw [← hPI]; exact hgp
 ·have hltI:¬(q:Int) < (os.length:Int):=by omega
  have hqo:q=os.length:=by omega
  have hND:=Hide.mk ((hqo ▸ HBF.out).done HN.out HIN.out)
  have hle:ws.length=os.length:=by
   have h1:=nodup_len HN.out.nd fun x hx=>(hND.out.mem x).2 ((HN.out.mem x).1 hx)
   omega
  subst hqo
  have hLt:Lr=rowS I bk:=by rw [← HLr.out,List.take_of_length_le (by omega)]
  have hTk:(os.take os.length).map (rowW V os I)=rowsT V os I:=by rw [List.take_length]; rfl
  iterate 8 all_goals try first|with_reducible refine splitI (fun h=>?_) fun h=>?_|with_reducible refine splitBI (fun h=>?_) fun h=>?_|simp (maxSteps:=999999) (disch:=first|assumption|omega|(simp;done)|fail) [Tryz.results107, *]
  have hRB:=hTk ▸ HRR.out
  refine ⟨_,_,⟨rfl,rfl⟩,by omega,HG.out,bk,os,HBF.out,rfl,⟨hRB.len,fun k h1 h2=>?_⟩,by rw [← hLt]; exact hgr⟩
  obtain ⟨e1,e2,e3,e4⟩:=hRB.at' k h1 h2
  exact ⟨by omega,e2,e3,e4⟩
theorem treeM_step {I:Nat} {ts:List (List Int×List Int)} {k:Nat} (h:k < ts.length) : treeM I (ts.take (k+1))=enterM I (treeM I (ts.take k)) 0 ts[k].1 ts[k].2:=by
 unfold treeM; rw [take_snoc h,List.foldl_append]; rfl
theorem TreeOf_good {I:Nat} {O:Int} {ts:List (List Int×List Int)} (hL:LogOK I O ts) (hD:conB ts ts 0=none) (g:Nat→Option Blk) (n:Nat) (sv:AV) (hT:LogR g n ts sv) (hcap:CapV sv) :
  WC 0 Tryz.prog 49 [.agg [.lit (.int .i64 I),.lit (.int .i64 O),sv]] ⟨.fn g,n⟩ fun r=>∃ g' n' bs B,r=.ret (.tup [.agg [.lit (.int .i64 I),.lit (.int .i64 O),.sl B 0 (rowsL I ts).length (rowsL I ts).length],.lit (.int .i64 0)]) ⟨.fn g',n'⟩∧n≤n'∧(∀ b,b < n→g' b=g b)∧n≤B∧B < n'∧RowsC g' n n' I (rowsL I ts) bs∧g' B=some (.cells (rowS I bs) true 0)∧goT I O (rowsL I ts) 0 1=some (rowsL I ts).length:=by
 have hlen:=@lenV Tryz.prog _ _ _ _ _ hT.choose_spec.1
 have h1s:=hT.choose_spec.1.one
 have hone:allOne [.lit (.int .i64 I),.lit (.int .i64 O),sv]=true:=by simp [h1s]
 have HCO:=Hide.mk fun (gX:Nat→Option Blk) (n2:Nat) (hn:n≤n2) (hX:∀ b,b < n→gX b=g b)=>Contradiction_w hL gX n2 sv (hT.mono hn hX) hcap
 rw [hD] at HCO
 have HT:=Hide.mk hT
 have HL:=Hide.mk hL
 have htl:=hL.len
 have hI1:=hL.i1
 have hI2:=hL.i2
 have hI2' : I≤16:=by omega
 obtain ⟨us,hN,htree⟩:=tree_ok _ ts rfl ((cons_iff fun t ht=>(hL.lens ht).1).1 hD) hL.ok
 have HC:=Hide.mk ((cons_iff fun t ht=>(hL.lens ht).1).1 hD)
 have HN:=Hide.mk hN
 have HTR:=Hide.mk htree
 clear hT hL hcap hD hN htree
 refine WC.enterP (noO_ok _ _) hG pl49 Tryz.func49 rfl (by decide +kernel) (Nat.le_of_ble_eq_true (by kernel_rfl)) ?_
 iterate 8 all_goals try first|with_reducible refine splitI (fun h=>?_) fun h=>?_|with_reducible refine splitBI (fun h=>?_) fun h=>?_|simp (maxSteps:=999999) (disch:=first|assumption|omega|(simp;done)|fail) [Tryz.results49, *]
 refine WC.mono (HCO.out _ _ (by omega) fun b (hb:b < n)=>by simp (disch:=omega) only [gput_lt]) ?_
 rintro _ ⟨gX,n',rfl,hn',hX⟩
 have hn2:n≤n':=by omega
 have HX:Hide (∀ b,b < n→gX b=g b):=⟨fun b hb=>(hX b (by omega)).trans (by simp (disch:=omega) only [gput_lt])⟩
 have hB:gX n=some (.cells [.lit (.int .i64 I),.lit (.int .i64 O),sv] true 0):=(hX n (by omega)).trans (by simp (disch:=omega) only [gput_lt,gput_eq])
 have hB1:=(hX (n+1) (by omega))
 simp only [gput_eq] at hB1
 clear hX
 simp only [conC,Option.isSome]
 iterate 8 all_goals try first|with_reducible refine splitI (fun h=>?_) fun h=>?_|with_reducible refine splitBI (fun h=>?_) fun h=>?_|simp (maxSteps:=999999) (disch:=first|assumption|omega|(simp;done)|fail) [Tryz.results49, *]
 refine WC.mono (row_w I (by omega) _ _) ?_
 rintro _ rfl
 iterate 8 all_goals try first|with_reducible refine splitI (fun h=>?_) fun h=>?_|with_reducible refine splitBI (fun h=>?_) fun h=>?_|simp (maxSteps:=999999) (disch:=first|assumption|omega|(simp;done)|fail) [Tryz.results49, *]
 refine LX.ind (fun m gf H'=>∃ (k n2:Nat) (gL:Nat→Option Blk) (rk:List (List (Int×Int))) (bk:List Nat) (B:Nat) (tv:AV),k≤ts.length∧m=ts.length - k∧H'=⟨.fn gL,n2⟩∧n'+1+1+1+1≤n2∧Hide (∀ b,b < n'→gL b=gX b)∧Hide (TreeMem gL (n'+1) n2 (n'+1+1+1) I rk bk B tv)∧Hide (okRows I rk)∧rk.length≤1+256 * k∧Hide (rk=treeM I (ts.take k)) ∧
  gf 1=some (.ptr n 0)∧gf 2=some (.ptr (n+1) 0)∧gf 7=some (.ptr (n'+1+1+1) 0)∧gf 8=some (.func (.func 106) [] [.ptr (n'+1+1+1) 0,.ptr n 0])∧gf 33=some sv∧gf 34=some (.lit (.int .i64 ts.length))∧gf 35=some (.lit (.int .i64 k))) (m0:=ts.length) ?_ ?_
 ·refine ⟨0,_,_,[List.replicate I (-1,-1)],[n'+1],n'+1+1,.sl (n'+1+1) 0 1 1,Nat.zero_le _,rfl,rfl,Nat.le_refl _,⟨fun b hb=>?_⟩,⟨⟨⟨rfl,by simp,fun k h1 h2=>?_⟩,by simp,⟨by omega,by omega⟩,⟨by omega,by omega⟩,by omega,by simp; omega,by simp,gput_eq,.inl ⟨rfl,rfl,?_⟩⟩⟩,⟨fun row hr=>?_⟩,by simp,⟨rfl⟩,by simp,by simp,by simp,by simp,by simp,by simp,by simp⟩
  ·simp (disch:=omega) only [gput_lt]
  ·have e:k=0:=by simp at h1; omega
   subst e
   exact ⟨by simp,by simp,by simp (disch:=omega) [gput_lt,gput_eq],by simp⟩
  ·simp (disch:=omega) [gput_lt,gput_eq,rowS]
  ·rw [List.mem_singleton.1 hr]
   exact ⟨by simp,fun e he=>.inl (by rw [(List.mem_replicate.1 he).2])⟩
 rintro m gf H' ⟨k,n2,gL,rk,bk,B,tv,hk,rfl,rfl,hn3,HG,HTM,HOK,hrk,HRK,w1,w2,w7,w8,w33,w34,w35⟩ ih
 have hgn:=(HG.out n (by omega)).trans hB
 have hgn1:=(HG.out (n+1) (by omega)).trans hB1
 have hgT:=HTM.out.gt
 refine LX.roundP (noO_ok _ _) hG pl49 (by decide +kernel) ?_
 by_cases hlt:k < ts.length
 ·have hltI:(k:Int) < (ts.length:Int):=by omega
  obtain ⟨a2,off,s1,s2,HAT0⟩:=(HT.out.mono (n':=n'+1) (g':=gL) (show n≤n'+1 by omega) fun b hb=>(HG.out b (by omega)).trans (HX.out b hb)).at hlt
  have HAT:=Hide.mk HAT0
  clear HAT0
  have hia:∀ {H:Mem} {ev:Ev} {o:Oper} {ty:TypeId},iaS Tryz.prog H ev o ty (some (none,2)) (some sv) (some (.lit (.int .i64 (k:Int))))=.val (.ptr a2 (off+k * 2)) H:=fun {H ev o ty}=>HAT.out.ia
  have han:a2 < n'+1:=HAT.out.an
  have hagg:=HAT.out.agg
  have h1s1:oneC s1=true:=HAT.out.r1.one
  have h1s2:oneC s2=true:=HAT.out.r2.one
  have hone2:allOne [s1,s2]=true:=by simp [h1s1,h1s2]
  have hvd:=HL.out.ok _ (List.getElem_mem hlt)
  unfold validB at hvd
  rw [Bool.and_eq_true,Bool.and_eq_true] at hvd
  have HIW:Hide (inW ts[k].1 I=true):=⟨hvd.1.2⟩
  clear hvd
  have HLN:=Hide.mk (HL.out.lens (List.getElem_mem hlt))
  have hw12:=HL.out.wl _ (List.getElem_mem hlt)
  have HRS:=Hide.mk (treeM_step (I:=I) hlt)
  rw [← HRK.out] at HRS
  have HEN:=Hide.mk fun (gF:Nat→Option Blk) (n3:Nat) (h1:n2≤n3) (h2:∀ b,b < n2→gF b=gL b)=>enter_w hI2' HLN.out.1 HIW.out hw12 (n'+1) n3 (n'+1+1+1) n gF (HTM.out.keep (g':=gF) h1 fun a _ h=>h2 a h) HOK.out (by omega) (by omega) ((h2 n (by omega)).trans hgn) (by omega) (SliceV.mono (Nat.le_refl _) (fun b hb=>h2 b (by omega)) HAT.out.r1) (SliceV.mono (Nat.le_refl _) (fun b hb=>h2 b (by omega)) HAT.out.r2)
  clear HAT
  generalize ts[k]=t at *
  iterate 8 all_goals try first|with_reducible refine splitI (fun h=>?_) fun h=>?_|with_reducible refine splitBI (fun h=>?_) fun h=>?_|simp (maxSteps:=999999) (disch:=first|assumption|omega|(simp;done)|fail) [Tryz.results49, *]
  refine WC.mono (HEN.out _ _ (by omega) fun b hb=>gput_lt hb) ?_
  rintro _ ⟨gF,n3,bF,BF,tF,rfl,hn4,hgF,hTMF,hOKF,hlenF⟩
  rw [← HRS.out] at hTMF hOKF hlenF
  have HTMF:=Hide.mk hTMF
  have HOKF:=Hide.mk hOKF
  have HGF:=Hide.mk hgF
  clear hTMF hOKF hgF HEN hgT hgn hgn1 hia hagg
  iterate 8 all_goals try first|with_reducible refine splitI (fun h=>?_) fun h=>?_|with_reducible refine splitBI (fun h=>?_) fun h=>?_|simp (maxSteps:=999999) (disch:=first|assumption|omega|(simp;done)|fail) [Tryz.results49, *]
  exact ih.out (ts.length - (k+1)) _ _ (by omega) ⟨k+1,n3,gF,_,bF,BF,tF,by omega,rfl,rfl,by omega,⟨fun b hb=>(HGF.out b (by omega)).trans ((gput_lt (by omega)).trans (HG.out b hb))⟩,HTMF,HOKF,by omega,⟨rfl⟩,by simp [*],by simp [*],by simp [*],by simp [*],by simp [*],by simp [*],by simp⟩
 ·have hltI:¬(k:Int) < (ts.length:Int):=by omega
  have hks:k=ts.length:=by omega
  have hrk2:rk=rowsT (valT ts) ([] :: us) I:=by rw [HRK.out,hks,List.take_length]; exact HTR.out
  have hul:([] :: us).length≤100000:=by rw [← @rowsT_len (valT ts) ([] :: us) I,← hrk2]; omega
  rw [hrk2] at HTM
  have hNU:=Hide.mk (numbered_w (V:=valT ts) (ws:=[] :: us) (O:=O) (by omega) hI2' HN.out (fun x o h=>valT_V HL.out.ok h) (fun x i o h=>(valT_in HL.out.ok h).1) rfl hul (n'+1) n2 B gL tv bk HTM.out.rb HTM.out.bl.2 (by have:=HTM.out.gb; rwa [rowsT_len] at this))
  clear hul
  iterate 8 all_goals try first|with_reducible refine splitI (fun h=>?_) fun h=>?_|with_reducible refine splitBI (fun h=>?_) fun h=>?_|simp (maxSteps:=999999) (disch:=first|assumption|omega|(simp;done)|fail) [Tryz.results49, *]
  refine WC.mono hNU.out ?_
  rintro _ ⟨gF,n3,bF,os,rfl,hn4,hgF,hBfs,hosl,hRC,hgB⟩
  obtain ⟨hos,_,hgo⟩:=bfs_end HL.out.ok HC.out HN.out hBfs
  have hRC' : RowsC gF n2 n3 I (rowsL I ts) bF:=by rw [hos] at hRC; exact hRC
  have hLn:([] :: us).length=(rowsL I ts).length:=by rw [← hosl,hos]; unfold rowsL; rw [rowsT_len]
  rw [hLn]
  have HRC:=Hide.mk hRC'
  have HGF:=Hide.mk hgF
  have hf1:gF (n+1)=some (.cells [.lit (.int .i64 0),.lit (.int .i64 0),.lit (.slice none 0 0)] true 0):=(hgF _ (by omega)).trans hgn1
  have hfn:=(hgF n (by omega)).trans hgn
  have hfT:=(hgF (n'+1+1+1) (by omega)).trans hgT
  have HGB:=Hide.mk hgB
  have HGO:=Hide.mk hgo
  clear hRC' hRC hgF hgB hgT hgn hgn1 hgo hBfs hosl hos hNU hLn HTM
  iterate 8 all_goals try first|with_reducible refine splitI (fun h=>?_) fun h=>?_|with_reducible refine splitBI (fun h=>?_) fun h=>?_|simp (maxSteps:=999999) (disch:=first|assumption|omega|(simp;done)|fail) [Tryz.results49, *]
  refine ⟨_,_,bF,_,⟨rfl,rfl,rfl⟩,by omega,fun b hb=>?_,by omega,by omega,⟨HRC.out.len,fun j h1 h2=>?_⟩,?_,HGO.out⟩
  ·rw [gput_lt (by omega),HGF.out b (by omega),HG.out b (by omega)]; exact HX.out b hb
  ·obtain ⟨e1,e2,e3,e4⟩:=HRC.out.at' j h1 h2
   exact ⟨by omega,e2,(gput_ne (by omega)).trans e3,e4⟩
  ·rw [gput_ne (by omega)]; exact HGB.out
theorem rcmp_w (a b:List Int) (hal:a.length≤1000000) (hbl:b.length≤1000000) (g:Nat→Option Blk) (n:Nat) (sa sb:AV) (ha:RepW g n a sa) (hb:RepW g n b sb) :
  WC 0 Tryz.prog 80 [sa,sb] ⟨.fn g,n⟩ fun r=>∃ z:Int,r=.ret (.lit (.int .i64 z)) ⟨.fn g,n⟩∧decide (z=0)=decide (a=b):=by
 have hla:=@lenV Tryz.prog _ _ _ _ _ ha
 have hlb:=@lenV Tryz.prog _ _ _ _ _ hb
 have HA:=Hide.mk ha
 have HB:=Hide.mk hb
 clear ha hb
 obtain ⟨ret,hret⟩ : ∃ c,c=decide (a=b):=⟨_,rfl⟩
 rw [← hret]
 have HRET:=Hide.mk hret
 clear hret
 by_cases t1:a.length < b.length
 ·have t1I:(a.length:Int) < (b.length:Int):=by omega
  have hr:ret=false:=by
   rw [HRET.out]; exact decide_eq_false fun h=>by rw [h] at t1; omega
  refine WC.enterP (noO_ok _ _) hG pl80 Tryz.func80 rfl (by decide +kernel) (Nat.le_of_ble_eq_true (by kernel_rfl)) ?_
  iterate 6 all_goals try first|with_reducible refine splitI (fun h=>?_) fun h=>?_|with_reducible refine splitBI (fun h=>?_) fun h=>?_|simp (maxSteps:=999999) (disch:=first|assumption|omega|(simp;done)|fail) [Tryz.results80, *]
 by_cases t2:b.length < a.length
 ·have t2I:(b.length:Int) < (a.length:Int):=by omega
  have t1I:¬(a.length:Int) < (b.length:Int):=by omega
  have hr:ret=false:=by
   rw [HRET.out]; exact decide_eq_false fun h=>by rw [h] at t2; omega
  refine WC.enterP (noO_ok _ _) hG pl80 Tryz.func80 rfl (by decide +kernel) (Nat.le_of_ble_eq_true (by kernel_rfl)) ?_
  iterate 6 all_goals try first|with_reducible refine splitI (fun h=>?_) fun h=>?_|with_reducible refine splitBI (fun h=>?_) fun h=>?_|simp (maxSteps:=999999) (disch:=first|assumption|omega|(simp;done)|fail) [Tryz.results80, *]
 have hL:b.length=a.length:=by omega
 have HL:=Hide.mk hL
 rw [hL] at hlb
 clear t1 t2 hL hbl
 refine WC.enterP (noO_ok _ _) hG pl80 Tryz.func80 rfl (by decide +kernel) (Nat.le_of_ble_eq_true (by kernel_rfl)) ?_
 iterate 6 all_goals try first|with_reducible refine splitI (fun h=>?_) fun h=>?_|with_reducible refine splitBI (fun h=>?_) fun h=>?_|simp (maxSteps:=999999) (disch:=first|assumption|omega|(simp;done)|fail) [Tryz.results80, *]
 refine LX.ind (fun m gf H'=>∃ (k:Nat),k≤a.length∧m=a.length - k∧H'=⟨.fn g,n⟩∧Hide (a.take k=b.take k)∧gf 0=some sa∧gf 1=some sb∧gf 5=some (.lit (.int .i64 k))) (m0:=a.length) ?_ ?_
 ·exact ⟨0,Nat.zero_le _,rfl,rfl,⟨by simp⟩,by simp,by simp,by simp⟩
 rintro m gf H' ⟨k,hk,rfl,rfl,HPRE,w0,w1,w5⟩ ih
 refine LX.roundP (noO_ok _ _) hG pl80 (by decide +kernel) ?_
 by_cases hlt:k < a.length
 ·have hltI:(k:Int) < (a.length:Int):=by omega
  have hltb:k < b.length:=by rw [HL.out]; exact hlt
  obtain ⟨a2,off,ha2,hrow,hia⟩:=SliceV.ia (P:=Tryz.prog) HA.out hlt 1
  obtain ⟨b2,ofb,hb2,hrob,hib⟩:=SliceV.ia (P:=Tryz.prog) HB.out hltb 1
  simp only [Nat.mul_one] at hia hib
  have hca:=hrow.one (k:=k) (s:=1) (by rw [wdC_len]; exact hlt)
  have hcb:=hrob.one (k:=k) (s:=1) (by rw [wdC_len]; exact hltb)
  rw [(List.getElem?_eq_some_iff.1 (wdC_at a k hlt)).2] at hca
  rw [(List.getElem?_eq_some_iff.1 (wdC_at b k hltb)).2] at hcb
  have hta:a.take (k+1)=a.take k++[a[k]]:=by rw [List.take_succ,List.getElem?_eq_getElem hlt]; rfl
  have htb:b.take (k+1)=b.take k++[b[k]]:=by rw [List.take_succ,List.getElem?_eq_getElem hltb]; rfl
  have hneq:a=b→a[k]=b[k]:=fun h=>by subst h; rfl
  have HTA:=Hide.mk hta
  have HTB:=Hide.mk htb
  have HN:=Hide.mk hneq
  clear hta htb hneq hrow hrob ha2 hb2
  generalize a[k]=u at *
  generalize b[k]=v at *
  clear hltb
  have hbad:u≠v→ret=false:=fun h=>by rw [HRET.out]; exact decide_eq_false fun e=>h (HN.out e)
  have HBAD:=Hide.mk hbad
  clear hbad
  by_cases t1:u < v
  ·have hr:=HBAD.out (by omega)
   iterate 6 all_goals try first|with_reducible refine splitI (fun h=>?_) fun h=>?_|with_reducible refine splitBI (fun h=>?_) fun h=>?_|simp (maxSteps:=999999) (disch:=first|assumption|omega|(simp;done)|fail) [Tryz.results80, *]
  by_cases t2:v < u
  ·have hr:=HBAD.out (by omega)
   iterate 6 all_goals try first|with_reducible refine splitI (fun h=>?_) fun h=>?_|with_reducible refine splitBI (fun h=>?_) fun h=>?_|simp (maxSteps:=999999) (disch:=first|assumption|omega|(simp;done)|fail) [Tryz.results80, *]
  ·have HUV:=Hide.mk (show u=v by omega)
   iterate 6 all_goals try first|with_reducible refine splitI (fun h=>?_) fun h=>?_|with_reducible refine splitBI (fun h=>?_) fun h=>?_|simp (maxSteps:=999999) (disch:=first|assumption|omega|(simp;done)|fail) [Tryz.results80, *]
   refine ih.out (a.length - (k+1)) _ _ (by omega) ⟨k+1,by omega,rfl,rfl,⟨?_⟩,by simp [*],by simp [*],by simp⟩
   rw [HTA.out,HTB.out,HPRE.out,HUV.out]
 ·have hltI:¬(k:Int) < (a.length:Int):=by omega
  have hk2:k=a.length:=by omega
  have hr:ret=true:=by
   rw [HRET.out]
   have h1:=HPRE.out
   rw [hk2,List.take_length,← HL.out,List.take_length] at h1
   exact decide_eq_true h1
  clear hk2
  iterate 6 all_goals try first|with_reducible refine splitI (fun h=>?_) fun h=>?_|with_reducible refine splitBI (fun h=>?_) fun h=>?_|simp (maxSteps:=999999) (disch:=first|assumption|omega|(simp;done)|fail) [Tryz.results80, *]
theorem rsame_w (a b:List Int) (hal:a.length≤1000000) (hbl:b.length≤1000000) (g:Nat→Option Blk) (n:Nat) (sa sb:AV) (ha:RepW g n a sa) (hb:RepW g n b sb) :
  WC 0 Tryz.prog 29 [sa,sb] ⟨.fn g,n⟩ fun r=>r=.ret (.lit (.bool (decide (a=b)))) ⟨.fn g,n⟩:=by
 have HC:=Hide.mk (rcmp_w a b hal hbl g n sa sb ha hb)
 clear ha hb
 obtain ⟨ret,hret⟩ : ∃ c,c=decide (a=b):=⟨_,rfl⟩
 rw [← hret] at HC ⊢
 clear hret
 refine WC.enterP (noO_ok _ _) hG [] Tryz.func29 rfl (by decide +kernel) (Nat.le_of_ble_eq_true (by kernel_rfl)) ?_
 iterate 6 all_goals try first|with_reducible refine splitI (fun h=>?_) fun h=>?_|with_reducible refine splitBI (fun h=>?_) fun h=>?_|simp (maxSteps:=999999) (disch:=first|assumption|omega|(simp;done)|fail) [Tryz.results29, *]
 refine WC.mono HC.out ?_
 rintro _ ⟨z,rfl,hz⟩
 cases ret with
 | true =>
  have hz1:z=0:=of_decide_eq_true hz
  clear hz
  subst hz1
  iterate 6 all_goals try first|with_reducible refine splitI (fun h=>?_) fun h=>?_|with_reducible refine splitBI (fun h=>?_) fun h=>?_|simp (maxSteps:=999999) (disch:=first|assumption|omega|(simp;done)|fail) [Tryz.results29, *]
 | false =>
  have hz1:¬z=0:=of_decide_eq_false hz
  clear hz
  iterate 6 all_goals try first|with_reducible refine splitI (fun h=>?_) fun h=>?_|with_reducible refine splitBI (fun h=>?_) fun h=>?_|simp (maxSteps:=999999) (disch:=first|assumption|omega|(simp;done)|fail) [Tryz.results29, *]
theorem rcmp2_w (a b:List Int) (hal:a.length≤1000000) (hbl:b.length≤1000000) (g:Nat→Option Blk) (n:Nat) (sa sb:AV) (ha:RepW g n a sa) (hb:RepW g n b sb) :
  WC 0 Tryz.prog 80 [sa,sb] ⟨.fn g,n⟩ fun r=>r=.ret (.lit (.int .i64 (cmpM a b))) ⟨.fn g,n⟩:=by
 have hla:=@lenV Tryz.prog _ _ _ _ _ ha
 have hlb:=@lenV Tryz.prog _ _ _ _ _ hb
 have HA:=Hide.mk ha
 have HB:=Hide.mk hb
 clear ha hb
 obtain ⟨ret,hret⟩ : ∃ c,c=cmpM a b:=⟨_,rfl⟩
 rw [← hret]
 unfold cmpM at hret
 by_cases t1:a.length < b.length
 ·have t1I:(a.length:Int) < (b.length:Int):=by omega
  have hr:ret = -1:=by rw [hret,if_pos t1]
  clear hret
  refine WC.enterP (noO_ok _ _) hG pl80 Tryz.func80 rfl (by decide +kernel) (Nat.le_of_ble_eq_true (by kernel_rfl)) ?_
  iterate 6 all_goals try first|with_reducible refine splitI (fun h=>?_) fun h=>?_|with_reducible refine splitBI (fun h=>?_) fun h=>?_|simp (maxSteps:=999999) (disch:=first|assumption|omega|(simp;done)|fail) [Tryz.results80, *]
 rw [if_neg t1] at hret
 by_cases t2:b.length < a.length
 ·have t2I:(b.length:Int) < (a.length:Int):=by omega
  have t1I:¬(a.length:Int) < (b.length:Int):=by omega
  have hr:ret=1:=by rw [hret,if_pos t2]
  clear hret
  refine WC.enterP (noO_ok _ _) hG pl80 Tryz.func80 rfl (by decide +kernel) (Nat.le_of_ble_eq_true (by kernel_rfl)) ?_
  iterate 6 all_goals try first|with_reducible refine splitI (fun h=>?_) fun h=>?_|with_reducible refine splitBI (fun h=>?_) fun h=>?_|simp (maxSteps:=999999) (disch:=first|assumption|omega|(simp;done)|fail) [Tryz.results80, *]
 rw [if_neg t2] at hret
 have hL:b.length=a.length:=by omega
 have HL:=Hide.mk hL
 have HRET:=Hide.mk hret
 rw [hL] at hlb
 clear t1 t2 hL hbl hret
 refine WC.enterP (noO_ok _ _) hG pl80 Tryz.func80 rfl (by decide +kernel) (Nat.le_of_ble_eq_true (by kernel_rfl)) ?_
 iterate 6 all_goals try first|with_reducible refine splitI (fun h=>?_) fun h=>?_|with_reducible refine splitBI (fun h=>?_) fun h=>?_|simp (maxSteps:=999999) (disch:=first|assumption|omega|(simp;done)|fail) [Tryz.results80, *]
 refine LX.ind (fun m gf H'=>∃ (k:Nat),k≤a.length∧m=a.length - k∧H'=⟨.fn g,n⟩∧Hide (ret=lexC (a.drop k) (b.drop k))∧gf 0=some sa∧gf 1=some sb∧gf 5=some (.lit (.int .i64 k))) (m0:=a.length) ?_ ?_
 ·exact ⟨0,Nat.zero_le _,rfl,rfl,HRET,by simp,by simp,by simp⟩
 rintro m gf H' ⟨k,hk,rfl,rfl,HPRE,w0,w1,w5⟩ ih
 refine LX.roundP (noO_ok _ _) hG pl80 (by decide +kernel) ?_
 by_cases hlt:k < a.length
 ·have hltI:(k:Int) < (a.length:Int):=by omega
  have hltb:k < b.length:=by rw [HL.out]; exact hlt
  obtain ⟨a2,off,ha2,hrow,hia⟩:=SliceV.ia (P:=Tryz.prog) HA.out hlt 1
  obtain ⟨b2,ofb,hb2,hrob,hib⟩:=SliceV.ia (P:=Tryz.prog) HB.out hltb 1
  simp only [Nat.mul_one] at hia hib
  have hca:=hrow.one (k:=k) (s:=1) (by rw [wdC_len]; exact hlt)
  have hcb:=hrob.one (k:=k) (s:=1) (by rw [wdC_len]; exact hltb)
  rw [(List.getElem?_eq_some_iff.1 (wdC_at a k hlt)).2] at hca
  rw [(List.getElem?_eq_some_iff.1 (wdC_at b k hltb)).2] at hcb
  have hp:=HPRE.out
  rw [List.drop_eq_getElem_cons hlt,List.drop_eq_getElem_cons hltb] at hp
  have HP:=Hide.mk hp
  clear hp HPRE hrow hrob ha2 hb2
  generalize a[k]=u at *
  generalize b[k]=v at *
  clear hltb
  by_cases t1:u < v
  ·have hr:ret = -1:=by rw [HP.out]; unfold lexC; rw [if_pos t1]
   iterate 6 all_goals try first|with_reducible refine splitI (fun h=>?_) fun h=>?_|with_reducible refine splitBI (fun h=>?_) fun h=>?_|simp (maxSteps:=999999) (disch:=first|assumption|omega|(simp;done)|fail) [Tryz.results80, *]
  by_cases t2:v < u
  ·have hr:ret=1:=by rw [HP.out]; unfold lexC; rw [if_neg t1,if_pos t2]
   iterate 6 all_goals try first|with_reducible refine splitI (fun h=>?_) fun h=>?_|with_reducible refine splitBI (fun h=>?_) fun h=>?_|simp (maxSteps:=999999) (disch:=first|assumption|omega|(simp;done)|fail) [Tryz.results80, *]
  ·have HUV:Hide (ret=lexC (a.drop (k+1)) (b.drop (k+1))):=⟨by rw [HP.out]; show (if u < v then -1 else if v < u then 1 else lexC (a.drop (k+1)) (b.drop (k+1)))=_; rw [if_neg t1,if_neg t2]⟩
   iterate 6 all_goals try first|with_reducible refine splitI (fun h=>?_) fun h=>?_|with_reducible refine splitBI (fun h=>?_) fun h=>?_|simp (maxSteps:=999999) (disch:=first|assumption|omega|(simp;done)|fail) [Tryz.results80, *]
   exact ih.out (a.length - (k+1)) _ _ (by omega) ⟨k+1,by omega,rfl,rfl,HUV,by simp [*],by simp [*],by simp⟩
 ·have hltI:¬(k:Int) < (a.length:Int):=by omega
  have hk2:k=a.length:=by omega
  have hr:ret=0:=by
   rw [HPRE.out,hk2,List.drop_length,← HL.out,List.drop_length]; rfl
  clear hk2
  iterate 6 all_goals try first|with_reducible refine splitI (fun h=>?_) fun h=>?_|with_reducible refine splitBI (fun h=>?_) fun h=>?_|simp (maxSteps:=999999) (disch:=first|assumption|omega|(simp;done)|fail) [Tryz.results80, *]
def LogX (g:Nat→Option Blk) (n:Nat) (ts:List (List Int×List Int)) (sv:AV) : Prop:=∃ cs,SliceV g n sv ts.length cs∧RowsT g n ts cs∧∀ v∈cs,CapV v
theorem LogX.mono {g g' : Nat→Option Blk} {n n' : Nat} {ts:List (List Int×List Int)} {sv:AV} (h:LogX g n ts sv) (hn:n≤n') (hg:∀ a,a < n→g' a=g a) : LogX g' n' ts sv :=
 let ⟨cs,h1,h2,h3⟩:=h; ⟨cs,h1.mono hn hg,h2.ext hn fun a x ha hx=>(hg a ha).trans hx,h3⟩
theorem LogX.at {g:Nat→Option Blk} {n:Nat} {ts:List (List Int×List Int)} {sv:AV} (h:LogX g n ts sv) {k:Nat} (hk:k < ts.length) : ∃ a off s1 s2,AtT g n sv k ts[k] a off s1 s2∧CapV s1∧CapV s2:=by
 obtain ⟨cs,h1,h2,h3⟩:=h
 obtain ⟨s1,s2,e1,e2,r1,r2⟩:=h2.2 k hk
 obtain ⟨a,off,ha,hrow,hia⟩:=SliceV.ia (P:=Tryz.prog) h1 hk 2
 have hl:=h2.1
 refine ⟨a,off,s1,s2,⟨ha,hia,?_,?_,?_,r1,r2⟩,h3 _ (List.mem_of_getElem? e1),h3 _ (List.mem_of_getElem? e2)⟩
 ·rw [hrow.agg (k:=k * 2) (s:=2) (by omega),drop2 e1 e2]
 ·have:=hrow.one (k:=k * 2) (s:=1) (by omega)
  rwa [(List.getElem?_eq_some_iff.1 e1).2] at this
 ·have:=hrow.one (k:=k * 2+1) (s:=1) (by omega)
  rw [(List.getElem?_eq_some_iff.1 e2).2] at this
  rw [Nat.add_assoc]; exact this
theorem RowsW.snoc {g:Nat→Option Blk} {n:Nat} {l:List (List Int)} {svs:List AV} (h:RowsW g n l svs) {x:List Int} {q:AV} (hq:RepW g n x q) : RowsW g n (l++[x]) (svs++[q]):=by
 refine ⟨by simp [h.1],fun k hk=>?_⟩
 have hl:=h.1
 rw [List.length_append,List.length_singleton] at hk
 by_cases h2:k < l.length
 ·obtain ⟨sv,e1,e2⟩:=h.2 k h2
  exact ⟨sv,by rw [List.getElem?_append_left (by omega)]; exact e1,by rw [List.getElem_append_left h2]; exact e2⟩
 ·have e:k=l.length:=by omega
  subst e
  exact ⟨q,by rw [← hl,List.getElem?_append_right (Nat.le_refl _)]; simp,by rw [List.getElem_append_right (Nat.le_refl _)]; simpa using hq⟩
def RowsG (g:Nat→Option Blk) (n:Nat) (rows:List (List (Int×Int))) (svs:List AV) : Prop:=svs.length=rows.length∧∀ (k:Nat) (h:k < rows.length),∃ sv,svs[k]?=some sv∧SliceV g n sv rows[k].length (rowC rows[k])
def TreeV (g:Nat→Option Blk) (n:Nat) (rows:List (List (Int×Int))) (tv:AV) : Prop:=∃ svs,SliceV g n tv rows.length svs∧RowsG g n rows svs
theorem RowsG.snoc {g:Nat→Option Blk} {n:Nat} {l:List (List (Int×Int))} {svs:List AV} (h:RowsG g n l svs) {x:List (Int×Int)} {q:AV} (hq:SliceV g n q x.length (rowC x)) : RowsG g n (l++[x]) (svs++[q]):=by
 refine ⟨by simp [h.1],fun k hk=>?_⟩
 have hl:=h.1
 rw [List.length_append,List.length_singleton] at hk
 by_cases h2:k < l.length
 ·obtain ⟨sv,e1,e2⟩:=h.2 k h2
  exact ⟨sv,by rw [List.getElem?_append_left (by omega)]; exact e1,by rw [List.getElem_append_left h2]; exact e2⟩
 ·have e:k=l.length:=by omega
  subst e
  exact ⟨q,by rw [← hl,List.getElem?_append_right (Nat.le_refl _)]; simp,by rw [List.getElem_append_right (Nat.le_refl _)]; simpa using hq⟩
theorem RowsG.ext {g g' : Nat→Option Blk} {n n' : Nat} {l:List (List (Int×Int))} {svs:List AV} (h:RowsG g n l svs) (hn:n≤n') (hg:∀ a x,a < n→g a=some x→g' a=some x) : RowsG g' n' l svs :=
 ⟨h.1,fun k hk=>let ⟨sv,h1,h2⟩:=h.2 k hk; ⟨sv,h1,SliceV.ext hn hg h2⟩⟩
theorem TreeV.mono {g g' : Nat→Option Blk} {n n' : Nat} {rows:List (List (Int×Int))} {tv:AV} (h:TreeV g n rows tv) (hn:n≤n') (hg:∀ a,a < n→g' a=g a) : TreeV g' n' rows tv :=
 let ⟨svs,h1,h2⟩:=h; ⟨svs,h1.mono hn hg,h2.ext hn fun a x ha hx=>(hg a ha).trans hx⟩
theorem RowsC.tree {g:Nat→Option Blk} {lo n I B:Nat} {rows:List (List (Int×Int))} {bs:List Nat} (h:RowsC g lo n I rows bs) (hB:B < n) (hg:g B=some (.cells (rowS I bs) true 0)) : TreeV g n rows (.sl B 0 rows.length rows.length):=by
 refine ⟨rowS I bs,sliceV_all hg hB,by rw [rowS_len]; exact h.len,fun k hk=>?_⟩
 have hk2:k < bs.length:=by have:=h.len; omega
 obtain ⟨e1,e2,e3,e4⟩:=h.at' k hk2 hk
 refine ⟨.sl bs[k] 0 I I,by rw [List.getElem?_eq_getElem (by rw [rowS_len]; exact hk2),rowS_at hk2],?_⟩
 rw [e4]
 exact sliceV_all e3 e2
theorem TreeV.at {g:Nat→Option Blk} {n:Nat} {rows:List (List (Int×Int))} {tv:AV} (h:TreeV g n rows tv) {k:Nat} (hk:k < rows.length) : ∃ a off q,a < n∧(∀ {H:Mem} {ev:Ev} {o:Oper} {t:TypeId},iaS Tryz.prog H ev o t (some (none,1)) (some tv) (some (.lit (.int .i64 (k:Int))))=.val (.ptr a (off+k)) H)∧loadB (some (false,1)) (g a) (off+k)=some q∧SliceV g n q rows[k].length (rowC rows[k]):=by
 obtain ⟨svs,h1,h2,h3⟩:=h
 obtain ⟨q,e1,e2⟩:=h3 k hk
 obtain ⟨a,off,ha,hrow,hia⟩:=h1.ia (P:=Tryz.prog) hk 1
 simp only [Nat.mul_one] at hia
 have hc:=hrow.one (k:=k) (s:=1) (by omega)
 rw [(List.getElem?_eq_some_iff.1 e1).2] at hc
 exact ⟨a,off,q,ha,hia,hc,e2⟩
theorem edge_at {g:Nat→Option Blk} {n:Nat} {row:List (Int×Int)} {q:AV} (h:SliceV g n q row.length (rowC row)) {i:Nat} (hi:i < row.length) : ∃ a off,a < n∧(∀ {H:Mem} {ev:Ev} {o:Oper} {t:TypeId},iaS Tryz.prog H ev o t (some (none,2)) (some q) (some (.lit (.int .i64 (i:Int))))=.val (.ptr a (off+i * 2)) H)∧loadB (some (true,2)) (g a) (off+i * 2)=some (.agg [.lit (.int .i64 row[i].1),.lit (.int .i64 row[i].2)]):=by
 obtain ⟨a,off,ha,hrow,hia⟩:=h.ia (P:=Tryz.prog) hi 2
 have hc:=hrow.agg (k:=i * 2) (s:=2) (by rw [rowC_len]; omega)
 rw [rowC_at row i hi] at hc
 exact ⟨a,off,ha,hia,hc⟩
def fromG (x:Nat) (g:Nat→Option Blk) : Nat→Option Blk:=fun a=>if a < x then none else g a
theorem fromG_ne {x a:Nat} {g:Nat→Option Blk} (h:x≤a) : fromG x g a=g a:=if_neg (by omega)
theorem fromG_in {x a:Nat} {g:Nat→Option Blk} {u:Blk} (h:fromG x g a=some u) : x≤a∧g a=some u:=by
 unfold fromG at h; split at h
 ·cases h
 ·exact ⟨by omega,h⟩
end Go.Ai
end
