/- A small verified interpreter over names, its proofs, and what was proved with it. No condition. -/
import Derived.Test.YtpimmmnkcgnjjaaGreatP08
set_option linter.all false
set_option linter.deprecated false
section
namespace Go.Ai
set_option maxRecDepth 10000
def Srt2 (ws:List (List Int)) : Prop:=∀ (a b:Nat) (ha:a < ws.length) (hb:b < ws.length),a < b→SL ws[a] ws[b]
theorem Srt2.nodup {ws:List (List Int)} (h:Srt2 ws) : ws.Nodup :=
 List.pairwise_iff_getElem.2 fun i j hi hj hij e=>by
  have h1:=h i j hi hj hij
  rw [e] at h1
  exact SL.irrefl h1
theorem Srt2.snoc {ws:List (List Int)} (h:Srt2 ws) {x:List Int} (hx:∀ w∈ws,SL w x) : Srt2 (ws++[x]):=by
 intro a b ha hb hab
 rw [List.length_append,List.length_singleton] at ha hb
 by_cases hb2:b < ws.length
 ·rw [List.getElem_append_left (by omega),List.getElem_append_left hb2]
  exact h a b (by omega) hb2 hab
 ·have e:b=ws.length:=by omega
  subst e
  rw [List.getElem_append_left (by omega),List.getElem_append_right (Nat.le_refl _)]
  simp
  exact hx _ (List.getElem_mem _)
def chL (V:List Int→Option Int) (w:List Int) : List Nat→List (List Int)
 | []=>[]
 | i :: l=>match V (w++[(i:Int)]) with
  | none=>chL V w l
  | some o=>if o = -1 then chL V w l else (w++[(i:Int)]) :: chL V w l
theorem chL_mem {V:List Int→Option Int} {w x:List Int} : ∀ {l:List Nat},x∈chL V w l↔∃ i∈l,x=w++[(i:Int)]∧∃ o,V x=some o∧o ≠ -1
 | []=>by simp [chL]
 | i :: l=>by
  have ih:=@chL_mem V w x l
  unfold chL
  cases h:V (w++[(i:Int)]) with
  | none =>
   dsimp only
   rw [ih]
   constructor
   ·rintro ⟨j,h1,h2⟩; exact ⟨j,by simp [h1],h2⟩
   ·rintro ⟨j,h1,h2,o,h3,h4⟩
    rcases List.mem_cons.1 h1 with rfl | h1
    ·rw [h2,h] at h3; cases h3
    ·exact ⟨j,h1,h2,o,h3,h4⟩
  | some o =>
   dsimp only
   by_cases ho:o = -1
   ·rw [if_pos ho,ih]
    constructor
    ·rintro ⟨j,h1,h2⟩; exact ⟨j,by simp [h1],h2⟩
    ·rintro ⟨j,h1,h2,o',h3,h4⟩
     rcases List.mem_cons.1 h1 with rfl | h1
     ·rw [h2,h] at h3; cases h3; exact absurd ho h4
     ·exact ⟨j,h1,h2,o',h3,h4⟩
   ·rw [if_neg ho,List.mem_cons,ih]
    constructor
    ·rintro (rfl | ⟨j,h1,h2⟩)
     ·exact ⟨i,by simp,rfl,o,h,ho⟩
     ·exact ⟨j,by simp [h1],h2⟩
    ·rintro ⟨j,h1,h2,h3⟩
     rcases List.mem_cons.1 h1 with rfl | h1
     ·exact .inl h2
     ·exact .inr ⟨j,h1,h2,h3⟩
def numE:Nat→List (Int×Int)→List (Int×Int)
 | _,[]=>[]
 | k,e :: es=>if e.1 = -1 then e :: numE k es else ((k:Int),e.2) :: numE (k+1) es
theorem numE_row {V:List Int→Option Int} {ws:List (List Int)} {w:List Int} : ∀ (l:List Nat) (os:List (List Int)),l.Nodup→(∀ i∈l,w++[(i:Int)] ∉ os)→numE os.length (l.map (entT V ws w))=l.map (entT V (os++chL V w l) w)
 | [],_,_,_=>rfl
 | i :: l,os,hn,hos=>by
  have hn':=List.nodup_cons.1 hn
  rw [List.map_cons,List.map_cons]
  unfold chL
  cases h:V (w++[(i:Int)]) with
  | none =>
   have e1:∀ us,entT V us w i=(-1,-1):=fun us=>by unfold entT; rw [h]
   rw [e1,e1]
   show (-1,-1) :: numE os.length (l.map (entT V ws w))=_
   rw [numE_row l os hn'.2 fun j hj=>hos j (by simp [hj])]
  | some o =>
   dsimp only
   by_cases ho:o = -1
   ·rw [if_pos ho]
    have e1:∀ us,entT V us w i=(-1,-2):=fun us=>by unfold entT; rw [h]; exact if_pos ho
    rw [e1,e1]
    show (-1,-2) :: numE os.length (l.map (entT V ws w))=_
    rw [numE_row l os hn'.2 fun j hj=>hos j (by simp [hj])]
   ·rw [if_neg ho]
    have e1:∀ us,entT V us w i=(((us.idxOf (w++[(i:Int)]) : Nat) : Int),o):=fun us=>by unfold entT; rw [h]; exact if_neg ho
    rw [e1,e1]
    have e2:(os++(w++[(i:Int)]) :: chL V w l).idxOf (w++[(i:Int)])=os.length:=by
     rw [List.idxOf_append,if_neg (hos i (by simp))]; simp
    rw [e2]
    have e3:numE os.length ((((ws.idxOf (w++[(i:Int)]) : Nat) : Int),o) :: l.map (entT V ws w))=((os.length:Int),o) :: numE (os.length+1) (l.map (entT V ws w)):=by
     rw [numE,if_neg (by show ¬((ws.idxOf _:Nat) : Int) = -1; omega)]
    rw [e3]
    have ih:=numE_row (V:=V) (ws:=ws) (w:=w) l (os++[w++[(i:Int)]]) hn'.2 fun j hj hm=>by
     rcases List.mem_append.1 hm with h1 | h1
     ·exact hos j (by simp [hj]) h1
     ·have:=(snoc_inj (List.mem_singleton.1 h1)).2
      have e:j=i:=by omega
      exact hn'.1 (e ▸ hj)
    rw [List.length_append,List.length_singleton] at ih
    rw [ih,List.append_assoc]
    rfl
theorem goE_num {O:Int} {V:List Int→Option Int} {ws:List (List Int)} {w:List Int} (hV:∀ x o,V x=some o→o ≠ -1→0≤o∧o < O) : ∀ (l:List Nat) (k:Nat),goE O (numE k (l.map (entT V ws w))) k=some (k+(chL V w l).length)
 | [],_=>rfl
 | i :: l,k=>by
  rw [List.map_cons]
  unfold chL
  cases h:V (w++[(i:Int)]) with
  | none =>
   have e1:entT V ws w i=(-1,-1):=by unfold entT; rw [h]
   rw [e1]
   show goE O ((-1,-1) :: numE k (l.map (entT V ws w))) k=_
   exact goE_num hV l k
  | some o =>
   dsimp only
   by_cases ho:o = -1
   ·rw [if_pos ho]
    have e1:entT V ws w i=(-1,-2):=by unfold entT; rw [h]; exact if_pos ho
    rw [e1]
    show goE O ((-1,-2) :: numE k (l.map (entT V ws w))) k=_
    exact goE_num hV l k
   ·rw [if_neg ho]
    have e1:entT V ws w i=(((ws.idxOf (w++[(i:Int)]) : Nat) : Int),o):=by unfold entT; rw [h]; exact if_neg ho
    rw [e1]
    have e3:numE k ((((ws.idxOf (w++[(i:Int)]) : Nat) : Int),o) :: l.map (entT V ws w))=((k:Int),o) :: numE (k+1) (l.map (entT V ws w)):=by
     rw [numE,if_neg (by show ¬((ws.idxOf _:Nat) : Int) = -1; omega)]
    rw [e3]
    have hb:=hV _ _ h ho
    have e4:edOK O k ((k:Int),o)=some (k+1):=by
     unfold edOK
     rw [if_neg (fun h=>by have:=h.1; dsimp only at this; omega),if_pos ⟨rfl,hb⟩]
    show (match edOK O k ((k:Int),o) with | none=>none | some nx=>goE O (numE (k+1) (l.map (entT V ws w))) nx)=_
    rw [e4]
    dsimp only
    rw [goE_num hV l (k+1),List.length_cons]
    congr 1; omega
theorem goT_snoc {I O:Int} {r:List (Int×Int)} : ∀ (l:List (List (Int×Int))) (n nx k k' : Nat),goT I O l n nx=some k→(r.length:Int)=I→n+l.length < k→goE O r k=some k'→goT I O (l++[r]) n nx=some k'
 | [],n,nx,k,k',h,h1,h2,h3=>by
  have e:nx=k:=Option.some.inj h
  subst e
  show (if (r.length:Int)=I∧n < nx then (match goE O r nx with | none=>none | some q=>goT I O [] (n+1) q) else none)=_
  rw [if_pos ⟨h1,by simpa using h2⟩,h3]
  rfl
 | a :: l,n,nx,k,k',h,h1,h2,h3=>by
  have h' : (if (a.length:Int)=I∧n < nx then (match goE O a nx with | none=>none | some q=>goT I O l (n+1) q) else none)=some k:=h
  show (if (a.length:Int)=I∧n < nx then (match goE O a nx with | none=>none | some q=>goT I O (l++[r]) (n+1) q) else none)=_
  split at h'
  ·rename_i hc
   rw [if_pos hc]
   cases hq:goE O a nx with
   | none=>rw [hq] at h'; cases h'
   | some q =>
    rw [hq] at h'
    exact goT_snoc l (n+1) q k k' h' h1 (by rw [List.length_cons] at h2; omega) h3
  ·cases h'
structure Bfs (V:List Int→Option Int) (ws:List (List Int)) (I:Nat) (O:Int) (n:Nat) (os:List (List Int)) : Prop where
 srt:Srt2 os
 sub:∀ x∈os,x∈ws
 le:n≤os.length
 hd:os[0]?=some []
 ch:∀ (m:Nat) (h:m < os.length),m < n→∀ x∈chL V os[m] (List.range I),x∈os
 par:∀ x∈os,x=[]∨∃ (m:Nat) (h:m < os.length),m < n∧∃ i:Int,x=os[m]++[i]
 go:goT I O ((os.take n).map (rowW V os I)) 0 1=some os.length
theorem Bfs.zero {V:List Int→Option Int} {ws:List (List Int)} {I:Nat} {O:Int} (h:[]∈ws) : Bfs V ws I O 0 [[]] :=
 ⟨fun a b ha hb hab=>by simp at ha hb; omega,fun x hx=>by rw [List.mem_singleton] at hx; rw [hx]; exact h,by simp,rfl,fun m h hm=>by omega,fun x hx=>.inl (List.mem_singleton.1 hx),rfl⟩
theorem chL_asc {V:List Int→Option Int} {w:List Int} : ∀ (l:List Nat) (os:List (List Int)),Srt2 os→l.Pairwise (· < ·)→(∀ x∈os,∀ i∈l,SL x (w++[(i:Int)]))→Srt2 (os++chL V w l)
 | [],os,h,_,_=>by unfold chL; rw [List.append_nil]; exact h
 | i :: l,os,h,hp,hx=>by
  have hp':=List.pairwise_cons.1 hp
  unfold chL
  cases hv:V (w++[(i:Int)]) with
  | none=>exact chL_asc l os h hp'.2 fun x hx' j hj=>hx x hx' j (by simp [hj])
  | some o =>
   dsimp only
   split
   ·exact chL_asc l os h hp'.2 fun x hx' j hj=>hx x hx' j (by simp [hj])
   ·have h1:=chL_asc (V:=V) (w:=w) l (os++[w++[(i:Int)]]) (h.snoc fun x hx'=>hx x hx' i (by simp)) hp'.2 fun x hx' j hj=>by
     rcases List.mem_append.1 hx' with h2 | h2
     ·exact hx x h2 j (by simp [hj])
     ·rw [List.mem_singleton.1 h2]
      exact SL.last w (by have:=hp'.1 j hj; omega)
    rwa [List.append_assoc] at h1
theorem row_sub {V:List Int→Option Int} {os us:List (List Int)} {I:Nat} {w:List Int} (h:∀ x∈chL V w (List.range I),x∈os) : rowW V (os++us) I w=rowW V os I w:=by
 unfold rowW
 apply List.map_congr_left
 intro i hi
 unfold entT
 cases hv:V (w++[(i:Int)]) with
 | none=>rfl
 | some o =>
  dsimp only
  split
  ·rfl
  ·rename_i ho
   rw [idx_app (h _ (chL_mem.2 ⟨i,hi,rfl,o,hv,ho⟩))]
theorem Bfs.step {V:List Int→Option Int} {ws:List (List Int)} {I:Nat} {O:Int} {n:Nat} {os:List (List Int)} (h:Bfs V ws I O n os) (hN:Nod V ws) (hV:∀ x o,V x=some o→o ≠ -1→0≤o∧o < O) (hn:n < os.length) :
  Bfs V ws I O (n+1) (os++chL V os[n] (List.range I))∧numE os.length (rowW V ws I os[n])=rowW V (os++chL V os[n] (List.range I)) I os[n]:=by
 have hgt:∀ x∈os,∀ i∈List.range I,SL x (os[n]++[(i:Int)]):=fun x hx i _=>by
  rcases h.par x hx with rfl | ⟨m,hm,hmn,j,rfl⟩
  ·exact SL.nil _ _
  ·exact (h.srt m n hm hn hmn).app j i
 have hnot:∀ i∈List.range I,os[n]++[(i:Int)] ∉ os:=fun i hi hm=>SL.irrefl (hgt _ hm i hi)
 have hnum:=numE_row (V:=V) (ws:=ws) (w:=os[n]) (List.range I) os List.nodup_range hnot
 have hnum' : numE os.length (rowW V ws I os[n])=rowW V (os++chL V os[n] (List.range I)) I os[n]:=hnum
 refine ⟨⟨chL_asc _ _ h.srt List.pairwise_lt_range hgt,fun x hx=>?_,?_,?_,fun m hm hmn x hx=>?_,fun x hx=>?_,?_⟩,hnum⟩
 ·rcases List.mem_append.1 hx with h1 | h1
  ·exact h.sub x h1
  ·obtain ⟨i,_,_,o,h2,h3⟩:=chL_mem.1 h1
   exact (hN.mem x).2 (.inr ⟨o,h2,h3⟩)
 ·rw [List.length_append]; omega
 ·rw [List.getElem?_append_left (by omega)]; exact h.hd
 ·rw [List.mem_append]
  by_cases hmn2:m < n
  ·rw [List.getElem_append_left (by omega)] at hx
   exact .inl (h.ch m (by omega) hmn2 x hx)
  ·have e:m=n:=by omega
   subst e
   rw [List.getElem_append_left hn] at hx
   exact .inr hx
 ·rcases List.mem_append.1 hx with h1 | h1
  ·rcases h.par x h1 with h2 | ⟨m,hm,hmn,j,h2⟩
   ·exact .inl h2
   ·exact .inr ⟨m,by rw [List.length_append]; omega,by omega,j,by rw [List.getElem_append_left hm]; exact h2⟩
  ·obtain ⟨i,_,h2,_⟩:=chL_mem.1 h1
   exact .inr ⟨n,by rw [List.length_append]; omega,by omega,i,by rw [List.getElem_append_left hn]; exact h2⟩
 ·have e1:(os++chL V os[n] (List.range I)).take (n+1)=os.take n++[os[n]]:=by
   rw [List.take_append_of_le_length (by omega)]; exact take_snoc hn
  have e2:(os.take n).map (rowW V (os++chL V os[n] (List.range I)) I)=(os.take n).map (rowW V os I):=by
   apply List.map_congr_left
   intro w hw
   obtain ⟨m,hm,rfl⟩:=List.mem_iff_getElem.1 hw
   rw [List.length_take] at hm
   rw [List.getElem_take]
   exact row_sub fun x hx=>h.ch m (by omega) (by omega) x hx
  rw [e1,List.map_append,e2,List.map_singleton,← hnum']
  refine goT_snoc _ 0 1 os.length _ h.go ?_ ?_ ?_
  ·rw [hnum',rowW_len]
  ·rw [List.length_map,List.length_take]; omega
  ·rw [List.length_append]; exact goE_num hV _ _
theorem Bfs.rows {V:List Int→Option Int} {ws:List (List Int)} {I:Nat} {O:Int} {n:Nat} {os:List (List Int)} (h:Bfs V ws I O n os) (us:List (List Int)) : (os.take n).map (rowW V (os++us) I)=(os.take n).map (rowW V os I):=by
 apply List.map_congr_left
 intro w hw
 obtain ⟨m,hm,rfl⟩:=List.mem_iff_getElem.1 hw
 rw [List.length_take] at hm
 rw [List.getElem_take]
 exact row_sub fun x hx=>h.ch m (by omega) (by omega) x hx
theorem nodup_len:∀ {a b:List (List Int)},a.Nodup→(∀ x∈a,x∈b)→a.length≤b.length
 | [],b,_,_=>Nat.zero_le _
 | x :: a,b,hn,hs=>by
  have hn':=List.nodup_cons.1 hn
  have hx:=hs x (by simp)
  have h1:=@nodup_len a (b.erase x) hn'.2 fun y hy=>(List.mem_erase_of_ne (fun e=>hn'.1 (by rw [← e]; exact hy))).2 (hs y (by simp [hy]))
  rw [List.length_erase_of_mem hx] at h1
  have:0 < b.length:=List.length_pos_of_mem hx
  rw [List.length_cons]; omega
theorem Bfs.len {V:List Int→Option Int} {ws:List (List Int)} {I:Nat} {O:Int} {n:Nat} {os:List (List Int)} (h:Bfs V ws I O n os) : os.length≤ws.length:=nodup_len h.srt.nodup h.sub
theorem Bfs.done {V:List Int→Option Int} {ws:List (List Int)} {I:Nat} {O:Int} {os:List (List Int)} (h:Bfs V ws I O os.length os) (hN:Nod V ws) (hI:∀ (x:List Int) (i o:Int),V (x++[i])=some o→0≤i∧i < (I:Int)) : Nod V os:=by
 have hall:∀ (k:Nat) (x:List Int),x.length=k→x∈ws→x∈os:=by
  intro k
  induction k with
  | zero =>
   intro x hx _
   rw [List.length_eq_zero_iff.1 hx]
   exact List.mem_of_getElem? h.hd
  | succ k ih =>
   intro x hx hm
   have hne:x≠[]:=fun e=>by rw [e] at hx; cases hx
   have e:=List.dropLast_concat_getLast hne
   have hd:x.dropLast∈os:=ih x.dropLast (by rw [List.length_dropLast]; omega) (hN.up (by rw [e]; exact hm))
   obtain ⟨m,hm2,hm3⟩:=List.mem_iff_getElem.1 hd
   rcases (hN.mem x).1 hm with h1 | ⟨o,h1,h2⟩
   ·exact absurd h1 hne
   ·have h3:=hI x.dropLast (x.getLast hne) o (by rw [e]; exact h1)
    refine h.ch m hm2 hm2 x (chL_mem.2 ⟨(x.getLast hne).toNat,?_,?_,o,h1,h2⟩)
    ·rw [List.mem_range]; omega
    ·rw [hm3,Int.toNat_of_nonneg h3.1]; exact e.symm
 refine ⟨h.srt.nodup,fun w=>?_,hN.clo⟩
 rw [← hN.mem w]
 exact ⟨h.sub w,hall _ w rfl⟩
theorem srt_eq:∀ {a b:List (List Int)},Srt2 a→Srt2 b→(∀ x,x∈a↔x∈b)→a=b
 | [],[],_,_,_=>rfl
 | [],y :: b,_,_,h=>by have:=(h y).2 (by simp); cases this
 | x :: a,[],_,_,h=>by have:=(h x).1 (by simp); cases this
 | x :: a,y :: b,ha,hb,h=>by
  have hxa:∀ z∈a,SL x z:=fun z hz=>by
   obtain ⟨i,hi,rfl⟩:=List.mem_iff_getElem.1 hz
   exact ha 0 (i+1) (by simp) (by simpa using hi) (by omega)
  have hyb:∀ z∈b,SL y z:=fun z hz=>by
   obtain ⟨i,hi,rfl⟩:=List.mem_iff_getElem.1 hz
   exact hb 0 (i+1) (by simp) (by simpa using hi) (by omega)
  have e:x=y:=by
   rcases List.mem_cons.1 ((h x).1 (by simp)) with h1 | h1
   ·exact h1
   ·rcases List.mem_cons.1 ((h y).2 (by simp)) with h2 | h2
    ·exact h2.symm
    ·exact absurd ((hyb x h1).trans (hxa y h2)) SL.irrefl
  subst e
  have ta:Srt2 a:=fun i j hi hj hij=>ha (i+1) (j+1) (by simpa using hi) (by simpa using hj) (by omega)
  have tb:Srt2 b:=fun i j hi hj hij=>hb (i+1) (j+1) (by simpa using hi) (by simpa using hj) (by omega)
  rw [srt_eq ta tb fun z=>?_]
  constructor
  ·intro hz
   rcases List.mem_cons.1 ((h z).1 (by simp [hz])) with h1 | h1
   ·subst h1; exact absurd (hxa z hz) SL.irrefl
   ·exact h1
  ·intro hz
   rcases List.mem_cons.1 ((h z).2 (by simp [hz])) with h1 | h1
   ·subst h1; exact absurd (hyb z hz) SL.irrefl
   ·exact h1
end Go.Ai
end
section
namespace Go.Ai
set_option maxRecDepth 10000
theorem lexC_zero:∀ {a b:List Int},a.length=b.length→lexC a b=0→a=b
 | [],[],_,_=>rfl
 | [],_ :: _,h,_=>by simp at h
 | _ :: _,[],h,_=>by simp at h
 | x :: a,y :: b,hl,h=>by
  unfold lexC at h
  by_cases h1:x < y
  ·rw [if_pos h1] at h; omega
  ·rw [if_neg h1] at h
   by_cases h2:y < x
   ·rw [if_pos h2] at h; omega
   ·rw [if_neg h2] at h
    rw [lexC_zero (by simpa using hl) h,show x=y by omega]
theorem lexC_pos:∀ {a b:List Int},a.length=b.length→0 < lexC a b→LL b a
 | [],[],_,h=>by unfold lexC at h; omega
 | [],_ :: _,h,_=>by simp at h
 | _ :: _,[],h,_=>by simp at h
 | x :: a,y :: b,hl,h=>by
  unfold lexC at h
  by_cases h1:x < y
  ·rw [if_pos h1] at h; omega
  ·rw [if_neg h1] at h
   by_cases h2:y < x
   ·exact .inl h2
   ·rw [if_neg h2] at h
    exact .inr ⟨by omega,lexC_pos (by simpa using hl) h⟩
theorem cmpM_zero {a b:List Int} (h:cmpM a b=0) : a=b:=by
 unfold cmpM at h
 split at h
 ·omega
 ·split at h
  ·omega
  ·exact lexC_zero (by omega) h
theorem cmpM_pos {a b:List Int} (h:0 < cmpM a b) : SL b a:=by
 unfold cmpM at h
 split at h
 ·omega
 ·split at h
  ·rename_i h2; exact .inl h2
  ·exact .inr ⟨by omega,lexC_pos (by omega) h⟩
def insW (w:List Int) : List (List Int)→List (List Int)
 | []=>[w]
 | x :: l=>if cmpM w x < 0 then w :: x :: l else if cmpM w x=0 then x :: l else x :: insW w l
theorem insW_mem {w:List Int} : ∀ {l:List (List Int)} {x:List Int},x∈insW w l↔x=w∨x∈l
 | [],x=>by simp [insW]
 | y :: l,x=>by
  have ih:=@insW_mem w l x
  unfold insW
  split
  ·rw [List.mem_cons]
  ·split
   ·rename_i h
    rw [cmpM_zero h]
    constructor
    ·intro h; exact .inr h
    ·rintro (rfl | h)
     ·simp
     ·exact h
   ·rw [List.mem_cons,ih,List.mem_cons]
    constructor
    ·rintro (h | h | h)
     ·exact .inr (.inl h)
     ·exact .inl h
     ·exact .inr (.inr h)
    ·rintro (h | h | h)
     ·exact .inr (.inl h)
     ·exact .inl h
     ·exact .inr (.inr h)
theorem srt_cons {x:List Int} {l:List (List Int)} : Srt2 (x :: l)↔(∀ y∈l,SL x y)∧Srt2 l:=by
 constructor
 ·intro h
  refine ⟨fun y hy=>?_,fun a b ha hb hab=>h (a+1) (b+1) (by simpa using ha) (by simpa using hb) (by omega)⟩
  obtain ⟨i,hi,rfl⟩:=List.mem_iff_getElem.1 hy
  exact h 0 (i+1) (by simp) (by simpa using hi) (by omega)
 ·rintro ⟨h1,h2⟩ a b ha hb hab
  cases b with
  | zero=>omega
  | succ b =>
   cases a with
   | zero=>exact h1 _ (List.getElem_mem _)
   | succ a=>exact h2 a b (by simpa using ha) (by simpa using hb) (by omega)
theorem insW_srt {w:List Int} : ∀ {l:List (List Int)},Srt2 l→Srt2 (insW w l)
 | [],_=>fun a b ha hb hab=>by simp [insW] at ha hb; omega
 | y :: l,h=>by
  obtain ⟨h1,h2⟩:=srt_cons.1 h
  unfold insW
  split
  ·rename_i h3
   refine srt_cons.2 ⟨fun z hz=>?_,h⟩
   rcases List.mem_cons.1 hz with rfl | hz
   ·exact cmpM_SL.1 h3
   ·exact (cmpM_SL.1 h3).trans (h1 z hz)
  ·split
   ·exact h
   ·refine srt_cons.2 ⟨fun z hz=>?_,insW_srt h2⟩
    rcases insW_mem.1 hz with rfl | hz
    ·exact cmpM_pos (by omega)
    ·exact h1 z hz
def nodW:List (List Int)→List Int→List Int→List Int→List (List Int)
 | out,p,i :: w,o :: r=>if o = -1 then out else nodW (insW (p++[i]) out) (p++[i]) w r
 | out,_,_,_=>out
theorem nodW_srt:∀ (w r:List Int) (out:List (List Int)) (p:List Int),Srt2 out→Srt2 (nodW out p w r)
 | [],_,_,_,h=>h
 | _ :: _,[],_,_,h=>h
 | i :: w,o :: r,out,p,h=>by
  unfold nodW
  split
  ·exact h
  ·exact nodW_srt w r _ _ (insW_srt h)
theorem nodW_mem {O:Int} : ∀ (w r:List Int) (out:List (List Int)) (p x:List Int),r.length=w.length→okR O false r=true→(x∈nodW out p w r↔x∈out∨∃ k,k < w.length∧r.getD k 0 ≠ -1∧x=p++w.take (k+1))
 | [],_,_,_,_,_,_=>⟨fun h=>.inl h,fun h=>h.elim id fun ⟨k,h1,_⟩=>by cases h1⟩
 | _ :: _,[],_,_,_,h,_=>by cases h
 | i :: w,o :: r,out,p,x,hl,hr=>by
  obtain ⟨_,_,_,h4⟩:=okR_inv hr
  unfold nodW
  by_cases ho:o = -1
  ·rw [if_pos ho]
   rw [decide_eq_true ho] at h4
   constructor
   ·intro h; exact .inl h
   ·rintro (h | ⟨k,h1,h2,_⟩)
    ·exact h
    ·cases k with
     | zero=>exact absurd ho h2
     | succ k=>exact absurd (okR_all r k h4 (by rw [List.length_cons,List.length_cons] at hl; rw [List.length_cons] at h1; omega)) h2
  ·rw [if_neg ho,nodW_mem w r _ _ x (by simpa using hl) (by rw [decide_eq_false ho] at h4; exact h4),insW_mem]
   constructor
   ·rintro ((h | h) | ⟨k,h1,h2,h3⟩)
    ·exact .inr ⟨0,by simp,ho,by rw [take_cons_app,List.take_zero,List.append_nil]; exact h⟩
    ·exact .inl h
    ·exact .inr ⟨k+1,by simpa using h1,h2,by rw [take_cons_app]; exact h3⟩
   ·rintro (h | ⟨k,h1,h2,h3⟩)
    ·exact .inl (.inr h)
    ·cases k with
     | zero=>rw [take_cons_app,List.take_zero,List.append_nil] at h3; exact .inl (.inl h3)
     | succ k=>exact .inr ⟨k,by simpa using h1,h2,by rw [take_cons_app] at h3; exact h3⟩
def nodesM (ts:List (List Int×List Int)) : List (List Int):=ts.foldl (fun out t=>nodW out [] t.1 t.2) [[]]
theorem nodesM_ok {I O:Int} {ts:List (List Int×List Int)} (hv:∀ t∈ts,validB I O t=true) : Srt2 (nodesM ts)∧∀ x,x∈nodesM ts↔x=[]∨∃ t∈ts,∃ k,k < t.1.length∧t.2.getD k 0 ≠ -1∧x=t.1.take (k+1):=by
 have key:∀ (us:List (List Int×List Int)) (out:List (List Int)),(∀ t∈us,validB I O t=true)→Srt2 out→Srt2 (us.foldl (fun out t=>nodW out [] t.1 t.2) out)∧∀ x,x∈us.foldl (fun out t=>nodW out [] t.1 t.2) out↔x∈out∨∃ t∈us,∃ k,k < t.1.length∧t.2.getD k 0 ≠ -1∧x=t.1.take (k+1):=by
  intro us
  induction us with
  | nil=>intro out _ h; exact ⟨h,fun x=>⟨fun h=>.inl h,fun h=>h.elim id fun ⟨t,h1,_⟩=>by cases h1⟩⟩
  | cons t us ih =>
   intro out h1 h2
   rw [List.foldl_cons]
   have hvt:=h1 t (by simp)
   unfold validB at hvt
   rw [Bool.and_eq_true,Bool.and_eq_true] at hvt
   obtain ⟨h3,h4⟩:=ih (nodW out [] t.1 t.2) (fun u hu=>h1 u (by simp [hu])) (nodW_srt _ _ _ _ h2)
   refine ⟨h3,fun x=>?_⟩
   rw [h4 x,nodW_mem t.1 t.2 out [] x (of_decide_eq_true hvt.1.1) hvt.2]
   constructor
   ·rintro ((h | ⟨k,h5,h6,h7⟩) | ⟨u,hu,h5⟩)
    ·exact .inl h
    ·exact .inr ⟨t,by simp,k,h5,h6,h7⟩
    ·exact .inr ⟨u,by simp [hu],h5⟩
   ·rintro (h | ⟨u,hu,k,h5⟩)
    ·exact .inl (.inl h)
    ·rcases List.mem_cons.1 hu with rfl | hu
     ·exact .inl (.inr ⟨k,h5⟩)
     ·exact .inr ⟨u,hu,k,h5⟩
 obtain ⟨h1,h2⟩:=key ts [[]] hv fun a b ha hb hab=>by simp at ha hb; omega
 refine ⟨h1,fun x=>?_⟩
 rw [show nodesM ts=ts.foldl (fun out t=>nodW out [] t.1 t.2) [[]] from rfl,h2 x,List.mem_singleton]
theorem nodesM_val {I O:Int} {ts:List (List Int×List Int)} (hv:∀ t∈ts,validB I O t=true) (hc:Cons ts) (x:List Int) : x∈nodesM ts↔x=[]∨∃ o,valT ts x=some o∧o ≠ -1:=by
 rw [(nodesM_ok hv).2 x]
 constructor
 ·rintro (h | ⟨t,ht,k,h1,h2,rfl⟩)
  ·exact .inl h
  ·exact .inr ⟨_,valT_mem hc ht h1,h2⟩
 ·rintro (h | ⟨o,h1,h2⟩)
  ·exact .inl h
  ·obtain ⟨u,g1,g2,g3,g4,g5⟩:=valT_of h1
   have hpos:0 < x.length:=List.length_pos_iff.2 g2
   exact .inr ⟨u,g1,x.length - 1,by omega,by rw [← g5]; exact h2,by rw [show x.length - 1+1=x.length by omega]; exact g4.symm⟩
def rowsL (I:Nat) (ts:List (List Int×List Int)) : List (List (Int×Int)):=rowsT (valT ts) (nodesM ts) I
theorem valT_in {I O:Int} {ts:List (List Int×List Int)} (hv:∀ t∈ts,validB I O t=true) {x:List Int} {i o:Int} (h:valT ts (x++[i])=some o) : (0≤i∧i < I)∧(o ≠ -1→0≤o∧o < O):=by
 obtain ⟨u,g1,g2,g3,g4,g5⟩:=valT_of h
 have hvt:=hv u g1
 unfold validB at hvt
 rw [Bool.and_eq_true,Bool.and_eq_true] at hvt
 have hl:=of_decide_eq_true hvt.1.1
 rw [List.length_append,List.length_singleton] at g3 g4 g5
 constructor
 ·have hm:i∈u.1:=by
   have:i∈u.1.take (x.length+1):=by rw [g4]; simp
   exact List.mem_of_mem_take this
  exact of_decide_eq_true (List.all_eq_true.1 hvt.1.2 i hm)
 ·intro ho
  have h1:=okR_at u.2 (x.length+1 - 1) false hvt.2 (by omega)
  rw [← g5] at h1
  omega
theorem valT_V {I O:Int} {ts:List (List Int×List Int)} (hv:∀ t∈ts,validB I O t=true) {x:List Int} {o:Int} (h:valT ts x=some o) : o ≠ -1→0≤o∧o < O:=by
 obtain ⟨u,g1,g2,g3,g4,g5⟩:=valT_of h
 have e:=List.dropLast_concat_getLast g2
 rw [← e] at h
 exact (valT_in hv h).2
theorem bfs_end {I:Nat} {O:Int} {ts:List (List Int×List Int)} {ws os:List (List Int)} (hv:∀ t∈ts,validB I O t=true) (hc:Cons ts) (hN:Nod (valT ts) ws) (h:Bfs (valT ts) ws I O os.length os) : os=nodesM ts∧Nod (valT ts) os∧goT I O (rowsL I ts) 0 1=some (rowsL I ts).length:=by
 have hN2:=h.done hN fun x i o hx=>(valT_in hv hx).1
 have e:os=nodesM ts:=srt_eq h.srt (nodesM_ok hv).1 fun x=>(hN2.mem x).trans (nodesM_val hv hc x).symm
 refine ⟨e,hN2,?_⟩
 have h1:=h.go
 rw [List.take_length] at h1
 unfold rowsL
 rw [rowsT_len,← e]
 exact h1
end Go.Ai
end
section
namespace Go.Ai
open Go.Proofs
set_option maxRecDepth 10000
set_option maxHeartbeats 40000000
end Go.Ai
end
section
namespace Go.Ai
open Go.Proofs
set_option maxRecDepth 10000
set_option maxHeartbeats 40000000
def rowS (I:Nat) (bs:List Nat) : List AV:=bs.map fun b=>.sl b 0 I I
structure RowsB (g:Nat→Option Blk) (lo n I:Nat) (rows:List (List (Int×Int))) (bs:List Nat) : Prop where
 len:bs.length=rows.length
 nd:bs.Nodup
 at' : ∀ (k:Nat) (h:k < bs.length) (h' : k < rows.length),lo≤bs[k]∧bs[k] < n∧g bs[k]=some (.cells (rowC rows[k]) true 0)∧rows[k].length=I
structure TreeMem (g:Nat→Option Blk) (lo n T I:Nat) (rows:List (List (Int×Int))) (bs:List Nat) (B:Nat) (sv:AV) : Prop where
 rb:RowsB g lo n I rows bs
 pos:0 < rows.length
 bl:lo≤B∧B < n
 tl:lo≤T∧T < n
 tb:T≠B
 tn:T ∉ bs
 bn:B ∉ bs
 gt:g T=some (.cells [sv] true 0)
 gb:(rows.length=1∧sv=.sl B 0 1 1∧g B=some (.cells (rowS I bs) true 0))∨(sv=.slq B 0 rows.length 0∧g B=some (.cells (rowS I bs) true 1))
def okRows (I:Nat) (rows:List (List (Int×Int))) : Prop:=∀ row∈rows,row.length=I∧∀ e∈row,e.1 = -1∨(0≤e.1∧e.1 < rows.length)
theorem okRows.set {I:Nat} {rows:List (List (Int×Int))} (h:okRows I rows) {a i:Nat} (ha:a < rows.length) {e:Int×Int} (he:e.1 = -1∨(0≤e.1∧e.1 < rows.length)) : okRows I (rows.set a ((rows.getD a []).set i e)):=by
 intro row hr
 rcases List.mem_or_eq_of_mem_set hr with h1 | rfl
 ·obtain ⟨h2,h3⟩:=h row h1
  exact ⟨h2,fun e he=>by rw [List.length_set]; exact h3 e he⟩
 ·have hm:=(getD_mem (d:=[]) ha).1
  obtain ⟨h2,h3⟩:=h _ hm
  refine ⟨by rw [List.length_set]; exact h2,fun e' he'=>?_⟩
  rw [List.length_set]
  rcases List.mem_or_eq_of_mem_set he' with h4 | rfl
  ·exact h3 e' h4
  ·exact he
theorem okRows.new {I:Nat} {rows:List (List (Int×Int))} (h:okRows I rows) {a i:Nat} (ha:a < rows.length) {o:Int} : okRows I (rows.set a ((rows.getD a []).set i ((rows.length:Int),o))++[List.replicate I (-1,-1)]):=by
 intro row hr
 rw [List.length_append,List.length_set,List.length_singleton]
 rcases List.mem_append.1 hr with hr | hr
 ·rcases List.mem_or_eq_of_mem_set hr with h1 | rfl
  ·obtain ⟨h2,h3⟩:=h row h1
   exact ⟨h2,fun e he=>by rcases h3 e he with h4 | h4; exact .inl h4; exact .inr ⟨h4.1,by omega⟩⟩
  ·have hm:=(getD_mem (d:=[]) ha).1
   obtain ⟨h2,h3⟩:=h _ hm
   refine ⟨by rw [List.length_set]; exact h2,fun e' he'=>?_⟩
   rcases List.mem_or_eq_of_mem_set he' with h4 | rfl
   ·rcases h3 e' h4 with h5 | h5
    ·exact .inl h5
    ·exact .inr ⟨h5.1,by omega⟩
   ·exact .inr ⟨by show (0:Int)≤rows.length; omega,by show (rows.length:Int) < _; omega⟩
 ·rw [List.mem_singleton.1 hr]
  exact ⟨by simp,fun e he=>.inl (by rw [(List.mem_replicate.1 he).2])⟩
theorem TreeMem.keep {g g' : Nat→Option Blk} {lo n n' T I:Nat} {rows:List (List (Int×Int))} {bs:List Nat} {B:Nat} {sv:AV} (h:TreeMem g lo n T I rows bs B sv) (hn:n≤n') (hg:∀ a,lo≤a→a < n→g' a=g a) : TreeMem g' lo n' T I rows bs B sv :=
 ⟨⟨h.rb.len,h.rb.nd,fun k h1 h2=>let ⟨e1,e2,e3,e4⟩:=h.rb.at' k h1 h2; ⟨e1,by omega,(hg _ e1 e2).trans e3,e4⟩⟩,h.pos,⟨h.bl.1,by have:=h.bl.2; omega⟩,⟨h.tl.1,by have:=h.tl.2; omega⟩,h.tb,h.tn,h.bn,(hg _ h.tl.1 h.tl.2).trans h.gt,h.gb.imp (fun ⟨e1,e2,e3⟩=>⟨e1,e2,(hg _ h.bl.1 h.bl.2).trans e3⟩) fun ⟨e1,e2⟩=>⟨e1,(hg _ h.bl.1 h.bl.2).trans e2⟩⟩
theorem TreeMem.push {g g' : Nat→Option Blk} {lo n n' T I:Nat} {rows:List (List (Int×Int))} {bs:List Nat} {B B' b:Nat} {sv:AV} (h:TreeMem g lo n T I rows bs B sv) {row:List (Int×Int)} (hl:row.length=I) (hb:n≤b) (hb' : b < n') (hB:n≤B') (hB' : B' < n') (hne:b≠B') (h1:g' b=some (.cells (rowC row) true 0)) (h2:g' B'=some (.cells (rowS I (bs++[b])) true 1)) (h3:g' T=some (.cells [.slq B' 0 (rows.length+1) 0] true 0)) (hg:∀ x∈bs,g' x=g x) : TreeMem g' lo n' T I (rows++[row]) (bs++[b]) B' (.slq B' 0 (rows.length+1) 0):=by
 have hlt:∀ x∈bs,lo≤x∧x < n:=fun x hx=>by
  obtain ⟨k,hk,rfl⟩:=List.mem_iff_getElem.1 hx
  obtain ⟨e1,e2,_⟩:=h.rb.at' k hk (by have:=h.rb.len; omega)
  exact ⟨e1,e2⟩
 have htl:=h.tl
 have hbl:=h.bl
 refine ⟨⟨by rw [List.length_append,List.length_append,h.rb.len]; rfl,?_,fun k k1 k2=>?_⟩,by simp,⟨by omega,hB'⟩,⟨htl.1,by omega⟩,by omega,?_,?_,h3,.inr ⟨by rw [List.length_append]; rfl,h2⟩⟩
 ·rw [List.nodup_append]
  refine ⟨h.rb.nd,by simp,fun x hx y hy e=>?_⟩
  rw [List.mem_singleton] at hy
  have:=hlt x hx
  omega
 ·rw [List.length_append,List.length_singleton] at k1
  by_cases hk:k < bs.length
  ·have hk2:k < rows.length:=by have:=h.rb.len; omega
   obtain ⟨e1,e2,e3,e4⟩:=h.rb.at' k hk hk2
   rw [List.getElem_append_left hk,List.getElem_append_left hk2]
   exact ⟨e1,by omega,(hg _ (List.getElem_mem hk)).trans e3,e4⟩
  ·have e:k=bs.length:=by omega
   have e2:k=rows.length:=by have:=h.rb.len; omega
   rw [List.getElem_append_right (by omega),List.getElem_append_right (by omega)]
   simp
   exact ⟨by omega,hb',h1,hl⟩
 ·rw [List.mem_append,List.mem_singleton]
  rintro (hx | hx)
  ·exact h.tn hx
  ·omega
 ·rw [List.mem_append,List.mem_singleton]
  rintro (hx | hx)
  ·have:=hlt _ hx; omega
  ·exact hne hx.symm
end Go.Ai
end
section
namespace Go.Ai
open Go.Proofs
set_option maxRecDepth 10000
set_option maxHeartbeats 40000000
theorem sl81:sliceT Tryz.prog 98=true:=by kernel_rfl
attribute [simp] sl81
theorem EClip_w {len a:Nat} (h0:0 < len) (H:Mem) : WC 0 Tryz.prog 121 [.slq a 0 len 0] H fun r=>r=.ret (.sl a 0 len len) H:=by
 refine WC.ofFn ?_
 refine WC.enterP (noO_ok _ _) hG [] Tryz.func121 rfl (by decide +kernel) (Nat.le_of_ble_eq_true (by kernel_rfl)) ?_
 iterate 8 (all_goals try (first | with_reducible refine splitI (fun h=>?_) (fun h=>?_) | with_reducible refine splitBI (fun h=>?_) (fun h=>?_) | simp (config:={ maxSteps:=1000000 }) (disch:=first | assumption | omega | (simp; done) | fail) [Tryz.results121, *]))
end Go.Ai
end
section
namespace Go.Ai
open Go.Proofs
set_option maxRecDepth 10000
set_option maxHeartbeats 40000000
structure RowsC (g:Nat→Option Blk) (lo n I:Nat) (rows:List (List (Int×Int))) (bs:List Nat) : Prop where
 len:bs.length=rows.length
 at' : ∀ (k:Nat) (h:k < bs.length) (h' : k < rows.length),lo≤bs[k]∧bs[k] < n∧g bs[k]=some (.cells (rowC rows[k]) true 2)∧rows[k].length=I
theorem RowsC.snoc {g g' : Nat→Option Blk} {lo n n' I:Nat} {rows:List (List (Int×Int))} {bs:List Nat} (h:RowsC g lo n I rows bs) (hn:n≤n') (hg:∀ a,lo≤a→a < n→g' a=g a) {b:Nat} {row:List (Int×Int)} (h1:lo≤b) (h2:b < n') (h3:g' b=some (.cells (rowC row) true 2)) (h4:row.length=I) : RowsC g' lo n' I (rows++[row]) (bs++[b]):=by
 have hl:=h.len
 refine ⟨by simp [hl],fun k k1 k2=>?_⟩
 rw [List.length_append,List.length_singleton] at k1
 by_cases hk:k < bs.length
 ·obtain ⟨e1,e2,e3,e4⟩:=h.at' k hk (by omega)
  rw [List.getElem_append_left hk,List.getElem_append_left (by omega)]
  exact ⟨e1,by omega,(hg _ e1 e2).trans e3,e4⟩
 ·rw [List.getElem_append_right (by omega),List.getElem_append_right (by omega)]
  simp
  exact ⟨h1,h2,h3,h4⟩
end Go.Ai
end
section
namespace Go.Ai
open Go.Proofs
set_option maxRecDepth 10000
set_option maxHeartbeats 40000000
end Go.Ai
end
section
namespace Go.Ai
open Go.Proofs
set_option maxRecDepth 10000
set_option maxHeartbeats 40000000
end Go.Ai
end
section
namespace Go.Ai
open Go.Proofs
set_option maxRecDepth 10000
set_option maxHeartbeats 40000000
theorem rcmp_w (a b:List Int) (hal:a.length≤1000000) (hbl:b.length≤1000000) (g:Nat→Option Blk) (n:Nat) (sa sb:AV) (ha:RepW g n a sa) (hb:RepW g n b sb) :
  WC 0 Tryz.prog 80 [sa,sb] ⟨.fn g,n⟩ fun r=>∃ z:Int,r=.ret (.lit (.int .i64 z)) ⟨.fn g,n⟩∧decide (z=0)=decide (a=b):=by
 have hla:=@lenV Tryz.prog _ _ _ _ _ ha
 have hlb:=@lenV Tryz.prog _ _ _ _ _ hb
 have HA:=Hide.mk ha
 have HB:=Hide.mk hb
 clear ha hb
 obtain ⟨ret,hret⟩ : ∃ c,c=decide (a=b):=⟨_,rfl⟩
 rw [← hret]
 have HRET:=Hide.mk hret
 clear hret
 by_cases t1:a.length < b.length
 ·have t1I:(a.length:Int) < (b.length:Int):=by omega
  have hr:ret=false:=by
   rw [HRET.out]; exact decide_eq_false fun h=>by rw [h] at t1; omega
  refine WC.enterP (noO_ok _ _) hG pl80 Tryz.func80 rfl (by decide +kernel) (Nat.le_of_ble_eq_true (by kernel_rfl)) ?_
  iterate 6 (all_goals try (first | with_reducible refine splitI (fun h=>?_) (fun h=>?_) | with_reducible refine splitBI (fun h=>?_) (fun h=>?_) | simp (config:={ maxSteps:=1000000 }) (disch:=first | assumption | omega | (simp; done) | fail) [Tryz.results80, *]))
 by_cases t2:b.length < a.length
 ·have t2I:(b.length:Int) < (a.length:Int):=by omega
  have t1I:¬(a.length:Int) < (b.length:Int):=by omega
  have hr:ret=false:=by
   rw [HRET.out]; exact decide_eq_false fun h=>by rw [h] at t2; omega
  refine WC.enterP (noO_ok _ _) hG pl80 Tryz.func80 rfl (by decide +kernel) (Nat.le_of_ble_eq_true (by kernel_rfl)) ?_
  iterate 6 (all_goals try (first | with_reducible refine splitI (fun h=>?_) (fun h=>?_) | with_reducible refine splitBI (fun h=>?_) (fun h=>?_) | simp (config:={ maxSteps:=1000000 }) (disch:=first | assumption | omega | (simp; done) | fail) [Tryz.results80, *]))
 have hL:b.length=a.length:=by omega
 have HL:=Hide.mk hL
 rw [hL] at hlb
 clear t1 t2 hL hbl
 refine WC.enterP (noO_ok _ _) hG pl80 Tryz.func80 rfl (by decide +kernel) (Nat.le_of_ble_eq_true (by kernel_rfl)) ?_
 iterate 6 (all_goals try (first | with_reducible refine splitI (fun h=>?_) (fun h=>?_) | with_reducible refine splitBI (fun h=>?_) (fun h=>?_) | simp (config:={ maxSteps:=1000000 }) (disch:=first | assumption | omega | (simp; done) | fail) [Tryz.results80, *]))
 refine LX.ind (fun m gf H'=>∃ (k:Nat),k≤a.length∧m=a.length - k∧H'=⟨.fn g,n⟩∧Hide (a.take k=b.take k)∧gf 0=some sa∧gf 1=some sb∧gf 5=some (.lit (.int .i64 k))) (m0:=a.length) ?_ ?_
 ·exact ⟨0,Nat.zero_le _,rfl,rfl,⟨by simp⟩,by simp,by simp,by simp⟩
 rintro m gf H' ⟨k,hk,rfl,rfl,HPRE,w0,w1,w5⟩ ih
 refine LX.roundP (noO_ok _ _) hG pl80 (by decide +kernel) ?_
 by_cases hlt:k < a.length
 ·have hltI:(k:Int) < (a.length:Int):=by omega
  have hltb:k < b.length:=by rw [HL.out]; exact hlt
  obtain ⟨a2,off,ha2,hrow,hia⟩:=SliceV.ia (P:=Tryz.prog) HA.out hlt 1
  obtain ⟨b2,ofb,hb2,hrob,hib⟩:=SliceV.ia (P:=Tryz.prog) HB.out hltb 1
  simp only [Nat.mul_one] at hia hib
  have hca:=hrow.one (k:=k) (s:=1) (by rw [wdC_len]; exact hlt)
  have hcb:=hrob.one (k:=k) (s:=1) (by rw [wdC_len]; exact hltb)
  rw [(List.getElem?_eq_some_iff.1 (wdC_at a k hlt)).2] at hca
  rw [(List.getElem?_eq_some_iff.1 (wdC_at b k hltb)).2] at hcb
  have hta:a.take (k+1)=a.take k++[a[k]]:=by rw [List.take_succ,List.getElem?_eq_getElem hlt]; rfl
  have htb:b.take (k+1)=b.take k++[b[k]]:=by rw [List.take_succ,List.getElem?_eq_getElem hltb]; rfl
  have hneq:a=b→a[k]=b[k]:=fun h=>by subst h; rfl
  have HTA:=Hide.mk hta
  have HTB:=Hide.mk htb
  have HN:=Hide.mk hneq
  clear hta htb hneq hrow hrob ha2 hb2
  generalize a[k]=u at *
  generalize b[k]=v at *
  clear hltb
  have hbad:u≠v→ret=false:=fun h=>by rw [HRET.out]; exact decide_eq_false fun e=>h (HN.out e)
  have HBAD:=Hide.mk hbad
  clear hbad
  by_cases t1:u < v
  ·have hr:=HBAD.out (by omega)
   iterate 6 (all_goals try (first | with_reducible refine splitI (fun h=>?_) (fun h=>?_) | with_reducible refine splitBI (fun h=>?_) (fun h=>?_) | simp (config:={ maxSteps:=1000000 }) (disch:=first | assumption | omega | (simp; done) | fail) [Tryz.results80, *]))
  by_cases t2:v < u
  ·have hr:=HBAD.out (by omega)
   iterate 6 (all_goals try (first | with_reducible refine splitI (fun h=>?_) (fun h=>?_) | with_reducible refine splitBI (fun h=>?_) (fun h=>?_) | simp (config:={ maxSteps:=1000000 }) (disch:=first | assumption | omega | (simp; done) | fail) [Tryz.results80, *]))
  ·have HUV:=Hide.mk (show u=v by omega)
   iterate 6 (all_goals try (first | with_reducible refine splitI (fun h=>?_) (fun h=>?_) | with_reducible refine splitBI (fun h=>?_) (fun h=>?_) | simp (config:={ maxSteps:=1000000 }) (disch:=first | assumption | omega | (simp; done) | fail) [Tryz.results80, *]))
   refine ih.out (a.length - (k+1)) _ _ (by omega) ⟨k+1,by omega,rfl,rfl,⟨?_⟩,by simp [*],by simp [*],by simp⟩
   rw [HTA.out,HTB.out,HPRE.out,HUV.out]
 ·have hltI:¬(k:Int) < (a.length:Int):=by omega
  have hk2:k=a.length:=by omega
  have hr:ret=true:=by
   rw [HRET.out]
   have h1:=HPRE.out
   rw [hk2,List.take_length,← HL.out,List.take_length] at h1
   exact decide_eq_true h1
  clear hk2
  iterate 6 (all_goals try (first | with_reducible refine splitI (fun h=>?_) (fun h=>?_) | with_reducible refine splitBI (fun h=>?_) (fun h=>?_) | simp (config:={ maxSteps:=1000000 }) (disch:=first | assumption | omega | (simp; done) | fail) [Tryz.results80, *]))
theorem rsame_w (a b:List Int) (hal:a.length≤1000000) (hbl:b.length≤1000000) (g:Nat→Option Blk) (n:Nat) (sa sb:AV) (ha:RepW g n a sa) (hb:RepW g n b sb) :
  WC 0 Tryz.prog 29 [sa,sb] ⟨.fn g,n⟩ fun r=>r=.ret (.lit (.bool (decide (a=b)))) ⟨.fn g,n⟩:=by
 have HC:=Hide.mk (rcmp_w a b hal hbl g n sa sb ha hb)
 clear ha hb
 obtain ⟨ret,hret⟩ : ∃ c,c=decide (a=b):=⟨_,rfl⟩
 rw [← hret] at HC ⊢
 clear hret
 refine WC.enterP (noO_ok _ _) hG [] Tryz.func29 rfl (by decide +kernel) (Nat.le_of_ble_eq_true (by kernel_rfl)) ?_
 iterate 6 (all_goals try (first | with_reducible refine splitI (fun h=>?_) (fun h=>?_) | with_reducible refine splitBI (fun h=>?_) (fun h=>?_) | simp (config:={ maxSteps:=1000000 }) (disch:=first | assumption | omega | (simp; done) | fail) [Tryz.results29, *]))
 refine WC.mono HC.out ?_
 rintro _ ⟨z,rfl,hz⟩
 cases ret with
 | true =>
  have hz1:z=0:=of_decide_eq_true hz
  clear hz
  subst hz1
  iterate 6 (all_goals try (first | with_reducible refine splitI (fun h=>?_) (fun h=>?_) | with_reducible refine splitBI (fun h=>?_) (fun h=>?_) | simp (config:={ maxSteps:=1000000 }) (disch:=first | assumption | omega | (simp; done) | fail) [Tryz.results29, *]))
 | false =>
  have hz1:¬z=0:=of_decide_eq_false hz
  clear hz
  iterate 6 (all_goals try (first | with_reducible refine splitI (fun h=>?_) (fun h=>?_) | with_reducible refine splitBI (fun h=>?_) (fun h=>?_) | simp (config:={ maxSteps:=1000000 }) (disch:=first | assumption | omega | (simp; done) | fail) [Tryz.results29, *]))
end Go.Ai
end
section
namespace Go.Ai
open Go.Proofs
set_option maxRecDepth 10000
set_option maxHeartbeats 40000000
theorem find_w {l:List (List Int)} (hll:l.length≤100000) {w:List Int} (hwl:w.length≤1000) (hm:w∈l) (hwls:∀ x∈l,x.length≤1000) (g:Nat→Option Blk) (n:Nat) (lv sv:AV) (h1:ListV g n l lv) (hw:RepW g n w sv) :
  WC 0 Tryz.prog 75 [lv,sv] ⟨.fn g,n⟩ fun r=>r=.ret (.lit (.int .i64 (l.idxOf w:Nat))) ⟨.fn g,n⟩:=by
 have hlen:=@lenV Tryz.prog _ _ _ _ _ h1.choose_spec.1
 have H1:=Hide.mk h1
 have HW:=Hide.mk hw
 have HWL:=Hide.mk hwls
 have HM:=Hide.mk hm
 clear h1 hw hwls hm
 refine WC.enterP (noO_ok _ _) hG [] Tryz.func75 rfl (by decide +kernel) (Nat.le_of_ble_eq_true (by kernel_rfl)) ?_
 iterate 8 (all_goals try (first | with_reducible refine splitI (fun h=>?_) (fun h=>?_) | with_reducible refine splitBI (fun h=>?_) (fun h=>?_) | simp (config:={ maxSteps:=1000000 }) (disch:=first | assumption | omega | (simp; done) | fail) [Tryz.results75, *]))
 refine LX.ind (fun m gf H'=>∃ k:Nat,k < l.length∧m=l.length - k∧H'=⟨.fn g,n⟩∧Hide (w ∉ l.take k)∧gf 0=some lv∧gf 1=some sv∧gf 5=some (.lit (.int .i64 k))) (m0:=l.length) ?_ ?_
 ·exact ⟨0,List.length_pos_of_mem HM.out,rfl,rfl,⟨by simp⟩,by simp,by simp,by simp⟩
 rintro m gf H' ⟨k,hk,rfl,rfl,HN,w0,w1,w5⟩ ih
 have hkI:(k:Int) < (l.length:Int):=by omega
 obtain ⟨a,off,q,ha,hia,hc,hq⟩:=H1.out.at hk
 have HS:=Hide.mk (rsame_w l[k] w (by have:=HWL.out _ (List.getElem_mem hk); omega) (by omega) g n q sv hq HW.out)
 have hwk:Hide (w ∉ l.take (k+1)∨l[k]=w):=⟨by
  by_cases h:l[k]=w
  ·exact .inr h
  ·refine .inl ?_
   rw [take_snoc hk,List.mem_append,List.mem_singleton]
   rintro (h1 | h1)
   ·exact HN.out h1
   ·exact h h1.symm⟩
 have HIX:Hide (l[k]=w→l.idxOf w=k):=⟨fun h=>by
  have e:l=l.take k++(l[k] :: l.drop (k+1)):=by rw [← List.drop_eq_getElem_cons hk,List.take_append_drop]
  rw [e,List.idxOf_append,if_neg HN.out,h]
  simp; omega⟩
 generalize l[k]=x at *
 refine LX.roundP (noO_ok _ _) hG [] (by decide +kernel) ?_
 iterate 8 (all_goals try (first | with_reducible refine splitI (fun h=>?_) (fun h=>?_) | with_reducible refine splitBI (fun h=>?_) (fun h=>?_) | simp (config:={ maxSteps:=1000000 }) (disch:=first | assumption | omega | (simp; done) | fail) [Tryz.results75, *]))
 refine WC.mono HS.out ?_
 rintro _ rfl
 by_cases hx:x=w
 ·have hix:=HIX.out hx
  simp only [hx,decide_true]
  iterate 8 (all_goals try (first | with_reducible refine splitI (fun h=>?_) (fun h=>?_) | with_reducible refine splitBI (fun h=>?_) (fun h=>?_) | simp (config:={ maxSteps:=1000000 }) (disch:=first | assumption | omega | (simp; done) | fail) [Tryz.results75, *]))
 ·have hnm:w ∉ l.take (k+1):=hwk.out.resolve_right hx
  have hk1:k+1 < l.length:=by
   rcases Nat.lt_or_ge (k+1) l.length with h | h
   ·exact h
   ·exact absurd HM.out (by rwa [List.take_of_length_le h] at hnm)
  simp only [hx,decide_false]
  iterate 8 (all_goals try (first | with_reducible refine splitI (fun h=>?_) (fun h=>?_) | with_reducible refine splitBI (fun h=>?_) (fun h=>?_) | simp (config:={ maxSteps:=1000000 }) (disch:=first | assumption | omega | (simp; done) | fail) [Tryz.results75, *]))
  exact ih.out (l.length - (k+1)) _ _ (by omega) ⟨k+1,hk1,rfl,rfl,⟨hnm⟩,by simp [*],by simp [*],by simp⟩
end Go.Ai
end
section
namespace Go.Ai
open Go.Proofs
set_option maxRecDepth 10000
set_option maxHeartbeats 40000000
theorem rcmp2_w (a b:List Int) (hal:a.length≤1000000) (hbl:b.length≤1000000) (g:Nat→Option Blk) (n:Nat) (sa sb:AV) (ha:RepW g n a sa) (hb:RepW g n b sb) :
  WC 0 Tryz.prog 80 [sa,sb] ⟨.fn g,n⟩ fun r=>r=.ret (.lit (.int .i64 (cmpM a b))) ⟨.fn g,n⟩:=by
 have hla:=@lenV Tryz.prog _ _ _ _ _ ha
 have hlb:=@lenV Tryz.prog _ _ _ _ _ hb
 have HA:=Hide.mk ha
 have HB:=Hide.mk hb
 clear ha hb
 obtain ⟨ret,hret⟩ : ∃ c,c=cmpM a b:=⟨_,rfl⟩
 rw [← hret]
 unfold cmpM at hret
 by_cases t1:a.length < b.length
 ·have t1I:(a.length:Int) < (b.length:Int):=by omega
  have hr:ret = -1:=by rw [hret,if_pos t1]
  clear hret
  refine WC.enterP (noO_ok _ _) hG pl80 Tryz.func80 rfl (by decide +kernel) (Nat.le_of_ble_eq_true (by kernel_rfl)) ?_
  iterate 6 (all_goals try (first | with_reducible refine splitI (fun h=>?_) (fun h=>?_) | with_reducible refine splitBI (fun h=>?_) (fun h=>?_) | simp (config:={ maxSteps:=1000000 }) (disch:=first | assumption | omega | (simp; done) | fail) [Tryz.results80, *]))
 rw [if_neg t1] at hret
 by_cases t2:b.length < a.length
 ·have t2I:(b.length:Int) < (a.length:Int):=by omega
  have t1I:¬(a.length:Int) < (b.length:Int):=by omega
  have hr:ret=1:=by rw [hret,if_pos t2]
  clear hret
  refine WC.enterP (noO_ok _ _) hG pl80 Tryz.func80 rfl (by decide +kernel) (Nat.le_of_ble_eq_true (by kernel_rfl)) ?_
  iterate 6 (all_goals try (first | with_reducible refine splitI (fun h=>?_) (fun h=>?_) | with_reducible refine splitBI (fun h=>?_) (fun h=>?_) | simp (config:={ maxSteps:=1000000 }) (disch:=first | assumption | omega | (simp; done) | fail) [Tryz.results80, *]))
 rw [if_neg t2] at hret
 have hL:b.length=a.length:=by omega
 have HL:=Hide.mk hL
 have HRET:=Hide.mk hret
 rw [hL] at hlb
 clear t1 t2 hL hbl hret
 refine WC.enterP (noO_ok _ _) hG pl80 Tryz.func80 rfl (by decide +kernel) (Nat.le_of_ble_eq_true (by kernel_rfl)) ?_
 iterate 6 (all_goals try (first | with_reducible refine splitI (fun h=>?_) (fun h=>?_) | with_reducible refine splitBI (fun h=>?_) (fun h=>?_) | simp (config:={ maxSteps:=1000000 }) (disch:=first | assumption | omega | (simp; done) | fail) [Tryz.results80, *]))
 refine LX.ind (fun m gf H'=>∃ (k:Nat),k≤a.length∧m=a.length - k∧H'=⟨.fn g,n⟩∧Hide (ret=lexC (a.drop k) (b.drop k))∧gf 0=some sa∧gf 1=some sb∧gf 5=some (.lit (.int .i64 k))) (m0:=a.length) ?_ ?_
 ·exact ⟨0,Nat.zero_le _,rfl,rfl,HRET,by simp,by simp,by simp⟩
 rintro m gf H' ⟨k,hk,rfl,rfl,HPRE,w0,w1,w5⟩ ih
 refine LX.roundP (noO_ok _ _) hG pl80 (by decide +kernel) ?_
 by_cases hlt:k < a.length
 ·have hltI:(k:Int) < (a.length:Int):=by omega
  have hltb:k < b.length:=by rw [HL.out]; exact hlt
  obtain ⟨a2,off,ha2,hrow,hia⟩:=SliceV.ia (P:=Tryz.prog) HA.out hlt 1
  obtain ⟨b2,ofb,hb2,hrob,hib⟩:=SliceV.ia (P:=Tryz.prog) HB.out hltb 1
  simp only [Nat.mul_one] at hia hib
  have hca:=hrow.one (k:=k) (s:=1) (by rw [wdC_len]; exact hlt)
  have hcb:=hrob.one (k:=k) (s:=1) (by rw [wdC_len]; exact hltb)
  rw [(List.getElem?_eq_some_iff.1 (wdC_at a k hlt)).2] at hca
  rw [(List.getElem?_eq_some_iff.1 (wdC_at b k hltb)).2] at hcb
  have hp:=HPRE.out
  rw [List.drop_eq_getElem_cons hlt,List.drop_eq_getElem_cons hltb] at hp
  have HP:=Hide.mk hp
  clear hp HPRE hrow hrob ha2 hb2
  generalize a[k]=u at *
  generalize b[k]=v at *
  clear hltb
  by_cases t1:u < v
  ·have hr:ret = -1:=by rw [HP.out]; unfold lexC; rw [if_pos t1]
   iterate 6 (all_goals try (first | with_reducible refine splitI (fun h=>?_) (fun h=>?_) | with_reducible refine splitBI (fun h=>?_) (fun h=>?_) | simp (config:={ maxSteps:=1000000 }) (disch:=first | assumption | omega | (simp; done) | fail) [Tryz.results80, *]))
  by_cases t2:v < u
  ·have hr:ret=1:=by rw [HP.out]; unfold lexC; rw [if_neg t1,if_pos t2]
   iterate 6 (all_goals try (first | with_reducible refine splitI (fun h=>?_) (fun h=>?_) | with_reducible refine splitBI (fun h=>?_) (fun h=>?_) | simp (config:={ maxSteps:=1000000 }) (disch:=first | assumption | omega | (simp; done) | fail) [Tryz.results80, *]))
  ·have HUV:Hide (ret=lexC (a.drop (k+1)) (b.drop (k+1))):=⟨by rw [HP.out]; show (if u < v then -1 else if v < u then 1 else lexC (a.drop (k+1)) (b.drop (k+1)))=_; rw [if_neg t1,if_neg t2]⟩
   iterate 6 (all_goals try (first | with_reducible refine splitI (fun h=>?_) (fun h=>?_) | with_reducible refine splitBI (fun h=>?_) (fun h=>?_) | simp (config:={ maxSteps:=1000000 }) (disch:=first | assumption | omega | (simp; done) | fail) [Tryz.results80, *]))
   exact ih.out (a.length - (k+1)) _ _ (by omega) ⟨k+1,by omega,rfl,rfl,HUV,by simp [*],by simp [*],by simp⟩
 ·have hltI:¬(k:Int) < (a.length:Int):=by omega
  have hk2:k=a.length:=by omega
  have hr:ret=0:=by
   rw [HPRE.out,hk2,List.drop_length,← HL.out,List.drop_length]; rfl
  clear hk2
  iterate 6 (all_goals try (first | with_reducible refine splitI (fun h=>?_) (fun h=>?_) | with_reducible refine splitBI (fun h=>?_) (fun h=>?_) | simp (config:={ maxSteps:=1000000 }) (disch:=first | assumption | omega | (simp; done) | fail) [Tryz.results80, *]))
end Go.Ai
end
section
namespace Go.Ai
open Go.Proofs
set_option maxRecDepth 10000
set_option maxHeartbeats 40000000
def LogX (g:Nat→Option Blk) (n:Nat) (ts:List (List Int×List Int)) (sv:AV) : Prop:=∃ cs,SliceV g n sv ts.length cs∧RowsT g n ts cs∧∀ v∈cs,CapV v
theorem LogX.mono {g g' : Nat→Option Blk} {n n' : Nat} {ts:List (List Int×List Int)} {sv:AV} (h:LogX g n ts sv) (hn:n≤n') (hg:∀ a,a < n→g' a=g a) : LogX g' n' ts sv :=
 let ⟨cs,h1,h2,h3⟩:=h; ⟨cs,h1.mono hn hg,h2.ext hn fun a x ha hx=>(hg a ha).trans hx,h3⟩
theorem LogX.at {g:Nat→Option Blk} {n:Nat} {ts:List (List Int×List Int)} {sv:AV} (h:LogX g n ts sv) {k:Nat} (hk:k < ts.length) : ∃ a off s1 s2,AtT g n sv k ts[k] a off s1 s2∧CapV s1∧CapV s2:=by
 obtain ⟨cs,h1,h2,h3⟩:=h
 obtain ⟨s1,s2,e1,e2,r1,r2⟩:=h2.2 k hk
 obtain ⟨a,off,ha,hrow,hia⟩:=SliceV.ia (P:=Tryz.prog) h1 hk 2
 have hl:=h2.1
 refine ⟨a,off,s1,s2,⟨ha,hia,?_,?_,?_,r1,r2⟩,h3 _ (List.mem_of_getElem? e1),h3 _ (List.mem_of_getElem? e2)⟩
 ·rw [hrow.agg (k:=k * 2) (s:=2) (by omega),drop2 e1 e2]
 ·have:=hrow.one (k:=k * 2) (s:=1) (by omega)
  rwa [(List.getElem?_eq_some_iff.1 e1).2] at this
 ·have:=hrow.one (k:=k * 2+1) (s:=1) (by omega)
  rw [(List.getElem?_eq_some_iff.1 e2).2] at this
  rw [Nat.add_assoc]; exact this
theorem el57:(elSz Tryz.prog 65).map (·.1)=some none:=by kernel_rfl
def lastV:Option Int→AV
 | some o=>.tup [.lit (.int .i64 o),.lit (.bool true)]
 | none=>.tup [.lit (.int .i64 0),.lit (.bool false)]
theorem last_w {I O:Int} {ts:List (List Int×List Int)} (hS:SmallL ts) (hL2:∀ t∈ts,t.2.length=t.1.length) {w:List Int} (hw0:0 < w.length) (hwl:w.length≤1000) (g:Nat→Option Blk) (n:Nat) (sv wv:AV) (hT:LogX g n ts sv) (hW:RepW g n w wv) :
  WC 0 Tryz.prog 74 [.agg [.lit (.int .i64 I),.lit (.int .i64 O),sv],wv] ⟨.fn g,n⟩ fun r=>∃ g',r=.ret (lastV (valT ts w)) ⟨.fn g',n+1⟩∧∀ b,b < n→g' b=g b:=by
 have hlen:=@lenV Tryz.prog _ _ _ _ _ hT.choose_spec.1
 have hlw:=@lenV Tryz.prog _ _ _ _ _ hW
 have h1s:=hT.choose_spec.1.one
 have hone:allOne [.lit (.int .i64 I),.lit (.int .i64 O),sv]=true:=by simp [h1s]
 have hsl:=hS.len
 have HS:=Hide.mk hS
 have HL2:=Hide.mk hL2
 have HT:=Hide.mk hT
 have HW:=Hide.mk hW
 clear hS hL2 hT hW
 obtain ⟨RES,hRES⟩ : ∃ x,x=valT ts w:=⟨_,rfl⟩
 rw [← hRES]
 have HR:=Hide.mk hRES
 clear hRES
 refine WC.enterP (noO_ok _ _) hG [] Tryz.func74 rfl (by decide +kernel) (Nat.le_of_ble_eq_true (by kernel_rfl)) ?_
 iterate 8 (all_goals try (first | with_reducible refine splitI (fun h=>?_) (fun h=>?_) | with_reducible refine splitBI (fun h=>?_) (fun h=>?_) | simp (config:={ maxSteps:=1000000 }) (disch:=first | assumption | omega | (simp; done) | fail) [Tryz.results74, *]))
 refine LX.ind (fun m gf H'=>∃ k:Nat,k≤ts.length∧m=ts.length - k∧H'=⟨.fn (gput g n (some (.cells [.lit (.int .i64 I),.lit (.int .i64 O),sv] true 0))),n+1⟩∧Hide (RES=valT (ts.drop k) w)∧gf 1=some wv∧gf 2=some (.ptr n 0)∧gf 6=some (.lit (.int .i64 k))) (m0:=ts.length) ?_ ?_
 ·exact ⟨0,Nat.zero_le _,rfl,rfl,HR,by simp,by simp,by simp⟩
 clear HR
 rintro m gf H' ⟨k,hk,rfl,rfl,HR,w1,w2,w6⟩ ih
 refine LX.roundP (noO_ok _ _) hG [] (by decide +kernel) ?_
 by_cases hlt:k < ts.length
 ·have hltI:(k:Int) < (ts.length:Int):=by omega
  obtain ⟨a2,off,s1,s2,HAT0,hc1,hc2⟩:=(HT.out.mono (n':=n+1) (g':=gput g n (some (.cells [.lit (.int .i64 I),.lit (.int .i64 O),sv] true 0))) (Nat.le_succ n) fun b hb=>gput_lt hb).at hlt
  have HAT:=Hide.mk HAT0
  clear HAT0
  have hia:∀ {H:Mem} {ev:Ev} {o:Oper} {ty:TypeId},iaS Tryz.prog H ev o ty (some (none,2)) (some sv) (some (.lit (.int .i64 (k:Int))))=.val (.ptr a2 (off+k * 2)) H:=fun {H ev o ty}=>HAT.out.ia
  have han:a2 < n+1:=HAT.out.an
  have hcc0:=HAT.out.c0
  have hcc1:=HAT.out.c1
  have hw1:=HS.out.w1 _ (List.getElem_mem hlt)
  have hl2:=HL2.out _ (List.getElem_mem hlt)
  have HST:=Hide.mk (HR.out.trans (show valT (ts.drop k) w=if w≠[]∧w.length≤ts[k].1.length∧ts[k].1.take w.length=w then some (ts[k].2.getD (w.length - 1) 0) else valT (ts.drop (k+1)) w from by rw [List.drop_eq_getElem_cons hlt]; rfl))
  have hl1:=@lenV Tryz.prog _ _ _ _ _ HAT.out.r1
  have HR1:=Hide.mk HAT.out.r1
  have HR2:=Hide.mk HAT.out.r2
  have HC1:=Hide.mk hc1
  clear HAT hc1 hc2
  generalize ts[k]=t at *
  have hwne:w≠[]:=fun h=>by rw [h] at hw0; cases hw0
  by_cases hge:w.length≤t.1.length
  ·have hgeI:(w.length:Int)≤(t.1.length:Int):=by omega
   obtain ⟨cut,hcut,hcv⟩:=SliceV.cut HR1.out HC1.out el57 (k:=w.length) (sz:=1) hge (by omega)
   have htl:(t.1.take w.length).length=w.length:=by rw [List.length_take,Nat.min_eq_left hge]
   have hcv2:RepW (gput g n (some (.cells [.lit (.int .i64 I),.lit (.int .i64 O),sv] true 0))) (n+1) (t.1.take w.length) cut:=by
    unfold RepW
    rw [htl,show wdC (t.1.take w.length)=(wdC t.1).take (w.length * 1) by simp [wdC]]
    exact hcv
   have HSM:=Hide.mk (rsame_w (t.1.take w.length) w (by omega) (by omega) _ (n+1) cut wv hcv2 (SliceV.mono (Nat.le_succ n) (fun b hb=>gput_lt hb) HW.out))
   obtain ⟨a3,o3,ha3,hia3,hc3⟩:=RepW.at HR2.out (by omega:w.length - 1 < t.2.length)
   rw [show ((w.length - 1:Nat) : Int)=(w.length:Int) - 1 by omega] at hia3
   have HRV:Hide (t.2.getD (w.length - 1) 0=t.2[w.length - 1]):=⟨by rw [List.getD_eq_getElem?_getD,List.getElem?_eq_getElem]; rfl⟩
   clear hcv hcv2
   have hw1n:(0:Int)≤(w.length:Int) - 1:=by omega
   iterate 8 (all_goals try (first | with_reducible refine splitI (fun h=>?_) (fun h=>?_) | with_reducible refine splitBI (fun h=>?_) (fun h=>?_) | simp (config:={ maxSteps:=1000000 }) (disch:=first | assumption | omega | (simp; done) | fail) [Tryz.results74, *]))
   refine WC.mono HSM.out ?_
   rintro _ rfl
   by_cases hq:t.1.take w.length=w
   ·rw [if_pos ⟨hwne,hge,hq⟩,HRV.out] at HST
    have hRS:=HST.out
    simp only [hq,decide_true]
    clear HRV
    generalize t.2[w.length - 1]=o at *
    subst hRS
    iterate 8 (all_goals try (first | with_reducible refine splitI (fun h=>?_) (fun h=>?_) | with_reducible refine splitBI (fun h=>?_) (fun h=>?_) | simp (config:={ maxSteps:=1000000 }) (disch:=first | assumption | omega | (simp; done) | fail) [Tryz.results74, *]))
    exact ⟨_,⟨rfl,rfl⟩,fun b hb=>gput_lt hb⟩
   ·rw [if_neg (fun h=>hq h.2.2)] at HST
    simp only [hq,decide_false]
    iterate 8 (all_goals try (first | with_reducible refine splitI (fun h=>?_) (fun h=>?_) | with_reducible refine splitBI (fun h=>?_) (fun h=>?_) | simp (config:={ maxSteps:=1000000 }) (disch:=first | assumption | omega | (simp; done) | fail) [Tryz.results74, *]))
    exact ih.out (ts.length - (k+1)) _ _ (by omega) ⟨k+1,by omega,rfl,rfl,HST,by simp [*],by simp [*],by simp⟩
  ·have hgeI:¬(w.length:Int)≤(t.1.length:Int):=by omega
   rw [if_neg (fun h=>hge h.2.1)] at HST
   clear hwne
   iterate 8 (all_goals try (first | with_reducible refine splitI (fun h=>?_) (fun h=>?_) | with_reducible refine splitBI (fun h=>?_) (fun h=>?_) | simp (config:={ maxSteps:=1000000 }) (disch:=first | assumption | omega | (simp; done) | fail) [Tryz.results74, *]))
   exact ih.out (ts.length - (k+1)) _ _ (by omega) ⟨k+1,by omega,rfl,rfl,HST,by simp [*],by simp [*],by simp⟩
 ·have hltI:¬(k:Int) < (ts.length:Int):=by omega
  have hRN:RES=none:=by rw [HR.out,List.drop_eq_nil_of_le (by omega)]; rfl
  subst hRN
  iterate 8 (all_goals try (first | with_reducible refine splitI (fun h=>?_) (fun h=>?_) | with_reducible refine splitBI (fun h=>?_) (fun h=>?_) | simp (config:={ maxSteps:=1000000 }) (disch:=first | assumption | omega | (simp; done) | fail) [Tryz.results74, *]))
  exact ⟨_,⟨rfl,rfl⟩,fun b hb=>gput_lt hb⟩
end Go.Ai
end
section
namespace Go.Ai
open Go.Proofs
set_option maxRecDepth 10000
set_option maxHeartbeats 40000000
def addM (w:List Int) : List (List Int)→Bool→List (List Int)
 | [],p=>if p then [] else [w]
 | x :: l,p=>(if cmpM w x < 0∧p=false then [w] else [])++x :: addM w l (p || decide (cmpM w x≤0))
theorem addM_t {w:List Int} : ∀ (l:List (List Int)),addM w l true=l
 | []=>rfl
 | x :: l=>by
  unfold addM
  rw [if_neg (by simp),Bool.true_or,addM_t l]; rfl
theorem addM_f {w:List Int} : ∀ (l:List (List Int)),addM w l false=insW w l
 | []=>rfl
 | x :: l=>by
  unfold addM insW
  rw [Bool.false_or]
  by_cases h1:cmpM w x < 0
  ·rw [if_pos ⟨h1,rfl⟩,if_pos h1,decide_eq_true (by omega),addM_t]; rfl
  ·rw [if_neg (fun h=>h1 h.1),if_neg h1]
   by_cases h2:cmpM w x=0
   ·rw [if_pos h2,decide_eq_true (by omega),addM_t]; rfl
   ·rw [if_neg h2,decide_eq_false (by omega),addM_f l]; rfl
theorem RowsW.snoc {g:Nat→Option Blk} {n:Nat} {l:List (List Int)} {svs:List AV} (h:RowsW g n l svs) {x:List Int} {q:AV} (hq:RepW g n x q) : RowsW g n (l++[x]) (svs++[q]):=by
 refine ⟨by simp [h.1],fun k hk=>?_⟩
 have hl:=h.1
 rw [List.length_append,List.length_singleton] at hk
 by_cases h2:k < l.length
 ·obtain ⟨sv,e1,e2⟩:=h.2 k h2
  exact ⟨sv,by rw [List.getElem?_append_left (by omega)]; exact e1,by rw [List.getElem_append_left h2]; exact e2⟩
 ·have e:k=l.length:=by omega
  subst e
  exact ⟨q,by rw [← hl,List.getElem?_append_right (Nat.le_refl _)]; simp,by rw [List.getElem_append_right (Nat.le_refl _)]; simpa using hq⟩
theorem add_w {l:List (List Int)} (hll:l.length≤100000) {w:List Int} (hwl:w.length≤1000) (hwls:∀ x∈l,x.length≤1000) (g:Nat→Option Blk) (n:Nat) (lv wv:AV) (h1:ListV g n l lv) (hw:RepW g n w wv) :
  WC 0 Tryz.prog 71 [lv,wv] ⟨.fn g,n⟩ fun r=>∃ ov g' n' B cs,r=.ret ov ⟨.fn g',n'⟩∧n≤n'∧(∀ b,b < n→g' b=g b)∧GrowV g' n n' B ov (insW w l).length 1 cs∧RowsW g n (insW w l) cs:=by
 have hlen:=@lenV Tryz.prog _ _ _ _ _ h1.choose_spec.1
 have h1w:oneC wv=true:=hw.one
 have hcw:cellsOf wv=[wv]:=hw.cell
 have h2w:allOne [wv]=true:=by simp [h1w]
 have HL:=Hide.mk h1
 have HW:=Hide.mk hw
 have HWL:=Hide.mk hwls
 have HIN:=Hide.mk (addM_f (w:=w) l)
 clear h1 hw hwls
 generalize insW w l=RES at *
 refine WC.enterP (noO_ok _ _) hG [] Tryz.func71 rfl (by decide +kernel) (Nat.le_of_ble_eq_true (by kernel_rfl)) ?_
 iterate 8 (all_goals try (first | with_reducible refine splitI (fun h=>?_) (fun h=>?_) | with_reducible refine splitBI (fun h=>?_) (fun h=>?_) | simp (config:={ maxSteps:=1000000 }) (disch:=first | assumption | omega | (simp; done) | fail) [Tryz.results71, *]))
 refine LX.ind (fun m gf H'=>∃ (k n' B:Nat) (gL:Nat→Option Blk) (p:Bool) (out:List (List Int)) (ov:AV) (cs:List AV),k≤l.length∧m=l.length - k∧H'=⟨.fn gL,n'⟩∧n≤n'∧Hide (∀ b,b < n→gL b=g b)∧Hide (RES=out++addM w (l.drop k) p)∧out.length≤2 * k∧Hide (GrowV gL n n' B ov out.length 1 cs)∧Hide (RowsW g n out cs) ∧
  gf 0=some lv∧gf 1=some wv∧gf 5=some ov∧gf 6=some (.lit (.bool p))∧gf 7=some (.lit (.int .i64 k))) (m0:=l.length) ?_ ?_
 ·exact ⟨0,n,0,g,false,[],.lit (.slice none 0 0),[],Nat.zero_le _,rfl,rfl,Nat.le_refl _,⟨fun _ _=>rfl⟩,⟨HIN.out.symm⟩,by simp,⟨.inl ⟨rfl,rfl,rfl⟩⟩,⟨⟨rfl,fun k h=>by cases h⟩⟩,by simp,by simp,by simp,by simp,by simp⟩
 clear HIN
 rintro m gf H' ⟨k,n',B,gL,p,out,ov,cs,hk,rfl,rfl,hn',HG,HRES,hol,HGR,HRW,w0,w1,w5,w6,w7⟩ ih
 refine LX.roundP (noO_ok _ _) hG [] (by decide +kernel) ?_
 by_cases hlt:k < l.length
 ·have hltI:(k:Int) < (l.length:Int):=by omega
  obtain ⟨a,off,q,ha,hia,hcell0,hq⟩:=HL.out.at hlt
  have hcell:loadB (some (false,1)) (gL a) (off+k)=some q:=(congrArg (fun z=>loadB (some (false,1)) z (off+k)) (HG.out a ha)).trans hcell0
  have h1q:oneC q=true:=hq.one
  have hcq:cellsOf q=[q]:=hq.cell
  have h2q:allOne [q]=true:=by simp [h1q]
  have HC:=Hide.mk (rcmp2_w w l[k] (by omega) (by have:=HWL.out _ (List.getElem_mem hlt); omega) gL n' wv q (SliceV.mono hn' HG.out HW.out) (SliceV.mono hn' HG.out hq))
  have HST:=Hide.mk (HRES.out.trans (show out++addM w (l.drop k) p=out++((if cmpM w l[k] < 0∧p=false then [w] else [])++l[k] :: addM w (l.drop (k+1)) (p || decide (cmpM w l[k]≤0))) from by rw [List.drop_eq_getElem_cons hlt]; rfl))
  have HR1:=Hide.mk (HRW.out.snoc hq)
  have HR2:=Hide.mk ((HRW.out.snoc HW.out).snoc hq)
  have hcl:cs.length=out.length:=HRW.out.1
  have hol2:out.length≤200000:=by omega
  have hcl2:(cs++[wv]).length=(out.length+1) * 1:=by simp [hcl]
  clear hcell0 hq HRW HRES
  generalize cmpM w l[k]=c at *
  generalize l[k]=x at *
  iterate 8 (all_goals try (first | with_reducible refine splitI (fun h=>?_) (fun h=>?_) | with_reducible refine splitBI (fun h=>?_) (fun h=>?_) | simp (config:={ maxSteps:=1000000 }) (disch:=first | assumption | omega | (simp; done) | fail) [Tryz.results71, *]))
  refine WC.mono HC.out ?_
  rintro _ rfl
  clear HC
  rcases Int.lt_trichotomy c 0 with hc | hc | hc
  ·have hc1:¬c=0:=by omega
   have hc2:c≤0:=by omega
   cases p with
   | true =>
    rw [if_neg (by simp),Bool.true_or] at HST
    rcases HGR.out with ⟨ho,hc0,hs0⟩ | ⟨ho,hs0,hB1,hB2,hB3,hB4⟩
    ·subst hs0
     have HZ:=Hide.mk (And.intro ho hc0)
     clear ho hc0
     iterate 8 (all_goals try (first | with_reducible refine splitI (fun h=>?_) (fun h=>?_) | with_reducible refine splitBI (fun h=>?_) (fun h=>?_) | simp (config:={ maxSteps:=1000000 }) (disch:=first | assumption | omega | (simp; done) | fail) [Tryz.results71, *]))
     refine ih.out (l.length - (k+1)) _ _ (by omega) ⟨k+1,n'+1+1,n'+1,_,true,out++[x],.slq (n'+1) 0 (out++[x]).length 0,cs++[q],by omega,rfl,rfl,by omega,⟨fun b hb=>?_⟩,⟨by rw [HST.out]; simp⟩,by simp; omega,⟨.inr ⟨by simp,rfl,by omega,by omega,?_,by simp; omega⟩⟩,HR1,by simp [*],by simp [*],by simp [HZ.out.1, *],by simp [*],by simp⟩
     ·simp (disch:=omega) only [gput_lt,gput_ne]; exact HG.out b hb
     ·rw [HZ.out.2]; simp (disch:=omega) [gput_lt,gput_ne,gput_eq, *]
    ·subst hs0
     iterate 8 (all_goals try (first | with_reducible refine splitI (fun h=>?_) (fun h=>?_) | with_reducible refine splitBI (fun h=>?_) (fun h=>?_) | simp (config:={ maxSteps:=1000000 }) (disch:=first | assumption | omega | (simp; done) | fail) [Tryz.results71, *]))
     refine ih.out (l.length - (k+1)) _ _ (by omega) ⟨k+1,n'+1+1,n'+1,_,true,out++[x],.slq (n'+1) 0 (out++[x]).length 0,cs++[q],by omega,rfl,rfl,by omega,⟨fun b hb=>?_⟩,⟨by rw [HST.out]; simp⟩,by simp; omega,⟨.inr ⟨by simp,rfl,by omega,by omega,?_,by simp; omega⟩⟩,HR1,by simp [*],by simp [*],by simp [*],by simp [*],by simp⟩
     ·simp (disch:=omega) only [gput_lt,gput_ne]; exact HG.out b hb
     ·simp (disch:=omega) [gput_lt,gput_ne,gput_eq, *]
   | false =>
    rw [if_pos ⟨hc,rfl⟩,Bool.false_or,decide_eq_true hc2] at HST
    rcases HGR.out with ⟨ho,hc0,hs0⟩ | ⟨ho,hs0,hB1,hB2,hB3,hB4⟩
    ·subst hs0
     have HZ:=Hide.mk (And.intro ho hc0)
     clear ho hc0
     iterate 8 (all_goals try (first | with_reducible refine splitI (fun h=>?_) (fun h=>?_) | with_reducible refine splitBI (fun h=>?_) (fun h=>?_) | simp (config:={ maxSteps:=1000000 }) (disch:=first | assumption | omega | (simp; done) | fail) [Tryz.results71, *]))
     refine ih.out (l.length - (k+1)) _ _ (by omega) ⟨k+1,n'+1+1+1+1,n'+1+1+1,_,true,out++[w]++[x],.slq (n'+1+1+1) 0 (out++[w]++[x]).length 0,cs++[wv]++[q],by omega,rfl,rfl,by omega,⟨fun b hb=>?_⟩,⟨by rw [HST.out]; simp⟩,by simp; omega,⟨.inr ⟨by simp,rfl,by omega,by omega,?_,by simp; omega⟩⟩,HR2,by simp [*],by simp [*],by simp [HZ.out.1, *],by simp [*],by simp⟩
     ·simp (disch:=omega) only [gput_lt,gput_ne]; exact HG.out b hb
     ·rw [HZ.out.2]; simp (disch:=omega) [gput_lt,gput_ne,gput_eq, *]
    ·subst hs0
     iterate 8 (all_goals try (first | with_reducible refine splitI (fun h=>?_) (fun h=>?_) | with_reducible refine splitBI (fun h=>?_) (fun h=>?_) | simp (config:={ maxSteps:=1000000 }) (disch:=first | assumption | omega | (simp; done) | fail) [Tryz.results71, *]))
     refine ih.out (l.length - (k+1)) _ _ (by omega) ⟨k+1,n'+1+1+1+1,n'+1+1+1,_,true,out++[w]++[x],.slq (n'+1+1+1) 0 (out++[w]++[x]).length 0,cs++[wv]++[q],by omega,rfl,rfl,by omega,⟨fun b hb=>?_⟩,⟨by rw [HST.out]; simp⟩,by simp; omega,⟨.inr ⟨by simp,rfl,by omega,by omega,?_,by simp; omega⟩⟩,HR2,by simp [*],by simp [*],by simp [*],by simp [*],by simp⟩
     ·simp (disch:=omega) only [gput_lt,gput_ne]; exact HG.out b hb
     ·simp (disch:=omega) [gput_lt,gput_ne,gput_eq, *]
  ·have hc1:¬c < 0:=by omega
   have hc2:c≤0:=by omega
   rw [if_neg (fun h=>hc1 h.1),decide_eq_true hc2,Bool.or_true] at HST
   subst hc
   cases p with
   | true =>
    rcases HGR.out with ⟨ho,hc0,hs0⟩ | ⟨ho,hs0,hB1,hB2,hB3,hB4⟩
    ·subst hs0
     have HZ:=Hide.mk (And.intro ho hc0)
     clear ho hc0
     iterate 8 (all_goals try (first | with_reducible refine splitI (fun h=>?_) (fun h=>?_) | with_reducible refine splitBI (fun h=>?_) (fun h=>?_) | simp (config:={ maxSteps:=1000000 }) (disch:=first | assumption | omega | (simp; done) | fail) [Tryz.results71, *]))
     refine ih.out (l.length - (k+1)) _ _ (by omega) ⟨k+1,n'+1+1,n'+1,_,true,out++[x],.slq (n'+1) 0 (out++[x]).length 0,cs++[q],by omega,rfl,rfl,by omega,⟨fun b hb=>?_⟩,⟨by rw [HST.out]; simp⟩,by simp; omega,⟨.inr ⟨by simp,rfl,by omega,by omega,?_,by simp; omega⟩⟩,HR1,by simp [*],by simp [*],by simp [HZ.out.1, *],by simp [*],by simp⟩
     ·simp (disch:=omega) only [gput_lt,gput_ne]; exact HG.out b hb
     ·rw [HZ.out.2]; simp (disch:=omega) [gput_lt,gput_ne,gput_eq, *]
    ·subst hs0
     iterate 8 (all_goals try (first | with_reducible refine splitI (fun h=>?_) (fun h=>?_) | with_reducible refine splitBI (fun h=>?_) (fun h=>?_) | simp (config:={ maxSteps:=1000000 }) (disch:=first | assumption | omega | (simp; done) | fail) [Tryz.results71, *]))
     refine ih.out (l.length - (k+1)) _ _ (by omega) ⟨k+1,n'+1+1,n'+1,_,true,out++[x],.slq (n'+1) 0 (out++[x]).length 0,cs++[q],by omega,rfl,rfl,by omega,⟨fun b hb=>?_⟩,⟨by rw [HST.out]; simp⟩,by simp; omega,⟨.inr ⟨by simp,rfl,by omega,by omega,?_,by simp; omega⟩⟩,HR1,by simp [*],by simp [*],by simp [*],by simp [*],by simp⟩
     ·simp (disch:=omega) only [gput_lt,gput_ne]; exact HG.out b hb
     ·simp (disch:=omega) [gput_lt,gput_ne,gput_eq, *]
   | false =>
    rcases HGR.out with ⟨ho,hc0,hs0⟩ | ⟨ho,hs0,hB1,hB2,hB3,hB4⟩
    ·subst hs0
     have HZ:=Hide.mk (And.intro ho hc0)
     clear ho hc0
     iterate 8 (all_goals try (first | with_reducible refine splitI (fun h=>?_) (fun h=>?_) | with_reducible refine splitBI (fun h=>?_) (fun h=>?_) | simp (config:={ maxSteps:=1000000 }) (disch:=first | assumption | omega | (simp; done) | fail) [Tryz.results71, *]))
     refine ih.out (l.length - (k+1)) _ _ (by omega) ⟨k+1,n'+1+1,n'+1,_,true,out++[x],.slq (n'+1) 0 (out++[x]).length 0,cs++[q],by omega,rfl,rfl,by omega,⟨fun b hb=>?_⟩,⟨by rw [HST.out]; simp⟩,by simp; omega,⟨.inr ⟨by simp,rfl,by omega,by omega,?_,by simp; omega⟩⟩,HR1,by simp [*],by simp [*],by simp [HZ.out.1, *],by simp [*],by simp⟩
     ·simp (disch:=omega) only [gput_lt,gput_ne]; exact HG.out b hb
     ·rw [HZ.out.2]; simp (disch:=omega) [gput_lt,gput_ne,gput_eq, *]
    ·subst hs0
     iterate 8 (all_goals try (first | with_reducible refine splitI (fun h=>?_) (fun h=>?_) | with_reducible refine splitBI (fun h=>?_) (fun h=>?_) | simp (config:={ maxSteps:=1000000 }) (disch:=first | assumption | omega | (simp; done) | fail) [Tryz.results71, *]))
     refine ih.out (l.length - (k+1)) _ _ (by omega) ⟨k+1,n'+1+1,n'+1,_,true,out++[x],.slq (n'+1) 0 (out++[x]).length 0,cs++[q],by omega,rfl,rfl,by omega,⟨fun b hb=>?_⟩,⟨by rw [HST.out]; simp⟩,by simp; omega,⟨.inr ⟨by simp,rfl,by omega,by omega,?_,by simp; omega⟩⟩,HR1,by simp [*],by simp [*],by simp [*],by simp [*],by simp⟩
     ·simp (disch:=omega) only [gput_lt,gput_ne]; exact HG.out b hb
     ·simp (disch:=omega) [gput_lt,gput_ne,gput_eq, *]
  ·have hc1:¬c < 0:=by omega
   have hc2:¬c≤0:=by omega
   have hc3:¬c=0:=by omega
   rw [if_neg (fun h=>hc1 h.1),decide_eq_false hc2,Bool.or_false] at HST
   cases p with
   | true =>
    rcases HGR.out with ⟨ho,hc0,hs0⟩ | ⟨ho,hs0,hB1,hB2,hB3,hB4⟩
    ·subst hs0
     have HZ:=Hide.mk (And.intro ho hc0)
     clear ho hc0
     iterate 8 (all_goals try (first | with_reducible refine splitI (fun h=>?_) (fun h=>?_) | with_reducible refine splitBI (fun h=>?_) (fun h=>?_) | simp (config:={ maxSteps:=1000000 }) (disch:=first | assumption | omega | (simp; done) | fail) [Tryz.results71, *]))
     refine ih.out (l.length - (k+1)) _ _ (by omega) ⟨k+1,n'+1+1,n'+1,_,true,out++[x],.slq (n'+1) 0 (out++[x]).length 0,cs++[q],by omega,rfl,rfl,by omega,⟨fun b hb=>?_⟩,⟨by rw [HST.out]; simp⟩,by simp; omega,⟨.inr ⟨by simp,rfl,by omega,by omega,?_,by simp; omega⟩⟩,HR1,by simp [*],by simp [*],by simp [HZ.out.1, *],by simp [*],by simp⟩
     ·simp (disch:=omega) only [gput_lt,gput_ne]; exact HG.out b hb
     ·rw [HZ.out.2]; simp (disch:=omega) [gput_lt,gput_ne,gput_eq, *]
    ·subst hs0
     iterate 8 (all_goals try (first | with_reducible refine splitI (fun h=>?_) (fun h=>?_) | with_reducible refine splitBI (fun h=>?_) (fun h=>?_) | simp (config:={ maxSteps:=1000000 }) (disch:=first | assumption | omega | (simp; done) | fail) [Tryz.results71, *]))
     refine ih.out (l.length - (k+1)) _ _ (by omega) ⟨k+1,n'+1+1,n'+1,_,true,out++[x],.slq (n'+1) 0 (out++[x]).length 0,cs++[q],by omega,rfl,rfl,by omega,⟨fun b hb=>?_⟩,⟨by rw [HST.out]; simp⟩,by simp; omega,⟨.inr ⟨by simp,rfl,by omega,by omega,?_,by simp; omega⟩⟩,HR1,by simp [*],by simp [*],by simp [*],by simp [*],by simp⟩
     ·simp (disch:=omega) only [gput_lt,gput_ne]; exact HG.out b hb
     ·simp (disch:=omega) [gput_lt,gput_ne,gput_eq, *]
   | false =>
    rcases HGR.out with ⟨ho,hc0,hs0⟩ | ⟨ho,hs0,hB1,hB2,hB3,hB4⟩
    ·subst hs0
     have HZ:=Hide.mk (And.intro ho hc0)
     clear ho hc0
     iterate 8 (all_goals try (first | with_reducible refine splitI (fun h=>?_) (fun h=>?_) | with_reducible refine splitBI (fun h=>?_) (fun h=>?_) | simp (config:={ maxSteps:=1000000 }) (disch:=first | assumption | omega | (simp; done) | fail) [Tryz.results71, *]))
     refine ih.out (l.length - (k+1)) _ _ (by omega) ⟨k+1,n'+1+1,n'+1,_,false,out++[x],.slq (n'+1) 0 (out++[x]).length 0,cs++[q],by omega,rfl,rfl,by omega,⟨fun b hb=>?_⟩,⟨by rw [HST.out]; simp⟩,by simp; omega,⟨.inr ⟨by simp,rfl,by omega,by omega,?_,by simp; omega⟩⟩,HR1,by simp [*],by simp [*],by simp [HZ.out.1, *],by simp [*],by simp⟩
     ·simp (disch:=omega) only [gput_lt,gput_ne]; exact HG.out b hb
     ·rw [HZ.out.2]; simp (disch:=omega) [gput_lt,gput_ne,gput_eq, *]
    ·subst hs0
     iterate 8 (all_goals try (first | with_reducible refine splitI (fun h=>?_) (fun h=>?_) | with_reducible refine splitBI (fun h=>?_) (fun h=>?_) | simp (config:={ maxSteps:=1000000 }) (disch:=first | assumption | omega | (simp; done) | fail) [Tryz.results71, *]))
     refine ih.out (l.length - (k+1)) _ _ (by omega) ⟨k+1,n'+1+1,n'+1,_,false,out++[x],.slq (n'+1) 0 (out++[x]).length 0,cs++[q],by omega,rfl,rfl,by omega,⟨fun b hb=>?_⟩,⟨by rw [HST.out]; simp⟩,by simp; omega,⟨.inr ⟨by simp,rfl,by omega,by omega,?_,by simp; omega⟩⟩,HR1,by simp [*],by simp [*],by simp [*],by simp [*],by simp⟩
     ·simp (disch:=omega) only [gput_lt,gput_ne]; exact HG.out b hb
     ·simp (disch:=omega) [gput_lt,gput_ne,gput_eq, *]
 ·have hltI:¬(k:Int) < (l.length:Int):=by omega
  have hcl:cs.length=out.length:=HRW.out.1
  have hol2:out.length≤200000:=by omega
  have HR1:=Hide.mk (HRW.out.snoc HW.out)
  rw [List.drop_eq_nil_of_le (by omega)] at HRES
  cases p with
  | true =>
   have hRE:RES=out:=by rw [HRES.out]; simp [addM]
   subst hRE
   iterate 8 (all_goals try (first | with_reducible refine splitI (fun h=>?_) (fun h=>?_) | with_reducible refine splitBI (fun h=>?_) (fun h=>?_) | simp (config:={ maxSteps:=1000000 }) (disch:=first | assumption | omega | (simp; done) | fail) [Tryz.results71, *]))
   exact ⟨_,_,_,⟨rfl,rfl,rfl⟩,hn',HG.out,B,cs,HGR.out,HRW.out⟩
  | false =>
   have hRE:RES=out++[w]:=by rw [HRES.out]; simp [addM]
   subst hRE
   rcases HGR.out with ⟨ho,hc0,hs0⟩ | ⟨ho,hs0,hB1,hB2,hB3,hB4⟩
   ·subst hs0
    subst hc0
    iterate 8 (all_goals try (first | with_reducible refine splitI (fun h=>?_) (fun h=>?_) | with_reducible refine splitBI (fun h=>?_) (fun h=>?_) | simp (config:={ maxSteps:=1000000 }) (disch:=first | assumption | omega | (simp; done) | fail) [Tryz.results71, *]))
    exact ⟨_,_,_,⟨rfl,rfl,rfl⟩,by omega,fun b hb=>by simp (disch:=omega) only [gput_lt]; exact HG.out b hb,n'+1,[wv],.inr ⟨by omega,rfl,by omega,by omega,gput_eq,rfl⟩,HR1.out⟩
   ·subst hs0
    iterate 8 (all_goals try (first | with_reducible refine splitI (fun h=>?_) (fun h=>?_) | with_reducible refine splitBI (fun h=>?_) (fun h=>?_) | simp (config:={ maxSteps:=1000000 }) (disch:=first | assumption | omega | (simp; done) | fail) [Tryz.results71, *]))
    exact ⟨_,_,_,⟨rfl,rfl,rfl⟩,by omega,fun b hb=>by simp (disch:=omega) only [gput_lt,gput_ne]; exact HG.out b hb,n'+1,cs++[wv],.inr ⟨by omega,rfl,by omega,by omega,gput_eq,by simp; omega⟩,HR1.out⟩
end Go.Ai
end
section
namespace Go.Ai
open Go.Proofs
set_option maxRecDepth 10000
set_option maxHeartbeats 40000000
theorem GrowV.listv {g g0:Nat→Option Blk} {lo n B:Nat} {l:List (List Int)} {sv:AV} {cs:List AV} (h:GrowV g lo n B sv l.length 1 cs) (hn:lo≤n) (hg:∀ b,b < lo→g b=g0 b) (hr:RowsW g0 lo l cs) : ListV g n l sv:=by
 refine ⟨cs,SliceV.ext (Nat.le_refl _) (fun a x _ hx=>?_) h.slice,hr.ext hn fun a x ha hx=>(hg a ha).trans hx⟩
 split at hx
 ·exact hx
 ·cases hx
theorem insW_len {w:List Int} : ∀ {l:List (List Int)},(insW w l).length≤l.length+1
 | []=>Nat.le_refl _
 | x :: l=>by
  have:=@insW_len w l
  unfold insW
  split
  ·simp
  ·split
   ·simp
   ·simp; omega
theorem nodW_step {w r:List Int} {i:Nat} {L:List (List Int)} (h1:i < w.length) (h2:i < r.length) : nodW L (w.take i) (w.drop i) (r.drop i)=if r[i] = -1 then L else nodW (insW (w.take (i+1)) L) (w.take (i+1)) (w.drop (i+1)) (r.drop (i+1)):=by
 rw [List.drop_eq_getElem_cons h1,List.drop_eq_getElem_cons h2,take_snoc h1]
 rfl
theorem nodW_end {w r:List Int} {i:Nat} {L:List (List Int)} (h1:¬i < w.length) : nodW L (w.take i) (w.drop i) (r.drop i)=L:=by
 rw [List.drop_eq_nil_of_le (by omega)]
 cases r.drop i <;> rfl
theorem nodesM_step {ts:List (List Int×List Int)} {k:Nat} (h:k < ts.length) : nodesM (ts.take (k+1))=nodW (nodesM (ts.take k)) [] ts[k].1 ts[k].2:=by
 unfold nodesM; rw [take_snoc h,List.foldl_append]; rfl
theorem Nodes_w {I O:Int} {ts:List (List Int×List Int)} (hS:SmallL ts) (hL2:∀ t∈ts,t.2.length=t.1.length) (g:Nat→Option Blk) (n:Nat) (sv:AV) (hT:LogX g n ts sv) :
  WC 0 Tryz.prog 73 [.agg [.lit (.int .i64 I),.lit (.int .i64 O),sv]] ⟨.fn g,n⟩ fun r=>∃ ov g' n',r=.ret ov ⟨.fn g',n'⟩∧n≤n'∧(∀ b,b < n→g' b=g b)∧ListV g' n' (nodesM ts) ov∧(nodesM ts).length≤1+300 * ts.length∧∀ x∈nodesM ts,x.length≤300:=by
 have hlen:=@lenV Tryz.prog _ _ _ _ _ hT.choose_spec.1
 have h1s:=hT.choose_spec.1.one
 have hone:allOne [.lit (.int .i64 I),.lit (.int .i64 O),sv]=true:=by simp [h1s]
 have hsl:=hS.len
 have HS:=Hide.mk hS
 have HL2:=Hide.mk hL2
 have HT:=Hide.mk hT
 clear hS hL2 hT
 refine WC.enterP (noO_ok _ _) hG [] Tryz.func73 rfl (by decide +kernel) (Nat.le_of_ble_eq_true (by kernel_rfl)) ?_
 iterate 8 (all_goals try (first | with_reducible refine splitI (fun h=>?_) (fun h=>?_) | with_reducible refine splitBI (fun h=>?_) (fun h=>?_) | simp (config:={ maxSteps:=1000000 }) (disch:=first | assumption | omega | (simp; done) | fail) [Tryz.results73, *]))
 refine LX.ind (fun m gf H'=>∃ (k n' : Nat) (gL:Nat→Option Blk) (lv:AV),k≤ts.length∧m=ts.length - k∧H'=⟨.fn gL,n'⟩∧n+1+1+1≤n'∧Hide (∀ b,b < n→gL b=g b)∧gL n=some (.cells [.lit (.int .i64 I),.lit (.int .i64 O),sv] true 0)∧Hide (ListV gL n' (nodesM (ts.take k)) lv)∧(nodesM (ts.take k)).length≤1+300 * k∧Hide (∀ x∈nodesM (ts.take k),x.length≤300) ∧
  gf 1=some (.ptr n 0)∧gf 3=some lv∧gf 4=some (.lit (.int .i64 k))) (m0:=ts.length) ?_ ?_
 ·refine ⟨0,_,_,.sl (n+1+1) 0 1 1,Nat.zero_le _,rfl,rfl,Nat.le_refl _,⟨fun b hb=>?_⟩,?_,⟨[.sl (n+1) 0 0 0],?_,rfl,fun k hk=>?_⟩,?_,⟨fun x hx=>?_⟩,by simp,by simp,by simp⟩
  ·simp (disch:=omega) only [gput_lt]
  ·simp (disch:=omega) only [gput_lt,gput_eq]
  ·exact sliceV_all gput_eq (by omega)
  ·have e:k=0:=by simp [nodesM] at hk; omega
   subst e
   refine ⟨.sl (n+1) 0 0 0,rfl,?_⟩
   exact sliceV_all (cs:=[]) (own:=true) (z:=0) (by simp (disch:=omega) only [gput_lt,gput_eq]) (by omega)
  ·simp [nodesM]
  ·have e:x=[]:=by simpa [nodesM] using hx
   rw [e]; simp
 rintro m gf H' ⟨k,n',gL,lv,hk,rfl,rfl,hn',HG,hgn,HLV,hlL,HWL,w1,w3,w4⟩ ih
 refine LX.roundP (noO_ok _ _) hG [] (by decide +kernel) ?_
 by_cases hlt:k < ts.length
 ·have hltI:(k:Int) < (ts.length:Int):=by omega
  obtain ⟨a2,off,s1,s2,HAT0,hc1,hc2⟩:=(HT.out.mono (show n≤n' by omega) HG.out).at hlt
  have HAT:=Hide.mk HAT0
  clear HAT0
  have hia:∀ {H:Mem} {ev:Ev} {o:Oper} {ty:TypeId},iaS Tryz.prog H ev o ty (some (none,2)) (some sv) (some (.lit (.int .i64 (k:Int))))=.val (.ptr a2 (off+k * 2)) H:=fun {H ev o ty}=>HAT.out.ia
  have han:a2 < n':=HAT.out.an
  have hagg:=HAT.out.agg
  have h1s1:oneC s1=true:=HAT.out.r1.one
  have h1s2:oneC s2=true:=HAT.out.r2.one
  have hone2:allOne [s1,s2]=true:=by simp [h1s1,h1s2]
  have hw1:=HS.out.w1 _ (List.getElem_mem hlt)
  have hl2:=HL2.out _ (List.getElem_mem hlt)
  have HSTP:=Hide.mk (nodesM_step hlt)
  have hl1:=@lenV Tryz.prog _ _ _ _ _ HAT.out.r1
  have HR1:=Hide.mk HAT.out.r1
  have HR2:=Hide.mk HAT.out.r2
  have HC1:=Hide.mk hc1
  clear HAT hc1 hc2
  generalize ts[k]=t at *
  obtain ⟨RES,hRE⟩ : ∃ x,x=nodesM (ts.take (k+1)):=⟨_,rfl⟩
  rw [← hRE] at HSTP
  have HRE:=Hide.mk hRE
  clear hRE
  generalize nodesM (ts.take k)=L0 at *
  iterate 8 (all_goals try (first | with_reducible refine splitI (fun h=>?_) (fun h=>?_) | with_reducible refine splitBI (fun h=>?_) (fun h=>?_) | simp (config:={ maxSteps:=1000000 }) (disch:=first | assumption | omega | (simp; done) | fail) [Tryz.results73, *]))
  refine LX.ind (fun m gf H'=>∃ (i n2:Nat) (g2:Nat→Option Blk) (lv:AV) (L:List (List Int)),i≤t.1.length∧m=t.1.length - i∧H'=⟨.fn g2,n2⟩∧n'+1≤n2∧Hide (∀ b,b < n'→g2 b=gL b)∧g2 n'=some (.cells [s1,s2] true 0)∧Hide (ListV g2 n2 L lv)∧L.length≤1+300 * k+i∧Hide (∀ x∈L,x.length≤300)∧Hide (RES=nodW L (t.1.take i) (t.1.drop i) (t.2.drop i)) ∧
   gf 1=some (.ptr n 0)∧gf 3=some lv∧gf 4=some (.lit (.int .i64 k))∧gf 5=some (.ptr n' 0)∧gf 6=some (.lit (.int .i64 i))) (m0:=t.1.length) ?_ ?_
  ·exact ⟨0,n'+1,_,lv,L0,Nat.zero_le _,rfl,rfl,Nat.le_refl _,⟨fun b hb=>gput_lt hb⟩,gput_eq,⟨HLV.out.mono (Nat.le_succ n') fun b hb=>gput_lt hb⟩,by omega,HWL,HSTP,by simp [*],by simp [*],by simp [*],by simp,by simp⟩
  clear w1 w3 w4 HLV HWL HSTP hia hagg
  rintro m gf H' ⟨i,n2,g2,lv2,L,hi,rfl,rfl,hn2,HG2,hgt,HLV,hlL2,HWL,HRES,w1,w3,w4,w5,w6⟩ ih2
  have hgn2:=(HG2.out n (by omega)).trans hgn
  refine LX.roundP (noO_ok _ _) hG [] (by decide +kernel) ?_
  by_cases hli:i < t.1.length
  ·have hliI:(i:Int) < (t.1.length:Int):=by omega
   have hli2:i < t.2.length:=by omega
   obtain ⟨a3,o3,ha3,hia3,hc3⟩:=RepW.at (SliceV.mono (Nat.le_refl n') HG2.out HR2.out) hli2
   have HST:=Hide.mk (HRES.out.trans (nodW_step hli hli2))
   obtain ⟨cut,hcut,hcv⟩:=SliceV.cut HR1.out HC1.out el57 (k:=i+1) (sz:=1) hli (by omega)
   have htl:(t.1.take (i+1)).length=i+1:=by rw [List.length_take]; omega
   have hcv2:RepW gL n' (t.1.take (i+1)) cut:=by
    unfold RepW
    rw [htl,show wdC (t.1.take (i+1))=(wdC t.1).take ((i+1) * 1) by simp [wdC]]
    exact hcv
   rw [show ((i+1:Nat) : Int)=(i:Int)+1 by omega] at hcut
   have HAD:=Hide.mk (add_w (l:=L) (w:=t.1.take (i+1)) (by omega) (by omega) (fun x hx=>by have:=HWL.out x hx; omega) g2 n2 lv2 cut HLV.out (SliceV.mono (by omega) HG2.out hcv2))
   have HIM:Hide (∀ x∈insW (t.1.take (i+1)) L,x.length≤300):=⟨fun x hx=>by
    rcases insW_mem.1 hx with h | h
    ·rw [h]; omega
    ·exact HWL.out x h⟩
   have hil:=@insW_len (t.1.take (i+1)) L
   clear hcv hcv2
   generalize t.2[i]=o at *
   by_cases ho:o = -1
   ·rw [if_pos ho] at HST
    have hRL:=HST.out
    subst hRL
    subst ho
    iterate 8 (all_goals try (first | with_reducible refine splitI (fun h=>?_) (fun h=>?_) | with_reducible refine splitBI (fun h=>?_) (fun h=>?_) | simp (config:={ maxSteps:=1000000 }) (disch:=first | assumption | omega | (simp; done) | fail) [Tryz.results73, *]))
    exact ih.out (ts.length - (k+1)) _ _ (by omega) ⟨k+1,n2,g2,lv2,by omega,rfl,rfl,by omega,⟨fun b hb=>(HG2.out b (by omega)).trans (HG.out b hb)⟩,hgn2,⟨by rw [← HRE.out]; exact HLV.out⟩,by rw [← HRE.out]; omega,⟨by rw [← HRE.out]; exact HWL.out⟩,by simp [*],by simp [*],by simp⟩
   ·rw [if_neg ho] at HST
    generalize insW (t.1.take (i+1)) L=L2 at *
    iterate 8 (all_goals try (first | with_reducible refine splitI (fun h=>?_) (fun h=>?_) | with_reducible refine splitBI (fun h=>?_) (fun h=>?_) | simp (config:={ maxSteps:=1000000 }) (disch:=first | assumption | omega | (simp; done) | fail) [Tryz.results73, *]))
    refine WC.mono HAD.out ?_
    rintro _ ⟨ov,g3,n3,B,cs,rfl,hn3,hg3,hgr,hrw⟩
    have HG3:=Hide.mk hg3
    have HLN:Hide (ListV g3 n3 L2 ov):=⟨hgr.listv hn3 hg3 hrw⟩
    clear hg3 hgr hrw
    iterate 8 (all_goals try (first | with_reducible refine splitI (fun h=>?_) (fun h=>?_) | with_reducible refine splitBI (fun h=>?_) (fun h=>?_) | simp (config:={ maxSteps:=1000000 }) (disch:=first | assumption | omega | (simp; done) | fail) [Tryz.results73, *]))
    exact ih2.out (t.1.length - (i+1)) _ _ (by omega) ⟨i+1,n3,g3,ov,L2,by omega,rfl,rfl,by omega,⟨fun b hb=>(HG3.out b (by omega)).trans (HG2.out b hb)⟩,(HG3.out n' (by omega)).trans hgt,HLN,by omega,HIM,HST,by simp [*],by simp [*],by simp [*],by simp [*],by simp⟩
  ·have hliI:¬(i:Int) < (t.1.length:Int):=by omega
   have hRL:=HRES.out.trans (nodW_end hli)
   subst hRL
   iterate 8 (all_goals try (first | with_reducible refine splitI (fun h=>?_) (fun h=>?_) | with_reducible refine splitBI (fun h=>?_) (fun h=>?_) | simp (config:={ maxSteps:=1000000 }) (disch:=first | assumption | omega | (simp; done) | fail) [Tryz.results73, *]))
   exact ih.out (ts.length - (k+1)) _ _ (by omega) ⟨k+1,n2,g2,lv2,by omega,rfl,rfl,by omega,⟨fun b hb=>(HG2.out b (by omega)).trans (HG.out b hb)⟩,hgn2,⟨by rw [← HRE.out]; exact HLV.out⟩,by rw [← HRE.out]; omega,⟨by rw [← HRE.out]; exact HWL.out⟩,by simp [*],by simp [*],by simp⟩
 ·have hltI:¬(k:Int) < (ts.length:Int):=by omega
  rw [List.take_of_length_le (by omega)] at HLV HWL hlL
  iterate 8 (all_goals try (first | with_reducible refine splitI (fun h=>?_) (fun h=>?_) | with_reducible refine splitBI (fun h=>?_) (fun h=>?_) | simp (config:={ maxSteps:=1000000 }) (disch:=first | assumption | omega | (simp; done) | fail) [Tryz.results73, *]))
  exact ⟨_,_,_,⟨rfl,rfl,rfl⟩,by omega,HG.out,HLV.out,by omega,HWL.out⟩
end Go.Ai
end
section
namespace Go.Ai
open Go.Proofs
set_option maxRecDepth 10000
set_option maxHeartbeats 40000000
def RowsG (g:Nat→Option Blk) (n:Nat) (rows:List (List (Int×Int))) (svs:List AV) : Prop:=svs.length=rows.length∧∀ (k:Nat) (h:k < rows.length),∃ sv,svs[k]?=some sv∧SliceV g n sv rows[k].length (rowC rows[k])
def TreeV (g:Nat→Option Blk) (n:Nat) (rows:List (List (Int×Int))) (tv:AV) : Prop:=∃ svs,SliceV g n tv rows.length svs∧RowsG g n rows svs
theorem RowsG.snoc {g:Nat→Option Blk} {n:Nat} {l:List (List (Int×Int))} {svs:List AV} (h:RowsG g n l svs) {x:List (Int×Int)} {q:AV} (hq:SliceV g n q x.length (rowC x)) : RowsG g n (l++[x]) (svs++[q]):=by
 refine ⟨by simp [h.1],fun k hk=>?_⟩
 have hl:=h.1
 rw [List.length_append,List.length_singleton] at hk
 by_cases h2:k < l.length
 ·obtain ⟨sv,e1,e2⟩:=h.2 k h2
  exact ⟨sv,by rw [List.getElem?_append_left (by omega)]; exact e1,by rw [List.getElem_append_left h2]; exact e2⟩
 ·have e:k=l.length:=by omega
  subst e
  exact ⟨q,by rw [← hl,List.getElem?_append_right (Nat.le_refl _)]; simp,by rw [List.getElem_append_right (Nat.le_refl _)]; simpa using hq⟩
theorem RowsG.ext {g g' : Nat→Option Blk} {n n' : Nat} {l:List (List (Int×Int))} {svs:List AV} (h:RowsG g n l svs) (hn:n≤n') (hg:∀ a x,a < n→g a=some x→g' a=some x) : RowsG g' n' l svs :=
 ⟨h.1,fun k hk=>let ⟨sv,h1,h2⟩:=h.2 k hk; ⟨sv,h1,SliceV.ext hn hg h2⟩⟩
theorem TreeV.mono {g g' : Nat→Option Blk} {n n' : Nat} {rows:List (List (Int×Int))} {tv:AV} (h:TreeV g n rows tv) (hn:n≤n') (hg:∀ a,a < n→g' a=g a) : TreeV g' n' rows tv :=
 let ⟨svs,h1,h2⟩:=h; ⟨svs,h1.mono hn hg,h2.ext hn fun a x ha hx=>(hg a ha).trans hx⟩
theorem TreeV.at {g:Nat→Option Blk} {n:Nat} {rows:List (List (Int×Int))} {tv:AV} (h:TreeV g n rows tv) {k:Nat} (hk:k < rows.length) : ∃ a off q,a < n∧(∀ {H:Mem} {ev:Ev} {o:Oper} {t:TypeId},iaS Tryz.prog H ev o t (some (none,1)) (some tv) (some (.lit (.int .i64 (k:Int))))=.val (.ptr a (off+k)) H)∧loadB (some (false,1)) (g a) (off+k)=some q∧SliceV g n q rows[k].length (rowC rows[k]):=by
 obtain ⟨svs,h1,h2,h3⟩:=h
 obtain ⟨q,e1,e2⟩:=h3 k hk
 obtain ⟨a,off,ha,hrow,hia⟩:=h1.ia (P:=Tryz.prog) hk 1
 simp only [Nat.mul_one] at hia
 have hc:=hrow.one (k:=k) (s:=1) (by omega)
 rw [(List.getElem?_eq_some_iff.1 e1).2] at hc
 exact ⟨a,off,q,ha,hia,hc,e2⟩
theorem edge_at {g:Nat→Option Blk} {n:Nat} {row:List (Int×Int)} {q:AV} (h:SliceV g n q row.length (rowC row)) {i:Nat} (hi:i < row.length) : ∃ a off,a < n∧(∀ {H:Mem} {ev:Ev} {o:Oper} {t:TypeId},iaS Tryz.prog H ev o t (some (none,2)) (some q) (some (.lit (.int .i64 (i:Int))))=.val (.ptr a (off+i * 2)) H)∧loadB (some (true,2)) (g a) (off+i * 2)=some (.agg [.lit (.int .i64 row[i].1),.lit (.int .i64 row[i].2)]):=by
 obtain ⟨a,off,ha,hrow,hia⟩:=h.ia (P:=Tryz.prog) hi 2
 have hc:=hrow.agg (k:=i * 2) (s:=2) (by rw [rowC_len]; omega)
 rw [rowC_at row i hi] at hc
 exact ⟨a,off,ha,hia,hc⟩
theorem bin_edgeN {H:Mem} {ev:Ev} {d:Option Tmp} {ty rt:TypeId} {p:String} {af:Array Edge} {g:Option (Nat×Bool)} {x y:Operand} {a b a' b' : Int} (hx:ev x=some (.agg [.lit (.int .i64 a),.lit (.int .i64 b)])) (hy:ev y=some (.agg [.lit (.int .i64 a'),.lit (.int .i64 b')])) :
  binS Tryz.prog H ev ⟨d,.binOp .neq 97 x y rt,ty,p,af,g⟩ .neq 97 (some (.agg [.lit (.int .i64 a),.lit (.int .i64 b)])) (some (.agg [.lit (.int .i64 a'),.lit (.int .i64 b')]))=.val (.lit (.bool (!(decide (a=a') && decide (b=b'))))) H:=by
 show oBin Tryz.prog H ev ⟨d,.binOp .neq 97 x y rt,ty,p,af,g⟩ .neq 97 (some (.agg [.lit (.int .i64 a),.lit (.int .i64 b)])) (some (.agg [.lit (.int .i64 a'),.lit (.int .i64 b')]))=_
 refine oBin_generic rfl ?_
 have h1:(Op.operands (.binOp .neq 97 x y rt)).toList=[x,y]:=rfl
 unfold generic
 dsimp only
 rw [h1]
 have l1:toLit (.agg [.lit (.int .i64 a),.lit (.int .i64 b)])=some (.agg #[.int .i64 a,.int .i64 b]):=rfl
 have l2:toLit (.agg [.lit (.int .i64 a'),.lit (.int .i64 b')])=some (.agg #[.int .i64 a',.int .i64 b']):=rfl
 simp only [List.all_cons,List.all_nil,hx,hy,l1,l2,Bool.and_true,if_true]
 have h2:∀ ρ:Operand→Value,ρ x=.agg #[.int .i64 a,.int .i64 b]→ρ y=.agg #[.int .i64 a',.int .i64 b']→pureV Tryz.prog (execOp ρ ⟨d,.binOp .neq 97 x y rt,ty,p,af,g⟩)=some (.value (.bool (!(decide (a=a') && decide (b=b'))))):=by
  intro ρ e1 e2
  refine execOp_bin e1 e2 ?_ ?_
  ·unfold eqGuard; kernel_rfl
  ·show pureV Tryz.prog (do pure (Value.bool (!(← Op.equal 97 _ _))))=_
   exact (pureV_then (equal_edge a b a' b')).trans rfl
 rw [h2 _ (by simp only [hx,l1]) (by simp only [hy,l2])]
attribute [simp] bin_edgeN
theorem mSame_w {rows:List (List (Int×Int))} (hl:rows.length≤100000) (hI:∀ r∈rows,r.length≤1000) (g:Nat→Option Blk) (n:Nat) (tv uv:AV) (h1:TreeV g n rows tv) (h2:TreeV g n rows uv) :
  WC 0 Tryz.prog 33 [.agg [.lit (.int .i64 0),.lit (.int .i64 0),tv],.agg [.lit (.int .i64 0),.lit (.int .i64 0),uv]] ⟨.fn g,n⟩ fun r=>∃ g',r=.ret (.lit (.bool true)) ⟨.fn g',n+1+1⟩∧∀ b,b < n→g' b=g b:=by
 have hlen1:=@lenV Tryz.prog _ _ _ _ _ h1.choose_spec.1
 have hlen2:=@lenV Tryz.prog _ _ _ _ _ h2.choose_spec.1
 have ho1:=h1.choose_spec.1.one
 have ho2:=h2.choose_spec.1.one
 have hone1:allOne [.lit (.int .i64 0),.lit (.int .i64 0),tv]=true:=by simp [ho1]
 have hone2:allOne [.lit (.int .i64 0),.lit (.int .i64 0),uv]=true:=by simp [ho2]
 have H1:=Hide.mk h1
 have H2:=Hide.mk h2
 have HI:=Hide.mk hI
 clear h1 h2 hI
 refine WC.enterP (noO_ok _ _) hG pl33 Tryz.func33 rfl (by decide +kernel) (Nat.le_of_ble_eq_true (by kernel_rfl)) ?_
 iterate 8 (all_goals try (first | with_reducible refine splitI (fun h=>?_) (fun h=>?_) | with_reducible refine splitBI (fun h=>?_) (fun h=>?_) | simp (config:={ maxSteps:=1000000 }) (disch:=first | assumption | omega | (simp; done) | fail) [Tryz.results33, *]))
 refine LX.ind (fun m gf H'=>∃ (k:Nat) (gL:Nat→Option Blk),k≤rows.length∧m=rows.length - k∧H'=⟨.fn gL,n+1+1⟩∧Hide (∀ b,b < n→gL b=g b)∧gL n=some (.cells [.lit (.int .i64 0),.lit (.int .i64 0),tv] true 0)∧gL (n+1)=some (.cells [.lit (.int .i64 0),.lit (.int .i64 0),uv] true 0)∧gf 2=some (.ptr n 0)∧gf 3=some (.ptr (n+1) 0)∧gf 5=some (.lit (.int .i64 k))) (m0:=rows.length) ?_ ?_
 ·exact ⟨0,_,Nat.zero_le _,rfl,rfl,⟨fun b hb=>by simp (disch:=omega) only [gput_lt]⟩,by simp (disch:=omega) only [gput_lt,gput_eq],gput_eq,by simp,by simp,by simp⟩
 rintro m gf H' ⟨k,gL,hk,rfl,rfl,HG,hg1,hg2,w2,w3,w5⟩ ih
 refine LX.roundP (noO_ok _ _) hG pl33 (by decide +kernel) ?_
 by_cases hlt:k < rows.length
 ·have hltI:(k:Int) < (rows.length:Int):=by omega
  obtain ⟨a1,o1,q1,ha1,hia1,hc1,hq1⟩:=TreeV.at (n:=n) (H1.out.mono (Nat.le_refl n) HG.out) hlt
  obtain ⟨a2,o2,q2,ha2,hia2,hc2,hq2⟩:=TreeV.at (n:=n) (H2.out.mono (Nat.le_refl n) HG.out) hlt
  have hql1:=@lenV Tryz.prog _ _ _ _ _ hq1
  have hql2:=@lenV Tryz.prog _ _ _ _ _ hq2
  have hrl:=HI.out _ (List.getElem_mem hlt)
  have HQ1:=Hide.mk hq1
  have HQ2:=Hide.mk hq2
  clear hq1 hq2
  generalize rows[k]=row at *
  iterate 8 (all_goals try (first | with_reducible refine splitI (fun h=>?_) (fun h=>?_) | with_reducible refine splitBI (fun h=>?_) (fun h=>?_) | simp (config:={ maxSteps:=1000000 }) (disch:=first | assumption | omega | (simp; done) | fail) [Tryz.results33, *]))
  refine LX.ind (fun m gf H'=>∃ i:Nat,i≤row.length∧m=row.length - i∧H'=⟨.fn gL,n+1+1⟩∧gf 2=some (.ptr n 0)∧gf 3=some (.ptr (n+1) 0)∧gf 5=some (.lit (.int .i64 k))∧gf 6=some (.lit (.int .i64 i))) (m0:=row.length) ?_ ?_
  ·exact ⟨0,Nat.zero_le _,rfl,rfl,by simp [*],by simp [*],by simp [*],by simp⟩
  clear w2 w3 w5
  rintro m gf H' ⟨i,hi,rfl,rfl,w2,w3,w5,w6⟩ ih2
  refine LX.roundP (noO_ok _ _) hG pl33 (by decide +kernel) ?_
  by_cases hli:i < row.length
  ·have hliI:(i:Int) < (row.length:Int):=by omega
   obtain ⟨a3,o3,ha3,hia3,hc3⟩:=edge_at HQ1.out hli
   obtain ⟨a4,o4,ha4,hia4,hc4⟩:=edge_at HQ2.out hli
   generalize row[i]=e at *
   iterate 8 (all_goals try (first | with_reducible refine splitI (fun h=>?_) (fun h=>?_) | with_reducible refine splitBI (fun h=>?_) (fun h=>?_) | simp (config:={ maxSteps:=1000000 }) (disch:=first | assumption | omega | (simp; done) | fail) [Tryz.results33, *]))
   exact ih2.out (row.length - (i+1)) _ _ (by omega) ⟨i+1,by omega,rfl,rfl,by simp [*],by simp [*],by simp [*],by simp⟩
  ·have hliI:¬(i:Int) < (row.length:Int):=by omega
   iterate 8 (all_goals try (first | with_reducible refine splitI (fun h=>?_) (fun h=>?_) | with_reducible refine splitBI (fun h=>?_) (fun h=>?_) | simp (config:={ maxSteps:=1000000 }) (disch:=first | assumption | omega | (simp; done) | fail) [Tryz.results33, *]))
   exact ih.out (rows.length - (k+1)) _ _ (by omega) ⟨k+1,gL,by omega,rfl,rfl,HG,hg1,hg2,by simp [*],by simp [*],by simp⟩
 ·have hltI:¬(k:Int) < (rows.length:Int):=by omega
  iterate 8 (all_goals try (first | with_reducible refine splitI (fun h=>?_) (fun h=>?_) | with_reducible refine splitBI (fun h=>?_) (fun h=>?_) | simp (config:={ maxSteps:=1000000 }) (disch:=first | assumption | omega | (simp; done) | fail) [Tryz.results33, *]))
  exact HG.out
end Go.Ai
end
section
namespace Go.Ai
open Go.Proofs
set_option maxRecDepth 10000
set_option maxHeartbeats 40000000
theorem TSame_w {I O:Int} {rows:List (List (Int×Int))} (hl:rows.length≤100000) (hI:∀ r∈rows,r.length≤1000) (g:Nat→Option Blk) (n:Nat) (tv uv:AV) (h1:TreeV g n rows tv) (h2:TreeV g n rows uv) :
  WC 0 Tryz.prog 76 [.agg [.lit (.int .i64 I),.lit (.int .i64 O),tv],.agg [.lit (.int .i64 I),.lit (.int .i64 O),uv]] ⟨.fn g,n⟩ fun r=>∃ g',r=.ret (.lit (.bool true)) ⟨.fn g',n+1+1+1+1⟩∧∀ b,b < n→g' b=g b:=by
 have ho1:=h1.choose_spec.1.one
 have ho2:=h2.choose_spec.1.one
 have hct:=h1.choose_spec.1.cell
 have hcu:=h2.choose_spec.1.cell
 have hone1:allOne [.lit (.int .i64 I),.lit (.int .i64 O),tv]=true:=by simp [ho1]
 have hone2:allOne [.lit (.int .i64 I),.lit (.int .i64 O),uv]=true:=by simp [ho2]
 have HM:=Hide.mk fun (gX:Nat→Option Blk) (hX:∀ b,b < n→gX b=g b)=>mSame_w hl hI gX (n+1+1) tv uv (h1.mono (by omega) hX) (h2.mono (by omega) hX)
 clear h1 h2 hI
 refine WC.enterP (noO_ok _ _) hG [] Tryz.func76 rfl (by decide +kernel) (Nat.le_of_ble_eq_true (by kernel_rfl)) ?_
 iterate 8 (all_goals try (first | with_reducible refine splitI (fun h=>?_) (fun h=>?_) | with_reducible refine splitBI (fun h=>?_) (fun h=>?_) | simp (config:={ maxSteps:=1000000 }) (disch:=first | assumption | omega | (simp; done) | fail) [Tryz.results76, *]))
 refine WC.mono (HM.out _ fun b hb=>by simp (disch:=omega) only [gput_lt]) ?_
 rintro _ ⟨gX,rfl,hX⟩
 have HX:Hide (∀ b,b < n→gX b=g b):=⟨fun b hb=>(hX b (by omega)).trans (by simp (disch:=omega) only [gput_lt])⟩
 have hb1:=hX n (by omega)
 have hb2:=hX (n+1) (by omega)
 simp (disch:=omega) only [gput_lt,gput_eq] at hb1 hb2
 clear hX
 iterate 8 (all_goals try (first | with_reducible refine splitI (fun h=>?_) (fun h=>?_) | with_reducible refine splitBI (fun h=>?_) (fun h=>?_) | simp (config:={ maxSteps:=1000000 }) (disch:=first | assumption | omega | (simp; done) | fail) [Tryz.results76, *]))
 exact HX.out
end Go.Ai
end
