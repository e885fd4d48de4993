/- A small verified interpreter over names, its proofs, and what was proved with it. No condition. -/
import Derived.Test.YtpimmmnkcgnjjaaGreatC11
set_option linter.all false
set_option linter.deprecated false
section
namespace Go.Ai
open Go.Proofs
set_option maxRecDepth 10000
set_option maxHeartbeats 40000000
theorem keyB_inj:∀ {w v:List Int},(∀ i∈w,0≤i∧i < 16)→(∀ i∈v,0≤i∧i < 16)→keyB w=keyB v→w=v
 | [],[],_,_,_=>rfl
 | [],_ :: _,_,_,h=>by simp [keyB] at h
 | _ :: _,[],_,_,h=>by simp [keyB] at h
 | x :: w,y :: v,hw,hv,h=>by
  have h2:UInt8.ofNat (x+1).toNat :: keyB w=UInt8.ofNat (y+1).toNat :: keyB v:=h
  injection h2 with h3 h4
  have hx:=hw x (by simp)
  have hy:=hv y (by simp)
  have h5:(UInt8.ofNat (x+1).toNat).toNat=(UInt8.ofNat (y+1).toNat).toNat:=by rw [h3]
  rw [UInt8.toNat_ofNat',UInt8.toNat_ofNat',Nat.mod_eq_of_lt (by omega),Nat.mod_eq_of_lt (by omega)] at h5
  have:x=y:=by omega
  rw [this,keyB_inj (fun i hi=>hw i (by simp [hi])) (fun i hi=>hv i (by simp [hi])) h4]
theorem keyS_inj {w v:List Int} (hw:∀ i∈w,0≤i∧i < 16) (hv:∀ i∈v,0≤i∧i < 16) (h:keyS w=keyS v) : w=v:=by
 refine keyB_inj hw hv ?_
 have h2:(keyS w).data=(keyS v).data:=by rw [h]
 have h3:(keyB w).toArray=(keyB v).toArray:=h2
 simpa using h3
theorem keys_mem {l:List (List Int)} {w:List Int} (hl:∀ v∈l,∀ i∈v,0≤i∧i < 16) (hw:∀ i∈w,0≤i∧i < 16) : (keysW l).contains (keyS w)=decide (w∈l):=by
 haveI:=ba_lawful
 by_cases h:w∈l
 ·rw [decide_eq_true h,List.contains_iff_mem]
  exact List.mem_map.2 ⟨w,h,rfl⟩
 ·rw [decide_eq_false h]
  cases hc:(keysW l).contains (keyS w) with
  | false=>rfl
  | true =>
   obtain ⟨v,hv,he⟩:=List.mem_map.1 (List.contains_iff_mem.1 hc)
   exact absurd (keyS_inj (hl v hv) hw he ▸ hv) h
theorem wErr_iff {w:List Int} {q:Int} (h1:¬q > 16) (h2:¬q < 1) (h3:w.length≤256) : wErr w q=0↔inW w q=true:=by
 unfold wErr
 rw [if_neg (by omega)]
 constructor
 ·intro h
  split at h
  ·cases h
  ·rename_i hc
   cases hb:inW w q with
   | true=>rfl
   | false=>exact absurd (.inr hb) hc
 ·intro h
  rw [if_neg]
  rintro (h4 | h4)
  ·exact h2 h4
  ·rw [h] at h4; cases h4
def refS (q:Int) (S:List (List Int)) (k:Nat) (w:List Int) : Bool :=
 decide (w.length≠0) && inW w q && !(decide (w∈S.take k)) && decide (w.take (w.length - 1)∈S.take k)
def accR (q:Int) (S:List (List Int)) : Bool:=decide (0 < S.length) && decide ((S.getD 0 []).length=0) && ((List.range S.length).all fun j=>decide (j=0) || refS q S j (S.getD j []))
def refE (q:Int) (E:List (List Int)) (k:Nat) (w:List Int) : Bool :=
 decide (w.length≠0) && inW w q && !(decide (w∈E.take k)) && (decide (q≤(k:Int)) || decide (w=[(k:Int)]))
def sufR (q:Int) (E:List (List Int)) : Bool:=decide (q≤(E.length:Int)) && ((List.range E.length).all fun j=>refE q E j (E.getD j []))
theorem inW_sub {w:List Int} {q:Int} {m:Nat} (h:inW w q=true) : inW (w.take m) q=true :=
 List.all_eq_true.2 fun i hi=>List.all_eq_true.1 h i (List.mem_of_mem_take hi)
theorem inW_in {w:List Int} {q:Int} (h1:¬q > 16) (h:inW w q=true) : ∀ i∈w,0≤i∧i < 16:=fun i hi=>by
 have h2:0≤i∧i < q:=by simpa using List.all_eq_true.1 h i hi
 omega
theorem take_in {S:List (List Int)} {q:Int} {m:Nat} (h1:¬q > 16) (h2:¬q < 1) (h3:∀ w∈S,w.length≤256) (hp:∀ j,j < m→j < S.length→wErr (S.getD j []) q=0) : ∀ v∈S.take m,∀ i∈v,0≤i∧i < 16:=fun v hv=>by
 obtain ⟨j,hj,rfl⟩:=List.mem_iff_getElem.1 hv
 have hj2:j < m∧j < S.length:=by rw [List.length_take] at hj; omega
 have h4:=hp j hj2.1 hj2.2
 rw [List.getD_eq_getElem?_getD,List.getElem?_eq_getElem hj2.2] at h4
 rw [List.getElem_take]
 exact inW_in h1 ((wErr_iff h1 h2 (h3 _ (List.getElem_mem hj2.2))).1 h4)
theorem accOK_err {q:Int} {S:List (List Int)} {k:Nat} {w:List Int} (h:accOK q S k w=true) : wErr w q=0:=by
 unfold accOK at h
 rw [Bool.and_eq_true,Bool.and_eq_true,Bool.and_eq_true] at h
 exact of_decide_eq_true h.1.1.2
theorem sufOK_err {q:Int} {S:List (List Int)} {k:Nat} {w:List Int} (h:sufOK q S k w=true) : wErr w q=0:=by
 unfold sufOK at h
 rw [Bool.and_eq_true,Bool.and_eq_true,Bool.and_eq_true] at h
 exact of_decide_eq_true h.1.1.2
theorem acc_step {q:Int} {S:List (List Int)} {m:Nat} (h1:¬q > 16) (h2:¬q < 1) (h3:∀ w∈S,w.length≤256) (hm:m < S.length) (hp:∀ j,j < m→j < S.length→wErr (S.getD j []) q=0) :
  accOK q S m (S.getD m [])=if m=0 then decide ((S.getD 0 []).length=0) else refS q S m (S.getD m []):=by
 have hw:(S.getD m []).length≤256:=by
  rw [List.getD_eq_getElem?_getD,List.getElem?_eq_getElem hm]
  exact h3 _ (List.getElem_mem hm)
 have ht:=take_in h1 h2 h3 hp
 by_cases h0:m=0
 ·subst h0
  rw [if_pos rfl]
  generalize S.getD 0 []=w at *
  unfold accOK
  by_cases hl:w.length=0
  ·have hnil:w=[]:=List.length_eq_zero_iff.1 hl
   subst hnil
   have:wErr [] q=0:=(wErr_iff h1 h2 (by simp)).2 rfl
   simp [this,keysW]
  ·simp [hl]
 ·rw [if_neg h0]
  generalize S.getD m []=w at *
  unfold accOK refS
  rw [decide_eq_false h0,Bool.false_or]
  by_cases hl:w.length=0
  ·simp [hl,h0]
  ·rw [show decide (m=0↔w.length=0)=true from decide_eq_true (by omega),decide_eq_true hl,Bool.true_and,Bool.true_and]
   by_cases hin:inW w q=true
   ·rw [decide_eq_true ((wErr_iff h1 h2 hw).2 hin),hin,keys_mem ht (inW_in h1 hin),keys_mem ht (inW_in h1 (inW_sub hin))]
   ·rw [decide_eq_false (fun h=>hin ((wErr_iff h1 h2 hw).1 h))]
    have:inW w q=false:=by simpa using hin
    rw [this]; simp
theorem suf_step {q:Int} {S:List (List Int)} {m:Nat} (h1:¬q > 16) (h2:¬q < 1) (h3:∀ w∈S,w.length≤256) (hm:m < S.length) (hp:∀ j,j < m→j < S.length→wErr (S.getD j []) q=0) :
  sufOK q S m (S.getD m [])=refE q S m (S.getD m []):=by
 have hw:(S.getD m []).length≤256:=by
  rw [List.getD_eq_getElem?_getD,List.getElem?_eq_getElem hm]
  exact h3 _ (List.getElem_mem hm)
 have ht:=take_in h1 h2 h3 hp
 generalize S.getD m []=w at *
 unfold sufOK refE
 by_cases hin:inW w q=true
 ·rw [decide_eq_true ((wErr_iff h1 h2 hw).2 hin),hin,keys_mem ht (inW_in h1 hin)]
 ·rw [decide_eq_false (fun h=>hin ((wErr_iff h1 h2 hw).1 h))]
  have:inW w q=false:=by simpa using hin
  rw [this]; simp
theorem all_range {n:Nat} {f g:Nat→Bool} (h:∀ m,m < n→(∀ j,j < m→f j=true)→f m=g m) (h2:∀ m,m < n→(∀ j,j < m→g j=true)→f m=g m) : (List.range n).all f=(List.range n).all g:=by
  rw [Bool.eq_iff_iff,List.all_eq_true,List.all_eq_true]
  constructor
  · intro hf m hm
    rw [← h m (by simpa using hm) fun j hj => hf j (by have : m < n := by simpa using hm
                                                       simp; omega)]
    exact hf m hm
  · intro hg m hm
    rw [h2 m (by simpa using hm) fun j hj => hg j (by have : m < n := by simpa using hm
                                                      simp; omega)]
    exact hg m hm
theorem accB_eq {q:Int} {S:List (List Int)} (h1:¬q > 16) (h2:¬q < 1) (h3:¬longM S > 256) : accB q S=accR q S:=by
 have hw:∀ w∈S,w.length≤256:=fun w hw=>by have:=le_longM hw; omega
 have hstep:∀ m,m < S.length→(∀ j,j < m→accOK q S j (S.getD j [])=true)→accOK q S m (S.getD m [])=if m=0 then decide ((S.getD 0 []).length=0) else refS q S m (S.getD m []):=fun m hm hp=>acc_step h1 h2 hw hm fun j hj _=>accOK_err (hp j hj)
 have hall:((List.range S.length).all fun j=>accOK q S j (S.getD j []))=(List.range S.length).all fun j=>if j=0 then decide ((S.getD 0 []).length=0) else refS q S j (S.getD j []):=by
  refine all_range hstep fun m hm hp=>?_
  have:∀ k,k≤m→∀ j,j < k→accOK q S j (S.getD j [])=true:=fun k=>by
   induction k with
   | zero=>intro _ j hj; omega
   | succ k ih =>
    intro hk j hj
    by_cases e:j=k
    ·subst e
     rw [hstep j (by omega) (ih (by omega))]
     exact hp j (by omega)
    ·exact ih (by omega) j (by omega)
  exact hstep m hm (this m (Nat.le_refl _))
 unfold accB accR
 rw [hall]
 by_cases h0:0 < S.length
 ·rw [decide_eq_true h0,Bool.and_true,Bool.true_and]
  rw [Bool.eq_iff_iff,Bool.and_eq_true,List.all_eq_true,List.all_eq_true]
  constructor
  ·intro h
   refine ⟨by simpa using h 0 (by simpa using h0),fun j hj=>?_⟩
   by_cases e:j=0
   ·rw [decide_eq_true e,Bool.true_or]
   ·have:=h j hj
    rw [if_neg e] at this
    rw [this,Bool.or_true]
  ·rintro ⟨h4,h5⟩ j hj
   by_cases e:j=0
   ·rw [if_pos e]; exact h4
   ·rw [if_neg e]
    have:=h5 j hj
    rw [decide_eq_false e,Bool.false_or] at this
    exact this
 ·rw [decide_eq_false h0,Bool.and_false,Bool.false_and,Bool.false_and]
theorem sufB_eq {q:Int} {S:List (List Int)} (h1:¬q > 16) (h2:¬q < 1) (h3:¬longM S > 256) : sufB q S=sufR q S:=by
 have hw:∀ w∈S,w.length≤256:=fun w hw=>by have:=le_longM hw; omega
 have hstep:∀ m,m < S.length→(∀ j,j < m→sufOK q S j (S.getD j [])=true)→sufOK q S m (S.getD m [])=refE q S m (S.getD m []):=fun m hm hp=>suf_step h1 h2 hw hm fun j hj _=>sufOK_err (hp j hj)
 have hall:((List.range S.length).all fun j=>sufOK q S j (S.getD j []))=(List.range S.length).all fun j=>refE q S j (S.getD j []):=by
  refine all_range hstep fun m hm hp=>?_
  have:∀ k,k≤m→∀ j,j < k→sufOK q S j (S.getD j [])=true:=fun k=>by
   induction k with
   | zero=>intro _ j hj; omega
   | succ k ih =>
    intro hk j hj
    by_cases e:j=k
    ·subst e
     rw [hstep j (by omega) (ih (by omega))]
     exact hp j (by omega)
    ·exact ih (by omega) j (by omega)
  exact hstep m hm (this m (Nat.le_refl _))
 unfold sufB sufR
 rw [hall,Bool.and_comm]
end Go.Ai
end
