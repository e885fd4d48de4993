/- A small verified interpreter over names, its proofs, and what was proved with it. No condition. -/
import Derived.Test.YtfhkfifjbgcpiaaDoorPC5
import Derived.Test.YtfhkfifjbgcpiaaDoorPC1
set_option linter.all false
set_option linter.deprecated false
section
namespace Go.Ai
open Go.Proofs
set_option maxRecDepth 10000
structure OkN (cond:Bool) (x:NodeM) : Prop where
  sh:shapedM 3 x=true
  ty:typedM x=true
  co:decide (6≤x.op)=cond
theorem rows1 (op:Nat) (h:op=2∨op=9) : (rowAt op).subs=1:=by rcases h with rfl | rfl <;> rfl
theorem ok_one {op:Nat} {x:NodeM} {c:Bool} (h:op=2∨op=9) (hc:c=decide (9≤op)) (hx:OkN c x) : OkN (decide (6≤op)) (.mk op 0 [x]):=by
  have h12:op < 12:=by omega
  have hx3:=hx.co
  refine ⟨?_,?_,rfl⟩
  · have:=most_iff (op:=op) (n:=0) (vars:=3)
    simp only [shapedM,shapedL,rows1 op h,hx.sh,Bool.and_true,Bool.and_eq_true,decide_eq_true_eq]
    refine ⟨h12,by simp,by omega,?_⟩
    rw [this]
    omega
  · unfold typedM
    rw [numbers_op op (by omega) h12]
    simp only [typedL,hx.ty,Bool.and_true]
    subst hc
    have h1:condM x.op=decide (6≤x.op):=by unfold condM; by_cases h:6≤x.op <;> simp [h] <;> omega
    rw [h1,hx3]
    by_cases h9:op < 9
    · simp [h9,show ¬9≤op by omega]
    · simp [h9,show 9≤op by omega]
structure OkS (i:Nat) (p:List NodeM×List NodeM) : Prop where
  n:∀ x∈p.1,OkN false x
  t:∀ x∈p.2,OkN true x
  s:sizeL p.1+sizeL p.2≤i
mutual
theorem small_ok' : ∀ (x:NodeM) (left:Int),(sizeN x:Int)≤left→smallM x left=(true,left - sizeN x)
  | .mk op k subs,left,h=>by
    have h' : ((sizeL subs+1:Nat) : Int)≤left:=h
    unfold smallM
    rw [smallL_ok' subs (left - 1) (by omega)]
    unfold sizeN
    congr 1
    omega
theorem smallL_ok' : ∀ (l:List NodeM) (left:Int),(sizeL l:Int)≤left→smallL l left=(true,left - sizeL l)
  | [],left,h=>by
    unfold smallL
    simp only [sizeL] at h ⊢
    simp [show 0≤left by omega]
  | x :: l,left,h=>by
    have h' : ((sizeN x+sizeL l:Nat) : Int)≤left:=h
    unfold smallL
    rw [if_neg (by omega),small_ok' x left (by omega)]
    dsimp only
    rw [smallL_ok' l _ (by omega)]
    simp only [sizeL]
    congr 1
    omega
end
end Go.Ai
end
section
namespace Go.Ai
open Go.Proofs
set_option maxRecDepth 10000
set_option maxHeartbeats 4000000
theorem holds_of {H:Mem} (h:∀ i b,blks0[i]?=some b→H.get i=some b) : holds H 0 blks0=true:=by
  have e:(blks0.all fun b=>eqBlk b b)=true:=by kernel_rfl
  have key:∀ (l:List Blk) (i:Nat),(∀ k b,l[k]?=some b→H.get (i+k)=some b)→(l.all fun b=>eqBlk b b)=true→holds H i l=true:=by
    intro l
    induction l with
    | nil=>intro i _ _; rfl
    | cons b l ih =>
      intro i h1 h2
      simp only [List.all_cons,Bool.and_eq_true] at h2
      have h3:=h1 0 b rfl
      rw [Nat.add_zero] at h3
      unfold holds
      rw [h3]
      dsimp only
      rw [h2.1]
      exact ih (i+1) (fun k c hk=>by rw [show i+1+k=i+(k+1) by omega]; exact h1 (k+1) c (by simpa using hk)) h2.2
  exact key blks0 0 (fun k b hk=>by rw [Nat.zero_add]; exact h k b hk) e
theorem SliceA.mono {g g' : Nat→Option Blk} {b b' len:Nat} {sv:AV} {cs:List AV} (h:SliceA g b sv len cs) (hb:b≤b') (hg:∀ a,a < b→g' a=g a) : SliceA g' b' sv len cs :=
  h.imp id fun ⟨a,off,c,h1,h2,h3⟩=>⟨a,off,c,by omega,h2,h3.mono (hg a h1)⟩
theorem sliceV_all {g:Nat→Option Blk} {a n len c:Nat} {cs:List AV} {own:Bool} {z:Nat} (h:g a=some (.cells cs own z)) (ha:a < n) : SliceV g n (.sl a 0 len c) len cs :=
  .inr ⟨a,0,ha,.inl ⟨c,rfl⟩,⟨cs,own,z,h,by simp,by simp⟩⟩
end Go.Ai
end
