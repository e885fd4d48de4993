/- A small verified interpreter over names, its proofs, and what was proved with it. No condition. -/
import Derived.Test.YtfhkfifjbgcpiaaDoorTC5
import Derived.Test.YtfhkfifjbgcpiaaDoorTC1
set_option linter.all false
set_option linter.deprecated false
section
namespace Go.Ai
open Go.Proofs
set_option maxRecDepth 10000
structure OkN (cond:Bool) (x:NodeM) : Prop where
  sh:shapedM 3 x=true
  ty:typedM x=true
  co:decide (6≤x.op)=cond
theorem rows2 (op:Nat) (h:3≤op∧op < 9∨op=10∨op=11) : (rowAt op).subs=2:=by
  have hop:op=3∨op=4∨op=5∨op=6∨op=7∨op=8∨op=10∨op=11:=by omega
  rcases hop with rfl | rfl | rfl | rfl | rfl | rfl | rfl | rfl <;> rfl
theorem rows1 (op:Nat) (h:op=2∨op=9) : (rowAt op).subs=1:=by rcases h with rfl | rfl <;> rfl
theorem ok_two {op:Nat} {x y:NodeM} {c:Bool} (h:3≤op∧op < 9∨op=10∨op=11) (hc:c=decide (9≤op)) (hx:OkN c x) (hy:OkN c y) : OkN (decide (6≤op)) (.mk op 0 [x,y]):=by
  have h12:op < 12:=by omega
  have hx3:=hx.co
  have hy3:=hy.co
  refine ⟨?_,?_,rfl⟩
  · have:=most_iff (op:=op) (n:=0) (vars:=3)
    simp only [shapedM,shapedL,rows2 op h,hx.sh,hy.sh,Bool.and_true,Bool.and_eq_true,decide_eq_true_eq]
    refine ⟨h12,by simp,by omega,?_⟩
    rw [this]
    omega
  · unfold typedM
    rw [numbers_op op (by omega) h12]
    simp only [typedL,hx.ty,hy.ty,Bool.and_true,Bool.and_eq_true]
    subst hc
    have e:∀ z:NodeM,decide (6≤z.op)=decide (9≤op)→(!(condM z.op == decide (op < 9)))=true:=by
      intro z hz
      have h1:condM z.op=decide (6≤z.op):=by unfold condM; by_cases h:6≤z.op <;> simp [h] <;> omega
      rw [h1,hz]
      by_cases h9:op < 9
      · simp [h9,show ¬9≤op by omega]
      · simp [h9,show 9≤op by omega]
    exact ⟨e x hx3,trivial,e y hy3⟩
theorem ok_one {op:Nat} {x:NodeM} {c:Bool} (h:op=2∨op=9) (hc:c=decide (9≤op)) (hx:OkN c x) : OkN (decide (6≤op)) (.mk op 0 [x]):=by
  have h12:op < 12:=by omega
  have hx3:=hx.co
  refine ⟨?_,?_,rfl⟩
  · have:=most_iff (op:=op) (n:=0) (vars:=3)
    simp only [shapedM,shapedL,rows1 op h,hx.sh,Bool.and_true,Bool.and_eq_true,decide_eq_true_eq]
    refine ⟨h12,by simp,by omega,?_⟩
    rw [this]
    omega
  · unfold typedM
    rw [numbers_op op (by omega) h12]
    simp only [typedL,hx.ty,Bool.and_true]
    subst hc
    have h1:condM x.op=decide (6≤x.op):=by unfold condM; by_cases h:6≤x.op <;> simp [h] <;> omega
    rw [h1,hx3]
    by_cases h9:op < 9
    · simp [h9,show ¬9≤op by omega]
    · simp [h9,show 9≤op by omega]
theorem ok_name (c:Nat) : OkN false (.mk 1 ((c / 12 % 3:Nat) : Int) []):=by
  refine ⟨?_,rfl,rfl⟩
  have:=most_iff (op:=1) (n:=((c / 12 % 3:Nat) : Int)) (vars:=3)
  simp only [shapedM,shapedL,subs0 1 (by omega),Bool.and_true,Bool.and_eq_true,decide_eq_true_eq]
  refine ⟨by omega,by simp,by omega,?_⟩
  rw [this]; omega
theorem ok_num {k:Int} (h0:0≤k) (h1:k≤2147483648) : OkN false (.mk 0 k []):=by
  refine ⟨?_,rfl,rfl⟩
  have:=most_iff (op:=0) (n:=k) (vars:=3)
  simp only [shapedM,shapedL,subs0 0 (by omega),Bool.and_true,Bool.and_eq_true,decide_eq_true_eq]
  refine ⟨by omega,by simp,h0,?_⟩
  rw [this]; omega
structure OkS (i:Nat) (p:List NodeM×List NodeM) : Prop where
  n:∀ x∈p.1,OkN false x
  t:∀ x∈p.2,OkN true x
  s:sizeL p.1+sizeL p.2≤i
theorem ok_dflt {i c:Nat} {ns ts:List NodeM} (h:OkS i (ns,ts)) : OkS (i+1) (dfltM c ns ts):=by
  refine ⟨fun x hx=>?_,h.t,?_⟩
  · rcases List.mem_cons.1 hx with rfl | hx
    · exact ok_name c
    · exact h.n x hx
  · have:=h.s
    simp only [dfltM,sizeL,sizeN] at this ⊢
    omega
theorem ok_step {i c:Nat} {num:Option Int} {ns ts:List NodeM} (h:OkS i (ns,ts)) (hn:∀ k,num=some k → -2147483648≤k∧k≤2147483647) : OkS (i+1) (stepM c num ns ts):=by
  have hs:=h.s
  have hN:∀ x∈ns,OkN false x:=h.n
  have hT:∀ x∈ts,OkN true x:=h.t
  unfold stepM
  by_cases c2:c % 12=2
  · rw [if_pos c2]
    cases ns with
    | nil=>exact ok_dflt h
    | cons x t =>
      refine ⟨fun y hy=>?_,hT,by simp only [sizeL,sizeN] at hs ⊢; omega⟩
      rcases List.mem_cons.1 hy with rfl | hy
      · exact ok_one (op:=2) (.inl rfl) rfl (hN x (by simp))
      · exact hN y (by simp [hy])
  rw [if_neg c2]
  by_cases c3:3≤c % 12∧c % 12 < 6
  · rw [if_pos c3]
    rcases ns with _ | ⟨y,_ | ⟨x,t⟩⟩
    · exact ok_dflt h
    · exact ok_dflt h
    · refine ⟨fun z hz=>?_,hT,by simp only [sizeL,sizeN] at hs ⊢; omega⟩
      rcases List.mem_cons.1 hz with rfl | hz
      · have:=ok_two (op:=c % 12) (.inl ⟨by omega,by omega⟩) (by simp; omega) (hN x (by simp)) (hN y (by simp))
        rwa [show decide (6≤c % 12)=false by simp; omega] at this
      · exact hN z (by simp [hz])
  rw [if_neg c3]
  by_cases c6:6≤c % 12∧c % 12 < 9
  · rw [if_pos c6]
    rcases ns with _ | ⟨y,_ | ⟨x,t⟩⟩
    · exact ok_dflt h
    · exact ok_dflt h
    · refine ⟨fun z hz=>hN z (by simp [show z∈t from hz]),fun z hz=>?_,by simp only [sizeL,sizeN] at hs ⊢; omega⟩
      rcases List.mem_cons.1 hz with rfl | hz
      · have:=ok_two (op:=c % 12) (.inl ⟨by omega,by omega⟩) (by simp; omega) (hN x (by simp)) (hN y (by simp))
        rwa [show decide (6≤c % 12)=true by simp; omega] at this
      · exact hT z hz
  rw [if_neg c6]
  by_cases c9:c % 12=9
  · rw [if_pos c9]
    cases ts with
    | nil=>exact ok_dflt h
    | cons x t =>
      refine ⟨hN,fun y hy=>?_,by simp only [sizeL,sizeN] at hs ⊢; omega⟩
      rcases List.mem_cons.1 hy with rfl | hy
      · exact ok_one (op:=9) (.inr rfl) rfl (hT x (by simp))
      · exact hT y (by simp [hy])
  rw [if_neg c9]
  by_cases c10:9 < c % 12
  · rw [if_pos c10]
    rcases ts with _ | ⟨y,_ | ⟨x,t⟩⟩
    · exact ok_dflt h
    · exact ok_dflt h
    · refine ⟨hN,fun z hz=>?_,by simp only [sizeL,sizeN] at hs ⊢; omega⟩
      rcases List.mem_cons.1 hz with rfl | hz
      · have:=ok_two (op:=c % 12) (.inr (by omega)) (by simp; omega) (hT x (by simp)) (hT y (by simp))
        rwa [show decide (6≤c % 12)=true by simp; omega] at this
      · exact hT z (by simp [hz])
  rw [if_neg c10]
  by_cases c0:c % 12=0
  · rw [if_pos c0]
    cases num with
    | none=>exact ok_dflt h
    | some k =>
      have hk:=hn k rfl
      refine ⟨fun y hy=>?_,hT,by simp only [sizeL,sizeN] at hs ⊢; omega⟩
      rcases List.mem_cons.1 hy with rfl | hy
      · refine ok_num ?_ ?_ <;> split <;> omega
      · exact hN y hy
  rw [if_neg c0]
  exact ok_dflt h
theorem ok_of:∀ (cs:List Nat) (nums:List Int) (i:Nat) (ns ts:List NodeM),(∀ k∈nums,-2147483648≤k∧k≤2147483647)→OkS i (ns,ts)→OkS (i+cs.length) (ofL cs nums ns ts)
  | [],nums,i,ns,ts,hn,h=>h
  | c :: cs,nums,i,ns,ts,hn,h=>by
    unfold ofL
    have:=ok_of cs nums.tail (i+1) _ _ (fun k hk=>hn k (List.mem_of_mem_tail hk)) (ok_step (c:=c) (num:=nums.head?) h (fun k hk=>hn k (List.mem_of_mem_head? hk)))
    rw [List.length_cons,show i+(cs.length+1)=i+1+cs.length by omega]
    exact this
theorem ofM_ok (codes:List Nat) (nums:List Int) (hn:∀ k∈nums,-2147483648≤k∧k≤2147483647) : shapedM 3 (ofM codes nums)=true∧typedM (ofM codes nums)=true∧sizeN (ofM codes nums)≤14:=by
  have h:=ok_of (codes.take 14) nums 0 [] [] hn ⟨fun x hx=>by simp at hx,fun x hx=>by simp at hx,by simp [sizeL]⟩
  have hl:(codes.take 14).length≤14:=by rw [List.length_take]; omega
  unfold ofM
  generalize ofL (codes.take 14) nums [] []=p at h
  obtain ⟨ns,ts⟩:=p
  have hs:=h.s
  cases ts with
  | cons t ts =>
    have:=h.t t (by simp)
    refine ⟨this.sh,this.ty,?_⟩
    simp only [sizeL] at hs
    show sizeN t≤14
    omega
  | nil =>
    cases ns with
    | cons x ns =>
      have:=h.n x (by simp)
      refine ⟨this.sh,this.ty,?_⟩
      simp only [sizeL] at hs
      show sizeN x≤14
      omega
    | nil=>exact ⟨by decide +kernel,rfl,by simp [ofE,sizeN,sizeL]⟩
mutual
theorem small_ok' : ∀ (x:NodeM) (left:Int),(sizeN x:Int)≤left→smallM x left=(true,left - sizeN x)
  | .mk op k subs,left,h=>by
    have h' : ((sizeL subs+1:Nat) : Int)≤left:=h
    unfold smallM
    rw [smallL_ok' subs (left - 1) (by omega)]
    unfold sizeN
    congr 1
    omega
theorem smallL_ok' : ∀ (l:List NodeM) (left:Int),(sizeL l:Int)≤left→smallL l left=(true,left - sizeL l)
  | [],left,h=>by
    unfold smallL
    simp only [sizeL] at h ⊢
    simp [show 0≤left by omega]
  | x :: l,left,h=>by
    have h' : ((sizeN x+sizeL l:Nat) : Int)≤left:=h
    unfold smallL
    rw [if_neg (by omega),small_ok' x left (by omega)]
    dsimp only
    rw [smallL_ok' l _ (by omega)]
    simp only [sizeL]
    congr 1
    omega
end
theorem check_ok {vs:List VarM} {x:NodeM} (hv:checkVarsM vs=0) (hs:shapedM vs.length x=true) (ht:typedM x=true) (hz:sizeN x≤64) : checkM vs x=0:=by
  unfold checkM
  rw [if_neg (by rw [hv]; simp),small_ok' x 64 (by omega)]
  simp [hs,ht]
end Go.Ai
end
section
namespace Go.Ai
open Go.Proofs
set_option maxRecDepth 10000
set_option maxHeartbeats 4000000
theorem holds_of {H:Mem} (h:∀ i b,blks0[i]?=some b→H.get i=some b) : holds H 0 blks0=true:=by
  have e:(blks0.all fun b=>eqBlk b b)=true:=by kernel_rfl
  have key:∀ (l:List Blk) (i:Nat),(∀ k b,l[k]?=some b→H.get (i+k)=some b)→(l.all fun b=>eqBlk b b)=true→holds H i l=true:=by
    intro l
    induction l with
    | nil=>intro i _ _; rfl
    | cons b l ih =>
      intro i h1 h2
      simp only [List.all_cons,Bool.and_eq_true] at h2
      have h3:=h1 0 b rfl
      rw [Nat.add_zero] at h3
      unfold holds
      rw [h3]
      dsimp only
      rw [h2.1]
      exact ih (i+1) (fun k c hk=>by rw [show i+1+k=i+(k+1) by omega]; exact h1 (k+1) c (by simpa using hk)) h2.2
  exact key blks0 0 (fun k b hk=>by rw [Nat.zero_add]; exact h k b hk) e
theorem SliceA.mono {g g' : Nat→Option Blk} {b b' len:Nat} {sv:AV} {cs:List AV} (h:SliceA g b sv len cs) (hb:b≤b') (hg:∀ a,a < b→g' a=g a) : SliceA g' b' sv len cs :=
  h.imp id fun ⟨a,off,c,h1,h2,h3⟩=>⟨a,off,c,by omega,h2,h3.mono (hg a h1)⟩
theorem sliceV_all {g:Nat→Option Blk} {a n len c:Nat} {cs:List AV} {own:Bool} {z:Nat} (h:g a=some (.cells cs own z)) (ha:a < n) : SliceV g n (.sl a 0 len c) len cs :=
  .inr ⟨a,0,ha,.inl ⟨c,rfl⟩,⟨cs,own,z,h,by simp,by simp⟩⟩
end Go.Ai
end
