/- A small verified interpreter over names, its proofs, and what was proved with it. No condition. -/
import Derived.Shelf.Strconv.AtoiAll
import Derived.Shelf.Strconv.Itoa3
import Derived.Test.YtfllomlghjolpaaDoorProg
import Derived.Test.YtfllomlghjolpaaDoorX07
import Derived.Test.YtfllomlghjolpaaDoorX08
import Derived.Test.YtfllomlghjolpaaDoorX06
set_option linter.all false
set_option linter.deprecated false
section
namespace Go.Ai
open Go.Proofs
set_option maxRecDepth 10000
set_option maxHeartbeats 40000000
theorem repN_lenV {g:Nat→Option Blk} {n:Nat} {op:Nat} {a b:Int} {subs:List NodeM} {c0 c1 c2 sv:AV} (h:repN g n (.mk op a b subs) [c0,c1,c2,sv]) : ∀ {H:Mem} {ev:Ev} {o:Oper} {c:Call} {e:TypeId},lenS Tryd.prog H ev o c (some (.slice e)) (some [sv])=.val (.lit (.int .i64 subs.length)) H:=by
 intro H ev o c e
 obtain ⟨_,sv',h1,h2⟩:=h
 cases h1
 rcases h2 with ⟨rfl,rfl | rfl⟩ | ⟨_,_,_,_,⟨c',rfl⟩ | ⟨c',rfl⟩,_⟩ <;> rfl
theorem valid_any (st inp out:Int) : ∀ (m:Nat),m≤1000000→∀ (x:NodeM),sizeN x≤m→∀ (g:Nat→Option Blk) (n:Nat) (cs:List AV),g 0=some opsB→0 < n→repN g n x cs →
  WC 6 Tryd.prog 56 [.agg cs,.lit (.int .i64 st),.lit (.int .i64 inp),.lit (.int .i64 out)] ⟨.fn g,n⟩ fun r=>r=.ret (.lit (.bool (validM st inp out x))) ⟨.fn g,n⟩:=by
 intro m
 induction m with
 | zero=>intro _ x hx; cases x; unfold sizeN at hx; omega
 | succ m ihm =>
  intro hm x hx g n cs hops hn0 hr
  have IH:=Hide.mk ihm
  clear ihm
  refine WC.drop1 rfl ?_
  cases x with
  | mk op a b subs =>
   have HR:=Hide.mk hr
   obtain ⟨hop,sv,rfl,hsv⟩:=hr
   have hlen:=@repN_lenV _ _ _ _ _ _ _ _ _ _ HR.out
   obtain ⟨_,_,_,hce,h1c,_⟩:=repN_one HR.out
   cases hce
   have hsz:sizeL subs≤m:=by unfold sizeN at hx; omega
   have hsl:subs.length≤1000000:=Nat.le_trans (len_size subs) (by omega)
   have h1a:allOne [.lit (.int .u8 op),.lit (.int .i64 a),.lit (.int .i64 b),sv]=true:=by simp [h1c]
   have HV:Hide (validM st inp out (.mk op a b subs)=(decide (op < 15) && (decide (subs.length=subsM op) && (decide (0≤a) && (decide (0≤b) && (decide (a < if op=1 then st else if op=2∨op=3 then inp else 1) && (decide (b < if op=3 then out else 1) && validL st inp out subs))))))):=⟨by rw [validM]⟩
   generalize validM st inp out (.mk op a b subs)=ret at HV
   clear hsv
   refine WC.enterP (noO_ok _ _) hG pl56 Tryd.func56 rfl (by decide +kernel) (Nat.le_of_ble_eq_true (by kernel_rfl)) ?_
   by_cases v1:op < 15
   rotate_left
   ·have v1I:(15:Int)≤(op:Int):=by omega
    have hv:ret=false:=by rw [HV.out,decide_eq_false v1]; rfl
    subst hv
    try simp (maxSteps:=999999) (disch:=first | assumption | omega | (simp; done) | fail) [Tryd.results56, *]
    exact ⟨Nat.le_succ n,fun b hb=>gput_lt hb⟩
   have v1I:¬(15:Int)≤(op:Int):=by omega
   have v1J:(op:Int) < 15:=by omega
   have hld:=ops_subs op v1
   have HV1:Hide (ret=(decide (subs.length=subsM op) && (decide (0≤a) && (decide (0≤b) && (decide (a < if op=1 then st else if op=2∨op=3 then inp else 1) && (decide (b < if op=3 then out else 1) && validL st inp out subs)))))):=⟨by rw [HV.out,decide_eq_true v1]; rfl⟩
   clear HV
   generalize hsm:subsM op=sm at hld HV1
   clear hsm
   by_cases v2:subs.length=sm
   rotate_left
   ·have v2I:¬(subs.length:Int)=(sm:Int):=by omega
    have hv:ret=false:=by rw [HV1.out,decide_eq_false v2]; rfl
    subst hv
    try simp (maxSteps:=999999) (disch:=first | assumption | omega | (simp; done) | fail) [Tryd.results56, *]
    exact ⟨Nat.le_succ n,fun b hb=>gput_lt hb⟩
   subst v2
   have HV2:Hide (ret=(decide (0≤a) && (decide (0≤b) && (decide (a < if op=1 then st else if op=2∨op=3 then inp else 1) && (decide (b < if op=3 then out else 1) && validL st inp out subs))))):=⟨by rw [HV1.out,decide_eq_true rfl]; rfl⟩
   clear HV1
   by_cases v3:a < 0
   ·have hv:ret=false:=by rw [HV2.out,decide_eq_false (by omega)]; rfl
    subst hv
    try simp (maxSteps:=999999) (disch:=first | assumption | omega | (simp; done) | fail) [Tryd.results56, *]
    exact ⟨Nat.le_succ n,fun b hb=>gput_lt hb⟩
   by_cases v4:b < 0
   ·have hv:ret=false:=by rw [HV2.out,decide_eq_true (show 0≤a by omega),decide_eq_false (by omega)]; rfl
    subst hv
    try simp (maxSteps:=999999) (disch:=first | assumption | omega | (simp; done) | fail) [Tryd.results56, *]
    exact ⟨Nat.le_succ n,fun b hb=>gput_lt hb⟩
   have HV3:Hide (ret=(decide (a < if op=1 then st else if op=2∨op=3 then inp else 1) && (decide (b < if op=3 then out else 1) && validL st inp out subs))):=⟨by rw [HV2.out,decide_eq_true (show 0≤a by omega),decide_eq_true (show 0≤b by omega)]; rfl⟩
   clear HV2
   have hdec:∃ A B:Int,Hide (ret=(decide (a < A) && (decide (b < B) && validL st inp out subs)))∧((op=1∧st=A∧1=B)∨(op=2∧inp=A∧1=B)∨(op=3∧inp=A∧out=B)∨(¬(op:Int)=1∧¬(op:Int)=2∧¬(op:Int)=3∧1=A∧1=B)):=by
    refine ⟨_,_,HV3,?_⟩
    by_cases h1:op=1
    ·subst h1; exact .inl ⟨rfl,rfl,rfl⟩
    by_cases h2:op=2
    ·subst h2; exact .inr (.inl ⟨rfl,rfl,rfl⟩)
    by_cases h3:op=3
    ·subst h3; exact .inr (.inr (.inl ⟨rfl,rfl,rfl⟩))
    ·exact .inr (.inr (.inr ⟨by omega,by omega,by omega,by rw [if_neg h1,if_neg (by omega)],by rw [if_neg h3]⟩))
   clear HV3
   obtain ⟨A,B,HV4,hdec⟩:=hdec
   by_cases v5:a < A
   rotate_left
   ·have v5I:A≤a:=by omega
    have hv:ret=false:=by rw [HV4.out,decide_eq_false v5]; rfl
    subst hv
    rcases hdec with ⟨rfl,rfl,rfl⟩ | ⟨rfl,rfl,rfl⟩ | ⟨rfl,rfl,rfl⟩ | ⟨d3,d4,d5,rfl,rfl⟩
    all_goals
     try simp (maxSteps:=999999) (disch:=first | assumption | omega | (simp; done) | fail) [Tryd.results56, *]
     exact ⟨Nat.le_succ n,fun b hb=>gput_lt hb⟩
   have v5I:¬(A≤a):=by omega
   by_cases v6:b < B
   rotate_left
   ·have v6I:B≤b:=by omega
    have hv:ret=false:=by rw [HV4.out,decide_eq_true v5,decide_eq_false v6]; rfl
    subst hv
    rcases hdec with ⟨rfl,rfl,rfl⟩ | ⟨rfl,rfl,rfl⟩ | ⟨rfl,rfl,rfl⟩ | ⟨d3,d4,d5,rfl,rfl⟩
    all_goals
     try simp (maxSteps:=999999) (disch:=first | assumption | omega | (simp; done) | fail) [Tryd.results56, *]
     exact ⟨Nat.le_succ n,fun b hb=>gput_lt hb⟩
   have v6I:¬(B≤b):=by omega
   have HV5:Hide (ret=validL st inp out subs):=⟨by rw [HV4.out,decide_eq_true v5,decide_eq_true v6]; rfl⟩
   clear HV4
   rcases hdec with ⟨rfl,rfl,rfl⟩ | ⟨rfl,rfl,rfl⟩ | ⟨rfl,rfl,rfl⟩ | ⟨d3,d4,d5,rfl,rfl⟩
   all_goals
    try simp (maxSteps:=999999) (disch:=first | assumption | omega | (simp; done) | fail) [Tryd.results56, *]
    refine LX.ind (fun m gf H'=>∃ (k n' : Nat) (g' : Nat→Option Blk),k≤subs.length∧m=subs.length - k∧H'=⟨.fn g',n'⟩∧n < n'∧(∀ b,b < n→g' b=g b) ∧
     gf 1=some (.lit (.int .i64 st))∧gf 2=some (.lit (.int .i64 inp))∧gf 3=some (.lit (.int .i64 out))∧gf 61=some sv∧gf 62=some (.lit (.int .i64 subs.length))∧gf 63=some (.lit (.int .i64 k))∧ret=validL st inp out (subs.drop k)) (m0:=subs.length) ?_ ?_
    ·exact ⟨0,n+1,_,Nat.zero_le _,rfl,rfl,by omega,fun b hb=>gput_lt hb,by simp,by simp,by simp,by simp,by simp [*],by simp,HV5.out⟩
    rintro m' gf H' ⟨k,n',g',hk,rfl,rfl,hn',hg',w1,w2,w3,w61,w62,w63,hc⟩ ih
    refine LX.roundP (noO_ok _ _) hG pl56 (by decide +kernel) ?_
    have HG:=Hide.mk hg'
    have HC:=Hide.mk hc
    clear hg' hc
    by_cases hlt:k < subs.length
    ·obtain ⟨ad,off,c,had,hld2,hrp,hia⟩:=sub_k HR.out k hlt
     have hld3:loadB (some (true,4)) (g' ad) (off+k * 4)=some (.agg c):=by rw [HG.out ad had]; exact hld2
     change repN g n subs[k] c at hrp
     have hdrop:subs.drop k=subs[k] :: subs.drop (k+1):=List.drop_eq_getElem_cons hlt
     have hszy:sizeN subs[k]≤m:=Nat.le_trans (size_mem (List.getElem_mem hlt)) hsz
     have hvk:=HC.out
     rw [hdrop,validL] at hvk
     generalize subs[k]=y at hrp hdrop hszy hvk
     obtain ⟨k2,k3,sv2,hcy,h1c2,hop2⟩:=repN_one hrp
     subst hcy
     have h1b:allOne [.lit (.int .u8 y.op),.lit (.int .i64 k2),.lit (.int .i64 k3),sv2]=true:=by simp [h1c2]
     have HY:=Hide.mk hrp
     have HVK:=Hide.mk hvk
     have hlt' : (k:Int) < (subs.length:Int):=by omega
     clear hrp hdrop hvk hld2
     try simp (maxSteps:=999999) (disch:=first | assumption | omega | (simp; done) | fail) [Tryd.results56, *]
     refine WC.mono (IH.out (by omega) y hszy _ _ _ (by rw [gput_lt (by omega)]; exact (HG.out 0 hn0).trans hops) (by omega) (repN_mono (b':=n'+1) (by omega) (fun a ha=>(gput_lt (by omega)).trans (HG.out a ha)) HY.out)) ?_
     rintro _ rfl
     cases hvy:validM st inp out y with
     | true =>
      have hvr:ret=validL st inp out (subs.drop (k+1)):=by rw [HVK.out,hvy]; rfl
      have HVR:=Hide.mk hvr
      clear hvr
      try simp (maxSteps:=999999) (disch:=first | assumption | omega | (simp; done) | fail) [Tryd.results56, *]
      exact ih.out (subs.length - (k+1)) _ _ (by omega) ⟨k+1,n'+1,_,hlt,rfl,rfl,by omega,fun b hb=>(gput_lt (by omega)).trans (HG.out b hb),by simp [*],by simp [*],by simp [*],by simp [*],by simp [*],by simp,HVR.out⟩
     | false =>
      have hvr:ret=false:=by rw [HVK.out,hvy]; rfl
      subst hvr
      try simp (maxSteps:=999999) (disch:=first | assumption | omega | (simp; done) | fail) [Tryd.results56, *]
      exact ⟨(by omega:n≤n'+1),fun b hb=>(gput_lt (show b < n' by have h0:b < n:=hb; omega)).trans (HG.out b hb)⟩
    ·have hlt' : ¬(k:Int) < (subs.length:Int):=by omega
     have hvr:ret=true:=by rw [HC.out,List.drop_eq_nil_of_le (by omega)]; rfl
     subst hvr
     try simp (maxSteps:=999999) (disch:=first | assumption | omega | (simp; done) | fail) [Tryd.results56, *]
     exact ⟨Nat.le_of_lt hn',fun b hb=>HG.out b hb⟩
end Go.Ai
end
section
namespace Go.Ai
open Go.Proofs
set_option maxRecDepth 10000
set_option maxHeartbeats 40000000
mutual
def countM:NodeM→Int→Int
 | .mk _ _ _ subs,most=>countL subs most 1
def countL:List NodeM→Int→Int→Int
 | [],_,n=>n
 | x :: l,most,n=>if n≤most then countL l most (n+countM x (most - n)) else n
end
mutual
theorem count_le:∀ (x:NodeM) (most:Int),1≤countM x most∧countM x most≤sizeN x
 | .mk _ _ _ subs,most=>by
  have:=countL_le subs most 1
  unfold countM sizeN
  omega
theorem countL_le:∀ (l:List NodeM) (most n:Int),n≤countL l most n∧countL l most n≤n+sizeL l
 | [],most,n=>by simp [countL,sizeL]
 | x :: l,most,n=>by
  have h1:=count_le x (most - n)
  have h2:=countL_le l most (n+countM x (most - n))
  unfold countL sizeL
  split <;> omega
end
mutual
theorem count_eq:∀ (x:NodeM) (most:Int),countM x most≤most→countM x most=sizeN x
 | .mk _ _ _ subs,most,h=>by
  unfold countM at h ⊢
  rw [countL_eq subs most 1 h]
  unfold sizeN
  omega
theorem countL_eq:∀ (l:List NodeM) (most n:Int),countL l most n≤most→countL l most n=n+sizeL l
 | [],most,n,_=>by simp [countL,sizeL]
 | x :: l,most,n,h=>by
  unfold countL at h ⊢
  split at h
  ·rename_i hn
   rw [if_pos hn]
   have h1:=countL_le l most (n+countM x (most - n))
   have h2:=count_eq x (most - n) (by omega)
   have h3:=countL_eq l most (n+countM x (most - n)) h
   rw [h3,h2]
   show _=n+((sizeN x+sizeL l:Nat) : Int)
   omega
  ·omega
end
end Go.Ai
end
section
namespace Go.Ai
open Go.Proofs
set_option maxRecDepth 10000
set_option maxHeartbeats 4000000
mutual
theorem count_up:∀ (x:NodeM) (most:Int),0≤most→countM x most≤most+1
 | .mk _ _ _ subs,most,h=>by
  have:=countL_up subs most 1
  unfold countM
  omega
theorem countL_up:∀ (l:List NodeM) (most n:Int),countL l most n≤n∨countL l most n≤most+1
 | [],most,n=>by simp [countL]
 | x :: l,most,n=>by
  unfold countL
  split
  ·have h1:=count_up x (most - n) (by omega)
   have h2:=countL_up l most (n+countM x (most - n))
   omega
  ·exact .inl (Int.le_refl _)
end
theorem count_w2:∀ (m:Nat),∀ (x:NodeM),sizeN x≤m→∀ (g:Nat→Option Blk) (n:Nat) (cs:List AV) (most:Int),0≤most→most≤1000000→repN g n x cs →
    WC 6 Tryd.prog 25 [.agg cs,.lit (.int .i64 most)] ⟨.fn g,n⟩ fun r=>r=.ret (.lit (.int .i64 (countM x most))) ⟨.fn g,n⟩:=by
  intro m
  induction m with
  | zero=>intro x hx; cases x; unfold sizeN at hx; omega
  | succ m ihm =>
    intro x hx g n cs most hm0 hm1 hr
    have IH:=Hide.mk ihm
    clear ihm
    refine WC.drop1 rfl ?_
    cases x with
    | mk op q qb subs =>
      obtain ⟨hop,sv,rfl,hsv⟩:=hr
      generalize hret:countM (.mk op q qb subs) most=ret
      have HRET:=Hide.mk hret
      clear hret
      have hsz:sizeL subs≤m:=by unfold sizeN at hx; omega
      obtain ⟨sv',hq⟩ : ∃ sv',Hide (sv'=sv):=⟨_,⟨rfl⟩⟩
      have HMO:Hide (ret=countL subs most 1):=⟨by rw [← HRET.out,countM]⟩
      rcases hsv with ⟨hsub,rfl | rfl⟩ | ⟨a,off,r,han,⟨c,rfl⟩ | ⟨c,rfl⟩,hrow,hrep⟩
      all_goals refine WC.enterP (noO_ok _ _) hG [] Tryd.func25 rfl (by decide +kernel) (Nat.le_of_ble_eq_true (by kernel_rfl)) ?_
      all_goals
        iterate 12 (all_goals try (first | with_reducible refine splitI (fun h=>?_) (fun h=>?_) | with_reducible refine splitBI (fun h=>?_) (fun h=>?_) | simp (disch:=first | assumption | omega | (simp; done) | fail) [Tryd.results25, *]))
        refine LX.ind (fun m gf H'=>∃ (k n' : Nat) (g' : Nat→Option Blk) (cnt:Int),k≤subs.length∧m=subs.length - k∧H'=⟨.fn g',n'⟩∧n < n'∧(∀ b,b < n→g' b=g b)∧g' n=some (.cells [.lit (.int .u8 op),.lit (.int .i64 q),.lit (.int .i64 qb),sv'] true 0) ∧
          gf 2=some (.ptr n 0)∧gf 1=some (.lit (.int .i64 most))∧gf 5=some (.lit (.int .i64 cnt))∧gf 6=some (.lit (.int .i64 k))∧(k:Int)+1≤cnt∧cnt≤most+1∧ret=countL (subs.drop k) most cnt) (m0:=subs.length) ?_ ?_
        · exact ⟨0,n+1,_,1,Nat.zero_le _,rfl,rfl,by omega,fun b hb=>gput_lt hb,by simp [hq.out],by simp,by simp,by simp,by simp,by omega,by omega,HMO.out⟩
        rintro m' gf H' ⟨k,n',g',cnt,hk,rfl,rfl,hn',hg',hgn,g2,g1,g5,g6,hc1,hc2,hc⟩ ih
        refine LX.roundP (noO_ok _ _) hG [] (by decide +kernel) ?_
        rw [hq.out] at hgn
        have HG:=Hide.mk hg'
        have HC:=Hide.mk hc
        clear hg' hc
        by_cases hlt:k < subs.length
        · first
          | (exfalso; rw [hsub] at hlt; simp at hlt; done)
          | (have hy0:=repL_at hrep k hlt
             have hrl:=repL_len hrep
             have hrow':=(hrow.mono (HG.out a han)).agg (k:=k * 4) (s:=4) (by omega)
             have hdrop:subs.drop k=subs[k] :: subs.drop (k+1):=List.drop_eq_getElem_cons hlt
             have hszy:sizeN subs[k]≤m:=Nat.le_trans (size_mem (List.getElem_mem hlt)) hsz
             generalize subs[k]=y at hy0 hdrop hszy
             obtain ⟨k2,k3,sv2,hcy,h1c,hop2⟩:=repN_one hy0
             rw [hcy] at hrow' hy0
             generalize hop3:y.op=op2 at hcy hrow' hy0 hop2
             have h1a:allOne [.lit (.int .u8 op2),.lit (.int .i64 k2),.lit (.int .i64 k3),sv2]=true:=by simp [h1c]
             have HY:=Hide.mk hy0
             have HD:=Hide.mk hdrop
             have HR:=Hide.mk hrep
             have HR2:=Hide.mk hrow
             have HO:=Hide.mk hop3
             have hcb:cnt≤1000001:=by omega
             have hlt' : (k:Int) < (subs.length:Int):=by omega
             clear hy0 hdrop hrep hrow hcy hrl hop3
             by_cases hcm:cnt≤most
             · iterate 40 (all_goals try (first | with_reducible refine splitI (fun h=>?_) (fun h=>?_) | with_reducible refine splitBI (fun h=>?_) (fun h=>?_) | simp (disch:=first | assumption | omega | (simp; done) | fail) [Tryd.results25, *]))
               refine WC.mono (IH.out y hszy _ _ _ (most - cnt) (by omega) (by omega) (repN_mono (b':=n') (by omega) (fun a ha=>HG.out a ha) HY.out)) ?_
               rintro _ rfl
               have hcy:=count_le y (most - cnt)
               have hcu:=count_up y (most - cnt) (by omega)
               generalize hcy2:countM y (most - cnt)=cy at hcy hcu
               have HCY:=Hide.mk hcy2
               clear hcy2
               iterate 10 (all_goals try (first | with_reducible refine splitI (fun h=>?_) (fun h=>?_) | with_reducible refine splitBI (fun h=>?_) (fun h=>?_) | simp (disch:=first | assumption | omega | (simp; done) | fail) [Tryd.results25, *]))
               refine ih.out (subs.length - (k+1)) _ _ (by omega) ⟨k+1,n',_,cnt+cy,hlt,rfl,rfl,by omega,HG.out,by simp [*,hq.out],by simp [*],by simp [*],by simp [*],by simp [*],by omega,by omega,?_⟩
               rw [HC.out,HD.out,countL,if_pos hcm,HCY.out]
             · iterate 40 (all_goals try (first | with_reducible refine splitI (fun h=>?_) (fun h=>?_) | with_reducible refine splitBI (fun h=>?_) (fun h=>?_) | simp (disch:=first | assumption | omega | (simp; done) | fail) [Tryd.results25, *]))
               exact ⟨_,⟨by rw [HC.out,HD.out,countL,if_neg hcm],rfl⟩,⟨Nat.le_of_lt hn',fun b hb=>HG.out b hb⟩⟩)
        · have HDN:=Hide.mk (List.drop_eq_nil_of_le (by omega) : subs.drop k=[])
          have hkn:k=subs.length:=by omega
          subst hkn
          have hc3:cnt≤1000001:=by omega
          first | clear hsub | clear hrep hrow
          iterate 10 (all_goals try (first | with_reducible refine splitI (fun h=>?_) (fun h=>?_) | with_reducible refine splitBI (fun h=>?_) (fun h=>?_) | simp (disch:=first | assumption | omega | (simp; done) | fail) [Tryd.results25, *]))
          all_goals first
            | (exfalso; omega)
            | exact ⟨_,⟨by rw [HC.out,HDN.out,countL],rfl⟩,⟨Nat.le_of_lt hn',fun b hb=>HG.out b hb⟩⟩
end Go.Ai
end
section
namespace Go.Proofs
open Go.Shelf
end Go.Proofs
end
section
namespace Go.Ai
open Go.Proofs
set_option maxRecDepth 10000
set_option maxHeartbeats 40000000
def smallsB:ByteArray:=⟨List.toArray ((48:UInt8) :: 48 :: 48 :: 49 :: 48 :: 50 :: 48 :: 51 :: 48 :: 52 :: 48 :: 53 :: 48 :: 54 :: 48 :: 55 :: 48 :: 56 :: 48 :: 57 :: 49 :: 48 :: 49 :: 49 :: 49 :: 50 :: 49 :: 51 :: 49 :: 52 :: 49 :: 53 :: 49 :: 54 :: 49 :: 55 :: 49 :: 56 :: 49 :: 57 :: 50 :: 48 :: 50 :: 49 :: 50 :: 50 :: 50 :: 51 :: 50 :: 52 :: 50 :: 53 :: 50 :: 54 :: 50 :: 55 :: 50 :: 56 :: 50 :: 57 :: 51 :: 48 :: 51 :: 49 :: 51 :: 50 :: 51 :: 51 :: 51 :: 52 :: 51 :: 53 :: 51 :: 54 :: 51 :: 55 :: 51 :: 56 :: 51 :: 57 :: 52 :: 48 :: 52 :: 49 :: 52 :: 50 :: 52 :: 51 :: 52 :: 52 :: 52 :: 53 :: 52 :: 54 :: 52 :: 55 :: 52 :: 56 :: 52 :: 57 :: 53 :: 48 :: 53 :: 49 :: 53 :: 50 :: 53 :: 51 :: 53 :: 52 :: 53 :: 53 :: 53 :: 54 :: 53 :: 55 :: 53 :: 56 :: 53 :: 57 :: 54 :: 48 :: 54 :: 49 :: 54 :: 50 :: 54 :: 51 :: 54 :: 52 :: 54 :: 53 :: 54 :: 54 :: 54 :: 55 :: 54 :: 56 :: 54 :: 57 :: 55 :: 48 :: 55 :: 49 :: 55 :: 50 :: 55 :: 51 :: 55 :: 52 :: 55 :: 53 :: 55 :: 54 :: 55 :: 55 :: 55 :: 56 :: 55 :: 57 :: 56 :: 48 :: 56 :: 49 :: 56 :: 50 :: 56 :: 51 :: 56 :: 52 :: 56 :: 53 :: 56 :: 54 :: 56 :: 55 :: 56 :: 56 :: 56 :: 57 :: 57 :: 48 :: 57 :: 49 :: 57 :: 50 :: 57 :: 51 :: 57 :: 52 :: 57 :: 53 :: 57 :: 54 :: 57 :: 55 :: 57 :: 56 :: 57 :: 57 :: [])⟩
def smallsOk:Bool:=(List.range 100).all fun r=>decide (bAt smallsB (r * 2)=48+(r / 10:Nat)) && decide (bAt smallsB (r * 2+1)=48+(r % 10:Nat)) && decide (9 < r→smallsB.extract (r * 2) (r * 2+2)=digB (r / 10)++digB (r % 10))
def truthM (b:Bool) : Int:=if b then 1 else 0
theorem truthM_t:truthM true=1:=(rfl)
theorem truthM_f:truthM false=0:=(rfl)
attribute [simp] truthM_t truthM_f
theorem smalls_ok:smallsOk=true:=by decide +kernel
theorem smalls_at {r:Nat} (h:r < 100) : bAt smallsB (r * 2)=48+(r / 10:Nat)∧bAt smallsB (r * 2+1)=48+(r % 10:Nat)∧(9 < r→smallsB.extract (r * 2) (r * 2+2)=digB (r / 10)++digB (r % 10)):=by
 have:=List.all_eq_true.1 smalls_ok r (List.mem_range.2 h)
 simp only [Bool.and_eq_true,decide_eq_true_eq] at this
 exact ⟨this.1.1,this.1.2,this.2⟩
theorem dec_small {k:Nat} (h:k≤9) : decB k=digB k:=dec_lo (by omega)
theorem dec_two {k:Nat} (h:9 < k) (h2:k < 100) : decB k=digB (k / 10)++digB (k % 10):=by rw [dec_hi h,dec_small (by omega)]
def digs36:ByteArray:=⟨List.toArray ((48:UInt8) :: 49 :: 50 :: 51 :: 52 :: 53 :: 54 :: 55 :: 56 :: 57 :: 97 :: 98 :: 99 :: 100 :: 101 :: 102 :: 103 :: 104 :: 105 :: 106 :: 107 :: 108 :: 109 :: 110 :: 111 :: 112 :: 113 :: 114 :: 115 :: 116 :: 117 :: 118 :: 119 :: 120 :: 121 :: 122 :: [])⟩
theorem small_w71 (k:Nat) (hk:k < 100) (H:Mem) : WC 6 Tryd.prog 80 [.lit (.int .i64 k)] H fun r=>r=.ret (.lit (.string (decB k))) H:=by
 by_cases h9:k≤9
 ·have h10:(k:Int) < 10:=by omega
  rw [dec_small h9]
  have hex0:digs36.extract k (k+1)=digB k:=by
   have hn:k=0∨k=1∨k=2∨k=3∨k=4∨k=5∨k=6∨k=7∨k=8∨k=9:=by omega
   rcases hn with rfl | rfl | rfl | rfl | rfl | rfl | rfl | rfl | rfl | rfl <;> decide +kernel
  have hex:digs36.extract k ((k:Int)+1).toNat=digB k:=by
   rw [show ((k:Int)+1).toNat=k+1 by omega]; exact hex0
  have hsz:digs36.size=36:=rfl
  unfold digs36 at hex hex0 hsz
  refine WC.enterP (noO_ok _ _) hG [] Tryd.func80 rfl (by decide +kernel) (Nat.le_of_ble_eq_true (by kernel_rfl)) ?_
  iterate 12 (all_goals try (first | with_reducible refine splitI (fun h=>?_) (fun h=>?_) | with_reducible refine splitBI (fun h=>?_) (fun h=>?_) | simp (disch:=first | assumption | omega | (simp; done) | fail) [Tryd.results80, *]))
 ·have h10:¬(k:Int) < 10:=by omega
  rw [dec_two (by omega) hk]
  have hex:smallsB.extract ((k:Int) * 2).toNat ((k:Int) * 2+2).toNat=digB (k / 10)++digB (k % 10):=by
   rw [show ((k:Int) * 2).toNat=k * 2 by omega,show ((k:Int) * 2+2).toNat=k * 2+2 by omega]
   exact (smalls_at hk).2.2 (by omega)
  have hsz:smallsB.size=200:=rfl
  unfold smallsB at hex hsz
  refine WC.enterP (noO_ok _ _) hG [] Tryd.func80 rfl (by decide +kernel) (Nat.le_of_ble_eq_true (by kernel_rfl)) ?_
  iterate 12 (all_goals try (first | with_reducible refine splitI (fun h=>?_) (fun h=>?_) | with_reducible refine splitBI (fun h=>?_) (fun h=>?_) | simp (disch:=first | assumption | omega | (simp; done) | fail) [Tryd.results80, *]))
def lenB:ByteArray:=⟨List.toArray ((0:UInt8) :: 1 :: 2 :: 2 :: 3 :: 3 :: 3 :: 3 :: 4 :: 4 :: 4 :: 4 :: 4 :: 4 :: 4 :: 4 :: 5 :: 5 :: 5 :: 5 :: 5 :: 5 :: 5 :: 5 :: 5 :: 5 :: 5 :: 5 :: 5 :: 5 :: 5 :: 5 :: 6 :: 6 :: 6 :: 6 :: 6 :: 6 :: 6 :: 6 :: 6 :: 6 :: 6 :: 6 :: 6 :: 6 :: 6 :: 6 :: 6 :: 6 :: 6 :: 6 :: 6 :: 6 :: 6 :: 6 :: 6 :: 6 :: 6 :: 6 :: 6 :: 6 :: 6 :: 6 :: 7 :: 7 :: 7 :: 7 :: 7 :: 7 :: 7 :: 7 :: 7 :: 7 :: 7 :: 7 :: 7 :: 7 :: 7 :: 7 :: 7 :: 7 :: 7 :: 7 :: 7 :: 7 :: 7 :: 7 :: 7 :: 7 :: 7 :: 7 :: 7 :: 7 :: 7 :: 7 :: 7 :: 7 :: 7 :: 7 :: 7 :: 7 :: 7 :: 7 :: 7 :: 7 :: 7 :: 7 :: 7 :: 7 :: 7 :: 7 :: 7 :: 7 :: 7 :: 7 :: 7 :: 7 :: 7 :: 7 :: 7 :: 7 :: 7 :: 7 :: 7 :: 7 :: 7 :: 7 :: 8 :: 8 :: 8 :: 8 :: 8 :: 8 :: 8 :: 8 :: 8 :: 8 :: 8 :: 8 :: 8 :: 8 :: 8 :: 8 :: 8 :: 8 :: 8 :: 8 :: 8 :: 8 :: 8 :: 8 :: 8 :: 8 :: 8 :: 8 :: 8 :: 8 :: 8 :: 8 :: 8 :: 8 :: 8 :: 8 :: 8 :: 8 :: 8 :: 8 :: 8 :: 8 :: 8 :: 8 :: 8 :: 8 :: 8 :: 8 :: 8 :: 8 :: 8 :: 8 :: 8 :: 8 :: 8 :: 8 :: 8 :: 8 :: 8 :: 8 :: 8 :: 8 :: 8 :: 8 :: 8 :: 8 :: 8 :: 8 :: 8 :: 8 :: 8 :: 8 :: 8 :: 8 :: 8 :: 8 :: 8 :: 8 :: 8 :: 8 :: 8 :: 8 :: 8 :: 8 :: 8 :: 8 :: 8 :: 8 :: 8 :: 8 :: 8 :: 8 :: 8 :: 8 :: 8 :: 8 :: 8 :: 8 :: 8 :: 8 :: 8 :: 8 :: 8 :: 8 :: 8 :: 8 :: 8 :: 8 :: 8 :: 8 :: 8 :: 8 :: 8 :: 8 :: 8 :: 8 :: 8 :: 8 :: 8 :: 8 :: 8 :: 8 :: 8 :: 8 :: 8 :: 8 :: 8 :: 8 :: [])⟩
def lenOk:Bool:=(List.range 256).all fun r=>decide (0 < r→(List.range 9).any (fun L=>decide (1≤L) && decide (bAt lenB r=(L:Nat)) && decide (2 ^ (L - 1)≤r) && decide (r < 2 ^ L))=true)
theorem len_ok:lenOk=true:=by decide +kernel
theorem len_at {r:Nat} (h:r < 256) (h0:0 < r) : ∃ L:Nat,1≤L∧L≤8∧bAt lenB r=L∧2 ^ (L - 1)≤r∧r < 2 ^ L:=by
 have:=List.all_eq_true.1 len_ok r (List.mem_range.2 h)
 obtain ⟨L,h1,h2⟩:=List.any_eq_true.1 ((of_decide_eq_true this) h0)
 simp only [Bool.and_eq_true,decide_eq_true_eq] at h2
 have:=List.mem_range.1 h1
 exact ⟨L,h2.1.1.1,by omega,h2.1.1.2,h2.1.2,h2.2⟩
theorem bool2_w (b:Bool) (H:Mem) : WC 6 Tryd.prog 88 [.lit (.bool b)] H fun r=>r=.ret (.lit (.int .i64 (truthM b))) H:=by
 cases b
 all_goals
  refine WC.enterP (noO_ok _ _) hG [] Tryd.func88 rfl (by decide +kernel) (Nat.le_of_ble_eq_true (by kernel_rfl)) ?_
  iterate 12 (all_goals try (first | with_reducible refine splitI (fun h=>?_) (fun h=>?_) | with_reducible refine splitBI (fun h=>?_) (fun h=>?_) | simp (disch:=first | assumption | omega | (simp; done) | fail) [Tryd.results88,truthM, *]))
theorem log10_w (L:Nat) (hL:L≤64) (H:Mem) : WC 6 Tryd.prog 86 [.lit (.int .i64 L)] H fun r=>r=.ret (.lit (.int .i64 (L * 78913 / 262144:Nat))) H:=by
 refine WC.enterP (noO_ok _ _) hG [] Tryd.func86 rfl (by decide +kernel) (Nat.le_of_ble_eq_true (by kernel_rfl)) ?_
 iterate 12 (all_goals try (first | with_reducible refine splitI (fun h=>?_) (fun h=>?_) | with_reducible refine splitBI (fun h=>?_) (fun h=>?_) | simp (disch:=first | assumption | omega | (simp; done) | fail) [Tryd.results86, *]))
def bitsOk (k L:Nat) : Prop:=1≤L∧L≤32∧2 ^ (L - 1)≤k∧k < 2 ^ L
theorem len64_w (k:Nat) (h0:0 < k) (hk:k≤2147483648) (H:Mem) : WC 6 Tryd.prog 87 [.lit (.int .u64 k)] H fun r=>∃ L,bitsOk k L∧r=.ret (.lit (.int .i64 (L:Nat))) H:=by
 have h32:¬(4294967296:Int)≤(k:Int):=by omega
 have hsz:lenB.size=256:=rfl
 obtain ⟨s,hs⟩ : ∃ s:Nat,Hide ((k < 256∧s=0)∨(256≤k∧k < 65536∧s=8)∨(65536≤k∧k < 16777216∧s=16)∨(16777216≤k∧s=24)):=by
  by_cases c1:k < 256
  ·exact ⟨0,⟨.inl ⟨c1,rfl⟩⟩⟩
  by_cases c2:k < 65536
  ·exact ⟨8,⟨.inr (.inl ⟨by omega,c2,rfl⟩)⟩⟩
  by_cases c3:k < 16777216
  ·exact ⟨16,⟨.inr (.inr (.inl ⟨by omega,c3,rfl⟩))⟩⟩
  ·exact ⟨24,⟨.inr (.inr (.inr ⟨by omega,rfl⟩))⟩⟩
 have fin:∀ r s:Nat,(s=0∨s=8∨s=16∨s=24)→r=k / 2 ^ s→0 < r→r < 256→∃ L:Nat,bAt lenB r=L∧bitsOk k (s+L):=by
  intro r s hs hr hp hlt
  obtain ⟨L,h1,h2,h3,h4,h5⟩:=len_at hlt hp
  refine ⟨L,h3,by omega,by rcases hs with rfl | rfl | rfl | rfl <;> omega,?_⟩
  have hL:L=1∨L=2∨L=3∨L=4∨L=5∨L=6∨L=7∨L=8:=by omega
  rcases hs with rfl | rfl | rfl | rfl <;> rcases hL with rfl | rfl | rfl | rfl | rfl | rfl | rfl | rfl <;> simp at hr h4 h5 ⊢ <;> omega
 rcases hs.out with ⟨c1,rfl⟩ | ⟨c1,c2,rfl⟩ | ⟨c1,c2,rfl⟩ | ⟨c1,rfl⟩
 ·obtain ⟨L,e1,e2⟩:=fin (k) 0 (by omega) (by simp) (by omega) (by omega)
  have e3:bAt lenB ((k:Int)).toNat=L:=by rw [show ((k:Int)).toNat=k by omega]; exact e1
  have hti:((k:Int)).toNat < 256:=by omega
  have HF:=Hide.mk e2
  have hLb:=e2.2.1
  have t16:¬(65536:Int)≤(k:Int):=by omega
  have t8:¬(256:Int)≤(k:Int):=by omega
  clear fin hs e2
  unfold lenB at e1 e3 hsz
  refine WC.enterP (noO_ok _ _) hG [] Tryd.func87 rfl (by decide +kernel) (Nat.le_of_ble_eq_true (by kernel_rfl)) ?_
  iterate 16 (all_goals try (first | with_reducible refine splitI (fun h=>?_) (fun h=>?_) | with_reducible refine splitBI (fun h=>?_) (fun h=>?_) | simp (disch:=first | assumption | omega | (simp; done) | fail) [Tryd.results87, *]))
  exact ⟨0+L,by simpa using HF.out,by omega⟩
 ·obtain ⟨L,e1,e2⟩:=fin (k / 256) 8 (by omega) (by simp) (by omega) (by omega)
  have e3:bAt lenB ((k:Int) / 256).toNat=L:=by rw [show ((k:Int) / 256).toNat=k / 256 by omega]; exact e1
  have hti:((k:Int) / 256).toNat < 256:=by omega
  have HF:=Hide.mk e2
  have hLb:=e2.2.1
  have t16:¬(65536:Int)≤(k:Int):=by omega
  have t8:(256:Int)≤(k:Int):=by omega
  clear fin hs e2
  unfold lenB at e1 e3 hsz
  refine WC.enterP (noO_ok _ _) hG [] Tryd.func87 rfl (by decide +kernel) (Nat.le_of_ble_eq_true (by kernel_rfl)) ?_
  iterate 16 (all_goals try (first | with_reducible refine splitI (fun h=>?_) (fun h=>?_) | with_reducible refine splitBI (fun h=>?_) (fun h=>?_) | simp (disch:=first | assumption | omega | (simp; done) | fail) [Tryd.results87, *]))
  exact ⟨8+L,HF.out,by omega⟩
 ·obtain ⟨L,e1,e2⟩:=fin (k / 65536) 16 (by omega) (by simp) (by omega) (by omega)
  have e3:bAt lenB ((k:Int) / 65536).toNat=L:=by rw [show ((k:Int) / 65536).toNat=k / 65536 by omega]; exact e1
  have hti:((k:Int) / 65536).toNat < 256:=by omega
  have HF:=Hide.mk e2
  have hLb:=e2.2.1
  have t16:(65536:Int)≤(k:Int):=by omega
  have t8:¬(256:Int)≤(k:Int) / 65536:=by omega
  clear fin hs e2
  unfold lenB at e1 e3 hsz
  refine WC.enterP (noO_ok _ _) hG [] Tryd.func87 rfl (by decide +kernel) (Nat.le_of_ble_eq_true (by kernel_rfl)) ?_
  iterate 16 (all_goals try (first | with_reducible refine splitI (fun h=>?_) (fun h=>?_) | with_reducible refine splitBI (fun h=>?_) (fun h=>?_) | simp (disch:=first | assumption | omega | (simp; done) | fail) [Tryd.results87, *]))
  exact ⟨16+L,HF.out,by omega⟩
 ·obtain ⟨L,e1,e2⟩:=fin (k / 16777216) 24 (by omega) (by simp) (by omega) (by omega)
  have e3:bAt lenB ((k:Int) / 65536 / 256).toNat=L:=by rw [show ((k:Int) / 65536 / 256).toNat=k / 16777216 by omega]; exact e1
  have hti:((k:Int) / 65536 / 256).toNat < 256:=by omega
  have HF:=Hide.mk e2
  have hLb:=e2.2.1
  have t16:(65536:Int)≤(k:Int):=by omega
  have t8:(256:Int)≤(k:Int) / 65536:=by omega
  clear fin hs e2
  unfold lenB at e1 e3 hsz
  refine WC.enterP (noO_ok _ _) hG [] Tryd.func87 rfl (by decide +kernel) (Nat.le_of_ble_eq_true (by kernel_rfl)) ?_
  iterate 16 (all_goals try (first | with_reducible refine splitI (fun h=>?_) (fun h=>?_) | with_reducible refine splitBI (fun h=>?_) (fun h=>?_) | simp (disch:=first | assumption | omega | (simp; done) | fail) [Tryd.results87, *]))
  exact ⟨24+L,HF.out,by omega⟩
def powOk:Bool:=(List.range 20).all fun t=>match bP[t]? with | some (.lit (.int .u64 v))=>decide (v=((10 ^ t:Nat) : Int)) | _=>false
theorem pow_ok:powOk=true:=by decide +kernel
theorem pow_at {t s:Nat} (h:t < 20) : loadB (some (false,s)) (some (.cells bP false 0)) t=some (.lit (.int .u64 ((10 ^ t:Nat) : Int))):=by
 have:=List.all_eq_true.1 pow_ok t (List.mem_range.2 h)
 rw [loadB_one]
 split at this
 ·rename_i v hv
  rw [hv,of_decide_eq_true this]
 ·cases this
def digsOk (k nd:Nat) : Prop:=3≤nd∧nd≤10∧10 ^ (nd - 1)≤k∧k < 10 ^ nd
theorem digs_of {k L t:Nat} (h0:100≤k) (hk:k≤2147483648) (hL:bitsOk k L) (ht:t=L * 78913 / 262144) : t < 10∧(10 ^ t≤k→digsOk k (t+1))∧(¬10 ^ t≤k→digsOk k t):=by
 obtain ⟨h1,h2,h3,h4⟩:=hL
 have hL7:7≤L:=by
  rcases Nat.lt_or_ge L 7 with h | h
  ·exfalso
   have:2 ^ L≤2 ^ 6:=Nat.pow_le_pow_right (by omega) (by omega)
   omega
  ·exact h
 have hc:L=7∨L=8∨L=9∨L=10∨L=11∨L=12∨L=13∨L=14∨L=15∨L=16∨L=17∨L=18∨L=19∨L=20∨L=21∨L=22∨L=23∨L=24∨L=25∨L=26∨L=27∨L=28∨L=29∨L=30∨L=31∨L=32:=by omega
 unfold digsOk
 rcases hc with rfl | rfl | rfl | rfl | rfl | rfl | rfl | rfl | rfl | rfl | rfl | rfl | rfl | rfl | rfl | rfl | rfl | rfl | rfl | rfl | rfl | rfl | rfl | rfl | rfl | rfl
 all_goals
  simp at ht
  subst ht
  simp at h3 h4 ⊢
  omega
theorem digits_w (k:Nat) (h0:100≤k) (hk:k≤2147483648) (g:Nat→Option Blk) (n:Nat) (hg:g 1=some (.cells bP false 0)) (hn:1 < n) : WC 6 Tryd.prog 81 [.lit (.int .u64 k)] ⟨.fn g,n⟩ fun r=>∃ nd,digsOk k nd∧r=.ret (.lit (.int .i64 (nd:Nat))) ⟨.fn g,n⟩:=by
 refine WC.enterP (noO_ok _ _) hG [] Tryd.func81 rfl (by decide +kernel) (Nat.le_of_ble_eq_true (by kernel_rfl)) ?_
 iterate 12 (all_goals try (first | with_reducible refine splitI (fun h=>?_) (fun h=>?_) | with_reducible refine splitBI (fun h=>?_) (fun h=>?_) | simp (disch:=first | assumption | omega | (simp; done) | fail) [Tryd.results81, *]))
 refine WC.mono (len64_w k (by omega) hk _) ?_
 rintro _ ⟨L,hL,rfl⟩
 iterate 12 (all_goals try (first | with_reducible refine splitI (fun h=>?_) (fun h=>?_) | with_reducible refine splitBI (fun h=>?_) (fun h=>?_) | simp (disch:=first | assumption | omega | (simp; done) | fail) [Tryd.results81, *]))
 refine WC.mono (log10_w L (by have:=hL.2.1; omega) _) ?_
 rintro _ rfl
 obtain ⟨t,ht⟩ : ∃ t,t=L * 78913 / 262144:=⟨_,rfl⟩
 obtain ⟨d1,d2,d3⟩:=digs_of h0 hk hL ht
 rw [← ht]
 have hp:=pow_at (s:=1) (show t < 20 by omega)
 have D2:=Hide.mk d2
 have D3:=Hide.mk d3
 have HT:=Hide.mk ht
 clear d2 d3 ht hL
 iterate 12 (all_goals try (first | with_reducible refine splitI (fun h=>?_) (fun h=>?_) | with_reducible refine splitBI (fun h=>?_) (fun h=>?_) | simp (disch:=first | assumption | omega | (simp; done) | fail) [Tryd.results81, *]))
 ·refine WC.mono (bool2_w _ _) ?_
  rintro _ rfl
  iterate 12 (all_goals try (first | with_reducible refine splitI (fun h=>?_) (fun h=>?_) | with_reducible refine splitBI (fun h=>?_) (fun h=>?_) | simp (disch:=first | assumption | omega | (simp; done) | fail) [Tryd.results81, *]))
  exact ⟨t+1,D2.out (by exact_mod_cast h),by omega⟩
 ·refine WC.mono (bool2_w _ _) ?_
  rintro _ rfl
  iterate 12 (all_goals try (first | with_reducible refine splitI (fun h=>?_) (fun h=>?_) | with_reducible refine splitBI (fun h=>?_) (fun h=>?_) | simp (disch:=first | assumption | omega | (simp; done) | fail) [Tryd.results81, *]))
  exact ⟨t,D3.out (by exact_mod_cast h),rfl⟩
end Go.Ai
end
section
namespace Go.Ai
open Go.Proofs
set_option maxRecDepth 10000
set_option maxHeartbeats 40000000
theorem smalls_lo {x:Int} (h0:0≤x) (h1:x < 100) : bAt smallsB (x * 2).toNat=48+x / 10:=by
 obtain ⟨r,rfl⟩:=Int.eq_ofNat_of_zero_le h0
 rw [show ((r:Int) * 2).toNat=r * 2 by omega,(smalls_at (by omega)).1]
 omega
theorem smalls_hi {x:Int} (h0:0≤x) (h1:x < 100) : bAt smallsB (x * 2+1).toNat=48+x % 10:=by
 obtain ⟨r,rfl⟩:=Int.eq_ofNat_of_zero_le h0
 rw [show ((r:Int) * 2+1).toNat=r * 2+1 by omega,(smalls_at (by omega)).2.1]
 omega
theorem smalls_size:smallsB.size=200:=rfl
def dg (n:Nat) : UInt8:=UInt8.ofNat (48+n)
def digL (n:Nat) : List UInt8:=if h:9 < n then digL (n / 10)++[dg (n % 10)] else [dg n]
termination_by n
decreasing_by omega
theorem digL_step {n:Nat} (h:9 < n) : digL n=digL (n / 10)++[dg (n % 10)]:=by rw [digL,dif_pos h]
theorem digL_one {n:Nat} (h:n≤9) : digL n=[dg n]:=by rw [digL,dif_neg (by omega)]
theorem ba_app (a b:List UInt8) : (⟨a.toArray⟩ : ByteArray)++⟨b.toArray⟩=⟨(a++b).toArray⟩:=by
 apply ByteArray.ext
 rw [ByteArray.data_append]
 simp
theorem dec_digL (n:Nat) : decB n=⟨(digL n).toArray⟩:=by
 induction n using Nat.strongRecOn with
 | _ n ih =>
  by_cases h:9 < n
  ·rw [dec_hi h,digL_step h,ih (n / 10) (by omega),← ba_app]; rfl
  ·rw [dec_lo (by omega),digL_one (by omega)]; rfl
theorem by_list {l:List UInt8} {n:Nat} (h:l=digL n) : (⟨l.toArray⟩ : ByteArray)=decB n:=by rw [dec_digL,h]
theorem fmt_3 (k:Nat) (h0:100≤k) (h1:k < 1000) (g:Nat→Option Blk) (n:Nat) (hk:k < 10000) (hg:g 1=some (.cells bP false 0)) (hn:1 < n) : WC 6 Tryd.prog 78 [.lit (.int .i64 k),.lit (.int .i64 10)] ⟨.fn g,n⟩ fun r=>r=.ret (.lit (.string (decB k))) ⟨.fn g,n⟩:=by
 refine WC.drop1 rfl ?_
 have e1:¬(k:Int) < 100:=by omega
 have e2:¬(k:Int) < 0:=by omega
 have SLO:=@smalls_lo
 have SHI:=@smalls_hi
 have SSZ:=smalls_size
 unfold smallsB at SLO SHI SSZ
 refine WC.enterP (noO_ok _ _) hG [] Tryd.func78 rfl (by decide +kernel) (Nat.le_of_ble_eq_true (by kernel_rfl)) ?_
 iterate 20 (all_goals try (first | with_reducible refine splitI (fun h=>?_) (fun h=>?_) | with_reducible refine splitBI (fun h=>?_) (fun h=>?_) | simp (config:={ maxSteps:=1000000 }) (disch:=first | assumption | omega | (simp; done) | fail) [Tryd.results78,Int.tdiv_eq_ediv_of_nonneg,Int.tmod_eq_emod_of_nonneg, *]))
 refine WC.mono (digits_w k (by omega) (by omega) _ _ (by simp (disch:=omega) only [gput_lt]; exact hg) (by omega)) ?_
 rintro _ ⟨nd,hnd,rfl⟩
 have hd3:nd=3:=by
  obtain ⟨q1,q2,q3,q4⟩:=hnd
  have hc:nd=3∨nd=4∨nd=5∨nd=6∨nd=7∨nd=8∨nd=9∨nd=10:=by omega
  rcases hc with rfl | rfl | rfl | rfl | rfl | rfl | rfl | rfl <;> simp at q3 q4 <;> omega
 clear hnd
 subst hd3
 iterate 20 (all_goals try (first | with_reducible refine splitI (fun h=>?_) (fun h=>?_) | with_reducible refine splitBI (fun h=>?_) (fun h=>?_) | simp (config:={ maxSteps:=1000000 }) (disch:=first | assumption | omega | (simp; done) | fail) [Tryd.results78,Int.tdiv_eq_ediv_of_nonneg,Int.tmod_eq_emod_of_nonneg, *]))
 refine WC.enterP (noO_ok _ _) hG pl82 Tryd.func82 rfl (by decide +kernel) (Nat.le_of_ble_eq_true (by kernel_rfl)) ?_
 iterate 20 (all_goals try (first | with_reducible refine splitI (fun h=>?_) (fun h=>?_) | with_reducible refine splitBI (fun h=>?_) (fun h=>?_) | simp (config:={ maxSteps:=1000000 }) (disch:=first | assumption | omega | (simp; done) | fail) [Tryd.results82,Int.tdiv_eq_ediv_of_nonneg,Int.tmod_eq_emod_of_nonneg, *]))
 refine LX.roundP (noO_ok _ _) hG pl82 (by decide +kernel) ?_
 iterate 20 (all_goals try (first | with_reducible refine splitI (fun h=>?_) (fun h=>?_) | with_reducible refine splitBI (fun h=>?_) (fun h=>?_) | simp (config:={ maxSteps:=1000000 }) (disch:=first | assumption | omega | (simp; done) | fail) [Tryd.results82,Int.tdiv_eq_ediv_of_nonneg,Int.tmod_eq_emod_of_nonneg, *]))
 refine ⟨_,⟨by_list ?_,rfl⟩,⟨Nat.le_succ _,fun b hb=>gput_lt hb⟩⟩
 rw [digL_step (by omega),digL_step (by omega),digL_one (by omega)]
 simp only [List.append_assoc,List.cons_append,List.nil_append]
 exact List.cons_eq_cons.2 ⟨congrArg UInt8.ofNat (by omega),List.cons_eq_cons.2 ⟨congrArg UInt8.ofNat (by omega),List.cons_eq_cons.2 ⟨congrArg UInt8.ofNat (by omega),rfl⟩⟩⟩
theorem fmt_4 (k:Nat) (h0:1000≤k) (h1:k < 10000) (g:Nat→Option Blk) (n:Nat) (hk:k < 10000) (hg:g 1=some (.cells bP false 0)) (hn:1 < n) : WC 6 Tryd.prog 78 [.lit (.int .i64 k),.lit (.int .i64 10)] ⟨.fn g,n⟩ fun r=>r=.ret (.lit (.string (decB k))) ⟨.fn g,n⟩:=by
 refine WC.drop1 rfl ?_
 have e1:¬(k:Int) < 100:=by omega
 have e2:¬(k:Int) < 0:=by omega
 have SLO:=@smalls_lo
 have SHI:=@smalls_hi
 have SSZ:=smalls_size
 unfold smallsB at SLO SHI SSZ
 refine WC.enterP (noO_ok _ _) hG [] Tryd.func78 rfl (by decide +kernel) (Nat.le_of_ble_eq_true (by kernel_rfl)) ?_
 iterate 20 (all_goals try (first | with_reducible refine splitI (fun h=>?_) (fun h=>?_) | with_reducible refine splitBI (fun h=>?_) (fun h=>?_) | simp (config:={ maxSteps:=1000000 }) (disch:=first | assumption | omega | (simp; done) | fail) [Tryd.results78,Int.tdiv_eq_ediv_of_nonneg,Int.tmod_eq_emod_of_nonneg, *]))
 refine WC.mono (digits_w k (by omega) (by omega) _ _ (by simp (disch:=omega) only [gput_lt]; exact hg) (by omega)) ?_
 rintro _ ⟨nd,hnd,rfl⟩
 have hd3:nd=4:=by
  obtain ⟨q1,q2,q3,q4⟩:=hnd
  have hc:nd=3∨nd=4∨nd=5∨nd=6∨nd=7∨nd=8∨nd=9∨nd=10:=by omega
  rcases hc with rfl | rfl | rfl | rfl | rfl | rfl | rfl | rfl <;> simp at q3 q4 <;> omega
 clear hnd
 subst hd3
 iterate 20 (all_goals try (first | with_reducible refine splitI (fun h=>?_) (fun h=>?_) | with_reducible refine splitBI (fun h=>?_) (fun h=>?_) | simp (config:={ maxSteps:=1000000 }) (disch:=first | assumption | omega | (simp; done) | fail) [Tryd.results78,Int.tdiv_eq_ediv_of_nonneg,Int.tmod_eq_emod_of_nonneg, *]))
 refine WC.enterP (noO_ok _ _) hG pl82 Tryd.func82 rfl (by decide +kernel) (Nat.le_of_ble_eq_true (by kernel_rfl)) ?_
 iterate 20 (all_goals try (first | with_reducible refine splitI (fun h=>?_) (fun h=>?_) | with_reducible refine splitBI (fun h=>?_) (fun h=>?_) | simp (config:={ maxSteps:=1000000 }) (disch:=first | assumption | omega | (simp; done) | fail) [Tryd.results82,Int.tdiv_eq_ediv_of_nonneg,Int.tmod_eq_emod_of_nonneg, *]))
 refine LX.roundP (noO_ok _ _) hG pl82 (by decide +kernel) ?_
 iterate 20 (all_goals try (first | with_reducible refine splitI (fun h=>?_) (fun h=>?_) | with_reducible refine splitBI (fun h=>?_) (fun h=>?_) | simp (config:={ maxSteps:=1000000 }) (disch:=first | assumption | omega | (simp; done) | fail) [Tryd.results82,Int.tdiv_eq_ediv_of_nonneg,Int.tmod_eq_emod_of_nonneg, *]))
 refine ⟨_,⟨by_list ?_,rfl⟩,⟨Nat.le_succ _,fun b hb=>gput_lt hb⟩⟩
 rw [digL_step (by omega),digL_step (by omega),digL_step (by omega),digL_one (by omega)]
 simp only [List.append_assoc,List.cons_append,List.nil_append]
 exact List.cons_eq_cons.2 ⟨congrArg UInt8.ofNat (by omega),List.cons_eq_cons.2 ⟨congrArg UInt8.ofNat (by omega),List.cons_eq_cons.2 ⟨congrArg UInt8.ofNat (by omega),List.cons_eq_cons.2 ⟨congrArg UInt8.ofNat (by omega),rfl⟩⟩⟩⟩
theorem fmt_w (k:Nat) (hk:k < 10000) (g:Nat→Option Blk) (n:Nat) (hg:g 1=some (.cells bP false 0)) (hn:1 < n) : WC 6 Tryd.prog 78 [.lit (.int .i64 k),.lit (.int .i64 10)] ⟨.fn g,n⟩ fun r=>r=.ret (.lit (.string (decB k))) ⟨.fn g,n⟩:=by
 by_cases c2:k < 100
 ·have e1:(k:Int) < 100:=by omega
  refine WC.enterP (noO_ok _ _) hG [] Tryd.func78 rfl (by decide +kernel) (Nat.le_of_ble_eq_true (by kernel_rfl)) ?_
  iterate 12 (all_goals try (first | with_reducible refine splitI (fun h=>?_) (fun h=>?_) | with_reducible refine splitBI (fun h=>?_) (fun h=>?_) | simp (disch:=first | assumption | omega | (simp; done) | fail) [Tryd.results78, *]))
  refine WC.mono (small_w71 k c2 _) ?_
  rintro _ rfl
  iterate 12 (all_goals try (first | with_reducible refine splitI (fun h=>?_) (fun h=>?_) | with_reducible refine splitBI (fun h=>?_) (fun h=>?_) | simp (disch:=first | assumption | omega | (simp; done) | fail) [Tryd.results78, *]))
 by_cases c3:k < 1000
 ·exact fmt_3 k (by omega) c3 g n hk hg hn
 by_cases c4:k < 10000
 ·exact fmt_4 k (by omega) c4 g n hk hg hn
 exact absurd hk c4
theorem itoa_w (k:Nat) (hk:k < 10000) (g:Nat→Option Blk) (n:Nat) (hg:g 1=some (.cells bP false 0)) (hn:1 < n) : WC 6 Tryd.prog 57 [.lit (.int .i64 k)] ⟨.fn g,n⟩ fun r=>r=.ret (.lit (.string (decB k))) ⟨.fn g,n⟩:=by
 refine WC.enterP (noO_ok _ _) hG [] Tryd.func57 rfl (by decide +kernel) (Nat.le_of_ble_eq_true (by kernel_rfl)) ?_
 iterate 12 (all_goals try (first | with_reducible refine splitI (fun h=>?_) (fun h=>?_) | with_reducible refine splitBI (fun h=>?_) (fun h=>?_) | simp (disch:=first | assumption | omega | (simp; done) | fail) [Tryd.results57, *]))
 refine WC.enterP (noO_ok _ _) hG [] Tryd.func72 rfl (by decide +kernel) (Nat.le_of_ble_eq_true (by kernel_rfl)) ?_
 iterate 12 (all_goals try (first | with_reducible refine splitI (fun h=>?_) (fun h=>?_) | with_reducible refine splitBI (fun h=>?_) (fun h=>?_) | simp (disch:=first | assumption | omega | (simp; done) | fail) [Tryd.results72, *]))
 refine WC.mono (fmt_w k hk g n hg hn) ?_
 rintro _ rfl
 iterate 12 (all_goals try (first | with_reducible refine splitI (fun h=>?_) (fun h=>?_) | with_reducible refine splitBI (fun h=>?_) (fun h=>?_) | simp (disch:=first | assumption | omega | (simp; done) | fail) [Tryd.results72, *]))
end Go.Ai
end
section
namespace Go.Ai
open Go.Proofs
set_option maxRecDepth 10000
theorem Sim.old {B G:Nat} {ρ:Rn} {H:Mem} {w w' : World} (s:Sim B G ρ H w) (h:RowKit.Below w.heap.size w w') : Sim B G ρ H w' :=
 s.other h.size fun a x b o k hx hr=>h.block b (s.at hx hr).lt
end Go.Ai
end
section
namespace Go.Ai
open Go.Proofs
set_option maxRecDepth 10000
set_option maxHeartbeats 40000000
def parB (s:ByteArray) (k:Nat) : Blk:=.cells [.lit (.string s),.lit (.string (tokB s k)),.lit (.int .i64 (k:Nat))] true 0
structure PAt (s:ByteArray) (p:Nat) (g:Nat→Option Blk) (n k:Nat) : Prop where
 ops:g 0=some opsB
 pw:g 1=some (.cells bP false 0)
 e2:g 2=some (.cells bX false 0)
 e3:g 3=some (.cells bY false 0)
 p0:3 < p
 pn:p < n
 cell:g p=some (parB s k)
 le:k≤s.size
theorem PAt.step {s:ByteArray} {p n n' k k' : Nat} {g g' : Nat→Option Blk} (h:PAt s p g n k) (hn:n≤n') (hg:∀ a,a < n→a≠p→g' a=g a) (hc:g' p=some (parB s k')) (hk:k'≤s.size) : PAt s p g' n' k':=by
 have h1:=h.p0
 have h2:=h.pn
 exact ⟨(hg 0 (by omega) (by omega)).trans h.ops,(hg 1 (by omega) (by omega)).trans h.pw,(hg 2 (by omega) (by omega)).trans h.e2,(hg 3 (by omega) (by omega)).trans h.e3,h1,by omega,hc,hk⟩
theorem PAt.keep {s:ByteArray} {p n n' k:Nat} {g g' : Nat→Option Blk} (h:PAt s p g n k) (hn:n≤n') (hg:∀ a,a < n→g' a=g a) : PAt s p g' n' k :=
 h.step hn (fun a ha _=>hg a ha) ((hg p h.pn).trans h.cell) h.le
end Go.Ai
end
section
namespace Go.Ai
open Go.Proofs
set_option maxRecDepth 10000
set_option maxHeartbeats 40000000
end Go.Ai
end
section
namespace Go.Ai
open Go.Proofs
set_option maxRecDepth 10000
set_option maxHeartbeats 40000000
end Go.Ai
end
section
namespace Go.Ai
open Go.Proofs
set_option maxRecDepth 10000
set_option maxHeartbeats 40000000
end Go.Ai
end
section
namespace Go.Ai
open Go.Proofs
set_option maxRecDepth 10000
set_option maxHeartbeats 40000000
theorem subs_w (o:Nat) (ho:o < 15) (H:Mem) : WC 6 Tryd.prog 71 [.lit (.int .u8 o)] H fun r=>r=.ret (.lit (.int .i64 (subsM o))) H:=by
 rcases op_cases ho with rfl | rfl | rfl | rfl | rfl | rfl | rfl | rfl | rfl | rfl | rfl | rfl | rfl | rfl | rfl
 all_goals
  refine WC.enterP (noO_ok _ _) hG [] Tryd.func71 rfl (by decide +kernel) (Nat.le_of_ble_eq_true (by kernel_rfl)) ?_
  try simp (maxSteps:=999999) (disch:=first | assumption | omega | (simp; done) | fail) [Tryd.results71, *]
  all_goals rfl
end Go.Ai
end
section
namespace Go.Ai
open Go.Proofs
set_option maxRecDepth 10000
set_option maxHeartbeats 40000000
end Go.Ai
end
section
namespace Go.Ai
open Go.Proofs
set_option maxRecDepth 10000
set_option maxHeartbeats 40000000
def ResAt (pos:List Nat) (res:ParR) (x:NodeM) (j:Nat) (e:Int) : Prop :=
 match res with
 | .ok y k=>e=1∧x=y∧pos[j]?=some k
 | .err k=>e=0∧pos[j]?=some k
theorem ResAt.ok {pos:List Nat} {res:ParR} {x:NodeM} {j:Nat} (h:ResAt pos res x j 1) : ∃ y k,res=.ok y k∧x=y∧pos[j]?=some k:=by
 cases res with
 | ok y k=>exact ⟨y,k,rfl,h.2.1,h.2.2⟩
 | err k=>exact absurd h.1 (by decide)
end Go.Ai
end
section
namespace Go.Ai
open Go.Proofs
set_option maxRecDepth 10000
end Go.Ai
end
section
namespace Go.Ai
open Go.Proofs
set_option maxRecDepth 10000
set_option maxHeartbeats 4000000
section
variable {P:Program} {O:CallF} {L:LoopF} {ops:Array Oper} {l:List Oper} {fr:Fr} {u:Mode} {H H' : Mem} {d:Option Tmp} {op:Op} {t:TypeId} {p:String} {af:Array Edge}
end
section
variable {P:Program} {W:WF} {Q:Out→Prop} {fr:Fr} {H:Mem} {ev:Ev} {d:Option Tmp} {ty:TypeId} {p:String} {af:Array Edge} {g:Option (Nat×Bool)}
end
end Go.Ai
end
section
namespace Go.Ai
open Go.Proofs
set_option maxRecDepth 10000
set_option maxHeartbeats 40000000
end Go.Ai
end
section
namespace Go.Ai
open Go.Proofs
set_option maxRecDepth 10000
set_option maxHeartbeats 40000000
mutual
theorem small_ok' : ∀ (x:NodeM) (left:Int),(sizeN x:Int)≤left→smallM x left=(true,left - sizeN x)
 | .mk op k q subs,left,h=>by
  have h' : ((sizeL subs+1:Nat) : Int)≤left:=h
  unfold smallM
  rw [smallL_ok' subs (left - 1) (by omega)]
  unfold sizeN
  congr 1
  omega
theorem smallL_ok' : ∀ (l:List NodeM) (left:Int),(sizeL l:Int)≤left→smallL l left=(true,left - sizeL l)
 | [],left,h=>by
  unfold smallL
  simp only [sizeL] at h ⊢
  simp [show 0≤left by omega]
 | x :: l,left,h=>by
  have h' : ((sizeN x+sizeL l:Nat) : Int)≤left:=h
  unfold smallL
  rw [if_neg (by omega),small_ok' x left (by omega)]
  dsimp only
  rw [smallL_ok' l _ (by omega)]
  simp only [sizeL]
  congr 1
  omega
end
mutual
theorem small_inv:∀ (x:NodeM) (left:Int),(smallM x left).1=true→(sizeN x:Int)≤left∧(smallM x left).2=left - sizeN x
 | .mk op k q subs,left,h=>by
  unfold smallM at h ⊢
  obtain ⟨h1,h2⟩:=smallL_inv subs (left - 1) h
  rw [h2]
  unfold sizeN
  omega
theorem smallL_inv:∀ (l:List NodeM) (left:Int),(smallL l left).1=true→(sizeL l:Int)≤left∧(smallL l left).2=left - sizeL l
 | [],left,h=>by
  simp only [smallL,decide_eq_true_eq] at h
  simp only [smallL,sizeL]
  omega
 | x :: l,left,h=>by
  unfold smallL at h ⊢
  by_cases h0:left < 0
  ·rw [if_pos h0] at h; cases h
  rw [if_neg h0] at h ⊢
  have hx:=small_inv x left
  generalize smallM x left=p at h hx
  obtain ⟨b,left'⟩:=p
  cases b with
  | false=>cases h
  | true =>
   dsimp only at h hx ⊢
   obtain ⟨h1,h2⟩:=hx rfl
   obtain ⟨h3,h4⟩:=smallL_inv l left' h
   rw [h4]
   show ((sizeN x+sizeL l:Nat) : Int)≤left∧_=left - ((sizeN x+sizeL l:Nat) : Int)
   omega
end
theorem count_big (x:NodeM) (most:Int) : most < countM x most↔most < sizeN x:=by
 have h1:=count_le x most
 have h2:=count_eq x most
 constructor
 ·intro h; omega
 ·intro h
  rcases Int.lt_or_le most (countM x most) with h3 | h3
  ·exact h3
  ·have:=h2 h3; omega
theorem small_count (x:NodeM) : (smallM x 64).1=false↔64 < countM x 64:=by
 rw [count_big]
 constructor
 ·intro h
  rcases Int.lt_or_le 64 (sizeN x:Int) with h3 | h3
  ·exact h3
  ·rw [small_ok' x 64 h3] at h; cases h
 ·intro h
  cases hs:(smallM x 64).1 with
  | false=>rfl
  | true=>have:=(small_inv x 64 hs).1; omega
end Go.Ai
end
section
namespace Go.Ai
open Go.Proofs
set_option maxRecDepth 10000
set_option maxHeartbeats 40000000
def subsI (o:Nat) : Int:=if o < 15 then (subsM o:Nat) else -1
theorem subs_any (o:Nat) (ho:o < 256) (H:Mem) : WC 6 Tryd.prog 71 [.lit (.int .u8 o)] H fun r=>r=.ret (.lit (.int .i64 (subsI o))) H:=by
 by_cases h:o < 15
 ·have:=subs_w o h H
  unfold subsI
  rw [if_pos h]
  exact this
 ·unfold subsI
  rw [if_neg h]
  have h0:¬(o:Int)=0:=by omega
  have n0:¬o=0:=by omega
  have h1:¬(o:Int)=1:=by omega
  have n1:¬o=1:=by omega
  have h2:¬(o:Int)=2:=by omega
  have n2:¬o=2:=by omega
  have h3:¬(o:Int)=3:=by omega
  have n3:¬o=3:=by omega
  have h5:¬(o:Int)=5:=by omega
  have n5:¬o=5:=by omega
  have h6:¬(o:Int)=6:=by omega
  have n6:¬o=6:=by omega
  have h10:¬(o:Int)=10:=by omega
  have n10:¬o=10:=by omega
  have h14:¬(o:Int)=14:=by omega
  have n14:¬o=14:=by omega
  have hg:(14:Int) < (o:Int):=by omega
  have hgN:14 < o:=by omega
  refine WC.enterP (noO_ok _ _) hG [] Tryd.func71 rfl (by decide +kernel) (Nat.le_of_ble_eq_true (by kernel_rfl)) ?_
  try simp (maxSteps:=999999) (disch:=first | assumption | omega | (simp; done) | fail) [Tryd.results71, *]
theorem subsI_eq {o:Nat} {k:Nat} : (k:Int)=subsI o↔o < 15∧k=subsM o:=by
 unfold subsI
 split <;> omega
theorem right_any (st inp out:Int) (hst:0≤st∧st≤1000000) (hinp:0≤inp∧inp≤1000000) (hout:0≤out∧out≤1000000) : ∀ (m:Nat),m≤1000000→∀ (x:NodeM),sizeN x≤m→∀ (g:Nat→Option Blk) (n:Nat) (cs:List AV),repN g n x cs →
  WC 6 Tryd.prog 55 [.agg cs,.lit (.int .i64 st),.lit (.int .i64 inp),.lit (.int .i64 out)] ⟨.fn g,n⟩ fun r=>r=.ret (.lit (.int .i64 (b01 (validM st inp out x)))) ⟨.fn g,n⟩:=by
 obtain ⟨s1,s2⟩:=hst
 obtain ⟨i1,i2⟩:=hinp
 obtain ⟨o1,o2⟩:=hout
 intro m
 induction m with
 | zero=>intro _ x hx; cases x; unfold sizeN at hx; omega
 | succ m ihm =>
  intro hm x hx g n cs hr
  have IH:=Hide.mk ihm
  clear ihm
  refine WC.drop1 rfl ?_
  cases x with
  | mk op a b subs =>
   have HR:=Hide.mk hr
   obtain ⟨hop,sv,rfl,hsv⟩:=hr
   have hlen:=@repN_lenV _ _ _ _ _ _ _ _ _ _ HR.out
   obtain ⟨_,_,_,hce,h1c,_⟩:=repN_one HR.out
   cases hce
   have hsz:sizeL subs≤m:=by unfold sizeN at hx; omega
   have hsl:subs.length≤1000000:=Nat.le_trans (len_size subs) (by omega)
   have h1a:allOne [.lit (.int .u8 op),.lit (.int .i64 a),.lit (.int .i64 b),sv]=true:=by simp [h1c]
   have HV:Hide (validM st inp out (.mk op a b subs)=(decide (op < 15) && (decide (subs.length=subsM op) && (decide (0≤a) && (decide (0≤b) && (decide (a < if op=1 then st else if op=2∨op=3 then inp else 1) && (decide (b < if op=3 then out else 1) && validL st inp out subs))))))):=⟨by rw [validM]⟩
   generalize validM st inp out (.mk op a b subs)=ret at HV
   have hdec:∃ A B:Int,Hide (ret=(decide (op < 15) && (decide (subs.length=subsM op) && (decide (0≤a) && (decide (0≤b) && (decide (a < A) && (decide (b < B) && validL st inp out subs)))))))∧(0≤A∧A≤1000000∧0≤B∧B≤1000000)∧((op=1∧st=A∧1=B)∨(op=2∧inp=A∧1=B)∨(op=3∧inp=A∧out=B)∨(¬(op:Int)=1∧¬(op:Int)=2∧¬(op:Int)=3∧1=A∧1=B)):=by
    refine ⟨_,_,HV,?_,?_⟩
    ·split <;> (try split) <;> (try split) <;> omega
    by_cases h1:op=1
    ·subst h1; exact .inl ⟨rfl,rfl,rfl⟩
    by_cases h2:op=2
    ·subst h2; exact .inr (.inl ⟨rfl,rfl,rfl⟩)
    by_cases h3:op=3
    ·subst h3; exact .inr (.inr (.inl ⟨rfl,rfl,rfl⟩))
    ·exact .inr (.inr (.inr ⟨by omega,by omega,by omega,by rw [if_neg h1,if_neg (by omega)],by rw [if_neg h3]⟩))
   clear hsv HV
   obtain ⟨A,B,HV4,⟨hA1,hA2,hB1,hB2⟩,hdec⟩:=hdec
   have HVF:Hide (¬((subs.length:Int)=subsI op∧0≤a∧¬A - 1 < a∧0≤b∧¬B - 1 < b)→b01 ret=0):=⟨fun h=>by
    have:ret=false:=by
     rw [HV4.out,Bool.eq_false_iff]
     intro hh
     simp only [Bool.and_eq_true,decide_eq_true_eq] at hh
     exact h ⟨subsI_eq.2 ⟨hh.1,hh.2.1⟩,by omega,by omega,by omega,by omega⟩
    rw [this]; rfl⟩
   have HVT:Hide ((subs.length:Int)=subsI op∧0≤a∧¬A - 1 < a∧0≤b∧¬B - 1 < b→ret=validL st inp out subs):=⟨fun ⟨h1,h2,h3,h4,h5⟩=>by
    have h6:=subsI_eq.1 h1
    rw [HV4.out,decide_eq_true h6.1,decide_eq_true h6.2,decide_eq_true h2,decide_eq_true h4,decide_eq_true (show a < A by omega),decide_eq_true (show b < B by omega)]; rfl⟩
   clear HV4
   have hdec' : ∃ A1 B1:Int,Hide (A - 1=A1∧B - 1=B1)∧((op=1∧st - 1=A1∧B1=0)∨(op=2∧inp - 1=A1∧B1=0)∨(op=3∧inp - 1=A1∧out - 1=B1)∨(¬(op:Int)=1∧¬(op:Int)=2∧¬(op:Int)=3∧A1=0∧B1=0)):=by
    refine ⟨A - 1,B - 1,⟨rfl,rfl⟩,?_⟩
    rcases hdec with ⟨h,h1,h2⟩ | ⟨h,h1,h2⟩ | ⟨h,h1,h2⟩ | ⟨h,h',h'',h1,h2⟩
    ·exact .inl ⟨h,by omega,by omega⟩
    ·exact .inr (.inl ⟨h,by omega,by omega⟩)
    ·exact .inr (.inr (.inl ⟨h,by omega,by omega⟩))
    ·exact .inr (.inr (.inr ⟨h,h',h'',by omega,by omega⟩))
   obtain ⟨A1,B1,HAB,hdec⟩:=hdec'
   rw [HAB.out.1,HAB.out.2] at HVF HVT
   have HD3:Hide (A1 < a∨¬A1 < a):=⟨Decidable.em _⟩
   have HD6:Hide (B1 < b∨¬B1 < b):=⟨Decidable.em _⟩
   clear HAB hA1 hA2 hB1 hB2
   refine WC.enterP (noO_ok _ _) hG pl55 Tryd.func55 rfl (by decide +kernel) (Nat.le_of_ble_eq_true (by kernel_rfl)) ?_
   rcases hdec with ⟨rfl,e1,rfl⟩ | ⟨rfl,e1,rfl⟩ | ⟨rfl,e1,e2⟩ | ⟨d3,d4,d5,rfl,rfl⟩
   all_goals
    try simp (maxSteps:=999999) (disch:=first | assumption | omega | (simp; done) | fail) [Tryd.results55, *]
    first | refine WC.mono (subs_any 1 hop _) ?_ | refine WC.mono (subs_any 2 hop _) ?_ | refine WC.mono (subs_any 3 hop _) ?_ | refine WC.mono (subs_any op hop _) ?_
    rintro _ rfl
    generalize hSI:subsI _=S at HVF HVT
    clear hSI
    by_cases q1:(subs.length:Int)=S
    rotate_left
    ·have hv:=HVF.out (fun h=>q1 h.1)
     rw [hv]
     try simp (maxSteps:=999999) (disch:=first | assumption | omega | (simp; done) | fail) [Tryd.results55, *]
     exact ⟨Nat.le_succ n,fun b hb=>gput_lt hb⟩
    subst q1
    by_cases q2:a < 0
    ·have hv:=HVF.out (fun h=>absurd h.2.1 (by omega))
     rw [hv]
     try simp (maxSteps:=999999) (disch:=first | assumption | omega | (simp; done) | fail) [Tryd.results55, *]
     exact ⟨Nat.le_succ n,fun b hb=>gput_lt hb⟩
    rcases HD3.out with q3 | q3
    ·have hv:=HVF.out (fun h=>h.2.2.1 q3)
     rw [hv]
     try simp (maxSteps:=999999) (disch:=first | assumption | omega | (simp; done) | fail) [Tryd.results55, *]
     exact ⟨Nat.le_succ n,fun b hb=>gput_lt hb⟩
    by_cases q4:b < 0
    ·have hv:=HVF.out (fun h=>absurd h.2.2.2.1 (by omega))
     rw [hv]
     try simp (maxSteps:=999999) (disch:=first | assumption | omega | (simp; done) | fail) [Tryd.results55, *]
     exact ⟨Nat.le_succ n,fun b hb=>gput_lt hb⟩
    rcases HD6.out with q5 | q5
    ·have hv:=HVF.out (fun h=>h.2.2.2.2 q5)
     rw [hv]
     try simp (maxSteps:=999999) (disch:=first | assumption | omega | (simp; done) | fail) [Tryd.results55, *]
     exact ⟨Nat.le_succ n,fun b hb=>gput_lt hb⟩
    have HV5:=Hide.mk (HVT.out ⟨rfl,by omega,q3,by omega,q5⟩)
    clear HVF HVT HD3 HD6
    try simp (maxSteps:=999999) (disch:=first | assumption | omega | (simp; done) | fail) [Tryd.results55, *]
    refine LX.ind (fun m gf H'=>∃ (k n' : Nat) (g' : Nat→Option Blk),k≤subs.length∧m=subs.length - k∧H'=⟨.fn g',n'⟩∧n < n'∧(∀ b,b < n→g' b=g b)∧(∃ c,g' n=some (.cells [c,.lit (.int .i64 a),.lit (.int .i64 b),sv] true 0)) ∧
     gf 1=some (.lit (.int .i64 st))∧gf 2=some (.lit (.int .i64 inp))∧gf 3=some (.lit (.int .i64 out))∧gf 4=some (.ptr n 0)∧gf 11=some (.lit (.int .i64 k))∧ret=validL st inp out (subs.drop k)) (m0:=subs.length) ?_ ?_
    ·exact ⟨0,n+1,_,Nat.zero_le _,rfl,rfl,by omega,fun b hb=>gput_lt hb,⟨_,gput_eq⟩,by simp,by simp,by simp,by simp,by simp,HV5.out⟩
    rintro m' gf H' ⟨k,n',g',hk,rfl,rfl,hn',hg',⟨c0,f0⟩,w1,w2,w3,w4,w11,hc⟩ ih
    refine LX.roundP (noO_ok _ _) hG pl55 (by decide +kernel) ?_
    have HG:=Hide.mk hg'
    have HC:=Hide.mk hc
    clear hg' hc
    by_cases hlt:k < subs.length
    ·obtain ⟨ad,off,c,had,hld2,hrp,hia⟩:=sub_k HR.out k hlt
     have hld3:loadB (some (true,4)) (g' ad) (off+k * 4)=some (.agg c):=by rw [HG.out ad had]; exact hld2
     change repN g n subs[k] c at hrp
     have hdrop:subs.drop k=subs[k] :: subs.drop (k+1):=List.drop_eq_getElem_cons hlt
     have hszy:sizeN subs[k]≤m:=Nat.le_trans (size_mem (List.getElem_mem hlt)) hsz
     have hvk:=HC.out
     rw [hdrop,validL] at hvk
     generalize subs[k]=y at hrp hdrop hszy hvk
     obtain ⟨k2,k3,sv2,hcy,h1c2,hop2⟩:=repN_one hrp
     subst hcy
     have h1b:allOne [.lit (.int .u8 y.op),.lit (.int .i64 k2),.lit (.int .i64 k3),sv2]=true:=by simp [h1c2]
     have HY:=Hide.mk hrp
     have HVK:=Hide.mk hvk
     have hlt' : (k:Int) < (subs.length:Int):=by omega
     clear hrp hdrop hvk hld2
     try simp (maxSteps:=999999) (disch:=first | assumption | omega | (simp; done) | fail) [Tryd.results55, *]
     refine WC.mono (IH.out (by omega) y hszy _ _ _ (repN_mono (b':=n') (by omega) (fun a ha=>HG.out a ha) HY.out)) ?_
     rintro _ rfl
     cases hvy:validM st inp out y with
     | true =>
      have hvr:ret=validL st inp out (subs.drop (k+1)):=by rw [HVK.out,hvy]; rfl
      have HVR:=Hide.mk hvr
      clear hvr
      rw [show b01 true=1 from rfl]
      try simp (maxSteps:=999999) (disch:=first | assumption | omega | (simp; done) | fail) [Tryd.results55, *]
      exact ih.out (subs.length - (k+1)) _ _ (by omega) ⟨k+1,n',g',hlt,rfl,rfl,by omega,HG.out,⟨_,f0⟩,by simp [*],by simp [*],by simp [*],by simp [*],by simp [*],HVR.out⟩
     | false =>
      have hvr:ret=false:=by rw [HVK.out,hvy]; rfl
      subst hvr
      rw [show b01 false=0 from rfl]
      try simp (maxSteps:=999999) (disch:=first | assumption | omega | (simp; done) | fail) [Tryd.results55, *]
      exact ⟨(by omega:n≤n'),fun b hb=>HG.out b hb⟩
    ·have hlt' : ¬(k:Int) < (subs.length:Int):=by omega
     have hvr:ret=true:=by rw [HC.out,List.drop_eq_nil_of_le (by omega)]; rfl
     subst hvr
     rw [show b01 true=1 from rfl]
     try simp (maxSteps:=999999) (disch:=first | assumption | omega | (simp; done) | fail) [Tryd.results55, *]
     exact ⟨Nat.le_of_lt hn',fun b hb=>HG.out b hb⟩
end Go.Ai
end
section
namespace Go.Ai
open Go.Proofs
set_option maxRecDepth 10000
set_option maxHeartbeats 40000000
theorem ops_agg (op:Nat) (h:op < 15) : ∃ fn,loadB (some (true,4)) (some opsB) (op * 4)=some (.agg [.lit (.int .i64 (subsM op:Nat)),.lit (.int .i64 (rankM op)),.lit (.string (signB op)),.lit (.func (.func fn) #[] #[])]):=by
 rcases op_cases h with rfl | rfl | rfl | rfl | rfl | rfl | rfl | rfl | rfl | rfl | rfl | rfl | rfl | rfl | rfl <;> exact ⟨_,rfl⟩
theorem rank_in (op:Nat) : 1≤rankM op∧rankM op≤4:=by unfold rankM; split <;> (try split) <;> (try split) <;> omega
theorem par_zero (w:ByteArray) (op:Nat) : parM w (rankM op) 0=w:=by unfold parM; exact if_neg (by have:=rank_in op; omega)
theorem write_w:∀ (m:Nat),m≤1000000→∀ (x:NodeM),sizeN x≤m→∀ (g:Nat→Option Blk) (n:Nat) (cs:List AV) (least:Int),g 0=some opsB→g 1=some (.cells bP false 0)→1 < n→repN g n x cs→validM 10000 10000 10000 x=true →
    WC 6 Tryd.prog 39 [.agg cs,.lit (.int .i64 least)] ⟨.fn g,n⟩ fun r=>r=.ret (.lit (.string (parM (textM x) (rankM x.op) least))) ⟨.fn g,n⟩:=by
  intro m
  induction m with
  | zero=>intro _ x hx; cases x; unfold sizeN at hx; omega
  | succ m ihm =>
    intro hm x hx g n cs least hg hgp hn hr hv
    have IH:=Hide.mk ihm
    clear ihm
    refine WC.drop1 rfl ?_
    cases x with
    | mk op a b subs =>
      generalize hret:parM (textM (.mk op a b subs)) (rankM (NodeM.mk op a b subs).op) least=ret
      simp only [validM,Bool.and_eq_true,decide_eq_true_eq] at hv
      obtain ⟨v1,v2,v3,v4,v5,v6,v7⟩:=hv
      obtain ⟨hop,sv1,rfl,hsv1⟩:=hr
      have h1c:oneC sv1=true:=by rcases hsv1 with ⟨_,rfl | rfl⟩ | ⟨a,off,r,_,⟨c,rfl⟩ | ⟨c,rfl⟩,_⟩ <;> rfl
      have h1a:allOne [.lit (.int .u8 op),.lit (.int .i64 a),.lit (.int .i64 b),sv1]=true:=by simp [h1c]
      obtain ⟨fn,hrow⟩:=ops_agg op v1
      obtain ⟨hrk1,hrk2⟩:=rank_in op
      have hsg:=sign_size op
      have hallr:allOne [.lit (.int .i64 (subsM op:Nat)),.lit (.int .i64 (rankM op)),.lit (.string (signB op)),.lit (.func (.func fn) #[] #[])]=true:=by simp
      obtain ⟨ka,rfl⟩:=Int.eq_ofNat_of_zero_le v3
      obtain ⟨kb,rfl⟩:=Int.eq_ofNat_of_zero_le v4
      have va:ka < 10000:=by split at v5 <;> (try split at v5) <;> omega
      have vb:kb < 10000:=by split at v6 <;> omega
      have da:=dec_size ka 3 (by omega)
      have db:=dec_size kb 3 (by omega)
      have hspz:(⟨#[32]⟩ : ByteArray).size=1:=rfl
      have hpl:(⟨#[40]⟩ : ByteArray).size=1:=rfl
      have hpr:(⟨#[41]⟩ : ByteArray).size=1:=rfl
      have hql:(⟨#[91]⟩ : ByteArray).size=1:=rfl
      have hqr:(⟨#[93]⟩ : ByteArray).size=1:=rfl
      have hqu:(⟨#[32,85,32]⟩ : ByteArray).size=3:=rfl
      clear v5 v6
      have hopI:(op:Int) < 15:=by omega
      match subs,hx,v2,v7,hsv1,hret with
      | [],hx,v2,v7,hsv1,hret =>
        have ho:op=0∨op=1∨op=2∨op=3:=by
          rcases op_cases v1 with rfl | rfl | rfl | rfl | rfl | rfl | rfl | rfl | rfl | rfl | rfl | rfl | rfl | rfl | rfl <;> simp [subsM] at v2 ⊢
        clear hsv1 v2 v7 IH
        rcases ho with rfl | rfl | rfl | rfl
        · rw [show subsM 0=0 from rfl] at hrow hallr
          have h2:((⟨#[40]⟩ : ByteArray)++signB 0).size≤200000001:=by rw [ba_size_append]; omega
          have HRET:Hide (parM (signB 0) (rankM 0) least=ret):=⟨by rw [← hret]; rfl⟩
          clear hret
          refine WC.enterP (noO_ok _ _) hG pl39 Tryd.func39 rfl (by decide +kernel) (Nat.le_of_ble_eq_true (by kernel_rfl)) ?_
          iterate 6 all_goals try first | with_reducible refine splitI (fun h=>?_) fun h=>?_ | with_reducible refine splitBI (fun h=>?_) fun h=>?_ | simp (maxSteps:=999999) (disch:=first | assumption | omega | (simp; done) | fail) [Tryd.results39, *]
          all_goals
            have e:=HRET.out
            refine ⟨_,⟨?_,rfl⟩,⟨by dsimp only; omega,fun b hb=>?_⟩⟩
            · rw [← e]; unfold parM
              first | (rw [if_pos (by assumption)]) | (rw [if_neg (by omega)])
              try simp only [ByteArray.append_assoc]
            · have hb' : b < n:=hb
              show gput _ _ _ _=_
              simp (disch:=omega) only [gput_lt]
              try rfl
        · rw [show subsM 1=0 from rfl] at hrow hallr
          have HRET:Hide (parM (signB 1++⟨#[32]⟩++decB ka) (rankM 1) least=ret):=⟨by rw [← hret]; rfl⟩
          clear hret
          have s1:((⟨#[32]⟩ : ByteArray)++decB ka).size≤200000000:=by rw [ba_size_append]; omega
          have s2:(signB 1++((⟨#[32]⟩ : ByteArray)++decB ka)).size≤200000000:=by rw [ba_size_append,ba_size_append]; omega
          have s3:((⟨#[40]⟩ : ByteArray)++(signB 1++((⟨#[32]⟩ : ByteArray)++decB ka))).size≤200000001:=by rw [ba_size_append,ba_size_append,ba_size_append]; omega
          refine WC.enterP (noO_ok _ _) hG pl39 Tryd.func39 rfl (by decide +kernel) (Nat.le_of_ble_eq_true (by kernel_rfl)) ?_
          iterate 6 all_goals try first | with_reducible refine splitI (fun h=>?_) fun h=>?_ | with_reducible refine splitBI (fun h=>?_) fun h=>?_ | simp (maxSteps:=999999) (disch:=first | assumption | omega | (simp; done) | fail) [Tryd.results39, *]
          refine WC.mono (itoa_w ka (by omega) _ _ (by simp (disch:=omega) only [gput_lt]; exact hgp) (by omega)) ?_
          rintro _ rfl
          generalize decB ka=dka at *
          iterate 6 all_goals try first | with_reducible refine splitI (fun h=>?_) fun h=>?_ | with_reducible refine splitBI (fun h=>?_) fun h=>?_ | simp (maxSteps:=999999) (disch:=first | assumption | omega | (simp; done) | fail) [Tryd.results39, *]
          all_goals
            have e:=HRET.out
            refine ⟨_,⟨?_,rfl⟩,⟨by dsimp only; omega,fun b hb=>?_⟩⟩
            · rw [← e]; unfold parM
              first | (rw [if_pos (by assumption)]) | (rw [if_neg (by omega)])
              try simp only [ByteArray.append_assoc]
            · have hb' : b < n:=hb
              show gput _ _ _ _=_
              simp (disch:=omega) only [gput_lt]
              try rfl
        · rw [show subsM 2=0 from rfl] at hrow hallr
          have HRET:Hide (parM (signB 2++⟨#[32]⟩++decB ka) (rankM 2) least=ret):=⟨by rw [← hret]; rfl⟩
          clear hret
          have s1:((⟨#[32]⟩ : ByteArray)++decB ka).size≤200000000:=by rw [ba_size_append]; omega
          have s2:(signB 2++((⟨#[32]⟩ : ByteArray)++decB ka)).size≤200000000:=by rw [ba_size_append,ba_size_append]; omega
          have s3:((⟨#[40]⟩ : ByteArray)++(signB 2++((⟨#[32]⟩ : ByteArray)++decB ka))).size≤200000001:=by rw [ba_size_append,ba_size_append,ba_size_append]; omega
          refine WC.enterP (noO_ok _ _) hG pl39 Tryd.func39 rfl (by decide +kernel) (Nat.le_of_ble_eq_true (by kernel_rfl)) ?_
          iterate 6 all_goals try first | with_reducible refine splitI (fun h=>?_) fun h=>?_ | with_reducible refine splitBI (fun h=>?_) fun h=>?_ | simp (maxSteps:=999999) (disch:=first | assumption | omega | (simp; done) | fail) [Tryd.results39, *]
          refine WC.mono (itoa_w ka (by omega) _ _ (by simp (disch:=omega) only [gput_lt]; exact hgp) (by omega)) ?_
          rintro _ rfl
          generalize decB ka=dka at *
          iterate 6 all_goals try first | with_reducible refine splitI (fun h=>?_) fun h=>?_ | with_reducible refine splitBI (fun h=>?_) fun h=>?_ | simp (maxSteps:=999999) (disch:=first | assumption | omega | (simp; done) | fail) [Tryd.results39, *]
          all_goals
            have e:=HRET.out
            refine ⟨_,⟨?_,rfl⟩,⟨by dsimp only; omega,fun b hb=>?_⟩⟩
            · rw [← e]; unfold parM
              first | (rw [if_pos (by assumption)]) | (rw [if_neg (by omega)])
              try simp only [ByteArray.append_assoc]
            · have hb' : b < n:=hb
              show gput _ _ _ _=_
              simp (disch:=omega) only [gput_lt]
              try rfl
        · rw [show subsM 3=0 from rfl] at hrow hallr
          have HRET:Hide (parM (signB 3++⟨#[32]⟩++decB ka++⟨#[32]⟩++decB kb) (rankM 3) least=ret):=⟨by rw [← hret]; rfl⟩
          clear hret
          have s1:((⟨#[32]⟩ : ByteArray)++decB ka).size≤200:=by simp only [ba_size_append]; omega
          have s2:(((⟨#[32]⟩ : ByteArray)++decB ka)++(⟨#[32]⟩ : ByteArray)).size≤200:=by simp only [ba_size_append]; omega
          have s3:((((⟨#[32]⟩ : ByteArray)++decB ka)++(⟨#[32]⟩ : ByteArray))++decB kb).size≤200:=by simp only [ba_size_append]; omega
          have s4:(signB 3++((((⟨#[32]⟩ : ByteArray)++decB ka)++(⟨#[32]⟩ : ByteArray))++decB kb)).size≤200:=by simp only [ba_size_append]; omega
          have s5:((⟨#[40]⟩ : ByteArray)++(signB 3++((((⟨#[32]⟩ : ByteArray)++decB ka)++(⟨#[32]⟩ : ByteArray))++decB kb))).size≤200:=by simp only [ba_size_append]; omega
          refine WC.enterP (noO_ok _ _) hG pl39 Tryd.func39 rfl (by decide +kernel) (Nat.le_of_ble_eq_true (by kernel_rfl)) ?_
          iterate 6 all_goals try first | with_reducible refine splitI (fun h=>?_) fun h=>?_ | with_reducible refine splitBI (fun h=>?_) fun h=>?_ | simp (maxSteps:=999999) (disch:=first | assumption | omega | (simp; done) | fail) [Tryd.results39, *]
          refine WC.mono (itoa_w ka (by omega) _ _ (by simp (disch:=omega) only [gput_lt]; exact hgp) (by omega)) ?_
          rintro _ rfl
          generalize decB ka=dka at *
          iterate 6 all_goals try first | with_reducible refine splitI (fun h=>?_) fun h=>?_ | with_reducible refine splitBI (fun h=>?_) fun h=>?_ | simp (maxSteps:=999999) (disch:=first | assumption | omega | (simp; done) | fail) [Tryd.results39, *]
          refine WC.mono (itoa_w kb (by omega) _ _ (by simp (disch:=omega) only [gput_lt]; exact hgp) (by omega)) ?_
          rintro _ rfl
          generalize decB kb=dkb at *
          iterate 6 all_goals try first | with_reducible refine splitI (fun h=>?_) fun h=>?_ | with_reducible refine splitBI (fun h=>?_) fun h=>?_ | simp (maxSteps:=999999) (disch:=first | assumption | omega | (simp; done) | fail) [Tryd.results39, *]
          all_goals
            have e:=HRET.out
            refine ⟨_,⟨?_,rfl⟩,⟨by dsimp only; omega,fun b hb=>?_⟩⟩
            · rw [← e]; unfold parM
              first | (rw [if_pos (by assumption)]) | (rw [if_neg (by omega)])
              try simp only [ByteArray.append_assoc]
            · have hb' : b < n:=hb
              show gput _ _ _ _=_
              simp (disch:=omega) only [gput_lt]
              try rfl
      | [y],hx,v2,v7,hsv1,hret =>
        have hs1:subsM op=1:=v2.symm
        have hrk3:rankM op=3:=by unfold rankM; rw [if_neg (by rintro rfl; revert hs1; decide),if_neg (by rintro rfl; revert hs1; decide),if_pos hs1]
        have n10 : ¬(op : Int) = 10 := by intro e; have e2 : op = 10 := by omega
                                          subst e2; revert hs1; decide
        have n14 : ¬(op : Int) = 14 := by intro e; have e2 : op = 14 := by omega
                                          subst e2; revert hs1; decide
        rw [hs1,hrk3] at hrow hallr
        rcases hsv1 with ⟨hsub,_⟩ | ⟨ad,off,r,han,hsl,hrow1,hrep⟩
        · cases hsub
        obtain ⟨c1,r1,rfl,hy1,hr1⟩:=hrep
        have hr1' : r1=[]:=hr1
        subst hr1'
        obtain ⟨k2,k3,sv2,hcy,h2c,hop2⟩:=repN_one hy1
        subst hcy
        have h2a:allOne [.lit (.int .u8 y.op),.lit (.int .i64 k2),.lit (.int .i64 k3),sv2]=true:=by simp [h2c]
        have hrw:=hrow1.agg (k:=0) (s:=4) (by simp)
        simp only [Nat.add_zero,List.append_nil,List.drop_zero,List.take] at hrw
        simp only [validL,Bool.and_eq_true] at v7
        have hvy:=v7.1
        have hsy:sizeN y≤m:=by unfold sizeN sizeL sizeL at hx; omega
        have hty:=text_size y hvy
        have hps:=par_size (textM y) (rankM y.op) 3
        have HY:=Hide.mk hy1
        have IHY:Hide (∀ (g' : Nat→Option Blk) (n' : Nat),g' 0=some opsB→g' 1=some (.cells bP false 0)→1 < n'→repN g' n' y [.lit (.int .u8 y.op),.lit (.int .i64 k2),.lit (.int .i64 k3),sv2] →
            WC 6 Tryd.prog 39 [.agg [.lit (.int .u8 y.op),.lit (.int .i64 k2),.lit (.int .i64 k3),sv2],.lit (.int .i64 3)] ⟨.fn g',n'⟩ fun r=>r=.ret (.lit (.string (parM (textM y) (rankM y.op) 3))) ⟨.fn g',n'⟩) :=
          ⟨fun g' n' q1 q0 q2 q3=>IH.out (by omega) y hsy g' n' _ 3 q1 q0 q2 q3 hvy⟩
        have HRET:Hide (parM (signB op++⟨#[32]⟩++parM (textM y) (rankM y.op) 3) 3 least=ret):=⟨by rw [← hret]; show _=parM _ (rankM op) _; rw [hrk3]; rfl⟩
        have hwl:(parM (textM y) (rankM y.op) 3).size≤100000000:=by omega
        generalize parM (textM y) (rankM y.op) 3=wy at HRET IHY hwl
        generalize signB op=sg at *
        have s1:((⟨#[32]⟩ : ByteArray)++wy).size≤100000001:=by simp only [ba_size_append]; omega
        have s2:(sg++((⟨#[32]⟩ : ByteArray)++wy)).size≤200000000:=by simp only [ba_size_append]; omega
        have s3:((⟨#[40]⟩ : ByteArray)++(sg++((⟨#[32]⟩ : ByteArray)++wy))).size≤200000001:=by simp only [ba_size_append]; omega
        clear hret v2 v7 hrow1 hy1 hr1 hty hps hvy hsy hs1 hrk3 hrk1 hrk2 hop
        rcases hsl with ⟨c,rfl⟩ | ⟨c,rfl⟩
        all_goals
          refine WC.enterP (noO_ok _ _) hG pl39 Tryd.func39 rfl (by decide +kernel) (Nat.le_of_ble_eq_true (by kernel_rfl)) ?_
          iterate 6 all_goals try first | with_reducible refine splitI (fun h=>?_) fun h=>?_ | with_reducible refine splitBI (fun h=>?_) fun h=>?_ | simp (maxSteps:=999999) (disch:=first | assumption | omega | (simp; done) | fail) [Tryd.results39, *]
          refine WC.mono (IHY.out _ _ (by simp (disch:=omega) only [gput_lt]; exact hg) (by simp (disch:=omega) only [gput_lt]; exact hgp) (by omega) (repN_mono (by omega) (fun a ha=>by simp (disch:=omega) only [gput_lt]) HY.out)) ?_
          rintro _ rfl
          iterate 6 all_goals try first | with_reducible refine splitI (fun h=>?_) fun h=>?_ | with_reducible refine splitBI (fun h=>?_) fun h=>?_ | simp (maxSteps:=999999) (disch:=first | assumption | omega | (simp; done) | fail) [Tryd.results39, *]
        all_goals
          have e:=HRET.out
          refine ⟨_,⟨?_,rfl⟩,⟨by dsimp only; omega,fun b hb=>?_⟩⟩
          · rw [← e]; unfold parM
            first | (rw [if_pos (by assumption)]) | (rw [if_neg (by omega)])
            try simp only [ByteArray.append_assoc]
          · have hb' : b < n:=hb
            show gput _ _ _ _=_
            simp (disch:=omega) only [gput_lt]
            try rfl
      | [y,z],hx,v2,v7,hsv1,hret =>
        have ho:op=5∨op=6∨op=10∨op=14:=by
          rcases op_cases v1 with rfl | rfl | rfl | rfl | rfl | rfl | rfl | rfl | rfl | rfl | rfl | rfl | rfl | rfl | rfl <;> simp [subsM] at v2 ⊢
        rcases hsv1 with ⟨hsub,_⟩ | ⟨ad,off,r,han,hsl,hrow1,hrep⟩
        · cases hsub
        obtain ⟨c1,r1,rfl,hy1,c2,r2,rfl,hz1,hr2⟩:=hrep
        have hr2' : r2=[]:=hr2
        subst hr2'
        obtain ⟨k2,k3,sv2,hcy,h2c,hop2⟩:=repN_one hy1
        subst hcy
        obtain ⟨j2,j3,sv3,hcz,h3c,hop3⟩:=repN_one hz1
        subst hcz
        have h2a:allOne [.lit (.int .u8 y.op),.lit (.int .i64 k2),.lit (.int .i64 k3),sv2]=true:=by simp [h2c]
        have h3a:allOne [.lit (.int .u8 z.op),.lit (.int .i64 j2),.lit (.int .i64 j3),sv3]=true:=by simp [h3c]
        have hrw1:=hrow1.agg (k:=0) (s:=4) (by simp)
        have hrw2:=hrow1.agg (k:=4) (s:=4) (by simp)
        simp only [Nat.add_zero,List.append_nil,List.drop_zero,List.take,List.cons_append,List.nil_append,List.drop_succ_cons] at hrw1 hrw2
        simp only [validL,Bool.and_eq_true] at v7
        have hvy:=v7.1
        have hvz:=v7.2.1
        have hsy:sizeN y≤m:=by unfold sizeN sizeL sizeL sizeL at hx; omega
        have hsz:sizeN z≤m:=by unfold sizeN sizeL sizeL sizeL at hx; omega
        have hty:=text_size y hvy
        have htz:=text_size z hvz
        have HY:=Hide.mk hy1
        have HZ:=Hide.mk hz1
        clear hrow1 hy1 hz1 hr2 v7
        rcases ho with rfl | rfl | rfl | rfl
        · rw [show subsM 5=2 from rfl,show rankM 5=2 from rfl] at hrow hallr
          have HRET:Hide (parM (parM (textM y) (rankM y.op) 2++⟨#[32]⟩++signB 5++⟨#[32]⟩++parM (textM z) (rankM z.op) 3) 2 least=ret):=⟨by rw [← hret]; rfl⟩
          have IHY:Hide (∀ (g' : Nat→Option Blk) (n' : Nat),g' 0=some opsB→g' 1=some (.cells bP false 0)→1 < n'→repN g' n' y [.lit (.int .u8 y.op),.lit (.int .i64 k2),.lit (.int .i64 k3),sv2] →
              WC 6 Tryd.prog 39 [.agg [.lit (.int .u8 y.op),.lit (.int .i64 k2),.lit (.int .i64 k3),sv2],.lit (.int .i64 2)] ⟨.fn g',n'⟩ fun r=>r=.ret (.lit (.string (parM (textM y) (rankM y.op) 2))) ⟨.fn g',n'⟩) :=
            ⟨fun g' n' q1 q0 q2 q3=>IH.out (by omega) y hsy g' n' _ 2 q1 q0 q2 q3 hvy⟩
          have IHZ:Hide (∀ (g' : Nat→Option Blk) (n' : Nat),g' 0=some opsB→g' 1=some (.cells bP false 0)→1 < n'→repN g' n' z [.lit (.int .u8 z.op),.lit (.int .i64 j2),.lit (.int .i64 j3),sv3] →
              WC 6 Tryd.prog 39 [.agg [.lit (.int .u8 z.op),.lit (.int .i64 j2),.lit (.int .i64 j3),sv3],.lit (.int .i64 3)] ⟨.fn g',n'⟩ fun r=>r=.ret (.lit (.string (parM (textM z) (rankM z.op) 3))) ⟨.fn g',n'⟩) :=
            ⟨fun g' n' q1 q0 q2 q3=>IH.out (by omega) z hsz g' n' _ 3 q1 q0 q2 q3 hvz⟩
          have hps:=par_size (textM y) (rankM y.op) 2
          have hpz:=par_size (textM z) (rankM z.op) 3
          have hwl:(parM (textM y) (rankM y.op) 2).size≤100000000:=by omega
          have hwz:(parM (textM z) (rankM z.op) 3).size≤100000000:=by omega
          generalize parM (textM y) (rankM y.op) 2=wy at HRET IHY hwl
          generalize parM (textM z) (rankM z.op) 3=wz at HRET IHZ hwz
          generalize signB 5=sg at *
          have s0:(wy++(⟨#[32]⟩ : ByteArray)).size≤400000000:=by simp only [ba_size_append]; omega
          have s1:((wy++(⟨#[32]⟩ : ByteArray))++sg).size≤400000000:=by simp only [ba_size_append]; omega
          have s2:(((wy++(⟨#[32]⟩ : ByteArray))++sg)++(⟨#[32]⟩ : ByteArray)).size≤400000000:=by simp only [ba_size_append]; omega
          have s3:((((wy++(⟨#[32]⟩ : ByteArray))++sg)++(⟨#[32]⟩ : ByteArray))++wz).size≤400000000:=by simp only [ba_size_append]; omega
          have s4:((⟨#[40]⟩ : ByteArray)++((((wy++(⟨#[32]⟩ : ByteArray))++sg)++(⟨#[32]⟩ : ByteArray))++wz)).size≤400000000:=by simp only [ba_size_append]; omega
          clear hret v2 hps hpz hty htz hvy hvz hsy hsz hrk1 hrk2 hop IH
          rcases hsl with ⟨c,rfl⟩ | ⟨c,rfl⟩
          all_goals
            refine WC.enterP (noO_ok _ _) hG pl39 Tryd.func39 rfl (by decide +kernel) (Nat.le_of_ble_eq_true (by kernel_rfl)) ?_
            iterate 6 all_goals try first | with_reducible refine splitI (fun h=>?_) fun h=>?_ | with_reducible refine splitBI (fun h=>?_) fun h=>?_ | simp (maxSteps:=999999) (disch:=first | assumption | omega | (simp; done) | fail) [Tryd.results39, *]
            refine WC.mono (IHY.out _ _ (by simp (disch:=omega) only [gput_lt]; exact hg) (by simp (disch:=omega) only [gput_lt]; exact hgp) (by omega) (repN_mono (by omega) (fun a ha=>by simp (disch:=omega) only [gput_lt]) HY.out)) ?_
            rintro _ rfl
            iterate 6 all_goals try first | with_reducible refine splitI (fun h=>?_) fun h=>?_ | with_reducible refine splitBI (fun h=>?_) fun h=>?_ | simp (maxSteps:=999999) (disch:=first | assumption | omega | (simp; done) | fail) [Tryd.results39, *]
            refine WC.mono (IHZ.out _ _ (by simp (disch:=omega) only [gput_lt]; exact hg) (by simp (disch:=omega) only [gput_lt]; exact hgp) (by omega) (repN_mono (by omega) (fun a ha=>by simp (disch:=omega) only [gput_lt]) HZ.out)) ?_
            rintro _ rfl
            iterate 6 all_goals try first | with_reducible refine splitI (fun h=>?_) fun h=>?_ | with_reducible refine splitBI (fun h=>?_) fun h=>?_ | simp (maxSteps:=999999) (disch:=first | assumption | omega | (simp; done) | fail) [Tryd.results39, *]
          all_goals
            have e:=HRET.out
            refine ⟨_,⟨?_,rfl⟩,⟨by dsimp only; omega,fun b hb=>?_⟩⟩
            · rw [← e]; unfold parM
              first | (rw [if_pos (by assumption)]) | (rw [if_neg (by omega)])
              try simp only [ByteArray.append_assoc]
            · have hb' : b < n:=hb
              show gput _ _ _ _=_
              simp (disch:=omega) only [gput_lt]
              try rfl
        · rw [show subsM 6=2 from rfl,show rankM 6=1 from rfl] at hrow hallr
          have HRET:Hide (parM (parM (textM y) (rankM y.op) 1++⟨#[32]⟩++signB 6++⟨#[32]⟩++parM (textM z) (rankM z.op) 2) 1 least=ret):=⟨by rw [← hret]; rfl⟩
          have IHY:Hide (∀ (g' : Nat→Option Blk) (n' : Nat),g' 0=some opsB→g' 1=some (.cells bP false 0)→1 < n'→repN g' n' y [.lit (.int .u8 y.op),.lit (.int .i64 k2),.lit (.int .i64 k3),sv2] →
              WC 6 Tryd.prog 39 [.agg [.lit (.int .u8 y.op),.lit (.int .i64 k2),.lit (.int .i64 k3),sv2],.lit (.int .i64 1)] ⟨.fn g',n'⟩ fun r=>r=.ret (.lit (.string (parM (textM y) (rankM y.op) 1))) ⟨.fn g',n'⟩) :=
            ⟨fun g' n' q1 q0 q2 q3=>IH.out (by omega) y hsy g' n' _ 1 q1 q0 q2 q3 hvy⟩
          have IHZ:Hide (∀ (g' : Nat→Option Blk) (n' : Nat),g' 0=some opsB→g' 1=some (.cells bP false 0)→1 < n'→repN g' n' z [.lit (.int .u8 z.op),.lit (.int .i64 j2),.lit (.int .i64 j3),sv3] →
              WC 6 Tryd.prog 39 [.agg [.lit (.int .u8 z.op),.lit (.int .i64 j2),.lit (.int .i64 j3),sv3],.lit (.int .i64 2)] ⟨.fn g',n'⟩ fun r=>r=.ret (.lit (.string (parM (textM z) (rankM z.op) 2))) ⟨.fn g',n'⟩) :=
            ⟨fun g' n' q1 q0 q2 q3=>IH.out (by omega) z hsz g' n' _ 2 q1 q0 q2 q3 hvz⟩
          have hps:=par_size (textM y) (rankM y.op) 1
          have hpz:=par_size (textM z) (rankM z.op) 2
          have hwl:(parM (textM y) (rankM y.op) 1).size≤100000000:=by omega
          have hwz:(parM (textM z) (rankM z.op) 2).size≤100000000:=by omega
          generalize parM (textM y) (rankM y.op) 1=wy at HRET IHY hwl
          generalize parM (textM z) (rankM z.op) 2=wz at HRET IHZ hwz
          generalize signB 6=sg at *
          have s0:(wy++(⟨#[32]⟩ : ByteArray)).size≤400000000:=by simp only [ba_size_append]; omega
          have s1:((wy++(⟨#[32]⟩ : ByteArray))++sg).size≤400000000:=by simp only [ba_size_append]; omega
          have s2:(((wy++(⟨#[32]⟩ : ByteArray))++sg)++(⟨#[32]⟩ : ByteArray)).size≤400000000:=by simp only [ba_size_append]; omega
          have s3:((((wy++(⟨#[32]⟩ : ByteArray))++sg)++(⟨#[32]⟩ : ByteArray))++wz).size≤400000000:=by simp only [ba_size_append]; omega
          have s4:((⟨#[40]⟩ : ByteArray)++((((wy++(⟨#[32]⟩ : ByteArray))++sg)++(⟨#[32]⟩ : ByteArray))++wz)).size≤400000000:=by simp only [ba_size_append]; omega
          clear hret v2 hps hpz hty htz hvy hvz hsy hsz hrk1 hrk2 hop IH
          rcases hsl with ⟨c,rfl⟩ | ⟨c,rfl⟩
          all_goals
            refine WC.enterP (noO_ok _ _) hG pl39 Tryd.func39 rfl (by decide +kernel) (Nat.le_of_ble_eq_true (by kernel_rfl)) ?_
            iterate 6 all_goals try first | with_reducible refine splitI (fun h=>?_) fun h=>?_ | with_reducible refine splitBI (fun h=>?_) fun h=>?_ | simp (maxSteps:=999999) (disch:=first | assumption | omega | (simp; done) | fail) [Tryd.results39, *]
            refine WC.mono (IHY.out _ _ (by simp (disch:=omega) only [gput_lt]; exact hg) (by simp (disch:=omega) only [gput_lt]; exact hgp) (by omega) (repN_mono (by omega) (fun a ha=>by simp (disch:=omega) only [gput_lt]) HY.out)) ?_
            rintro _ rfl
            iterate 6 all_goals try first | with_reducible refine splitI (fun h=>?_) fun h=>?_ | with_reducible refine splitBI (fun h=>?_) fun h=>?_ | simp (maxSteps:=999999) (disch:=first | assumption | omega | (simp; done) | fail) [Tryd.results39, *]
            refine WC.mono (IHZ.out _ _ (by simp (disch:=omega) only [gput_lt]; exact hg) (by simp (disch:=omega) only [gput_lt]; exact hgp) (by omega) (repN_mono (by omega) (fun a ha=>by simp (disch:=omega) only [gput_lt]) HZ.out)) ?_
            rintro _ rfl
            iterate 6 all_goals try first | with_reducible refine splitI (fun h=>?_) fun h=>?_ | with_reducible refine splitBI (fun h=>?_) fun h=>?_ | simp (maxSteps:=999999) (disch:=first | assumption | omega | (simp; done) | fail) [Tryd.results39, *]
          all_goals
            have e:=HRET.out
            refine ⟨_,⟨?_,rfl⟩,⟨by dsimp only; omega,fun b hb=>?_⟩⟩
            · rw [← e]; unfold parM
              first | (rw [if_pos (by assumption)]) | (rw [if_neg (by omega)])
              try simp only [ByteArray.append_assoc]
            · have hb' : b < n:=hb
              show gput _ _ _ _=_
              simp (disch:=omega) only [gput_lt]
              try rfl
        · rw [show subsM 10=2 from rfl,show rankM 10=4 from rfl] at hrow hallr
          have HRET:Hide (parM (signB 10++⟨#[91]⟩++parM (textM y) (rankM y.op) 0++⟨#[32,85,32]⟩++parM (textM z) (rankM z.op) 0++⟨#[93]⟩) 4 least=ret):=⟨by rw [← hret,par_zero,par_zero]; rfl⟩
          have IHY:Hide (∀ (g' : Nat→Option Blk) (n' : Nat),g' 0=some opsB→g' 1=some (.cells bP false 0)→1 < n'→repN g' n' y [.lit (.int .u8 y.op),.lit (.int .i64 k2),.lit (.int .i64 k3),sv2] →
              WC 6 Tryd.prog 39 [.agg [.lit (.int .u8 y.op),.lit (.int .i64 k2),.lit (.int .i64 k3),sv2],.lit (.int .i64 0)] ⟨.fn g',n'⟩ fun r=>r=.ret (.lit (.string (parM (textM y) (rankM y.op) 0))) ⟨.fn g',n'⟩) :=
            ⟨fun g' n' q1 q0 q2 q3=>IH.out (by omega) y hsy g' n' _ 0 q1 q0 q2 q3 hvy⟩
          have IHZ:Hide (∀ (g' : Nat→Option Blk) (n' : Nat),g' 0=some opsB→g' 1=some (.cells bP false 0)→1 < n'→repN g' n' z [.lit (.int .u8 z.op),.lit (.int .i64 j2),.lit (.int .i64 j3),sv3] →
              WC 6 Tryd.prog 39 [.agg [.lit (.int .u8 z.op),.lit (.int .i64 j2),.lit (.int .i64 j3),sv3],.lit (.int .i64 0)] ⟨.fn g',n'⟩ fun r=>r=.ret (.lit (.string (parM (textM z) (rankM z.op) 0))) ⟨.fn g',n'⟩) :=
            ⟨fun g' n' q1 q0 q2 q3=>IH.out (by omega) z hsz g' n' _ 0 q1 q0 q2 q3 hvz⟩
          have hps:=par_size (textM y) (rankM y.op) 0
          have hpz:=par_size (textM z) (rankM z.op) 0
          have hwl:(parM (textM y) (rankM y.op) 0).size≤100000000:=by omega
          have hwz:(parM (textM z) (rankM z.op) 0).size≤100000000:=by omega
          generalize parM (textM y) (rankM y.op) 0=wy at HRET IHY hwl
          generalize parM (textM z) (rankM z.op) 0=wz at HRET IHZ hwz
          generalize signB 10=sg at *
          have s0:((⟨#[91]⟩ : ByteArray)++wy).size≤400000000:=by simp only [ba_size_append]; omega
          have s1:(((⟨#[91]⟩ : ByteArray)++wy)++(⟨#[32,85,32]⟩ : ByteArray)).size≤400000000:=by simp only [ba_size_append]; omega
          have s2:((((⟨#[91]⟩ : ByteArray)++wy)++(⟨#[32,85,32]⟩ : ByteArray))++wz).size≤400000000:=by simp only [ba_size_append]; omega
          have s3:(((((⟨#[91]⟩ : ByteArray)++wy)++(⟨#[32,85,32]⟩ : ByteArray))++wz)++(⟨#[93]⟩ : ByteArray)).size≤400000000:=by simp only [ba_size_append]; omega
          have s4:(sg++(((((⟨#[91]⟩ : ByteArray)++wy)++(⟨#[32,85,32]⟩ : ByteArray))++wz)++(⟨#[93]⟩ : ByteArray))).size≤400000000:=by simp only [ba_size_append]; omega
          have s5:((⟨#[40]⟩ : ByteArray)++(sg++(((((⟨#[91]⟩ : ByteArray)++wy)++(⟨#[32,85,32]⟩ : ByteArray))++wz)++(⟨#[93]⟩ : ByteArray)))).size≤400000000:=by simp only [ba_size_append]; omega
          clear hret v2 hps hpz hty htz hvy hvz hsy hsz hrk1 hrk2 hop IH
          rcases hsl with ⟨c,rfl⟩ | ⟨c,rfl⟩
          all_goals
            refine WC.enterP (noO_ok _ _) hG pl39 Tryd.func39 rfl (by decide +kernel) (Nat.le_of_ble_eq_true (by kernel_rfl)) ?_
            iterate 6 all_goals try first | with_reducible refine splitI (fun h=>?_) fun h=>?_ | with_reducible refine splitBI (fun h=>?_) fun h=>?_ | simp (maxSteps:=999999) (disch:=first | assumption | omega | (simp; done) | fail) [Tryd.results39, *]
            refine WC.mono (IHY.out _ _ (by simp (disch:=omega) only [gput_lt]; exact hg) (by simp (disch:=omega) only [gput_lt]; exact hgp) (by omega) (repN_mono (by omega) (fun a ha=>by simp (disch:=omega) only [gput_lt]) HY.out)) ?_
            rintro _ rfl
            iterate 6 all_goals try first | with_reducible refine splitI (fun h=>?_) fun h=>?_ | with_reducible refine splitBI (fun h=>?_) fun h=>?_ | simp (maxSteps:=999999) (disch:=first | assumption | omega | (simp; done) | fail) [Tryd.results39, *]
            refine WC.mono (IHZ.out _ _ (by simp (disch:=omega) only [gput_lt]; exact hg) (by simp (disch:=omega) only [gput_lt]; exact hgp) (by omega) (repN_mono (by omega) (fun a ha=>by simp (disch:=omega) only [gput_lt]) HZ.out)) ?_
            rintro _ rfl
            iterate 6 all_goals try first | with_reducible refine splitI (fun h=>?_) fun h=>?_ | with_reducible refine splitBI (fun h=>?_) fun h=>?_ | simp (maxSteps:=999999) (disch:=first | assumption | omega | (simp; done) | fail) [Tryd.results39, *]
          all_goals
            have e:=HRET.out
            refine ⟨_,⟨?_,rfl⟩,⟨by dsimp only; omega,fun b hb=>?_⟩⟩
            · rw [← e]; unfold parM
              first | (rw [if_pos (by assumption)]) | (rw [if_neg (by omega)])
              try simp only [ByteArray.append_assoc]
            · have hb' : b < n:=hb
              show gput _ _ _ _=_
              simp (disch:=omega) only [gput_lt]
              try rfl
        · rw [show subsM 14=2 from rfl,show rankM 14=4 from rfl] at hrow hallr
          have HRET:Hide (parM (signB 14++⟨#[91]⟩++parM (textM y) (rankM y.op) 0++⟨#[32,85,32]⟩++parM (textM z) (rankM z.op) 0++⟨#[93]⟩) 4 least=ret):=⟨by rw [← hret,par_zero,par_zero]; rfl⟩
          have IHY:Hide (∀ (g' : Nat→Option Blk) (n' : Nat),g' 0=some opsB→g' 1=some (.cells bP false 0)→1 < n'→repN g' n' y [.lit (.int .u8 y.op),.lit (.int .i64 k2),.lit (.int .i64 k3),sv2] →
              WC 6 Tryd.prog 39 [.agg [.lit (.int .u8 y.op),.lit (.int .i64 k2),.lit (.int .i64 k3),sv2],.lit (.int .i64 0)] ⟨.fn g',n'⟩ fun r=>r=.ret (.lit (.string (parM (textM y) (rankM y.op) 0))) ⟨.fn g',n'⟩) :=
            ⟨fun g' n' q1 q0 q2 q3=>IH.out (by omega) y hsy g' n' _ 0 q1 q0 q2 q3 hvy⟩
          have IHZ:Hide (∀ (g' : Nat→Option Blk) (n' : Nat),g' 0=some opsB→g' 1=some (.cells bP false 0)→1 < n'→repN g' n' z [.lit (.int .u8 z.op),.lit (.int .i64 j2),.lit (.int .i64 j3),sv3] →
              WC 6 Tryd.prog 39 [.agg [.lit (.int .u8 z.op),.lit (.int .i64 j2),.lit (.int .i64 j3),sv3],.lit (.int .i64 0)] ⟨.fn g',n'⟩ fun r=>r=.ret (.lit (.string (parM (textM z) (rankM z.op) 0))) ⟨.fn g',n'⟩) :=
            ⟨fun g' n' q1 q0 q2 q3=>IH.out (by omega) z hsz g' n' _ 0 q1 q0 q2 q3 hvz⟩
          have hps:=par_size (textM y) (rankM y.op) 0
          have hpz:=par_size (textM z) (rankM z.op) 0
          have hwl:(parM (textM y) (rankM y.op) 0).size≤100000000:=by omega
          have hwz:(parM (textM z) (rankM z.op) 0).size≤100000000:=by omega
          generalize parM (textM y) (rankM y.op) 0=wy at HRET IHY hwl
          generalize parM (textM z) (rankM z.op) 0=wz at HRET IHZ hwz
          generalize signB 14=sg at *
          have s0:((⟨#[91]⟩ : ByteArray)++wy).size≤400000000:=by simp only [ba_size_append]; omega
          have s1:(((⟨#[91]⟩ : ByteArray)++wy)++(⟨#[32,85,32]⟩ : ByteArray)).size≤400000000:=by simp only [ba_size_append]; omega
          have s2:((((⟨#[91]⟩ : ByteArray)++wy)++(⟨#[32,85,32]⟩ : ByteArray))++wz).size≤400000000:=by simp only [ba_size_append]; omega
          have s3:(((((⟨#[91]⟩ : ByteArray)++wy)++(⟨#[32,85,32]⟩ : ByteArray))++wz)++(⟨#[93]⟩ : ByteArray)).size≤400000000:=by simp only [ba_size_append]; omega
          have s4:(sg++(((((⟨#[91]⟩ : ByteArray)++wy)++(⟨#[32,85,32]⟩ : ByteArray))++wz)++(⟨#[93]⟩ : ByteArray))).size≤400000000:=by simp only [ba_size_append]; omega
          have s5:((⟨#[40]⟩ : ByteArray)++(sg++(((((⟨#[91]⟩ : ByteArray)++wy)++(⟨#[32,85,32]⟩ : ByteArray))++wz)++(⟨#[93]⟩ : ByteArray)))).size≤400000000:=by simp only [ba_size_append]; omega
          clear hret v2 hps hpz hty htz hvy hvz hsy hsz hrk1 hrk2 hop IH
          rcases hsl with ⟨c,rfl⟩ | ⟨c,rfl⟩
          all_goals
            refine WC.enterP (noO_ok _ _) hG pl39 Tryd.func39 rfl (by decide +kernel) (Nat.le_of_ble_eq_true (by kernel_rfl)) ?_
            iterate 6 all_goals try first | with_reducible refine splitI (fun h=>?_) fun h=>?_ | with_reducible refine splitBI (fun h=>?_) fun h=>?_ | simp (maxSteps:=999999) (disch:=first | assumption | omega | (simp; done) | fail) [Tryd.results39, *]
            refine WC.mono (IHY.out _ _ (by simp (disch:=omega) only [gput_lt]; exact hg) (by simp (disch:=omega) only [gput_lt]; exact hgp) (by omega) (repN_mono (by omega) (fun a ha=>by simp (disch:=omega) only [gput_lt]) HY.out)) ?_
            rintro _ rfl
            iterate 6 all_goals try first | with_reducible refine splitI (fun h=>?_) fun h=>?_ | with_reducible refine splitBI (fun h=>?_) fun h=>?_ | simp (maxSteps:=999999) (disch:=first | assumption | omega | (simp; done) | fail) [Tryd.results39, *]
            refine WC.mono (IHZ.out _ _ (by simp (disch:=omega) only [gput_lt]; exact hg) (by simp (disch:=omega) only [gput_lt]; exact hgp) (by omega) (repN_mono (by omega) (fun a ha=>by simp (disch:=omega) only [gput_lt]) HZ.out)) ?_
            rintro _ rfl
            iterate 6 all_goals try first | with_reducible refine splitI (fun h=>?_) fun h=>?_ | with_reducible refine splitBI (fun h=>?_) fun h=>?_ | simp (maxSteps:=999999) (disch:=first | assumption | omega | (simp; done) | fail) [Tryd.results39, *]
          all_goals
            have e:=HRET.out
            refine ⟨_,⟨?_,rfl⟩,⟨by dsimp only; omega,fun b hb=>?_⟩⟩
            · rw [← e]; unfold parM
              first | (rw [if_pos (by assumption)]) | (rw [if_neg (by omega)])
              try simp only [ByteArray.append_assoc]
            · have hb' : b < n:=hb
              show gput _ _ _ _=_
              simp (disch:=omega) only [gput_lt]
              try rfl
      | x1 :: x2 :: x3 :: l,hx,v2,v7,hsv1,hret =>
        exfalso
        have:subsM op≤2:=by rcases op_cases v1 with rfl | rfl | rfl | rfl | rfl | rfl | rfl | rfl | rfl | rfl | rfl | rfl | rfl | rfl | rfl <;> decide
        simp only [List.length_cons] at v2
        omega
end Go.Ai
end
section
namespace Go.Ai
open Go.Proofs
set_option maxRecDepth 10000
set_option maxHeartbeats 40000000
theorem Text_yes (x:NodeM) (hx:sizeN x≤1000000) (hv:validM 10000 10000 10000 x=true) (hsm:(smallM x 64).1=true) (g:Nat→Option Blk) (n:Nat) (cs:List AV) (hops:g 0=some opsB) (hgp:g 1=some (.cells bP false 0)) (hn:1 < n) (hr:repN g n x cs) :
  WC 6 Tryd.prog 15 [.agg cs] ⟨.fn g,n⟩ fun r=>∃ g' n',r=.ret (.tup [.lit (.string (textM x)),.lit (.int .i64 0)]) ⟨.fn g',n'⟩∧n≤n'∧∀ b,b < n→g' b=g b:=by
 obtain ⟨k2,k3,sv2,hcy,h1c,hop2⟩:=repN_one hr
 subst hcy
 have h1a:allOne [.lit (.int .u8 x.op),.lit (.int .i64 k2),.lit (.int .i64 k3),sv2]=true:=by simp [h1c]
 have HR:=Hide.mk hr
 clear hr
 refine WC.enterP (noO_ok _ _) hG [] Tryd.func15 rfl (by decide +kernel) (Nat.le_of_ble_eq_true (by kernel_rfl)) ?_
 try simp (maxSteps:=999999) (disch:=first | assumption | omega | (simp; done) | fail) [Tryd.results15, *]
 refine WC.mono (checked_yes 10000 10000 10000 x hx hv hsm _ _ _ (by simp (disch:=omega) only [gput_lt]; exact hops) (by omega) (repN_mono (by omega) (fun a ha=>(by simp (disch:=omega) only [gput_lt])) HR.out)) ?_
 rintro _ ⟨g1,n1,rfl,hn1,hg1⟩
 have e1:g1 n=some (.cells [.lit (.int .u8 x.op),.lit (.int .i64 k2),.lit (.int .i64 k3),sv2] true 0):=by rw [hg1 n (by omega)]; simp
 have HO:Hide (∀ b,b < n→g1 b=g b):=⟨fun b hb=>by rw [hg1 b (by omega)]; simp (disch:=omega) only [gput_lt]⟩
 clear hg1
 try simp (maxSteps:=999999) (disch:=first | assumption | omega | (simp; done) | fail) [Tryd.results15, *]
 refine WC.mono (write_w 1000000 (Nat.le_refl _) x hx _ _ _ 0 ((HO.out 0 (by omega)).trans hops) ((HO.out 1 (by omega)).trans hgp) (by omega) (repN_mono (by omega) (fun a ha=>HO.out a ha) HR.out) hv) ?_
 rintro _ rfl
 rw [par_zero]
 try simp (maxSteps:=999999) (disch:=first | assumption | omega | (simp; done) | fail) [Tryd.results15, *]
 refine ⟨_,_,⟨rfl,rfl⟩,by omega,fun b hb=>HO.out b hb⟩
end Go.Ai
end
section
namespace Go.Ai
open Go.Proofs
set_option maxRecDepth 10000
set_option maxHeartbeats 40000000
theorem mCheck_any {M:MachM} (g:Nat→Option Blk) (n:Nat) (ms:List AV) (hr:RepM g n M ms) :
  WC 6 Tryd.prog 26 [.agg ms] ⟨.fn g,n⟩ fun r=>r=.ret (.lit (.int .i64 (mErr M))) ⟨.fn g,n⟩:=by
 refine WC.drop1 rfl ?_
 have HR:=Hide.mk hr
 obtain ⟨rv,svs,rfl,hrows,hrv⟩:=hr
 have h1r:=hrv.one
 have h1a:allOne [.lit (.int .i64 M.inp),.lit (.int .i64 M.out),rv]=true:=by simp [h1r]
 have hlen:=@lenV Tryd.prog _ _ _ _ _ hrv
 have HROW:=Hide.mk hrows
 have HRV:=Hide.mk hrv
 have hsl:=hrows.len
 clear hrows hrv
 refine WC.enterP (noO_ok _ _) hG [] Tryd.func26 rfl (by decide +kernel) (Nat.le_of_ble_eq_true (by kernel_rfl)) ?_
 by_cases a1:(16:Int) < M.inp
 ·have hm:mErr M=3:=by unfold mErr; rw [if_pos (by omega)]
  rw [hm]
  try simp (maxSteps:=999999) (disch:=first | assumption | omega | (simp; done) | fail) [Tryd.results26, *]
  exact ⟨Nat.le_succ n,fun b hb=>gput_lt hb⟩
 by_cases a2:(16:Int) < M.out
 ·have hm:mErr M=3:=by unfold mErr; rw [if_pos (by omega)]
  rw [hm]
  try simp (maxSteps:=999999) (disch:=first | assumption | omega | (simp; done) | fail) [Tryd.results26, *]
  exact ⟨Nat.le_succ n,fun b hb=>gput_lt hb⟩
 by_cases a3:(64:Int) < (M.rows.length:Int)
 ·have hm:mErr M=3:=by unfold mErr; rw [if_pos (by omega)]
  rw [hm]
  try simp (maxSteps:=999999) (disch:=first | assumption | omega | (simp; done) | fail) [Tryd.results26, *]
  exact ⟨Nat.le_succ n,fun b hb=>gput_lt hb⟩
 by_cases b1:M.inp < 1
 ·have hm:mErr M=1:=by unfold mErr; rw [if_neg (by omega),if_pos (by omega)]
  rw [hm]
  try simp (maxSteps:=999999) (disch:=first | assumption | omega | (simp; done) | fail) [Tryd.results26, *]
  exact ⟨Nat.le_succ n,fun b hb=>gput_lt hb⟩
 by_cases b2:M.out < 1
 ·have hm:mErr M=1:=by unfold mErr; rw [if_neg (by omega),if_pos (by omega)]
  rw [hm]
  try simp (maxSteps:=999999) (disch:=first | assumption | omega | (simp; done) | fail) [Tryd.results26, *]
  exact ⟨Nat.le_succ n,fun b hb=>gput_lt hb⟩
 by_cases b3:(M.rows.length:Int) < 1
 ·have hm:mErr M=1:=by unfold mErr; rw [if_neg (by omega),if_pos (by omega)]
  rw [hm]
  try simp (maxSteps:=999999) (disch:=first | assumption | omega | (simp; done) | fail) [Tryd.results26, *]
  exact ⟨Nat.le_succ n,fun b hb=>gput_lt hb⟩
 have hgo:mErr M=if (∀ r∈M.rows,(r.length:Int)=M.inp∧(r.any fun e=>!edgeOK M.rows.length M.out e)=false) then 0 else 1:=by unfold mErr; rw [if_neg (by omega),if_neg (by omega)]
 have HGO:=Hide.mk hgo
 clear hgo
 try simp (maxSteps:=999999) (disch:=first | assumption | omega | (simp; done) | fail) [Tryd.results26, *]
 refine LX.ind (fun m gf H'=>∃ (k:Nat),k≤M.rows.length∧m=M.rows.length - k∧H'=⟨.fn (gput g n (some (.cells [.lit (.int .i64 M.inp),.lit (.int .i64 M.out),rv] true 0))),n+1⟩∧(∀ r∈M.rows.take k,(r.length:Int)=M.inp∧(r.any fun e=>!edgeOK M.rows.length M.out e)=false) ∧
  gf 1=some (.ptr n 0)∧gf 34=some rv∧gf 35=some (.lit (.int .i64 M.rows.length))∧gf 36=some (.lit (.int .i64 k))) (m0:=M.rows.length) ?_ ?_
 ·exact ⟨0,Nat.zero_le _,rfl,rfl,by simp,by simp,by simp,by simp,by simp⟩
 rintro m gf H' ⟨k,hk,rfl,rfl,hpre,w1,w34,w35,w36⟩ ih
 have HPRE:=Hide.mk hpre
 clear hpre
 refine LX.roundP (noO_ok _ _) hG [] (by decide +kernel) ?_
 by_cases hlt:k < M.rows.length
 ·have hltI:(k:Int) < (M.rows.length:Int):=by omega
  have hR:=HROW.out.at k hlt (by omega)
  rcases HRV.out with ⟨h1,_⟩ | ⟨a2',off,ha2,hev,hrow⟩
  ·omega
  have hcell:=(hrow.mono (g':=gput g n (some (.cells [.lit (.int .i64 M.inp),.lit (.int .i64 M.out),rv] true 0))) (gput_lt ha2)).one (k:=k) (s:=1) (by omega)
  rw [gput_lt ha2] at hcell
  have htk:M.rows.take (k+1)=M.rows.take k++[M.rows[k]]:=by rw [List.take_succ,List.getElem?_eq_getElem hlt]; rfl
  have hmem:=List.getElem_mem hlt
  have HT:=Hide.mk htk
  have HM:=Hide.mk hmem
  clear htk hmem hrow
  generalize svs[k]'(by omega)=sv at hR hcell
  generalize M.rows[k]=row at hR HT HM
  have hlen2:=@lenV Tryd.prog _ _ _ _ _ hR
  have HRR:=Hide.mk hR
  clear hR
  by_cases hli:(row.length:Int)=M.inp
  ·have hrl:row.length≤1000000:=by omega
   have HCF:=Hide.mk (cFunc_w (M:=M) row hrl sv n (gput g n (some (.cells [.lit (.int .i64 M.inp),.lit (.int .i64 M.out),rv] true 0))) (n+1) _ (HR.out.mono (by omega) fun q hq=>gput_lt hq) gput_eq (by omega) (HRR.out.mono (by omega) fun q hq=>gput_lt hq))
   cases hok:(row.any fun e=>!edgeOK M.rows.length M.out e) with
   | true =>
    rcases hev with ⟨c2,rfl⟩ | ⟨c2,rfl⟩
    all_goals
     try simp (maxSteps:=999999) (disch:=first | assumption | omega | (simp; done) | fail) [Tryd.results26, *]
     refine WC.mono HCF.out ?_
     rintro _ rfl
     rw [hok]
     have hm:mErr M=1:=by rw [HGO.out,if_neg (fun h=>by have:=(h row HM.out).2; rw [hok] at this; cases this)]
     rw [hm]
     try simp (maxSteps:=999999) (disch:=first | assumption | omega | (simp; done) | fail) [Tryd.results26, *]
     exact ⟨Nat.le_succ n,fun b hb=>gput_lt hb⟩
   | false =>
    rcases hev with ⟨c2,rfl⟩ | ⟨c2,rfl⟩
    all_goals
     try simp (maxSteps:=999999) (disch:=first | assumption | omega | (simp; done) | fail) [Tryd.results26, *]
     refine WC.mono HCF.out ?_
     rintro _ rfl
     rw [hok]
     try simp (maxSteps:=999999) (disch:=first | assumption | omega | (simp; done) | fail) [Tryd.results26, *]
     refine ih.out (M.rows.length - (k+1)) _ _ (by omega) ⟨k+1,by omega,rfl,rfl,fun e' he'=>?_,by simp [*],by simp [*],by simp [*],by simp⟩
     rw [HT.out] at he'
     rcases List.mem_append.1 he' with h | h
     ·exact HPRE.out e' h
     ·rw [List.mem_singleton.1 h]; exact ⟨hli,hok⟩
  ·rcases hev with ⟨c2,rfl⟩ | ⟨c2,rfl⟩
   all_goals
    have hm:mErr M=1:=by rw [HGO.out,if_neg (fun h=>hli (h row HM.out).1)]
    rw [hm]
    try simp (maxSteps:=999999) (disch:=first | assumption | omega | (simp; done) | fail) [Tryd.results26, *]
    exact ⟨Nat.le_succ n,fun b hb=>gput_lt hb⟩
 ·have hltI:¬(k:Int) < (M.rows.length:Int):=by omega
  have hk2:k=M.rows.length:=by omega
  have hm:mErr M=0:=by
   rw [HGO.out,if_pos]
   have h0:=HPRE.out
   rw [hk2,List.take_length] at h0
   exact h0
  rw [hm]
  clear hk2
  try simp (maxSteps:=999999) (disch:=first | assumption | omega | (simp; done) | fail) [Tryd.results26, *]
  exact ⟨Nat.le_succ n,fun b hb=>gput_lt hb⟩
def fErr (st inp out:Int) (x:NodeM) : Int:=if 64 < sizeN x then 3 else if validM st inp out x=true then 0 else 1
theorem fErr_cases (st inp out:Int) (x:NodeM) : (64 < sizeN x∧fErr st inp out x=3)∨(sizeN x≤64∧validM st inp out x=false∧fErr st inp out x=1)∨(sizeN x≤64∧validM st inp out x=true∧fErr st inp out x=0):=by
 unfold fErr
 by_cases h:64 < sizeN x
 ·exact .inl ⟨h,if_pos h⟩
 ·rw [if_neg h]
  cases hv:validM st inp out x with
  | false=>exact .inr (.inl ⟨by omega,rfl,rfl⟩)
  | true=>exact .inr (.inr ⟨by omega,rfl,rfl⟩)
theorem Formula_any (st inp out:Int) (hst:0≤st∧st≤1000000) (hinp:0≤inp∧inp≤1000000) (hout:0≤out∧out≤1000000) (x:NodeM) (g:Nat→Option Blk) (n:Nat) (cs:List AV) (hr:repN g n x cs) :
  WC 6 Tryd.prog 27 [.agg cs,.lit (.int .i64 st),.lit (.int .i64 inp),.lit (.int .i64 out)] ⟨.fn g,n⟩ fun r=>r=.ret (.lit (.int .i64 (fErr st inp out x))) ⟨.fn g,n⟩:=by
 refine WC.drop1 rfl ?_
 obtain ⟨k2,k3,sv2,hcy,h1c,hop2⟩:=repN_one hr
 subst hcy
 have h1a:allOne [.lit (.int .u8 x.op),.lit (.int .i64 k2),.lit (.int .i64 k3),sv2]=true:=by simp [h1c]
 have HR:=Hide.mk hr
 have hcb:=count_big x 64
 have HFE:=fErr_cases st inp out x
 generalize fErr st inp out x=fe at HFE
 have HCT:=Hide.mk (fun g n h=>count_w2 (sizeN x) x (Nat.le_refl _) g n [.lit (.int .u8 x.op),.lit (.int .i64 k2),.lit (.int .i64 k3),sv2] 64 (by omega) (by omega) h)
 generalize countM x 64=ct at hcb HCT
 clear hr
 refine WC.enterP (noO_ok _ _) hG [] Tryd.func27 rfl (by decide +kernel) (Nat.le_of_ble_eq_true (by kernel_rfl)) ?_
 try simp (maxSteps:=999999) (disch:=first | assumption | omega | (simp; done) | fail) [Tryd.results27, *]
 refine WC.mono (HCT.out _ _ (repN_mono (by omega) (fun a ha=>gput_lt ha) HR.out)) ?_
 rintro _ rfl
 rcases HFE with ⟨h1,rfl⟩ | ⟨h1,h2,rfl⟩ | ⟨h1,h2,rfl⟩
 ·have hct:64 < ct:=hcb.2 (by omega)
  clear HCT hcb
  try simp (maxSteps:=999999) (disch:=first | assumption | omega | (simp; done) | fail) [Tryd.results27, *]
  exact ⟨Nat.le_succ n,fun b hb=>gput_lt hb⟩
 all_goals
  have hct:¬64 < ct:=fun h=>by have:=hcb.1 h; omega
  clear HCT hcb
  try simp (maxSteps:=999999) (disch:=first | assumption | omega | (simp; done) | fail) [Tryd.results27, *]
  refine WC.mono (right_any st inp out hst hinp hout 64 (by omega) x h1 _ _ _ (repN_mono (by omega) (fun a ha=>gput_lt ha) HR.out)) ?_
  rintro _ rfl
  rw [h2]
  first | rw [show b01 false=0 from rfl] | rw [show b01 true=1 from rfl]
  try simp (maxSteps:=999999) (disch:=first | assumption | omega | (simp; done) | fail) [Tryd.results27, *]
  exact ⟨Nat.le_succ n,fun b hb=>gput_lt hb⟩
theorem checked_any (st inp out:Int) (x:NodeM) (hx:sizeN x≤1000000) (g:Nat→Option Blk) (n:Nat) (cs:List AV) (hops:g 0=some opsB) (hn0:0 < n) (hr:repN g n x cs) :
  WC 6 Tryd.prog 38 [.agg cs,.lit (.int .i64 st),.lit (.int .i64 inp),.lit (.int .i64 out)] ⟨.fn g,n⟩ fun r=>r=.ret (.lit (.int .i64 (fErr st inp out x))) ⟨.fn g,n⟩:=by
 refine WC.drop1 rfl ?_
 obtain ⟨k2,k3,sv2,hcy,h1c,hop2⟩:=repN_one hr
 subst hcy
 have h1a:allOne [.lit (.int .u8 x.op),.lit (.int .i64 k2),.lit (.int .i64 k3),sv2]=true:=by simp [h1c]
 have HR:=Hide.mk hr
 have HFE:=fErr_cases st inp out x
 generalize fErr st inp out x=fe at HFE
 clear hr
 refine WC.enterP (noO_ok _ _) hG [] Tryd.func38 rfl (by decide +kernel) (Nat.le_of_ble_eq_true (by kernel_rfl)) ?_
 try simp (maxSteps:=999999) (disch:=first | assumption | omega | (simp; done) | fail) [Tryd.results38, *]
 refine WC.mono (small_w 1000000 (Nat.le_refl _) x hx _ _ (n+1) _ 64 (repN_mono (by omega) (fun a ha=>(by simp (disch:=omega) only [gput_lt])) HR.out) (by omega) (by simp) (by omega) (by omega)) ?_
 rintro _ rfl
 rcases HFE with ⟨h1,rfl⟩ | ⟨h1,h2,rfl⟩ | ⟨h1,h2,rfl⟩
 ·have hsm:(smallM x 64).1=false:=(small_count x).2 ((count_big x 64).2 (by omega))
  rw [hsm]
  clear hsm
  try simp (maxSteps:=999999) (disch:=first | assumption | omega | (simp; done) | fail) [Tryd.results38, *]
  refine ⟨(by omega:n≤n+1+1),fun b (hb:b < n)=>?_⟩
  show gput _ _ _ b=g b
  simp (disch:=omega) only [gput_lt,gput_ne]
 all_goals
  have hsm:(smallM x 64).1=true:=by rw [small_ok' _ 64 (by omega)]
  rw [hsm]
  clear hsm
  try simp (maxSteps:=999999) (disch:=first | assumption | omega | (simp; done) | fail) [Tryd.results38, *]
  refine WC.mono (valid_any st inp out 1000000 (Nat.le_refl _) x hx _ _ _ (by simp (disch:=omega) only [gput_lt,gput_ne]; exact hops) (by omega) (repN_mono (by omega) (fun a ha=>by simp (disch:=omega) only [gput_lt,gput_ne]) HR.out)) ?_
  rintro _ rfl
  rw [h2]
  try simp (maxSteps:=999999) (disch:=first | assumption | omega | (simp; done) | fail) [Tryd.results38, *]
  refine ⟨(by omega:n≤n+1+1),fun b (hb:b < n)=>?_⟩
  show gput _ _ _ b=g b
  simp (disch:=omega) only [gput_lt,gput_ne]
def cErr (M:MachM) (x:NodeM) : Int:=if mErr M=0 then fErr M.rows.length M.inp M.out x else mErr M
theorem Check_any {M:MachM} (x:NodeM) (hx:sizeN x≤1000000) (g:Nat→Option Blk) (n:Nat) (ms xs:List AV) (hops:g 0=some opsB) (hn0:0 < n) (hr:RepM g n M ms) (hx0:repN g n x xs) :
  WC 6 Tryd.prog 28 [.agg ms,.agg xs] ⟨.fn g,n⟩ fun r=>r=.ret (.lit (.int .i64 (cErr M x))) ⟨.fn g,n⟩:=by
 refine WC.drop1 rfl ?_
 have HR:=Hide.mk hr
 have HX:=Hide.mk hx0
 obtain ⟨rv,svs,rfl,hrows,hrv⟩:=hr
 have h1r:=hrv.one
 have h1a:allOne [.lit (.int .i64 M.inp),.lit (.int .i64 M.out),rv]=true:=by simp [h1r]
 have hlen:=@lenV Tryd.prog _ _ _ _ _ hrv
 obtain ⟨k2,k3,sv2,hcy,h1c,hop2⟩:=repN_one hx0
 subst hcy
 have h1b:allOne [.lit (.int .u8 x.op),.lit (.int .i64 k2),.lit (.int .i64 k3),sv2]=true:=by simp [h1c]
 have HCK:=Hide.mk (fun st inp out g n h1 h2 h3=>checked_any st inp out x hx g n [.lit (.int .u8 x.op),.lit (.int .i64 k2),.lit (.int .i64 k3),sv2] h1 h2 h3)
 have HCE:Hide (cErr M x=if mErr M=0 then fErr M.rows.length M.inp M.out x else mErr M):=⟨rfl⟩
 have HMC:=Hide.mk (fun g n h=>mCheck_any (M:=M) g n [.lit (.int .i64 M.inp),.lit (.int .i64 M.out),rv] h)
 generalize cErr M x=ce at HCE
 generalize mErr M=me at HCE HMC
 generalize hfe:fErr M.rows.length M.inp M.out x=fe at HCE
 have HFE:=Hide.mk hfe
 clear hrows hrv hx0 hfe
 refine WC.enterP (noO_ok _ _) hG [] Tryd.func28 rfl (by decide +kernel) (Nat.le_of_ble_eq_true (by kernel_rfl)) ?_
 try simp (maxSteps:=999999) (disch:=first | assumption | omega | (simp; done) | fail) [Tryd.results28, *]
 refine WC.mono (HMC.out _ _ (HR.out.mono (by omega) fun q hq=>by simp (disch:=omega) only [gput_lt])) ?_
 rintro _ rfl
 by_cases hme:me=0
 ·have hce:=HCE.out
  rw [if_pos hme] at hce
  subst hme hce
  try simp (maxSteps:=999999) (disch:=first | assumption | omega | (simp; done) | fail) [Tryd.results28, *]
  refine WC.mono (HCK.out M.rows.length M.inp M.out _ _ (by simp (disch:=omega) only [gput_lt]; exact hops) (by omega) (repN_mono (by omega) (fun a ha=>(by simp (disch:=omega) only [gput_lt])) HX.out)) ?_
  rintro _ rfl
  rw [HFE.out]
  try simp (maxSteps:=999999) (disch:=first | assumption | omega | (simp; done) | fail) [Tryd.results28, *]
  refine ⟨(by omega:n≤n+1+1),fun b (hb:b < n)=>?_⟩
  show gput _ _ _ b=g b
  simp (disch:=omega) only [gput_lt,gput_ne]
 ·have hce:=HCE.out
  rw [if_neg hme] at hce
  subst hce
  try simp (maxSteps:=999999) (disch:=first | assumption | omega | (simp; done) | fail) [Tryd.results28, *]
  refine ⟨(by omega:n≤n+1+1),fun b (hb:b < n)=>?_⟩
  show gput _ _ _ b=g b
  simp (disch:=omega) only [gput_lt,gput_ne]
theorem cErr_zero {M:MachM} {x:NodeM} (h:cErr M x=0) : M.ok∧sizeN x≤64∧validM M.rows.length M.inp M.out x=true:=by
 unfold cErr at h
 split at h
 ·rename_i hm
  rcases fErr_cases M.rows.length M.inp M.out x with ⟨_,h2⟩ | ⟨_,_,h2⟩ | ⟨h1,h2,_⟩
  ·rw [h2] at h; cases h
  ·rw [h2] at h; cases h
  ·exact ⟨mErr_ok.1 hm,h1,h2⟩
 ·rename_i hm; exact absurd h hm
theorem Sat_no {M:MachM} (x:NodeM) (hx:sizeN x≤1000000) (g:Nat→Option Blk) (n:Nat) (ms xs:List AV) (hops:g 0=some opsB) (hn0:0 < n) (hr:RepM g n M ms) (hx0:repN g n x xs) (he:cErr M x≠0) :
  WC 6 Tryd.prog 11 [.agg ms,.agg xs] ⟨.fn g,n⟩ fun r=>r=.ret (.tup [.lit (.slice none 0 0),.lit (.int .i64 (cErr M x))]) ⟨.fn g,n⟩:=by
 refine WC.drop1 rfl ?_
 have HR:=Hide.mk hr
 have HX:=Hide.mk hx0
 obtain ⟨rv,svs,rfl,hrows,hrv⟩:=hr
 have h1r:=hrv.one
 have h1a:allOne [.lit (.int .i64 M.inp),.lit (.int .i64 M.out),rv]=true:=by simp [h1r]
 obtain ⟨k2,k3,sv2,hcy,h1c,hop2⟩:=repN_one hx0
 subst hcy
 have h1b:allOne [.lit (.int .u8 x.op),.lit (.int .i64 k2),.lit (.int .i64 k3),sv2]=true:=by simp [h1c]
 have HCK:=Hide.mk (fun g n h1 h2 h3 h4=>Check_any (M:=M) x hx g n [.lit (.int .i64 M.inp),.lit (.int .i64 M.out),rv] [.lit (.int .u8 x.op),.lit (.int .i64 k2),.lit (.int .i64 k3),sv2] h1 h2 h3 h4)
 generalize cErr M x=ce at he HCK
 clear hrows hrv hx0
 refine WC.enterP (noO_ok _ _) hG pl11 Tryd.func11 rfl (by decide +kernel) (Nat.le_of_ble_eq_true (by kernel_rfl)) ?_
 try simp (maxSteps:=999999) (disch:=first | assumption | omega | (simp; done) | fail) [Tryd.results11, *]
 refine WC.mono (HCK.out _ _ (by simp (disch:=omega) only [gput_lt]; exact hops) (by omega) (HR.out.mono (by omega) fun q hq=>by simp (disch:=omega) only [gput_lt]) (repN_mono (by omega) (fun a ha=>(by simp (disch:=omega) only [gput_lt])) HX.out)) ?_
 rintro _ rfl
 try simp (maxSteps:=999999) (disch:=first | assumption | omega | (simp; done) | fail) [Tryd.results11, *]
 refine ⟨(by omega:n≤n+1+1),fun b (hb:b < n)=>?_⟩
 show gput _ _ _ b=g b
 simp (disch:=omega) only [gput_lt,gput_ne]
theorem Witness_no {M:MachM} (x:NodeM) (hx:sizeN x≤1000000) (s:Int) (g:Nat→Option Blk) (n:Nat) (ms xs:List AV) (hops:g 0=some opsB) (hn0:0 < n) (hr:RepM g n M ms) (hx0:repN g n x xs) (he:cErr M x≠0) :
  WC 6 Tryd.prog 21 [.agg ms,.agg xs,.lit (.int .i64 s)] ⟨.fn g,n⟩ fun r=>r=.ret (.tup [.lit (.slice none 0 0),.lit (.int .i64 0),.lit (.int .i64 (cErr M x))]) ⟨.fn g,n⟩:=by
 refine WC.drop1 rfl ?_
 have HR:=Hide.mk hr
 have HX:=Hide.mk hx0
 obtain ⟨rv,svs,rfl,hrows,hrv⟩:=hr
 have h1r:=hrv.one
 have h1a:allOne [.lit (.int .i64 M.inp),.lit (.int .i64 M.out),rv]=true:=by simp [h1r]
 obtain ⟨k2,k3,sv2,hcy,h1c,hop2⟩:=repN_one hx0
 subst hcy
 have h1b:allOne [.lit (.int .u8 x.op),.lit (.int .i64 k2),.lit (.int .i64 k3),sv2]=true:=by simp [h1c]
 have HCK:=Hide.mk (fun g n h1 h2 h3 h4=>Check_any (M:=M) x hx g n [.lit (.int .i64 M.inp),.lit (.int .i64 M.out),rv] [.lit (.int .u8 x.op),.lit (.int .i64 k2),.lit (.int .i64 k3),sv2] h1 h2 h3 h4)
 generalize cErr M x=ce at he HCK
 clear hrows hrv hx0
 refine WC.enterP (noO_ok _ _) hG pl21 Tryd.func21 rfl (by decide +kernel) (Nat.le_of_ble_eq_true (by kernel_rfl)) ?_
 try simp (maxSteps:=999999) (disch:=first | assumption | omega | (simp; done) | fail) [Tryd.results21, *]
 refine WC.mono (HCK.out _ _ (by simp (disch:=omega) only [gput_lt]; exact hops) (by omega) (HR.out.mono (by omega) fun q hq=>by simp (disch:=omega) only [gput_lt]) (repN_mono (by omega) (fun a ha=>(by simp (disch:=omega) only [gput_lt])) HX.out)) ?_
 rintro _ rfl
 try simp (maxSteps:=999999) (disch:=first | assumption | omega | (simp; done) | fail) [Tryd.results21, *]
 refine ⟨(by omega:n≤n+1+1),fun b (hb:b < n)=>?_⟩
 show gput _ _ _ b=g b
 simp (disch:=omega) only [gput_lt,gput_ne]
theorem Text_no (x:NodeM) (hx:sizeN x≤1000000) (g:Nat→Option Blk) (n:Nat) (cs:List AV) (hops:g 0=some opsB) (hn:1 < n) (hr:repN g n x cs) (he:fErr 10000 10000 10000 x≠0) :
  WC 6 Tryd.prog 15 [.agg cs] ⟨.fn g,n⟩ fun r=>r=.ret (.tup [.lit (.string ⟨#[]⟩),.lit (.int .i64 (fErr 10000 10000 10000 x))]) ⟨.fn g,n⟩:=by
 refine WC.drop1 rfl ?_
 obtain ⟨k2,k3,sv2,hcy,h1c,hop2⟩:=repN_one hr
 subst hcy
 have h1a:allOne [.lit (.int .u8 x.op),.lit (.int .i64 k2),.lit (.int .i64 k3),sv2]=true:=by simp [h1c]
 have HR:=Hide.mk hr
 have HCK:=Hide.mk (fun g n h1 h2 h3=>checked_any 10000 10000 10000 x hx g n [.lit (.int .u8 x.op),.lit (.int .i64 k2),.lit (.int .i64 k3),sv2] h1 h2 h3)
 generalize fErr 10000 10000 10000 x=fe at he HCK
 clear hr
 refine WC.enterP (noO_ok _ _) hG [] Tryd.func15 rfl (by decide +kernel) (Nat.le_of_ble_eq_true (by kernel_rfl)) ?_
 try simp (maxSteps:=999999) (disch:=first | assumption | omega | (simp; done) | fail) [Tryd.results15, *]
 refine WC.mono (HCK.out _ _ (by simp (disch:=omega) only [gput_lt]; exact hops) (by omega) (repN_mono (by omega) (fun a ha=>(by simp (disch:=omega) only [gput_lt])) HR.out)) ?_
 rintro _ rfl
 try simp (maxSteps:=999999) (disch:=first | assumption | omega | (simp; done) | fail) [Tryd.results15, *]
 refine ⟨(by omega:n≤n+1),fun b (hb:b < n)=>?_⟩
 show gput _ _ _ b=g b
 simp (disch:=omega) only [gput_lt,gput_ne]
end Go.Ai
end
section
namespace Go.Ai
open Go.Proofs
theorem wit_out {M:MachM} {x:NodeM} {s:Int} {g:Nat→Option Blk} {lo hi:Nat} {v:AV} {l e:Int} (h:WitR M x s g lo hi v l e) (hs:¬(0≤s∧s < M.rows.length)) : v=.lit (.slice none 0 0)∧l=0∧e=1:=by
 rcases h with ⟨_,h1,h2,h3⟩ | ⟨h,_⟩ | ⟨h,_⟩
 ·exact ⟨h1,h2,h3⟩
 ·exact absurd h hs
 ·exact absurd h hs
theorem wit_one {M:MachM} {x:NodeM} {s:Int} {g:Nat→Option Blk} {lo hi:Nat} {v:AV} {l e:Int} (h:WitR M x s g lo hi v l e) : oneC v=true:=by
 rcases h with ⟨_,rfl,_⟩ | ⟨_,_,rfl,_⟩ | ⟨_,_,Y,_,⟨_,rfl,_⟩ | ⟨_,_,⟨_,_,_,_,_,_,_,_,h⟩ | ⟨_,_,_,_,_,_,_,_,h⟩ | ⟨_,_,_,_,_,_,_,_,_,_,_,h⟩ | ⟨_,_,h⟩⟩⟩
 ·rfl
 ·rfl
 ·rfl
 ·exact h.one
 ·exact h.one
 ·exact h.one
 ·exact h.one
end Go.Ai
end
section
namespace Go.Ai
open Go.Proofs
set_option maxRecDepth 10000
set_option maxHeartbeats 40000000
end Go.Ai
end
section
namespace Go.Ai
open Go.Proofs
set_option maxRecDepth 10000
set_option maxHeartbeats 40000000
end Go.Ai
end
section
namespace Go.Ai
open Go.Proofs
set_option maxRecDepth 10000
set_option maxHeartbeats 40000000
end Go.Ai
end
section
namespace Go.Ai
open Go.Proofs
set_option maxRecDepth 10000
set_option maxHeartbeats 40000000
end Go.Ai
end
section
namespace Go.Ai
open Go.Proofs
set_option maxRecDepth 10000
set_option maxHeartbeats 40000000
end Go.Ai
end
section
namespace Go.Ai
open Go.Proofs
set_option maxRecDepth 10000
set_option maxHeartbeats 40000000
end Go.Ai
end
section
namespace Go.Ai
open Go.Proofs
set_option maxRecDepth 10000
set_option maxHeartbeats 40000000
end Go.Ai
end
section
namespace Go.Ai
open Go.Proofs
set_option maxRecDepth 10000
set_option maxHeartbeats 40000000
end Go.Ai
end
section
namespace Go.Ai
open Go.Proofs
set_option maxRecDepth 10000
set_option maxHeartbeats 40000000
end Go.Ai
end
section
namespace Go.Ai
open Go.Proofs
set_option maxRecDepth 10000
set_option maxHeartbeats 40000000
end Go.Ai
end
section
namespace Go.Ai
open Go.Proofs
set_option maxRecDepth 10000
set_option maxHeartbeats 40000000
end Go.Ai
end
section
namespace Go.Ai
open Go.Proofs
set_option maxRecDepth 10000
set_option maxHeartbeats 40000000
end Go.Ai
end
section
namespace Go.Ai
open Go.Proofs
set_option maxRecDepth 10000
set_option maxHeartbeats 40000000
theorem GwV.lo {g:Nat→Option Blk} {lo lo' hi:Nat} {v:AV} {w:List Nat} (h:GwV g lo hi v w) (hl:lo'≤lo) : GwV g lo' hi v w:=by
 rcases h with h | ⟨h1,A,h2,h3,h4,h5⟩
 ·exact Or.inl h
 ·exact Or.inr ⟨h1,A,h2,by omega,h4,h5⟩
theorem GwV.len {P:Program} {g:Nat→Option Blk} {lo hi:Nat} {v:AV} {w:List Nat} (h:GwV g lo hi v w) : ∀ {H:Mem} {ev:Ev} {o:Oper} {c:Call} {e:TypeId},lenS P H ev o c (some (.slice e)) (some [v])=.val (.lit (.int .i64 w.length)) H:=by
 intro H ev o c e
 rcases h with ⟨rfl,rfl⟩ | ⟨_,A,rfl,_⟩ <;> rfl
theorem rows_at {P:Program} {g:Nat→Option Blk} {n:Nat} {R:List (List (Int×Int))} {rv:AV} {svs:List AV} (hrows:RowsE g n R svs) (hrv:SliceV g n rv R.length svs) {s:Nat} (hs:s < R.length) :
  ∃ sv a off,a < n∧SliceV g n sv R[s].length (rowC R[s])∧loadB (some (false,1)) (g a) (off+s)=some sv∧∀ {H:Mem} {ev:Ev} {o:Oper} {t:TypeId},iaS P H ev o t (some (none,1)) (some rv) (some (.lit (.int .i64 (s:Int))))=.val (.ptr a (off+s)) H:=by
 have hl:=hrows.len
 obtain ⟨a,off,ha,hrow,hia⟩:=hrv.ia (P:=P) hs 1
 rw [Nat.mul_one] at hia
 exact ⟨_,a,off,ha,hrows.at s hs (by omega),hrow.one (k:=s) (s:=1) (by omega),hia⟩
end Go.Ai
end
