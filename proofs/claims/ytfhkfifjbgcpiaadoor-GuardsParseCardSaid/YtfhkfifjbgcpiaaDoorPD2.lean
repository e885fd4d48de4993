/- A small verified interpreter over names, its proofs, and what was proved with it. No condition. -/
import Derived.Test.YtfhkfifjbgcpiaaDoorPC2
import Derived.Test.YtfhkfifjbgcpiaaDoorPC6
import Derived.Test.YtfhkfifjbgcpiaaDoorPD1
set_option linter.all false
set_option linter.deprecated false
section
namespace Go.Ai
open Go.Proofs
set_option maxRecDepth 10000
set_option maxHeartbeats 4000000
mutual
def countM:NodeM→Int→Int
  | .mk _ _ subs,most=>countL subs most 1
def countL:List NodeM→Int→Int→Int
  | [],_,n=>n
  | x :: l,most,n=>if n≤most then countL l most (n+countM x (most - n)) else n
end
mutual
theorem count_le:∀ (x:NodeM) (most:Int),1≤countM x most∧countM x most≤sizeN x
  | .mk _ _ subs,most=>by
    have:=countL_le subs most 1
    unfold countM sizeN
    omega
theorem countL_le:∀ (l:List NodeM) (most n:Int),n≤countL l most n∧countL l most n≤n+sizeL l
  | [],most,n=>by simp [countL,sizeL]
  | x :: l,most,n=>by
    have h1:=count_le x (most - n)
    have h2:=countL_le l most (n+countM x (most - n))
    unfold countL sizeL
    split <;> omega
end
mutual
theorem count_eq:∀ (x:NodeM) (most:Int),countM x most≤most→countM x most=sizeN x
  | .mk _ _ subs,most,h=>by
    unfold countM at h ⊢
    rw [countL_eq subs most 1 h]
    unfold sizeN
    omega
theorem countL_eq:∀ (l:List NodeM) (most n:Int),countL l most n≤most→countL l most n=n+sizeL l
  | [],most,n,_=>by simp [countL,sizeL]
  | x :: l,most,n,h=>by
    unfold countL at h ⊢
    split at h
    · rename_i hn
      rw [if_pos hn]
      have h1:=countL_le l most (n+countM x (most - n))
      have h2:=count_eq x (most - n) (by omega)
      have h3:=countL_eq l most (n+countM x (most - n)) h
      rw [h3,h2]
      show _=n+((sizeN x+sizeL l:Nat) : Int)
      omega
    · omega
end
theorem count_w:∀ (m:Nat),m≤1000000→∀ (x:NodeM),sizeN x≤m→∀ (g:Nat→Option Blk) (n:Nat) (cs:List AV) (most:Int),0≤most→most≤1000000→repN g n x cs →
    WC 6 Tryd.prog 20 [.agg cs,.lit (.int .i64 most)] ⟨.fn g,n⟩ fun r=>r=.ret (.lit (.int .i64 (countM x most))) ⟨.fn g,n⟩:=by
  intro m
  induction m with
  | zero=>intro _ x hx; cases x; unfold sizeN at hx; omega
  | succ m ihm =>
    intro hm x hx g n cs most hm0 hm1 hr
    have IH:=Hide.mk ihm
    clear ihm
    refine WC.drop1 rfl ?_
    cases x with
    | mk op q subs =>
      obtain ⟨hop,sv,rfl,hsv⟩:=hr
      generalize hret:countM (.mk op q subs) most=ret
      have HRET:=Hide.mk hret
      clear hret
      have hsz:sizeL subs≤m:=by unfold sizeN at hx; omega
      have hlen:subs.length≤1000000:=Nat.le_trans (len_size subs) (by omega)
      obtain ⟨sv',hq⟩ : ∃ sv',Hide (sv'=sv):=⟨_,⟨rfl⟩⟩
      have HMO:Hide (ret=countL subs most 1):=⟨by rw [← HRET.out,countM]⟩
      rcases hsv with ⟨hsub,rfl | rfl⟩ | ⟨a,off,r,han,⟨c,rfl⟩ | ⟨c,rfl⟩,hrow,hrep⟩
      all_goals refine WC.enterP O9_ok hG6 [] Tryd.func20 rfl (by decide +kernel) (Nat.le_of_ble_eq_true (by kernel_rfl)) ?_
      all_goals
        iterate 12 (all_goals try (first | with_reducible refine splitI (fun h=>?_) (fun h=>?_) | with_reducible refine splitBI (fun h=>?_) (fun h=>?_) | simp (disch:=first | assumption | omega | (simp; done) | fail) [Tryd.results20,O9, *]))
        refine LX.ind (fun m gf H'=>∃ (k n' : Nat) (g' : Nat→Option Blk) (cnt:Int),k≤subs.length∧m=subs.length - k∧H'=⟨.fn g',n'⟩∧n < n'∧(∀ b,b < n→g' b=g b)∧g' n=some (.cells [.lit (.int .u8 op),.lit (.int .i64 q),sv'] true 0) ∧
          gf 2=some (.ptr n 0)∧gf 1=some (.lit (.int .i64 most))∧gf 5=some (.lit (.int .i64 cnt))∧gf 6=some (.lit (.int .i64 k))∧1≤cnt∧cnt+sizeL (subs.drop k)≤1000001∧ret=countL (subs.drop k) most cnt) (m0:=subs.length) ?_ ?_
        · exact ⟨0,n+1,_,1,Nat.zero_le _,rfl,rfl,by omega,fun b hb=>gput_lt hb,by simp [hq.out],by simp,by simp,by simp,by simp,by omega,by rw [List.drop_zero]; omega,HMO.out⟩
        rintro m' gf H' ⟨k,n',g',cnt,hk,rfl,rfl,hn',hg',hgn,g2,g1,g5,g6,hc1,hc2,hc⟩ ih
        refine LX.roundP O9_ok hG6 [] (by decide +kernel) ?_
        rw [hq.out] at hgn
        have HG:=Hide.mk hg'
        have HC:=Hide.mk hc
        clear hg' hc
        by_cases hlt:k < subs.length
        · first
          | (exfalso; rw [hsub] at hlt; simp at hlt; done)
          | (have hy0:=repL_at hrep k hlt
             have hrl:=repL_len hrep
             have hrow':=(hrow.mono (HG.out a han)).agg (k:=k * 3) (s:=3) (by omega)
             have hdrop:subs.drop k=subs[k] :: subs.drop (k+1):=List.drop_eq_getElem_cons hlt
             have hszy:sizeN subs[k]≤m:=Nat.le_trans (size_mem (List.getElem_mem hlt)) hsz
             rw [hdrop] at hc2
             unfold sizeL at hc2
             generalize subs[k]=y at hy0 hdrop hszy hc2
             obtain ⟨k2,sv2,hcy,h1c,hop2⟩:=repN_op hy0
             rw [hcy] at hrow' hy0
             generalize hop3:y.op=op2 at hcy hrow' hy0 hop2
             have h1a:allOne [.lit (.int .u8 op2),.lit (.int .i64 k2),sv2]=true:=by simp [h1c]
             have HY:=Hide.mk hy0
             have HD:=Hide.mk hdrop
             have HR:=Hide.mk hrep
             have HR2:=Hide.mk hrow
             have HO:=Hide.mk hop3
             have HC2:=Hide.mk hc2
             have hcb:cnt≤1000001:=by omega
             have hlt' : (k:Int) < (subs.length:Int):=by omega
             clear hy0 hdrop hrep hrow hcy hrl hop3 hc2
             by_cases hcm:cnt≤most
             · iterate 40 (all_goals try (first | with_reducible refine splitI (fun h=>?_) (fun h=>?_) | with_reducible refine splitBI (fun h=>?_) (fun h=>?_) | simp (disch:=first | assumption | omega | (simp; done) | fail) [Tryd.results20,O9, *]))
               refine WC.mono (IH.out (by omega) y hszy _ _ _ (most - cnt) (by omega) (by omega) (repN_mono (b':=n') (by omega) (fun a ha=>HG.out a ha) HY.out)) ?_
               rintro _ rfl
               have hcy:=count_le y (most - cnt)
               have hcc:=HC2.out
               generalize hcy2:countM y (most - cnt)=cy at hcy
               have HCY:=Hide.mk hcy2
               clear hcy2
               iterate 10 (all_goals try (first | with_reducible refine splitI (fun h=>?_) (fun h=>?_) | with_reducible refine splitBI (fun h=>?_) (fun h=>?_) | simp (disch:=first | assumption | omega | (simp; done) | fail) [Tryd.results20,O9, *]))
               refine ih.out (subs.length - (k+1)) _ _ (by omega) ⟨k+1,n',_,cnt+cy,hlt,rfl,rfl,by omega,HG.out,by simp [*,hq.out],by simp [*],by simp [*],by simp [*],by simp [*],by omega,by omega,?_⟩
               rw [HC.out,HD.out,countL,if_pos hcm,HCY.out]
             · iterate 40 (all_goals try (first | with_reducible refine splitI (fun h=>?_) (fun h=>?_) | with_reducible refine splitBI (fun h=>?_) (fun h=>?_) | simp (disch:=first | assumption | omega | (simp; done) | fail) [Tryd.results20,O9, *]))
               exact ⟨_,⟨by rw [HC.out,HD.out,countL,if_neg hcm],rfl⟩,⟨Nat.le_of_lt hn',fun b hb=>HG.out b hb⟩⟩)
        · have HDN:=Hide.mk (List.drop_eq_nil_of_le (by omega) : subs.drop k=[])
          have hkn:k=subs.length:=by omega
          subst hkn
          have hc3:cnt≤1000001:=by omega
          clear hc2
          first | clear hsub | clear hrep hrow
          iterate 10 (all_goals try (first | with_reducible refine splitI (fun h=>?_) (fun h=>?_) | with_reducible refine splitBI (fun h=>?_) (fun h=>?_) | simp (disch:=first | assumption | omega | (simp; done) | fail) [Tryd.results20,O9, *]))
          all_goals first
            | (exfalso; omega)
            | exact ⟨_,⟨by rw [HC.out,HDN.out,countL],rfl⟩,⟨Nat.le_of_lt hn',fun b hb=>HG.out b hb⟩⟩
end Go.Ai
end
section
namespace Go.Ai
open Go.Proofs
set_option maxRecDepth 10000
end Go.Ai
end
section
namespace Go.Ai
open Go.Proofs
set_option maxRecDepth 10000
set_option maxHeartbeats 40000000
theorem LX.gen {G n:Nat} {P:Program} {b:Code} {ds:List Dfr} {Q:Out→Prop} {g0:Nat→Option AV} {H0:Mem} (I:(Nat→Option AV)→Mem→Prop) (h0:I g0 H0) (h:∀ g H,I g H→LX G P n b (.f g ds) H Q) : LX G P n b (.f g0 ds) H0 Q:=h _ _ h0
end Go.Ai
end
