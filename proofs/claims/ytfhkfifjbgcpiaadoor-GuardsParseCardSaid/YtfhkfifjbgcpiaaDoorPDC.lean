/- A small verified interpreter over names, its proofs, and what was proved with it. No condition. -/
import Derived.Test.YtfhkfifjbgcpiaaDoorPDB
import Derived.Test.YtfhkfifjbgcpiaaDoorPD6
set_option linter.all false
set_option linter.deprecated false
section
namespace Go.Ai
open Go.Proofs
set_option maxRecDepth 10000
set_option maxHeartbeats 40000000
section
variable {vs:List VarM} {va:Nat} {s:ByteArray} {pos:List Nat} {ta:Nat}
theorem repN_c {g:Nat→Option Blk} {n op:Nat} {x:NodeM} {q:Int} {sv:AV} (h:repN g n x [.lit (.int .u8 op),.lit (.int .i64 q),sv]) : oneC sv=true:=by
  obtain ⟨_,_,_,hcc,h1c⟩:=repN_one h
  cases hcc; exact h1c
theorem rlevel_w (hP:PosOK s pos) (hpl:pos.length≤1000001) (hs:s.size≤1000000) (hvl:vs.length≤1000000) : ∀ m,m≤100000000→RLevOK vs va s pos ta m:=by
  intro m
  induction m using Nat.strongRecOn with
  | _ m IH =>
  intro hmm rank i k g n h hi hr1 hr2 hm
  have hle:=(hP i k hi).1
  have hnx:=(hP i k hi).2
  have hil:i < pos.length:=(List.getElem?_eq_some_iff.1 hi).1
  have hiI:(i:Int) < (pos.length:Int):=by omega
  have hta:=h.tan
  have hva:=h.van
  have r1:=(row_tok (z:=1) h.toks hi).1
  rw [Nat.zero_add] at r1
  have HTOK:Hide (∀ j k,pos[j]?=some k→loadB (some (false,1)) (g ta) (j * 2)=some (.lit (.string (tokB s k)))):=⟨fun j k hj=>by have:=(row_tok (z:=1) h.toks hj).1; rwa [Nat.zero_add] at this⟩
  have HH:=Hide.mk h
  have HP:=Hide.mk hP
  have HI:=Hide.mk IH
  have HPI:=Hide.mk hi
  clear h IH hP hi
  obtain ⟨m,rfl⟩ : ∃ m',m=m'+1:=⟨m - 1,by omega⟩
  have htan:¬ta=n:=by omega
  by_cases c1:7 < rank
  · have hrk:rank=8:=by omega
    subst hrk
    obtain ⟨m',rfl⟩ : ∃ m',m=m'+1:=⟨m - 1,by omega⟩
    have HAT:=Hide.mk (fun (g:Nat→Option Blk) (n:Nat) (h:RAt vs va s pos ta g n)=>ratom_w HP.out hpl hs hvl (HI.out m' (by omega) (by omega)) i k g n h HPI.out (by omega))
    have HRF:Hide (∀ r,atomF vs s (m'+1) k=some r→readF vs s (m'+1+1) 8 k=some r):=⟨fun r e=>by rw [readF,if_pos (by omega)]; exact e⟩
    refine WC.enterP (noO_ok _ _) hG6 pl42 Tryd.func42 rfl (by decide +kernel) (Nat.le_of_ble_eq_true (by kernel_rfl)) ?_
    iterate 20 (all_goals try (first | with_reducible refine splitI (fun h=>?_) (fun h=>?_) | with_reducible refine splitBI (fun h=>?_) (fun h=>?_) | simp (config:={ maxSteps:=1000000 }) (disch:=first | assumption | omega | (simp; done) | fail) [Tryd.results42, *]))
    refine WC.mono (HAT.out _ _ (HH.out.keep (by omega) (fun a ha=>(by simp (disch:=omega) only [gput_lt])))) ?_
    rintro _ ⟨res,hrd,x,op,q,sv2,j,e,g1,n1,rfl,hn1,hg1,hfr,hend⟩
    have HRES:=Hide.mk (HRF.out _ hrd)
    have HFR:=Hide.mk hfr
    have HG1:=Hide.mk hg1
    have e1:g1 n=some (.cells [.lit (.int .u8 0),.lit (.int .i64 0),.lit (.slice none 0 0),.lit (.int .i64 0),.lit (.int .i64 0)] true 0):=by rw [hg1 n (by omega)]; simp
    have h1c:=repN_c hfr.rep
    have h1a:allOne [.lit (.int .u8 op),.lit (.int .i64 q),sv2]=true:=by simp [h1c]
    have h1b:allOne [.lit (.int .u8 op),.lit (.int .i64 q),sv2,.lit (.int .i64 j),.lit (.int .i64 e)]=true:=by simp [h1c]
    have HE:=Hide.mk hend
    clear hrd hfr hg1 hend
    iterate 20 (all_goals try (first | with_reducible refine splitI (fun h=>?_) (fun h=>?_) | with_reducible refine splitBI (fun h=>?_) (fun h=>?_) | simp (config:={ maxSteps:=1000000 }) (disch:=first | assumption | omega | (simp; done) | fail) [Tryd.results42, *]))
    refine ⟨_,HRES.out,x,op,q,sv2,j,e,_,_,rfl,by omega,fun a ha=>?_,HFR.out.keep (by omega) (by omega) (fun a h4 h5=>gput_ne (by omega)),HE.out⟩
    rw [gput_lt ha,HG1.out a (by omega)]
    simp (disch:=omega) only [gput_lt]
  by_cases c3:(rank=3∧tokB s k=notT)∨(rank=7∧tokB s k=negT)
  · have hks:k < s.size:=by
      have hne:k≠s.size:=fun e=>by
        have h0:=(tok_empty hle).2 e
        rw [h0] at c3
        rcases c3 with ⟨_,c3⟩ | ⟨_,c3⟩ <;> exact absurd (congrArg ByteArray.size c3) (by decide)
      omega
    have hnk:=nxtM_lt hks
    have HN:=Hide.mk (hnx hks)
    have HRK:=Hide.mk c3
    rcases c3 with ⟨rfl,htk⟩ | ⟨rfl,htk⟩
    · have htk' : tokB s k=⟨#[110,111,116]⟩:=htk
      rw [htk'] at r1
      refine WC.enterP (noO_ok _ _) hG6 pl42 Tryd.func42 rfl (by decide +kernel) (Nat.le_of_ble_eq_true (by kernel_rfl)) ?_
      iterate 20 (all_goals try (first | with_reducible refine splitI (fun h=>?_) (fun h=>?_) | with_reducible refine splitBI (fun h=>?_) (fun h=>?_) | simp (config:={ maxSteps:=1000000 }) (disch:=first | assumption | omega | (simp; done) | fail) [Tryd.results42, *]))
      refine WC.mono (HI.out m (by omega) (by omega) 3 (i+1) (nxtM s k) _ _ (HH.out.keep (by omega) (fun a ha=>(by simp (disch:=omega) only [gput_lt]))) HN.out (by omega) (by omega) (by omega)) ?_
      rintro _ ⟨res,hrd,x,op,q,sv2,j,e,g1,n1,rfl,hn1,hg1,hfr,hend⟩
      have HFR:=Hide.mk hfr
      have HG1:=Hide.mk hg1
      have e1:g1 n=some (.cells [.lit (.int .u8 0),.lit (.int .i64 0),.lit (.slice none 0 0),.lit (.int .i64 0),.lit (.int .i64 0)] true 0):=by rw [hg1 n (by omega)]; simp
      have h1c:=repN_c hfr.rep
      have h1a:allOne [.lit (.int .u8 op),.lit (.int .i64 q),sv2]=true:=by simp [h1c]
      have h1b:allOne [.lit (.int .u8 op),.lit (.int .i64 q),sv2,.lit (.int .i64 j),.lit (.int .i64 e)]=true:=by simp [h1c]
      have hnn1:¬n=n1:=by omega
      have hnn2:¬n=n1+1:=by omega
      have HE:Hide (∃ res',readF vs s (m+1) 3 k=some res'∧(match res' with
        | .ok y k=>e=0∧NodeM.mk 9 0 [x]=y∧pos[j]?=some k
        | .err c k=>e=c∧¬c=0∧pos[j]?=some k)):=⟨by
          cases res with
          | ok y k2 =>
            obtain ⟨rfl,rfl,hj⟩:=hend
            exact ⟨.ok (.mk 9 0 [x]) k2,by rw [readF,if_neg (by omega),if_pos ⟨rfl,htk⟩,hrd],rfl,rfl,hj⟩
          | err c k2 =>
            obtain ⟨rfl,hc0,hj⟩:=hend
            exact ⟨.err e k2,by rw [readF,if_neg (by omega),if_pos ⟨rfl,htk⟩,hrd],rfl,hc0,hj⟩⟩
      clear hrd hfr hg1 hend
      iterate 20 (all_goals try (first | with_reducible refine splitI (fun h=>?_) (fun h=>?_) | with_reducible refine splitBI (fun h=>?_) (fun h=>?_) | simp (config:={ maxSteps:=1000000 }) (disch:=first | assumption | omega | (simp; done) | fail) [Tryd.results42, *]))
      obtain ⟨res',hq1,hq2⟩:=HE.out
      refine ⟨res',hq1,.mk 9 0 [x],9,0,.sl (n1+1) 0 1 1,j,e,_,_,rfl,by omega,fun a ha=>?_,(FreshN.node (FreshL.one (HFR.out.keep (n0:=n+1) (by omega) (n2:=n1) (Nat.le_refl _) (fun _ _ _=>rfl))) rfl (by omega) (S:=n1+1) ?_ (by omega) (by omega) (by omega) ?_).keep (n0:=n) (by omega) (Nat.le_refl _) (fun _ _ _=>rfl),hq2⟩
      · simp (disch:=omega) only [gput_lt]
        rw [HG1.out a (by omega)]
        simp (disch:=omega) only [gput_lt]
      · simp (disch:=omega) only [gput_ne,gput_eq]
        try rfl
      · intro a h4 h5
        simp (disch:=omega) only [gput_ne]
    · have htk' : tokB s k=⟨#[45]⟩:=htk
      rw [htk'] at r1
      refine WC.enterP (noO_ok _ _) hG6 pl42 Tryd.func42 rfl (by decide +kernel) (Nat.le_of_ble_eq_true (by kernel_rfl)) ?_
      iterate 20 (all_goals try (first | with_reducible refine splitI (fun h=>?_) (fun h=>?_) | with_reducible refine splitBI (fun h=>?_) (fun h=>?_) | simp (config:={ maxSteps:=1000000 }) (disch:=first | assumption | omega | (simp; done) | fail) [Tryd.results42, *]))
      refine WC.mono (HI.out m (by omega) (by omega) 7 (i+1) (nxtM s k) _ _ (HH.out.keep (by omega) (fun a ha=>(by simp (disch:=omega) only [gput_lt]))) HN.out (by omega) (by omega) (by omega)) ?_
      rintro _ ⟨res,hrd,x,op,q,sv2,j,e,g1,n1,rfl,hn1,hg1,hfr,hend⟩
      have HFR:=Hide.mk hfr
      have HG1:=Hide.mk hg1
      have e1:g1 n=some (.cells [.lit (.int .u8 0),.lit (.int .i64 0),.lit (.slice none 0 0),.lit (.int .i64 0),.lit (.int .i64 0)] true 0):=by rw [hg1 n (by omega)]; simp
      have h1c:=repN_c hfr.rep
      have h1a:allOne [.lit (.int .u8 op),.lit (.int .i64 q),sv2]=true:=by simp [h1c]
      have h1b:allOne [.lit (.int .u8 op),.lit (.int .i64 q),sv2,.lit (.int .i64 j),.lit (.int .i64 e)]=true:=by simp [h1c]
      have hnn1:¬n=n1:=by omega
      have hnn2:¬n=n1+1:=by omega
      have HE:Hide (∃ res',readF vs s (m+1) 7 k=some res'∧(match res' with
        | .ok y k=>e=0∧NodeM.mk 2 0 [x]=y∧pos[j]?=some k
        | .err c k=>e=c∧¬c=0∧pos[j]?=some k)):=⟨by
          cases res with
          | ok y k2 =>
            obtain ⟨rfl,rfl,hj⟩:=hend
            exact ⟨.ok (.mk 2 0 [x]) k2,by rw [readF,if_neg (by omega),if_neg (by simp),if_pos ⟨rfl,htk⟩,hrd],rfl,rfl,hj⟩
          | err c k2 =>
            obtain ⟨rfl,hc0,hj⟩:=hend
            exact ⟨.err e k2,by rw [readF,if_neg (by omega),if_neg (by simp),if_pos ⟨rfl,htk⟩,hrd],rfl,hc0,hj⟩⟩
      clear hrd hfr hg1 hend
      iterate 20 (all_goals try (first | with_reducible refine splitI (fun h=>?_) (fun h=>?_) | with_reducible refine splitBI (fun h=>?_) (fun h=>?_) | simp (config:={ maxSteps:=1000000 }) (disch:=first | assumption | omega | (simp; done) | fail) [Tryd.results42, *]))
      obtain ⟨res',hq1,hq2⟩:=HE.out
      refine ⟨res',hq1,.mk 2 0 [x],2,0,.sl (n1+1) 0 1 1,j,e,_,_,rfl,by omega,fun a ha=>?_,(FreshN.node (FreshL.one (HFR.out.keep (n0:=n+1) (by omega) (n2:=n1) (Nat.le_refl _) (fun _ _ _=>rfl))) rfl (by omega) (S:=n1+1) ?_ (by omega) (by omega) (by omega) ?_).keep (n0:=n) (by omega) (Nat.le_refl _) (fun _ _ _=>rfl),hq2⟩
      · simp (disch:=omega) only [gput_lt]
        rw [HG1.out a (by omega)]
        simp (disch:=omega) only [gput_lt]
      · simp (disch:=omega) only [gput_ne,gput_eq]
        try rfl
      · intro a h4 h5
        simp (disch:=omega) only [gput_ne]
  obtain ⟨ri,hri⟩ : ∃ ri:Int,ri=(rank:Nat):=⟨_,rfl⟩
  rw [← hri]
  have hri1:1≤ri:=by omega
  have hri7:ri≤7:=by omega
  have hri8:¬ri=8:=by omega
  have hsplit:(((ri=3)=True)∧((ri=7)=False)∧¬tokB s k=⟨#[110,111,116]⟩)∨(((ri=3)=False)∧((ri=7)=True)∧¬tokB s k=⟨#[45]⟩)∨(((ri=3)=False)∧((ri=7)=False)∧True):=by
    by_cases e1:rank=3
    · exact .inl ⟨eq_true (by omega),eq_false (by omega),fun e=>c3 (.inl ⟨e1,e⟩)⟩
    · by_cases e2:rank=7
      · exact .inr (.inl ⟨eq_false (by omega),eq_true (by omega),fun e=>c3 (.inr ⟨e2,e⟩)⟩)
      · exact .inr (.inr ⟨eq_false (by omega),eq_false (by omega),trivial⟩)
  have hrd0:∀ r,readF vs s (m+1) rank k=r↔(match readF vs s m (rank+1) k with
      | some (.ok x k')=>loopF vs s m rank x k'
      | r=>r)=r:=fun r=>by rw [readF,if_neg c1,if_neg (fun h=>c3 (.inl h)),if_neg (fun h=>c3 (.inr h))]; exact Iff.rfl
  have HRF:Hide (∀ x k1,readF vs s m (rank+1) k=some (.ok x k1)→readF vs s (m+1) rank k=loopF vs s m rank x k1):=⟨fun x k1 e=>by rw [hrd0,e]⟩
  have HRE:Hide (∀ e k1,readF vs s m (rank+1) k=some (.err e k1)→readF vs s (m+1) rank k=some (.err e k1)):=⟨fun x k1 e=>by rw [hrd0,e]⟩
  have HIR:Hide (∀ (m' i' k' : Nat) (g' : Nat→Option Blk) (n' : Nat),m'≤m→RAt vs va s pos ta g' n'→pos[i']?=some k'→20 * (s.size - k')+(9 - rank)≤m'→WC 6 Tryd.prog 42 [.sl va 0 vs.length vs.length,.slq ta 0 pos.length 0,.lit (.int .i64 i'),.lit (.int .i64 (ri+1))] ⟨.fn g',n'⟩ fun r=>∃ res,readF vs s m' (rank+1) k'=some res∧REnd pos g' n' res r):=⟨fun m' i' k' g' n' h1 h2 h3 h4=>by
    have e:ri+1=((rank+1:Nat) : Int):=by omega
    rw [e]
    exact HI.out m' (by omega) (by omega) (rank+1) i' k' g' n' h2 h3 (by omega) (by omega) (by omega)⟩
  have HL0:Hide (∀ m' x k',binM ri (tokB s k')=0→loopF vs s (m'+1) rank x k'=some (.ok x k')):=⟨fun m' x k' e=>by rw [hri] at e; rw [loopF,if_pos e]⟩
  have HLE:Hide (∀ m' x k' e k3,¬binM ri (tokB s k')=0→readF vs s m' (rank+1) (nxtM s k')=some (.err e k3)→loopF vs s (m'+1) rank x k'=some (.err e k3)):=⟨fun m' x k' e k3 e1 e2=>by rw [hri] at e1; rw [loopF,if_neg e1,e2]⟩
  have HL1:Hide (∀ m' x k' y k3,¬binM ri (tokB s k')=0→readF vs s m' (rank+1) (nxtM s k')=some (.ok y k3)→loopF vs s (m'+1) rank x k'=if ri=4 then some (.ok (.mk (binM ri (tokB s k')) 0 [x,y]) k3) else loopF vs s m' rank (.mk (binM ri (tokB s k')) 0 [x,y]) k3):=⟨fun m' x k' y k3 e1 e2=>by
    rw [hri] at e1; rw [loopF,if_neg e1,e2,hri]
    dsimp only
    by_cases h4:rank=4
    · rw [if_pos h4,if_pos (by omega)]
    · rw [if_neg h4,if_neg (by omega)]⟩
  have HC3:=Hide.mk c3
  clear c1 c3 hri hrd0 hnx
  have HMM:Hide (20 * (s.size - k)+(10 - rank)≤m+1):=⟨hm⟩
  have HTA:Hide (∀ (g' : Nat→Option Blk) (n' : Nat),n≤n'→(∀ a,a < n→g' a=g a)→RAt vs va s pos ta g' n'):=⟨fun g' n' h1 h2=>HH.out.keep h1 h2⟩
  rcases hsplit with ⟨e1,e2,e3⟩ | ⟨e1,e2,e3⟩ | ⟨e1,e2,-⟩
  all_goals
    refine WC.enterP (noO_ok _ _) hG6 pl42 Tryd.func42 rfl (by decide +kernel) (Nat.le_of_ble_eq_true (by kernel_rfl)) ?_
    iterate 20 (all_goals try (first | with_reducible refine splitI (fun h=>?_) (fun h=>?_) | with_reducible refine splitBI (fun h=>?_) (fun h=>?_) | simp (config:={ maxSteps:=1000000 }) (disch:=first | assumption | omega | (simp; done) | fail) [Tryd.results42, *]))
    refine WC.mono (HIR.out m i k _ _ (Nat.le_refl _) (HTA.out _ _ (by omega) (fun a ha=>(by simp (disch:=omega) only [gput_lt]))) HPI.out (by omega)) ?_
    rintro _ ⟨res,hrd,x,op,q,sv2,j,e,g1,n1,rfl,hn1,hg1,hfr,hend⟩
    have HFR:=Hide.mk hfr
    have HG1:=Hide.mk hg1
    have e5:g1 n=some (.cells [.lit (.int .u8 0),.lit (.int .i64 0),.lit (.slice none 0 0),.lit (.int .i64 0),.lit (.int .i64 0)] true 0):=by rw [hg1 n (by omega)]; simp
    have h1c:=repN_c hfr.rep
    have h1a:allOne [.lit (.int .u8 op),.lit (.int .i64 q),sv2]=true:=by simp [h1c]
    have h1b:allOne [.lit (.int .u8 op),.lit (.int .i64 q),sv2,.lit (.int .i64 j),.lit (.int .i64 e)]=true:=by simp [h1c]
    have hnn1:¬n=n1:=by omega
    have HE:Hide (∃ k1,pos[j]?=some k1∧((e=0∧k≤k1∧readF vs s (m+1) rank k=loopF vs s m rank x k1)∨(¬e=0∧readF vs s (m+1) rank k=some (.err e k1)))):=⟨by
      cases res with
      | ok y k2 =>
        obtain ⟨rfl,rfl,hj⟩:=hend
        exact ⟨k2,hj,.inl ⟨rfl,((read_le m).1 _ _ _ _ hle hrd).1,HRF.out _ _ hrd⟩⟩
      | err c k2 =>
        obtain ⟨rfl,hc0,hj⟩:=hend
        exact ⟨k2,hj,.inr ⟨hc0,HRE.out _ _ hrd⟩⟩⟩
    clear hrd hfr hg1 hend
    iterate 20 (all_goals try (first | with_reducible refine splitI (fun h=>?_) (fun h=>?_) | with_reducible refine splitBI (fun h=>?_) (fun h=>?_) | simp (config:={ maxSteps:=1000000 }) (disch:=first | assumption | omega | (simp; done) | fail) [Tryd.results42, *]))
    refine LX.ind (fun m' gf H'=>∃ (x' : NodeM) (op' : Nat) (q' : Int) (sv' : AV) (j' : Nat) (e' : Int) (k' n' : Nat) (g' : Nat→Option Blk),H'=⟨.fn g',n'⟩∧n1 < n'∧g' n1=some (.cells [.lit (.int .u8 op'),.lit (.int .i64 q'),sv',.lit (.int .i64 j'),.lit (.int .i64 e')] true 0)∧oneC sv'=true ∧
      FreshQ g' (n+1) n1 n' x' [.lit (.int .u8 op'),.lit (.int .i64 q'),sv']∧(∀ a,a < n→g' a=g a)∧g' n=some (.cells [.lit (.int .u8 0),.lit (.int .i64 0),.lit (.slice none 0 0),.lit (.int .i64 0),.lit (.int .i64 0)] true 0)∧pos[j']?=some k' ∧
      gf 0=some (.sl va 0 vs.length vs.length)∧gf 1=some (.slq ta 0 pos.length 0)∧gf 3=some (.lit (.int .i64 ri))∧gf 8=some (.ptr n 0)∧gf 11=some (.ptr n1 0) ∧
      ((e'=0∧k≤k'∧readF vs s (m+1) rank k=loopF vs s m' rank x' k'∧20 * (s.size - k')+1≤m'∧m'≤m)∨(¬e'=0∧readF vs s (m+1) rank k=some (.err e' k')))) (m0:=m) ?_ ?_
    · obtain ⟨k1,hq1,hq3⟩:=HE.out
      refine ⟨x,op,q,sv2,j,e,k1,n1+1,_,rfl,by omega,gput_eq,h1c,FreshQ.of HFR.out (Nat.le_refl _) (by omega) (fun a h4 h5=>(by simp (disch:=omega) only [gput_lt])),fun a ha=>?_,?_,hq1,by simp,by simp,by simp,by simp,by simp,?_⟩
      · simp (disch:=omega) only [gput_lt]
        rw [HG1.out a (by omega)]
        simp (disch:=omega) only [gput_lt]
      · simp (disch:=omega) only [gput_lt]
        exact e5
      · rcases hq3 with ⟨h1,hq2,h2⟩ | h
        · exact .inl ⟨h1,hq2,h2,by omega,Nat.le_refl _⟩
        · exact .inr h
    rintro m' gf H' ⟨x',op',q',sv',j',e',k',n',g',rfl,hn',hq',h1c',hfq,hg',hz',hj',g0,g1',g3,g8,g11,hcase⟩ ih
    refine LX.roundP (noO_ok _ _) hG6 pl42 (by decide +kernel) ?_
    have h1a' : allOne [.lit (.int .u8 op'),.lit (.int .i64 q'),sv']=true:=by simp [h1c']
    have h1b' : allOne [.lit (.int .u8 op'),.lit (.int .i64 q'),sv',.lit (.int .i64 j'),.lit (.int .i64 e')]=true:=by simp [h1c']
    have HFQ:=Hide.mk hfq
    have HG':=Hide.mk hg'
    have HJ':=Hide.mk hj'
    clear hfq hg' hj' HG1 HFR HE h1a h1b e5
    rcases hcase with ⟨rfl,hkk,hld,hm1,hm2⟩ | ⟨he0,hrd⟩
    · have HLD:=Hide.mk hld
      clear hld
      have hle':=(HP.out j' k' HJ'.out).1
      have hjl:j' < pos.length:=(List.getElem?_eq_some_iff.1 HJ'.out).1
      have hjI:(j' : Int) < (pos.length:Int):=by omega
      have r2:=HTOK.out j' k' HJ'.out
      rw [← HG'.out ta (by omega)] at r2
      iterate 20 (all_goals try (first | with_reducible refine splitI (fun h=>?_) (fun h=>?_) | with_reducible refine splitBI (fun h=>?_) (fun h=>?_) | simp (config:={ maxSteps:=1000000 }) (disch:=first | assumption | omega | (simp; done) | fail) [Tryd.results42, *]))
      generalize htt:tokB s k'=t at r2
      refine LX.ind (fun m3 gf2 H2=>∃ (kk n2:Nat) (g2:Nat→Option Blk),3≤kk∧kk≤12∧m3=12 - kk∧H2=⟨.fn g2,n2⟩∧n'≤n2∧(∀ a,a < n'→g2 a=g' a)∧gf2 0=some (.sl va 0 vs.length vs.length)∧gf2 1=some (.slq ta 0 pos.length 0)∧gf2 3=some (.lit (.int .i64 ri))∧gf2 8=some (.ptr n 0)∧gf2 11=some (.ptr n1 0) ∧
        gf2 13=some (.lit (.int .u8 kk))∧gf2 12=some (.lit (.int .u8 (binR ri t kk)))) (m0:=9) ?_ ?_
      · exact ⟨3,n',_,by omega,by omega,rfl,rfl,Nat.le_refl _,fun _ _=>rfl,by simp [*],by simp [*],by simp [*],by simp [*],by simp [*],by simp,by simp [binR]⟩
      rintro m3 gf2 H2 ⟨kk,n2,g2,hk3,hk12,rfl,rfl,hn2,hg2,w0,w1,w3,w8,w11,w13,w12⟩ ih2
      refine LX.roundP (noO_ok _ _) hG6 pl42 (by decide +kernel) ?_
      have HG2:=Hide.mk hg2
      have hq2:=(hg2 n1 (by omega)).trans hq'
      have hz2:=(hg2 n (by omega)).trans hz'
      have r3:=r2
      rw [← hg2 ta (by omega)] at r3
      clear hg2
      by_cases hkk12:kk < 12
      · have hK:kk=3∨kk=4∨kk=5∨kk=6∨kk=7∨kk=8∨kk=9∨kk=10∨kk=11:=by omega
        have hjl2:¬n1=n2:=by omega
        clear hkk12 r2
        rcases hK with rfl | rfl | rfl | rfl | rfl | rfl | rfl | rfl | rfl
        · rcases (by by_cases h1:(5:Int)=ri <;> by_cases h2:(⟨#[43]⟩ : ByteArray)=t <;> simp [h1,h2] : (¬(5:Int)=ri)∨((5:Int)=ri∧¬(⟨#[43]⟩ : ByteArray)=t)∨((5:Int)=ri∧(⟨#[43]⟩ : ByteArray)=t)) with h1 | ⟨h1,h2⟩ | ⟨h1,h2⟩
          · have hb:binR ri t 4=binR ri t 3:=by rw [binR,if_neg (fun h=>h1 h.2.2.1)]
            have HB:=Hide.mk hb
            clear hb
            iterate 20 (all_goals try (first | with_reducible refine splitI (fun h=>?_) (fun h=>?_) | with_reducible refine splitBI (fun h=>?_) (fun h=>?_) | simp (config:={ maxSteps:=1000000 }) (disch:=first | assumption | omega | (simp; done) | fail) [Tryd.results42, *]))
            refine WC.mono (rank_w 3 _) ?_
            rintro _ rfl
            rw [show rankM 3=5 from rfl]
            iterate 20 (all_goals try (first | with_reducible refine splitI (fun h=>?_) (fun h=>?_) | with_reducible refine splitBI (fun h=>?_) (fun h=>?_) | simp (config:={ maxSteps:=1000000 }) (disch:=first | assumption | omega | (simp; done) | fail) [Tryd.results42, *]))
            refine ih2.out (12 - 4) _ _ (by omega) ⟨4,_,_,by omega,by omega,rfl,rfl,by omega,fun a ha=>?_,by simp [*],by simp [*],by simp [*],by simp [*],by simp [*],by simp [*],?_⟩
            · have hg:=HG2.out a (by omega)
              try simp (disch:=omega) only [gput_lt]
              try exact hg
            · rw [HB.out]; simp [*]
          · have hb:binR ri t 4=binR ri t 3:=by rw [binR,if_neg (fun h=>h2 h.2.2.2)]
            have HB:=Hide.mk hb
            have h1s:((5:Int)=ri)=True:=eq_true h1
            have h1t:(ri=5)=True:=eq_true h1.symm
            clear hb h1
            iterate 20 (all_goals try (first | with_reducible refine splitI (fun h=>?_) (fun h=>?_) | with_reducible refine splitBI (fun h=>?_) (fun h=>?_) | simp (config:={ maxSteps:=1000000 }) (disch:=first | assumption | omega | (simp; done) | fail) [Tryd.results42, *]))
            refine WC.mono (rank_w 3 _) ?_
            rintro _ rfl
            rw [show rankM 3=5 from rfl]
            iterate 20 (all_goals try (first | with_reducible refine splitI (fun h=>?_) (fun h=>?_) | with_reducible refine splitBI (fun h=>?_) (fun h=>?_) | simp (config:={ maxSteps:=1000000 }) (disch:=first | assumption | omega | (simp; done) | fail) [Tryd.results42, *]))
            refine ih2.out (12 - 4) _ _ (by omega) ⟨4,_,_,by omega,by omega,rfl,rfl,by omega,fun a ha=>?_,by simp [*],by simp [*],by simp [*],by simp [*],by simp [*],by simp [*],?_⟩
            · have hg:=HG2.out a (by omega)
              try simp (disch:=omega) only [gput_lt]
              try exact hg
            · rw [HB.out]; simp [*]
          · have hb:binR ri t 4=3:=by rw [binR,if_pos ⟨by omega,by omega,h1,h2⟩]
            have HB:=Hide.mk hb
            have h1s:((5:Int)=ri)=True:=eq_true h1
            have h1t:(ri=5)=True:=eq_true h1.symm
            have h2s:((⟨#[43]⟩ : ByteArray)=t)=True:=eq_true h2
            clear hb h1 h2
            iterate 20 (all_goals try (first | with_reducible refine splitI (fun h=>?_) (fun h=>?_) | with_reducible refine splitBI (fun h=>?_) (fun h=>?_) | simp (config:={ maxSteps:=1000000 }) (disch:=first | assumption | omega | (simp; done) | fail) [Tryd.results42, *]))
            refine WC.mono (rank_w 3 _) ?_
            rintro _ rfl
            rw [show rankM 3=5 from rfl]
            iterate 20 (all_goals try (first | with_reducible refine splitI (fun h=>?_) (fun h=>?_) | with_reducible refine splitBI (fun h=>?_) (fun h=>?_) | simp (config:={ maxSteps:=1000000 }) (disch:=first | assumption | omega | (simp; done) | fail) [Tryd.results42, *]))
            refine ih2.out (12 - 4) _ _ (by omega) ⟨4,_,_,by omega,by omega,rfl,rfl,by omega,fun a ha=>?_,by simp [*],by simp [*],by simp [*],by simp [*],by simp [*],by simp [*],?_⟩
            · have hg:=HG2.out a (by omega)
              try simp (disch:=omega) only [gput_lt]
              try exact hg
            · rw [HB.out]; simp [*]
        · rcases (by by_cases h1:(5:Int)=ri <;> by_cases h2:(⟨#[45]⟩ : ByteArray)=t <;> simp [h1,h2] : (¬(5:Int)=ri)∨((5:Int)=ri∧¬(⟨#[45]⟩ : ByteArray)=t)∨((5:Int)=ri∧(⟨#[45]⟩ : ByteArray)=t)) with h1 | ⟨h1,h2⟩ | ⟨h1,h2⟩
          · have hb:binR ri t 5=binR ri t 4:=by rw [binR,if_neg (fun h=>h1 h.2.2.1)]
            have HB:=Hide.mk hb
            clear hb
            iterate 20 (all_goals try (first | with_reducible refine splitI (fun h=>?_) (fun h=>?_) | with_reducible refine splitBI (fun h=>?_) (fun h=>?_) | simp (config:={ maxSteps:=1000000 }) (disch:=first | assumption | omega | (simp; done) | fail) [Tryd.results42, *]))
            refine WC.mono (rank_w 4 _) ?_
            rintro _ rfl
            rw [show rankM 4=5 from rfl]
            iterate 20 (all_goals try (first | with_reducible refine splitI (fun h=>?_) (fun h=>?_) | with_reducible refine splitBI (fun h=>?_) (fun h=>?_) | simp (config:={ maxSteps:=1000000 }) (disch:=first | assumption | omega | (simp; done) | fail) [Tryd.results42, *]))
            refine ih2.out (12 - 5) _ _ (by omega) ⟨5,_,_,by omega,by omega,rfl,rfl,by omega,fun a ha=>?_,by simp [*],by simp [*],by simp [*],by simp [*],by simp [*],by simp [*],?_⟩
            · have hg:=HG2.out a (by omega)
              try simp (disch:=omega) only [gput_lt]
              try exact hg
            · rw [HB.out]; simp [*]
          · have hb:binR ri t 5=binR ri t 4:=by rw [binR,if_neg (fun h=>h2 h.2.2.2)]
            have HB:=Hide.mk hb
            have h1s:((5:Int)=ri)=True:=eq_true h1
            have h1t:(ri=5)=True:=eq_true h1.symm
            clear hb h1
            iterate 20 (all_goals try (first | with_reducible refine splitI (fun h=>?_) (fun h=>?_) | with_reducible refine splitBI (fun h=>?_) (fun h=>?_) | simp (config:={ maxSteps:=1000000 }) (disch:=first | assumption | omega | (simp; done) | fail) [Tryd.results42, *]))
            refine WC.mono (rank_w 4 _) ?_
            rintro _ rfl
            rw [show rankM 4=5 from rfl]
            iterate 20 (all_goals try (first | with_reducible refine splitI (fun h=>?_) (fun h=>?_) | with_reducible refine splitBI (fun h=>?_) (fun h=>?_) | simp (config:={ maxSteps:=1000000 }) (disch:=first | assumption | omega | (simp; done) | fail) [Tryd.results42, *]))
            refine ih2.out (12 - 5) _ _ (by omega) ⟨5,_,_,by omega,by omega,rfl,rfl,by omega,fun a ha=>?_,by simp [*],by simp [*],by simp [*],by simp [*],by simp [*],by simp [*],?_⟩
            · have hg:=HG2.out a (by omega)
              try simp (disch:=omega) only [gput_lt]
              try exact hg
            · rw [HB.out]; simp [*]
          · have hb:binR ri t 5=4:=by rw [binR,if_pos ⟨by omega,by omega,h1,h2⟩]
            have HB:=Hide.mk hb
            have h1s:((5:Int)=ri)=True:=eq_true h1
            have h1t:(ri=5)=True:=eq_true h1.symm
            have h2s:((⟨#[45]⟩ : ByteArray)=t)=True:=eq_true h2
            clear hb h1 h2
            iterate 20 (all_goals try (first | with_reducible refine splitI (fun h=>?_) (fun h=>?_) | with_reducible refine splitBI (fun h=>?_) (fun h=>?_) | simp (config:={ maxSteps:=1000000 }) (disch:=first | assumption | omega | (simp; done) | fail) [Tryd.results42, *]))
            refine WC.mono (rank_w 4 _) ?_
            rintro _ rfl
            rw [show rankM 4=5 from rfl]
            iterate 20 (all_goals try (first | with_reducible refine splitI (fun h=>?_) (fun h=>?_) | with_reducible refine splitBI (fun h=>?_) (fun h=>?_) | simp (config:={ maxSteps:=1000000 }) (disch:=first | assumption | omega | (simp; done) | fail) [Tryd.results42, *]))
            refine ih2.out (12 - 5) _ _ (by omega) ⟨5,_,_,by omega,by omega,rfl,rfl,by omega,fun a ha=>?_,by simp [*],by simp [*],by simp [*],by simp [*],by simp [*],by simp [*],?_⟩
            · have hg:=HG2.out a (by omega)
              try simp (disch:=omega) only [gput_lt]
              try exact hg
            · rw [HB.out]; simp [*]
        · rcases (by by_cases h1:(6:Int)=ri <;> by_cases h2:(⟨#[42]⟩ : ByteArray)=t <;> simp [h1,h2] : (¬(6:Int)=ri)∨((6:Int)=ri∧¬(⟨#[42]⟩ : ByteArray)=t)∨((6:Int)=ri∧(⟨#[42]⟩ : ByteArray)=t)) with h1 | ⟨h1,h2⟩ | ⟨h1,h2⟩
          · have hb:binR ri t 6=binR ri t 5:=by rw [binR,if_neg (fun h=>h1 h.2.2.1)]
            have HB:=Hide.mk hb
            clear hb
            iterate 20 (all_goals try (first | with_reducible refine splitI (fun h=>?_) (fun h=>?_) | with_reducible refine splitBI (fun h=>?_) (fun h=>?_) | simp (config:={ maxSteps:=1000000 }) (disch:=first | assumption | omega | (simp; done) | fail) [Tryd.results42, *]))
            refine WC.mono (rank_w 5 _) ?_
            rintro _ rfl
            rw [show rankM 5=6 from rfl]
            iterate 20 (all_goals try (first | with_reducible refine splitI (fun h=>?_) (fun h=>?_) | with_reducible refine splitBI (fun h=>?_) (fun h=>?_) | simp (config:={ maxSteps:=1000000 }) (disch:=first | assumption | omega | (simp; done) | fail) [Tryd.results42, *]))
            refine ih2.out (12 - 6) _ _ (by omega) ⟨6,_,_,by omega,by omega,rfl,rfl,by omega,fun a ha=>?_,by simp [*],by simp [*],by simp [*],by simp [*],by simp [*],by simp [*],?_⟩
            · have hg:=HG2.out a (by omega)
              try simp (disch:=omega) only [gput_lt]
              try exact hg
            · rw [HB.out]; simp [*]
          · have hb:binR ri t 6=binR ri t 5:=by rw [binR,if_neg (fun h=>h2 h.2.2.2)]
            have HB:=Hide.mk hb
            have h1s:((6:Int)=ri)=True:=eq_true h1
            have h1t:(ri=6)=True:=eq_true h1.symm
            clear hb h1
            iterate 20 (all_goals try (first | with_reducible refine splitI (fun h=>?_) (fun h=>?_) | with_reducible refine splitBI (fun h=>?_) (fun h=>?_) | simp (config:={ maxSteps:=1000000 }) (disch:=first | assumption | omega | (simp; done) | fail) [Tryd.results42, *]))
            refine WC.mono (rank_w 5 _) ?_
            rintro _ rfl
            rw [show rankM 5=6 from rfl]
            iterate 20 (all_goals try (first | with_reducible refine splitI (fun h=>?_) (fun h=>?_) | with_reducible refine splitBI (fun h=>?_) (fun h=>?_) | simp (config:={ maxSteps:=1000000 }) (disch:=first | assumption | omega | (simp; done) | fail) [Tryd.results42, *]))
            refine ih2.out (12 - 6) _ _ (by omega) ⟨6,_,_,by omega,by omega,rfl,rfl,by omega,fun a ha=>?_,by simp [*],by simp [*],by simp [*],by simp [*],by simp [*],by simp [*],?_⟩
            · have hg:=HG2.out a (by omega)
              try simp (disch:=omega) only [gput_lt]
              try exact hg
            · rw [HB.out]; simp [*]
          · have hb:binR ri t 6=5:=by rw [binR,if_pos ⟨by omega,by omega,h1,h2⟩]
            have HB:=Hide.mk hb
            have h1s:((6:Int)=ri)=True:=eq_true h1
            have h1t:(ri=6)=True:=eq_true h1.symm
            have h2s:((⟨#[42]⟩ : ByteArray)=t)=True:=eq_true h2
            clear hb h1 h2
            iterate 20 (all_goals try (first | with_reducible refine splitI (fun h=>?_) (fun h=>?_) | with_reducible refine splitBI (fun h=>?_) (fun h=>?_) | simp (config:={ maxSteps:=1000000 }) (disch:=first | assumption | omega | (simp; done) | fail) [Tryd.results42, *]))
            refine WC.mono (rank_w 5 _) ?_
            rintro _ rfl
            rw [show rankM 5=6 from rfl]
            iterate 20 (all_goals try (first | with_reducible refine splitI (fun h=>?_) (fun h=>?_) | with_reducible refine splitBI (fun h=>?_) (fun h=>?_) | simp (config:={ maxSteps:=1000000 }) (disch:=first | assumption | omega | (simp; done) | fail) [Tryd.results42, *]))
            refine ih2.out (12 - 6) _ _ (by omega) ⟨6,_,_,by omega,by omega,rfl,rfl,by omega,fun a ha=>?_,by simp [*],by simp [*],by simp [*],by simp [*],by simp [*],by simp [*],?_⟩
            · have hg:=HG2.out a (by omega)
              try simp (disch:=omega) only [gput_lt]
              try exact hg
            · rw [HB.out]; simp [*]
        · rcases (by by_cases h1:(4:Int)=ri <;> by_cases h2:(⟨#[61]⟩ : ByteArray)=t <;> simp [h1,h2] : (¬(4:Int)=ri)∨((4:Int)=ri∧¬(⟨#[61]⟩ : ByteArray)=t)∨((4:Int)=ri∧(⟨#[61]⟩ : ByteArray)=t)) with h1 | ⟨h1,h2⟩ | ⟨h1,h2⟩
          · have hb:binR ri t 7=binR ri t 6:=by rw [binR,if_neg (fun h=>h1 h.2.2.1)]
            have HB:=Hide.mk hb
            clear hb
            iterate 20 (all_goals try (first | with_reducible refine splitI (fun h=>?_) (fun h=>?_) | with_reducible refine splitBI (fun h=>?_) (fun h=>?_) | simp (config:={ maxSteps:=1000000 }) (disch:=first | assumption | omega | (simp; done) | fail) [Tryd.results42, *]))
            refine WC.mono (rank_w 6 _) ?_
            rintro _ rfl
            rw [show rankM 6=4 from rfl]
            iterate 20 (all_goals try (first | with_reducible refine splitI (fun h=>?_) (fun h=>?_) | with_reducible refine splitBI (fun h=>?_) (fun h=>?_) | simp (config:={ maxSteps:=1000000 }) (disch:=first | assumption | omega | (simp; done) | fail) [Tryd.results42, *]))
            refine ih2.out (12 - 7) _ _ (by omega) ⟨7,_,_,by omega,by omega,rfl,rfl,by omega,fun a ha=>?_,by simp [*],by simp [*],by simp [*],by simp [*],by simp [*],by simp [*],?_⟩
            · have hg:=HG2.out a (by omega)
              try simp (disch:=omega) only [gput_lt]
              try exact hg
            · rw [HB.out]; simp [*]
          · have hb:binR ri t 7=binR ri t 6:=by rw [binR,if_neg (fun h=>h2 h.2.2.2)]
            have HB:=Hide.mk hb
            have h1s:((4:Int)=ri)=True:=eq_true h1
            have h1t:(ri=4)=True:=eq_true h1.symm
            clear hb h1
            iterate 20 (all_goals try (first | with_reducible refine splitI (fun h=>?_) (fun h=>?_) | with_reducible refine splitBI (fun h=>?_) (fun h=>?_) | simp (config:={ maxSteps:=1000000 }) (disch:=first | assumption | omega | (simp; done) | fail) [Tryd.results42, *]))
            refine WC.mono (rank_w 6 _) ?_
            rintro _ rfl
            rw [show rankM 6=4 from rfl]
            iterate 20 (all_goals try (first | with_reducible refine splitI (fun h=>?_) (fun h=>?_) | with_reducible refine splitBI (fun h=>?_) (fun h=>?_) | simp (config:={ maxSteps:=1000000 }) (disch:=first | assumption | omega | (simp; done) | fail) [Tryd.results42, *]))
            refine ih2.out (12 - 7) _ _ (by omega) ⟨7,_,_,by omega,by omega,rfl,rfl,by omega,fun a ha=>?_,by simp [*],by simp [*],by simp [*],by simp [*],by simp [*],by simp [*],?_⟩
            · have hg:=HG2.out a (by omega)
              try simp (disch:=omega) only [gput_lt]
              try exact hg
            · rw [HB.out]; simp [*]
          · have hb:binR ri t 7=6:=by rw [binR,if_pos ⟨by omega,by omega,h1,h2⟩]
            have HB:=Hide.mk hb
            have h1s:((4:Int)=ri)=True:=eq_true h1
            have h1t:(ri=4)=True:=eq_true h1.symm
            have h2s:((⟨#[61]⟩ : ByteArray)=t)=True:=eq_true h2
            clear hb h1 h2
            iterate 20 (all_goals try (first | with_reducible refine splitI (fun h=>?_) (fun h=>?_) | with_reducible refine splitBI (fun h=>?_) (fun h=>?_) | simp (config:={ maxSteps:=1000000 }) (disch:=first | assumption | omega | (simp; done) | fail) [Tryd.results42, *]))
            refine WC.mono (rank_w 6 _) ?_
            rintro _ rfl
            rw [show rankM 6=4 from rfl]
            iterate 20 (all_goals try (first | with_reducible refine splitI (fun h=>?_) (fun h=>?_) | with_reducible refine splitBI (fun h=>?_) (fun h=>?_) | simp (config:={ maxSteps:=1000000 }) (disch:=first | assumption | omega | (simp; done) | fail) [Tryd.results42, *]))
            refine ih2.out (12 - 7) _ _ (by omega) ⟨7,_,_,by omega,by omega,rfl,rfl,by omega,fun a ha=>?_,by simp [*],by simp [*],by simp [*],by simp [*],by simp [*],by simp [*],?_⟩
            · have hg:=HG2.out a (by omega)
              try simp (disch:=omega) only [gput_lt]
              try exact hg
            · rw [HB.out]; simp [*]
        · rcases (by by_cases h1:(4:Int)=ri <;> by_cases h2:(⟨#[60]⟩ : ByteArray)=t <;> simp [h1,h2] : (¬(4:Int)=ri)∨((4:Int)=ri∧¬(⟨#[60]⟩ : ByteArray)=t)∨((4:Int)=ri∧(⟨#[60]⟩ : ByteArray)=t)) with h1 | ⟨h1,h2⟩ | ⟨h1,h2⟩
          · have hb:binR ri t 8=binR ri t 7:=by rw [binR,if_neg (fun h=>h1 h.2.2.1)]
            have HB:=Hide.mk hb
            clear hb
            iterate 20 (all_goals try (first | with_reducible refine splitI (fun h=>?_) (fun h=>?_) | with_reducible refine splitBI (fun h=>?_) (fun h=>?_) | simp (config:={ maxSteps:=1000000 }) (disch:=first | assumption | omega | (simp; done) | fail) [Tryd.results42, *]))
            refine WC.mono (rank_w 7 _) ?_
            rintro _ rfl
            rw [show rankM 7=4 from rfl]
            iterate 20 (all_goals try (first | with_reducible refine splitI (fun h=>?_) (fun h=>?_) | with_reducible refine splitBI (fun h=>?_) (fun h=>?_) | simp (config:={ maxSteps:=1000000 }) (disch:=first | assumption | omega | (simp; done) | fail) [Tryd.results42, *]))
            refine ih2.out (12 - 8) _ _ (by omega) ⟨8,_,_,by omega,by omega,rfl,rfl,by omega,fun a ha=>?_,by simp [*],by simp [*],by simp [*],by simp [*],by simp [*],by simp [*],?_⟩
            · have hg:=HG2.out a (by omega)
              try simp (disch:=omega) only [gput_lt]
              try exact hg
            · rw [HB.out]; simp [*]
          · have hb:binR ri t 8=binR ri t 7:=by rw [binR,if_neg (fun h=>h2 h.2.2.2)]
            have HB:=Hide.mk hb
            have h1s:((4:Int)=ri)=True:=eq_true h1
            have h1t:(ri=4)=True:=eq_true h1.symm
            clear hb h1
            iterate 20 (all_goals try (first | with_reducible refine splitI (fun h=>?_) (fun h=>?_) | with_reducible refine splitBI (fun h=>?_) (fun h=>?_) | simp (config:={ maxSteps:=1000000 }) (disch:=first | assumption | omega | (simp; done) | fail) [Tryd.results42, *]))
            refine WC.mono (rank_w 7 _) ?_
            rintro _ rfl
            rw [show rankM 7=4 from rfl]
            iterate 20 (all_goals try (first | with_reducible refine splitI (fun h=>?_) (fun h=>?_) | with_reducible refine splitBI (fun h=>?_) (fun h=>?_) | simp (config:={ maxSteps:=1000000 }) (disch:=first | assumption | omega | (simp; done) | fail) [Tryd.results42, *]))
            refine ih2.out (12 - 8) _ _ (by omega) ⟨8,_,_,by omega,by omega,rfl,rfl,by omega,fun a ha=>?_,by simp [*],by simp [*],by simp [*],by simp [*],by simp [*],by simp [*],?_⟩
            · have hg:=HG2.out a (by omega)
              try simp (disch:=omega) only [gput_lt]
              try exact hg
            · rw [HB.out]; simp [*]
          · have hb:binR ri t 8=7:=by rw [binR,if_pos ⟨by omega,by omega,h1,h2⟩]
            have HB:=Hide.mk hb
            have h1s:((4:Int)=ri)=True:=eq_true h1
            have h1t:(ri=4)=True:=eq_true h1.symm
            have h2s:((⟨#[60]⟩ : ByteArray)=t)=True:=eq_true h2
            clear hb h1 h2
            iterate 20 (all_goals try (first | with_reducible refine splitI (fun h=>?_) (fun h=>?_) | with_reducible refine splitBI (fun h=>?_) (fun h=>?_) | simp (config:={ maxSteps:=1000000 }) (disch:=first | assumption | omega | (simp; done) | fail) [Tryd.results42, *]))
            refine WC.mono (rank_w 7 _) ?_
            rintro _ rfl
            rw [show rankM 7=4 from rfl]
            iterate 20 (all_goals try (first | with_reducible refine splitI (fun h=>?_) (fun h=>?_) | with_reducible refine splitBI (fun h=>?_) (fun h=>?_) | simp (config:={ maxSteps:=1000000 }) (disch:=first | assumption | omega | (simp; done) | fail) [Tryd.results42, *]))
            refine ih2.out (12 - 8) _ _ (by omega) ⟨8,_,_,by omega,by omega,rfl,rfl,by omega,fun a ha=>?_,by simp [*],by simp [*],by simp [*],by simp [*],by simp [*],by simp [*],?_⟩
            · have hg:=HG2.out a (by omega)
              try simp (disch:=omega) only [gput_lt]
              try exact hg
            · rw [HB.out]; simp [*]
        · rcases (by by_cases h1:(4:Int)=ri <;> by_cases h2:(⟨#[60,61]⟩ : ByteArray)=t <;> simp [h1,h2] : (¬(4:Int)=ri)∨((4:Int)=ri∧¬(⟨#[60,61]⟩ : ByteArray)=t)∨((4:Int)=ri∧(⟨#[60,61]⟩ : ByteArray)=t)) with h1 | ⟨h1,h2⟩ | ⟨h1,h2⟩
          · have hb:binR ri t 9=binR ri t 8:=by rw [binR,if_neg (fun h=>h1 h.2.2.1)]
            have HB:=Hide.mk hb
            clear hb
            iterate 20 (all_goals try (first | with_reducible refine splitI (fun h=>?_) (fun h=>?_) | with_reducible refine splitBI (fun h=>?_) (fun h=>?_) | simp (config:={ maxSteps:=1000000 }) (disch:=first | assumption | omega | (simp; done) | fail) [Tryd.results42, *]))
            refine WC.mono (rank_w 8 _) ?_
            rintro _ rfl
            rw [show rankM 8=4 from rfl]
            iterate 20 (all_goals try (first | with_reducible refine splitI (fun h=>?_) (fun h=>?_) | with_reducible refine splitBI (fun h=>?_) (fun h=>?_) | simp (config:={ maxSteps:=1000000 }) (disch:=first | assumption | omega | (simp; done) | fail) [Tryd.results42, *]))
            refine ih2.out (12 - 9) _ _ (by omega) ⟨9,_,_,by omega,by omega,rfl,rfl,by omega,fun a ha=>?_,by simp [*],by simp [*],by simp [*],by simp [*],by simp [*],by simp [*],?_⟩
            · have hg:=HG2.out a (by omega)
              try simp (disch:=omega) only [gput_lt]
              try exact hg
            · rw [HB.out]; simp [*]
          · have hb:binR ri t 9=binR ri t 8:=by rw [binR,if_neg (fun h=>h2 h.2.2.2)]
            have HB:=Hide.mk hb
            have h1s:((4:Int)=ri)=True:=eq_true h1
            have h1t:(ri=4)=True:=eq_true h1.symm
            clear hb h1
            iterate 20 (all_goals try (first | with_reducible refine splitI (fun h=>?_) (fun h=>?_) | with_reducible refine splitBI (fun h=>?_) (fun h=>?_) | simp (config:={ maxSteps:=1000000 }) (disch:=first | assumption | omega | (simp; done) | fail) [Tryd.results42, *]))
            refine WC.mono (rank_w 8 _) ?_
            rintro _ rfl
            rw [show rankM 8=4 from rfl]
            iterate 20 (all_goals try (first | with_reducible refine splitI (fun h=>?_) (fun h=>?_) | with_reducible refine splitBI (fun h=>?_) (fun h=>?_) | simp (config:={ maxSteps:=1000000 }) (disch:=first | assumption | omega | (simp; done) | fail) [Tryd.results42, *]))
            refine ih2.out (12 - 9) _ _ (by omega) ⟨9,_,_,by omega,by omega,rfl,rfl,by omega,fun a ha=>?_,by simp [*],by simp [*],by simp [*],by simp [*],by simp [*],by simp [*],?_⟩
            · have hg:=HG2.out a (by omega)
              try simp (disch:=omega) only [gput_lt]
              try exact hg
            · rw [HB.out]; simp [*]
          · have hb:binR ri t 9=8:=by rw [binR,if_pos ⟨by omega,by omega,h1,h2⟩]
            have HB:=Hide.mk hb
            have h1s:((4:Int)=ri)=True:=eq_true h1
            have h1t:(ri=4)=True:=eq_true h1.symm
            have h2s:((⟨#[60,61]⟩ : ByteArray)=t)=True:=eq_true h2
            clear hb h1 h2
            iterate 20 (all_goals try (first | with_reducible refine splitI (fun h=>?_) (fun h=>?_) | with_reducible refine splitBI (fun h=>?_) (fun h=>?_) | simp (config:={ maxSteps:=1000000 }) (disch:=first | assumption | omega | (simp; done) | fail) [Tryd.results42, *]))
            refine WC.mono (rank_w 8 _) ?_
            rintro _ rfl
            rw [show rankM 8=4 from rfl]
            iterate 20 (all_goals try (first | with_reducible refine splitI (fun h=>?_) (fun h=>?_) | with_reducible refine splitBI (fun h=>?_) (fun h=>?_) | simp (config:={ maxSteps:=1000000 }) (disch:=first | assumption | omega | (simp; done) | fail) [Tryd.results42, *]))
            refine ih2.out (12 - 9) _ _ (by omega) ⟨9,_,_,by omega,by omega,rfl,rfl,by omega,fun a ha=>?_,by simp [*],by simp [*],by simp [*],by simp [*],by simp [*],by simp [*],?_⟩
            · have hg:=HG2.out a (by omega)
              try simp (disch:=omega) only [gput_lt]
              try exact hg
            · rw [HB.out]; simp [*]
        · have hb:binR ri t 10=binR ri t 9:=by rw [binR,if_neg (by omega)]
          have HB:=Hide.mk hb
          clear hb
          iterate 20 (all_goals try (first | with_reducible refine splitI (fun h=>?_) (fun h=>?_) | with_reducible refine splitBI (fun h=>?_) (fun h=>?_) | simp (config:={ maxSteps:=1000000 }) (disch:=first | assumption | omega | (simp; done) | fail) [Tryd.results42, *]))
          refine ih2.out (12 - 10) _ _ (by omega) ⟨10,_,_,by omega,by omega,rfl,rfl,by omega,fun a ha=>?_,by simp [*],by simp [*],by simp [*],by simp [*],by simp [*],by simp [*],?_⟩
          · have hg:=HG2.out a (by omega)
            try simp (disch:=omega) only [gput_lt]
            try exact hg
          · rw [HB.out]; simp [*]
        · rcases (by by_cases h1:(2:Int)=ri <;> by_cases h2:(⟨#[97,110,100]⟩ : ByteArray)=t <;> simp [h1,h2] : (¬(2:Int)=ri)∨((2:Int)=ri∧¬(⟨#[97,110,100]⟩ : ByteArray)=t)∨((2:Int)=ri∧(⟨#[97,110,100]⟩ : ByteArray)=t)) with h1 | ⟨h1,h2⟩ | ⟨h1,h2⟩
          · have hb:binR ri t 11=binR ri t 10:=by rw [binR,if_neg (fun h=>h1 h.2.2.1)]
            have HB:=Hide.mk hb
            clear hb
            iterate 20 (all_goals try (first | with_reducible refine splitI (fun h=>?_) (fun h=>?_) | with_reducible refine splitBI (fun h=>?_) (fun h=>?_) | simp (config:={ maxSteps:=1000000 }) (disch:=first | assumption | omega | (simp; done) | fail) [Tryd.results42, *]))
            refine WC.mono (rank_w 10 _) ?_
            rintro _ rfl
            rw [show rankM 10=2 from rfl]
            iterate 20 (all_goals try (first | with_reducible refine splitI (fun h=>?_) (fun h=>?_) | with_reducible refine splitBI (fun h=>?_) (fun h=>?_) | simp (config:={ maxSteps:=1000000 }) (disch:=first | assumption | omega | (simp; done) | fail) [Tryd.results42, *]))
            refine ih2.out (12 - 11) _ _ (by omega) ⟨11,_,_,by omega,by omega,rfl,rfl,by omega,fun a ha=>?_,by simp [*],by simp [*],by simp [*],by simp [*],by simp [*],by simp [*],?_⟩
            · have hg:=HG2.out a (by omega)
              try simp (disch:=omega) only [gput_lt]
              try exact hg
            · rw [HB.out]; simp [*]
          · have hb:binR ri t 11=binR ri t 10:=by rw [binR,if_neg (fun h=>h2 h.2.2.2)]
            have HB:=Hide.mk hb
            have h1s:((2:Int)=ri)=True:=eq_true h1
            have h1t:(ri=2)=True:=eq_true h1.symm
            clear hb h1
            iterate 20 (all_goals try (first | with_reducible refine splitI (fun h=>?_) (fun h=>?_) | with_reducible refine splitBI (fun h=>?_) (fun h=>?_) | simp (config:={ maxSteps:=1000000 }) (disch:=first | assumption | omega | (simp; done) | fail) [Tryd.results42, *]))
            refine WC.mono (rank_w 10 _) ?_
            rintro _ rfl
            rw [show rankM 10=2 from rfl]
            iterate 20 (all_goals try (first | with_reducible refine splitI (fun h=>?_) (fun h=>?_) | with_reducible refine splitBI (fun h=>?_) (fun h=>?_) | simp (config:={ maxSteps:=1000000 }) (disch:=first | assumption | omega | (simp; done) | fail) [Tryd.results42, *]))
            refine ih2.out (12 - 11) _ _ (by omega) ⟨11,_,_,by omega,by omega,rfl,rfl,by omega,fun a ha=>?_,by simp [*],by simp [*],by simp [*],by simp [*],by simp [*],by simp [*],?_⟩
            · have hg:=HG2.out a (by omega)
              try simp (disch:=omega) only [gput_lt]
              try exact hg
            · rw [HB.out]; simp [*]
          · have hb:binR ri t 11=10:=by rw [binR,if_pos ⟨by omega,by omega,h1,h2⟩]
            have HB:=Hide.mk hb
            have h1s:((2:Int)=ri)=True:=eq_true h1
            have h1t:(ri=2)=True:=eq_true h1.symm
            have h2s:((⟨#[97,110,100]⟩ : ByteArray)=t)=True:=eq_true h2
            clear hb h1 h2
            iterate 20 (all_goals try (first | with_reducible refine splitI (fun h=>?_) (fun h=>?_) | with_reducible refine splitBI (fun h=>?_) (fun h=>?_) | simp (config:={ maxSteps:=1000000 }) (disch:=first | assumption | omega | (simp; done) | fail) [Tryd.results42, *]))
            refine WC.mono (rank_w 10 _) ?_
            rintro _ rfl
            rw [show rankM 10=2 from rfl]
            iterate 20 (all_goals try (first | with_reducible refine splitI (fun h=>?_) (fun h=>?_) | with_reducible refine splitBI (fun h=>?_) (fun h=>?_) | simp (config:={ maxSteps:=1000000 }) (disch:=first | assumption | omega | (simp; done) | fail) [Tryd.results42, *]))
            refine ih2.out (12 - 11) _ _ (by omega) ⟨11,_,_,by omega,by omega,rfl,rfl,by omega,fun a ha=>?_,by simp [*],by simp [*],by simp [*],by simp [*],by simp [*],by simp [*],?_⟩
            · have hg:=HG2.out a (by omega)
              try simp (disch:=omega) only [gput_lt]
              try exact hg
            · rw [HB.out]; simp [*]
        · rcases (by by_cases h1:(1:Int)=ri <;> by_cases h2:(⟨#[111,114]⟩ : ByteArray)=t <;> simp [h1,h2] : (¬(1:Int)=ri)∨((1:Int)=ri∧¬(⟨#[111,114]⟩ : ByteArray)=t)∨((1:Int)=ri∧(⟨#[111,114]⟩ : ByteArray)=t)) with h1 | ⟨h1,h2⟩ | ⟨h1,h2⟩
          · have hb:binR ri t 12=binR ri t 11:=by rw [binR,if_neg (fun h=>h1 h.2.2.1)]
            have HB:=Hide.mk hb
            clear hb
            iterate 20 (all_goals try (first | with_reducible refine splitI (fun h=>?_) (fun h=>?_) | with_reducible refine splitBI (fun h=>?_) (fun h=>?_) | simp (config:={ maxSteps:=1000000 }) (disch:=first | assumption | omega | (simp; done) | fail) [Tryd.results42, *]))
            refine WC.mono (rank_w 11 _) ?_
            rintro _ rfl
            rw [show rankM 11=1 from rfl]
            iterate 20 (all_goals try (first | with_reducible refine splitI (fun h=>?_) (fun h=>?_) | with_reducible refine splitBI (fun h=>?_) (fun h=>?_) | simp (config:={ maxSteps:=1000000 }) (disch:=first | assumption | omega | (simp; done) | fail) [Tryd.results42, *]))
            refine ih2.out (12 - 12) _ _ (by omega) ⟨12,_,_,by omega,by omega,rfl,rfl,by omega,fun a ha=>?_,by simp [*],by simp [*],by simp [*],by simp [*],by simp [*],by simp [*],?_⟩
            · have hg:=HG2.out a (by omega)
              try simp (disch:=omega) only [gput_lt]
              try exact hg
            · rw [HB.out]; simp [*]
          · have hb:binR ri t 12=binR ri t 11:=by rw [binR,if_neg (fun h=>h2 h.2.2.2)]
            have HB:=Hide.mk hb
            have h1s:((1:Int)=ri)=True:=eq_true h1
            have h1t:(ri=1)=True:=eq_true h1.symm
            clear hb h1
            iterate 20 (all_goals try (first | with_reducible refine splitI (fun h=>?_) (fun h=>?_) | with_reducible refine splitBI (fun h=>?_) (fun h=>?_) | simp (config:={ maxSteps:=1000000 }) (disch:=first | assumption | omega | (simp; done) | fail) [Tryd.results42, *]))
            refine WC.mono (rank_w 11 _) ?_
            rintro _ rfl
            rw [show rankM 11=1 from rfl]
            iterate 20 (all_goals try (first | with_reducible refine splitI (fun h=>?_) (fun h=>?_) | with_reducible refine splitBI (fun h=>?_) (fun h=>?_) | simp (config:={ maxSteps:=1000000 }) (disch:=first | assumption | omega | (simp; done) | fail) [Tryd.results42, *]))
            refine ih2.out (12 - 12) _ _ (by omega) ⟨12,_,_,by omega,by omega,rfl,rfl,by omega,fun a ha=>?_,by simp [*],by simp [*],by simp [*],by simp [*],by simp [*],by simp [*],?_⟩
            · have hg:=HG2.out a (by omega)
              try simp (disch:=omega) only [gput_lt]
              try exact hg
            · rw [HB.out]; simp [*]
          · have hb:binR ri t 12=11:=by rw [binR,if_pos ⟨by omega,by omega,h1,h2⟩]
            have HB:=Hide.mk hb
            have h1s:((1:Int)=ri)=True:=eq_true h1
            have h1t:(ri=1)=True:=eq_true h1.symm
            have h2s:((⟨#[111,114]⟩ : ByteArray)=t)=True:=eq_true h2
            clear hb h1 h2
            iterate 20 (all_goals try (first | with_reducible refine splitI (fun h=>?_) (fun h=>?_) | with_reducible refine splitBI (fun h=>?_) (fun h=>?_) | simp (config:={ maxSteps:=1000000 }) (disch:=first | assumption | omega | (simp; done) | fail) [Tryd.results42, *]))
            refine WC.mono (rank_w 11 _) ?_
            rintro _ rfl
            rw [show rankM 11=1 from rfl]
            iterate 20 (all_goals try (first | with_reducible refine splitI (fun h=>?_) (fun h=>?_) | with_reducible refine splitBI (fun h=>?_) (fun h=>?_) | simp (config:={ maxSteps:=1000000 }) (disch:=first | assumption | omega | (simp; done) | fail) [Tryd.results42, *]))
            refine ih2.out (12 - 12) _ _ (by omega) ⟨12,_,_,by omega,by omega,rfl,rfl,by omega,fun a ha=>?_,by simp [*],by simp [*],by simp [*],by simp [*],by simp [*],by simp [*],?_⟩
            · have hg:=HG2.out a (by omega)
              try simp (disch:=omega) only [gput_lt]
              try exact hg
            · rw [HB.out]; simp [*]
      · have hkk12:kk=12:=by omega
        subst hkk12
        rw [binR_all,← htt] at w12
        obtain ⟨m'',rfl⟩ : ∃ m'',m'=m''+1:=⟨m' - 1,by omega⟩
        by_cases c8:binM ri (tokB s k')=0
        · have hfin:=HLD.out.trans (HL0.out m'' x' k' c8)
          rw [c8] at w12
          have HFIN:=Hide.mk hfin
          clear hfin c8 htt
          iterate 20 (all_goals try (first | with_reducible refine splitI (fun h=>?_) (fun h=>?_) | with_reducible refine splitBI (fun h=>?_) (fun h=>?_) | simp (config:={ maxSteps:=1000000 }) (disch:=first | assumption | omega | (simp; done) | fail) [Tryd.results42, *]))
          refine ⟨_,HFIN.out,x',op',q',sv',j',0,_,_,rfl,by omega,fun a ha=>?_,HFQ.out.fresh (by omega) (by omega) (fun a h4 h5 h6=>by rw [gput_ne (by omega),HG2.out a (by omega)]),rfl,rfl,HJ'.out⟩
          rw [gput_lt ha,HG2.out a (by omega)]; exact HG'.out a ha
        · have hks:k' < s.size:=by
            have hne:k'≠s.size:=fun e=>c8 (by rw [(tok_empty hle').2 e,binM_empty])
            omega
          have hnk:=nxtM_lt hks
          have HN':=Hide.mk ((HP.out j' k' HJ'.out).2 hks)
          have hob:=binM_lt ri (tokB s k')
          have HLE':=Hide.mk (fun e k3 h=>HLD.out.trans (HLE.out m'' x' k' e k3 c8 h))
          have HL1':=Hide.mk (fun y k3 h=>HLD.out.trans (HL1.out m'' x' k' y k3 c8 h))
          have hoI:¬((binM ri (tokB s k') : Nat) : Int)=0:=by omega
          generalize binM ri (tokB s k')=o at *
          have hoN:¬o=0:=by omega
          clear c8 htt
          iterate 20 (all_goals try (first | with_reducible refine splitI (fun h=>?_) (fun h=>?_) | with_reducible refine splitBI (fun h=>?_) (fun h=>?_) | simp (config:={ maxSteps:=1000000 }) (disch:=first | assumption | omega | (simp; done) | fail) [Tryd.results42, *]))
          refine WC.mono (HIR.out m'' (j'+1) (nxtM s k') g2 n2 (by omega) (HTA.out g2 n2 (by omega) (fun a ha=>by rw [HG2.out a (by omega)]; exact HG'.out a ha)) HN'.out (by have:=HMM.out; omega)) ?_
          rintro _ ⟨res3,hrd,y,opy,qy,svy,jy,ey,g3,n3,rfl,hn3,hg3,hfry,hendy⟩
          have HFRY:=Hide.mk hfry
          have HG3:=Hide.mk hg3
          have h1cy:=repN_c hfry.rep
          have h1ay:allOne [.lit (.int .u8 opy),.lit (.int .i64 qy),svy]=true:=by simp [h1cy]
          have h1by:allOne [.lit (.int .u8 opy),.lit (.int .i64 qy),svy,.lit (.int .i64 jy),.lit (.int .i64 ey)]=true:=by simp [h1cy]
          have hq3:=(hg3 n1 (by omega)).trans hq2
          have e6:g3 n=some (.cells [.lit (.int .u8 0),.lit (.int .i64 0),.lit (.slice none 0 0),.lit (.int .i64 0),.lit (.int .i64 0)] true 0):=by rw [hg3 n (by omega)]; exact hz2
          have hn13:¬n1=n3:=by omega
          have hn14:¬n1=n3+1:=by omega
          have hnn3:¬n=n3:=by omega
          have hnn4:¬n=n3+1:=by omega
          have HE:Hide (∃ k3,pos[jy]?=some k3∧((ey=0∧k'≤k3∧readF vs s (m+1) rank k=(if ri=4 then some (.ok (.mk o 0 [x',y]) k3) else loopF vs s m'' rank (.mk o 0 [x',y]) k3)∧20 * (s.size - k3)+1≤m'')∨(¬ey=0∧readF vs s (m+1) rank k=some (.err ey k3)))):=⟨by
            cases res3 with
            | ok y2 k3 =>
              obtain ⟨rfl,rfl,hj⟩:=hendy
              have hkk3:=((read_le m'').1 _ _ _ _ (nxtM_le hle') hrd).1
              exact ⟨k3,hj,.inl ⟨rfl,by omega,HL1'.out _ _ hrd,by omega⟩⟩
            | err c k3 =>
              obtain ⟨rfl,hc0,hj⟩:=hendy
              exact ⟨k3,hj,.inr ⟨hc0,HLE'.out _ _ hrd⟩⟩⟩
          have HQ:Hide (FreshQ g3 (n+1) n1 n3 x' [.lit (.int .u8 op'),.lit (.int .i64 q'),sv']):=⟨HFQ.out.keep (by omega) (fun a h4 h5 h6=>(HG3.out a (by omega)).trans (HG2.out a (by omega)))⟩
          have HOLD:Hide (∀ a,a < n→g3 a=g a):=⟨fun a ha=>((HG3.out a (by omega)).trans (HG2.out a (by omega))).trans (HG'.out a ha)⟩
          clear hrd hg3 hfry hendy hz' hz2 hq2 hq' r3
          by_cases h4:(ri=4)=True
          · iterate 20 (all_goals try (first | with_reducible refine splitI (fun h=>?_) (fun h=>?_) | with_reducible refine splitBI (fun h=>?_) (fun h=>?_) | simp (config:={ maxSteps:=1000000 }) (disch:=first | assumption | omega | (simp; done) | fail) [Tryd.results42, *]))
            obtain ⟨k3,hq5,hq6⟩:=HE.out
            refine ⟨if ey=0 then .ok (.mk o 0 [x',y]) k3 else .err ey k3,?_,.mk o 0 [x',y],o,0,.sl (n3+1) 0 2 2,jy,ey,_,_,rfl,by omega,fun a ha=>?_,(HQ.out.bin HFRY.out (n2:=n3+1+1) (by omega) (by omega) hob (S:=n3+1) ?_ (by omega) (by omega) (by omega) (by omega) ?_).fresh (g':=_) (by omega) (Nat.le_refl _) (fun _ _ _ _=>rfl),?_⟩
            · rcases hq6 with ⟨h5,h6,h7,h8⟩ | ⟨h5,h6⟩
              · rw [if_pos h5,h7,if_pos (by rw [h4]; trivial)]
              · rw [if_neg h5,h6]
            · simp (disch:=omega) only [gput_lt]
              exact HOLD.out a ha
            · simp (disch:=omega) only [gput_ne,gput_eq]
              rfl
            · intro a h5 h6 h7
              simp (disch:=omega) only [gput_ne]
            · rcases hq6 with ⟨h5,h6,h7,h8⟩ | ⟨h5,h6⟩
              · rw [if_pos h5]; exact ⟨h5,rfl,hq5⟩
              · rw [if_neg h5]; exact ⟨rfl,h5,hq5⟩
          · have h4' : (ri=4)=False:=eq_false (fun e=>h4 (eq_true e))
            clear h4
            iterate 20 (all_goals try (first | with_reducible refine splitI (fun h=>?_) (fun h=>?_) | with_reducible refine splitBI (fun h=>?_) (fun h=>?_) | simp (config:={ maxSteps:=1000000 }) (disch:=first | assumption | omega | (simp; done) | fail) [Tryd.results42, *]))
            obtain ⟨k3,hq5,hq6⟩:=HE.out
            refine ih.out m'' _ _ (by omega) ⟨.mk o 0 [x',y],o,0,.sl (n3+1) 0 2 2,jy,ey,k3,n3+1+1,_,rfl,by omega,gput_eq,rfl,HQ.out.bin HFRY.out (n2:=n3+1+1) (by omega) (by omega) hob (S:=n3+1) ?_ (by omega) (by omega) (by omega) (by omega) ?_,fun a ha=>?_,?_,hq5,by simp [*],by simp [*],by simp [*],by simp [*],by simp [*],?_⟩
            · simp (disch:=omega) only [gput_ne,gput_eq]
              rfl
            · intro a h5 h6 h7
              simp (disch:=omega) only [gput_ne]
            · simp (disch:=omega) only [gput_ne]
              exact HOLD.out a ha
            · simp (disch:=omega) only [gput_ne]
              exact e6
            · rcases hq6 with ⟨h5,h6,h7,h8⟩ | ⟨h5,h6⟩
              · rw [if_neg (by rw [h4']; exact id)] at h7
                exact .inl ⟨h5,by omega,h7,h8,by omega⟩
              · exact .inr ⟨h5,h6⟩
    · have HRD:=Hide.mk hrd
      clear hrd
      iterate 20 (all_goals try (first | with_reducible refine splitI (fun h=>?_) (fun h=>?_) | with_reducible refine splitBI (fun h=>?_) (fun h=>?_) | simp (config:={ maxSteps:=1000000 }) (disch:=first | assumption | omega | (simp; done) | fail) [Tryd.results42, *]))
      refine ⟨_,HRD.out,x',op',q',sv',j',e',_,_,rfl,by omega,fun a ha=>?_,HFQ.out.fresh (by omega) (by omega) (fun a h4 h5 h6=>by rw [gput_ne (by omega)]),rfl,he0,HJ'.out⟩
      rw [gput_lt ha]; exact HG'.out a ha
end
end Go.Ai
end
