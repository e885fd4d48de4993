/- A small verified interpreter over names, its proofs, and what was proved with it. No condition. -/
import Derived.Test.YtiddfilinnbhaaaGreatDoorT07
set_option linter.all false
set_option linter.deprecated false
section
namespace Go.Ai
open Go.Proofs
set_option maxRecDepth 10000
set_option maxHeartbeats 40000000
def preP (r:List Int) : Nat→Bool
 | 0=>false
 | i+1=>decide (r[i]?=some (-1))
theorem RepW.at {g:Nat→Option Blk} {n:Nat} {w:List Int} {q1:AV} (h:RepW g n w q1) {k:Nat} (hk:k < w.length) : ∃ a off,a < n∧(∀ {H:Mem} {ev:Ev} {o:Oper} {t:TypeId},iaS Tryz.prog H ev o t (some (none,1)) (some q1) (some (.lit (.int .i64 (k:Int))))=.val (.ptr a (off+k)) H)∧loadB (some (false,1)) (g a) (off+k)=some (.lit (.int .i64 w[k])):=by
 obtain ⟨a2,off,ha2,hrow,hia⟩:=SliceV.ia (P:=Tryz.prog) h hk 1
 simp only [Nat.mul_one] at hia
 have hcell:=hrow.one (k:=k) (s:=1) (by rw [wdC_len]; exact hk)
 rw [(List.getElem?_eq_some_iff.1 (wdC_at w k hk)).2] at hcell
 exact ⟨a2,off,ha2,hia,hcell⟩
theorem rCheck_w (I O:Int) (ts:List (List Int×List Int)) (hl:SmallL ts) (g:Nat→Option Blk) (n:Nat) (sv:AV) (hT:LogR g n ts sv) :
  WC 3 Tryz.prog 14 [.agg [.lit (.int .i64 I),.lit (.int .i64 O),sv]] ⟨.fn g,n⟩ fun r=>r=.ret (.lit (.int .i64 (logErr I O ts))) ⟨.fn g,n⟩:=by
 refine WC.drop1 rfl ?_
 have hlen:=@lenV Tryz.prog _ _ _ _ _ hT.choose_spec.1
 have h1s:=hT.choose_spec.1.one
 have hone:allOne [.lit (.int .i64 I),.lit (.int .i64 O),sv]=true:=by simp [h1s]
 have HT:=Hide.mk hT
 have HW:=Hide.mk hl
 have hl20:=hl.len
 have HIN:=Hide.mk (rwithin_w I O ts hl.len hl.w1 (gput g n (some (.cells [.lit (.int .i64 I),.lit (.int .i64 O),sv] true 0))) (n+1) sv (hT.mono (Nat.le_succ n) fun a ha=>gput_lt ha))
 clear hT hl
 obtain ⟨ret,hret⟩ : ∃ b,b=logErr I O ts:=⟨_,rfl⟩
 rw [← hret]
 unfold logErr at hret
 generalize withinB I O ts=wb at *
 cases wb with
 | false =>
  have hr:ret=3:=by rw [hret,if_pos rfl]
  clear hret
  refine WC.enterP (noO_ok _ _) hG pl14 Tryz.func14 rfl (by decide +kernel) (Nat.le_of_ble_eq_true (by kernel_rfl)) ?_
  iterate 8 (all_goals try (first | with_reducible refine splitI (fun h=>?_) (fun h=>?_) | with_reducible refine splitBI (fun h=>?_) (fun h=>?_) | simp (config:={ maxSteps:=1000000 }) (disch:=first | assumption | omega | (simp; done) | fail) [Tryz.results14, *]))
  refine WC.mono HIN.out ?_
  rintro _ rfl
  iterate 8 (all_goals try (first | with_reducible refine splitI (fun h=>?_) (fun h=>?_) | with_reducible refine splitBI (fun h=>?_) (fun h=>?_) | simp (config:={ maxSteps:=1000000 }) (disch:=first | assumption | omega | (simp; done) | fail) [Tryz.results14, *]))
  all_goals exact ⟨Nat.le_succ n,fun b hb=>gput_lt hb⟩
 | true =>
 rw [if_neg (by simp)] at hret
 by_cases t1:I < 1
 ·have hr:ret=1:=by rw [hret,if_pos (.inl t1)]
  clear hret
  refine WC.enterP (noO_ok _ _) hG pl14 Tryz.func14 rfl (by decide +kernel) (Nat.le_of_ble_eq_true (by kernel_rfl)) ?_
  iterate 8 (all_goals try (first | with_reducible refine splitI (fun h=>?_) (fun h=>?_) | with_reducible refine splitBI (fun h=>?_) (fun h=>?_) | simp (config:={ maxSteps:=1000000 }) (disch:=first | assumption | omega | (simp; done) | fail) [Tryz.results14, *]))
  refine WC.mono HIN.out ?_
  rintro _ rfl
  iterate 8 (all_goals try (first | with_reducible refine splitI (fun h=>?_) (fun h=>?_) | with_reducible refine splitBI (fun h=>?_) (fun h=>?_) | simp (config:={ maxSteps:=1000000 }) (disch:=first | assumption | omega | (simp; done) | fail) [Tryz.results14, *]))
  all_goals exact ⟨Nat.le_succ n,fun b hb=>gput_lt hb⟩
 by_cases t2:O < 1
 ·have hr:ret=1:=by rw [hret,if_pos (.inr t2)]
  clear hret
  refine WC.enterP (noO_ok _ _) hG pl14 Tryz.func14 rfl (by decide +kernel) (Nat.le_of_ble_eq_true (by kernel_rfl)) ?_
  iterate 8 (all_goals try (first | with_reducible refine splitI (fun h=>?_) (fun h=>?_) | with_reducible refine splitBI (fun h=>?_) (fun h=>?_) | simp (config:={ maxSteps:=1000000 }) (disch:=first | assumption | omega | (simp; done) | fail) [Tryz.results14, *]))
  refine WC.mono HIN.out ?_
  rintro _ rfl
  iterate 8 (all_goals try (first | with_reducible refine splitI (fun h=>?_) (fun h=>?_) | with_reducible refine splitBI (fun h=>?_) (fun h=>?_) | simp (config:={ maxSteps:=1000000 }) (disch:=first | assumption | omega | (simp; done) | fail) [Tryz.results14, *]))
  all_goals exact ⟨Nat.le_succ n,fun b hb=>gput_lt hb⟩
 rw [if_neg (by omega)] at hret
 have HRET:=Hide.mk hret
 clear hret
 refine WC.enterP (noO_ok _ _) hG pl14 Tryz.func14 rfl (by decide +kernel) (Nat.le_of_ble_eq_true (by kernel_rfl)) ?_
 iterate 8 (all_goals try (first | with_reducible refine splitI (fun h=>?_) (fun h=>?_) | with_reducible refine splitBI (fun h=>?_) (fun h=>?_) | simp (config:={ maxSteps:=1000000 }) (disch:=first | assumption | omega | (simp; done) | fail) [Tryz.results14, *]))
 refine WC.mono HIN.out ?_
 rintro _ rfl
 iterate 8 (all_goals try (first | with_reducible refine splitI (fun h=>?_) (fun h=>?_) | with_reducible refine splitBI (fun h=>?_) (fun h=>?_) | simp (config:={ maxSteps:=1000000 }) (disch:=first | assumption | omega | (simp; done) | fail) [Tryz.results14, *]))
 refine LX.ind (fun m gf H'=>∃ (k n' : Nat) (gL:Nat→Option Blk),k≤ts.length∧m=ts.length - k∧H'=⟨.fn gL,n'⟩∧n < n'∧Hide (∀ b,b < n→gL b=g b)∧gL n=some (.cells [.lit (.int .i64 I),.lit (.int .i64 O),sv] true 0) ∧
  Hide (∀ t∈ts.take k,validB I O t=true)∧gf 1=some (.ptr n 0)∧gf 3=some (.lit (.int .i64 k))) (m0:=ts.length) ?_ ?_
 ·exact ⟨0,_,_,Nat.zero_le _,rfl,rfl,Nat.lt_succ_self n,⟨fun b hb=>gput_lt hb⟩,gput_eq,⟨by simp⟩,by simp,by simp⟩
 rintro m gf H' ⟨k,n',gL,hk,rfl,rfl,hn',HG,hgn,HP,w1,w3⟩ ih
 refine LX.roundP (noO_ok _ _) hG pl14 (by decide +kernel) ?_
 by_cases hlt:k < ts.length
 ·have hltI:(k:Int) < (ts.length:Int):=by omega
  obtain ⟨a2,off,s1,s2,HAT0⟩:=(HT.out.mono (Nat.le_of_lt hn') HG.out).at hlt
  have HAT:=Hide.mk HAT0
  clear HAT0
  have hia:∀ {H:Mem} {ev:Ev} {o:Oper} {ty:TypeId},iaS Tryz.prog H ev o ty (some (none,2)) (some sv) (some (.lit (.int .i64 (k:Int))))=.val (.ptr a2 (off+k * 2)) H:=fun {H ev o ty}=>HAT.out.ia
  have hcell:=HAT.out.agg
  have h1a:=HAT.out.r1.one
  have h1b:=HAT.out.r2.one
  have hl1:=@lenV Tryz.prog _ _ _ _ _ HAT.out.r1
  have hl2:=@lenV Tryz.prog _ _ _ _ _ HAT.out.r2
  have hone2:allOne [s1,s2]=true:=by simp [h1a,h1b]
  have HMEM:=Hide.mk (List.getElem_mem hlt)
  have hw1:=HW.out.w1 _ HMEM.out
  have hw2:=HW.out.w2 _ HMEM.out
  have HTK:Hide (ts.take (k+1)=ts.take k++[ts[k]]):=⟨by rw [List.take_succ,List.getElem?_eq_getElem hlt]; rfl⟩
  have HV:=Hide.mk (rinputs_w ts[k].1 (by omega) I (gput gL n' (some (.cells [s1,s2] true 0))) (n'+1) s1 (SliceV.mono (Nat.le_succ n') (fun a ha=>gput_lt ha) HAT.out.r1))
  have HR2:Hide (RepW (gput gL n' (some (.cells [s1,s2] true 0))) (n'+1) ts[k].2 s2):=⟨SliceV.mono (Nat.le_succ n') (fun a ha=>gput_lt ha) HAT.out.r2⟩
  clear HAT
  generalize ts[k]=t at *
  have HBAD:Hide (validB I O t=false→ret=1):=⟨fun hb=>by
   rw [HRET.out,if_neg]
   intro h
   have:=List.all_eq_true.1 h t HMEM.out
   rw [hb] at this
   exact absurd this (by simp)⟩
  have HGOOD:Hide (validB I O t=true→∀ t∈ts.take (k+1),validB I O t=true):=⟨fun hv v hv2=>by
   rw [HTK.out] at hv2
   rcases List.mem_append.1 hv2 with h | h
   ·exact HP.out v h
   ·rw [List.mem_singleton.1 h]; exact hv⟩
  have HV2:Hide (validB I O t=(decide (t.2.length=t.1.length) && inW t.1 I && okR O false t.2)):=⟨rfl⟩
  obtain ⟨tw,tr⟩:=t
  dsimp only at *
  have HV3:Hide (inW tw I=tw.all fun i=>decide (0≤i∧i < I)):=⟨rfl⟩
  generalize (tw.all fun i=>decide (0≤i∧i < I))=bb at *
  generalize validB I O (tw,tr)=vb at *
  cases bb with
  | false =>
   have hr:ret=1:=HBAD.out (by rw [HV2.out,HV3.out,Bool.and_false,Bool.false_and])
   iterate 8 (all_goals try (first | with_reducible refine splitI (fun h=>?_) (fun h=>?_) | with_reducible refine splitBI (fun h=>?_) (fun h=>?_) | simp (config:={ maxSteps:=1000000 }) (disch:=first | assumption | omega | (simp; done) | fail) [Tryz.results14, *]))
   refine WC.mono HV.out ?_
   rintro _ rfl
   iterate 8 (all_goals try (first | with_reducible refine splitI (fun h=>?_) (fun h=>?_) | with_reducible refine splitBI (fun h=>?_) (fun h=>?_) | simp (config:={ maxSteps:=1000000 }) (disch:=first | assumption | omega | (simp; done) | fail) [Tryz.results14, *]))
   all_goals exact ⟨Nat.le_of_lt (Nat.lt_succ_of_lt hn'),fun b (hb:b < n)=>(gput_lt (by omega)).trans (HG.out b hb)⟩
  | true =>
  by_cases u1:tr.length=tw.length
  ·rw [← u1] at hl1
   have HV4:Hide (vb=okR O false tr):=⟨by rw [HV2.out,HV3.out,decide_eq_true u1]; simp⟩
   clear HV2 HV3 hw1 u1
   iterate 8 (all_goals try (first | with_reducible refine splitI (fun h=>?_) (fun h=>?_) | with_reducible refine splitBI (fun h=>?_) (fun h=>?_) | simp (config:={ maxSteps:=1000000 }) (disch:=first | assumption | omega | (simp; done) | fail) [Tryz.results14, *]))
   refine WC.mono HV.out ?_
   rintro _ rfl
   iterate 8 (all_goals try (first | with_reducible refine splitI (fun h=>?_) (fun h=>?_) | with_reducible refine splitBI (fun h=>?_) (fun h=>?_) | simp (config:={ maxSteps:=1000000 }) (disch:=first | assumption | omega | (simp; done) | fail) [Tryz.results14, *]))
   refine LX.ind (fun m gf H'=>∃ (j:Nat),j≤tr.length∧m=tr.length - j∧H'=⟨.fn (gput gL n' (some (.cells [s1,s2] true 0))),n'+1⟩ ∧
    Hide (vb=okR O (preP tr j) (tr.drop j))∧gf 1=some (.ptr n 0)∧gf 3=some (.lit (.int .i64 k))∧gf 4=some (.ptr n' 0)∧gf 5=some (.lit (.int .i64 j))) (m0:=tr.length) ?_ ?_
   ·exact ⟨0,Nat.zero_le _,rfl,rfl,⟨HV4.out⟩,by simp [*],by simp [*],by simp [*],by simp⟩
   clear hcell hia
   rintro m gf H' ⟨j,hj,rfl,rfl,HO,x1,x3,x4,x5⟩ ih2
   refine LX.roundP (noO_ok _ _) hG pl14 (by decide +kernel) ?_
   by_cases hlt2:j < tr.length
   ·have hlt2I:(j:Int) < (tr.length:Int):=by omega
    obtain ⟨a3,of3,ha3,hia3,hc3⟩:=HR2.out.at hlt2
    have HD:Hide (vb=(!(decide (tr[j] < -1) || (decide (O≤tr[j]) || (preP tr j && decide (¬tr[j] = -1)))) && okR O (decide (tr[j] = -1)) (tr.drop (j+1)))):=⟨by rw [HO.out,okR_drop hlt2]⟩
    have HPN:Hide (preP tr (j+1)=decide (tr[j] = -1)):=⟨by show decide (tr[j]?=some (-1))=_; rw [List.getElem?_eq_getElem hlt2]; exact decide_eq_decide.2 Option.some_inj⟩
    clear HO
    generalize tr[j]=o at *
    by_cases v1:o < -1
    ·have hr:ret=1:=HBAD.out (by rw [HD.out,decide_eq_true v1]; rfl)
     iterate 8 (all_goals try (first | with_reducible refine splitI (fun h=>?_) (fun h=>?_) | with_reducible refine splitBI (fun h=>?_) (fun h=>?_) | simp (config:={ maxSteps:=1000000 }) (disch:=first | assumption | omega | (simp; done) | fail) [Tryz.results14, *]))
     all_goals exact ⟨Nat.le_of_lt (Nat.lt_succ_of_lt hn'),fun b (hb:b < n)=>(gput_lt (by omega)).trans (HG.out b hb)⟩
    by_cases v2:O≤o
    ·have hr:ret=1:=HBAD.out (by rw [HD.out,decide_eq_true v2,Bool.true_or,Bool.or_true]; rfl)
     iterate 8 (all_goals try (first | with_reducible refine splitI (fun h=>?_) (fun h=>?_) | with_reducible refine splitBI (fun h=>?_) (fun h=>?_) | simp (config:={ maxSteps:=1000000 }) (disch:=first | assumption | omega | (simp; done) | fail) [Tryz.results14, *]))
     all_goals exact ⟨Nat.le_of_lt (Nat.lt_succ_of_lt hn'),fun b (hb:b < n)=>(gput_lt (by omega)).trans (HG.out b hb)⟩
    rw [decide_eq_false v1,decide_eq_false v2,Bool.false_or,Bool.false_or] at HD
    rcases j with _ | i
    ·have HD2:Hide (vb=okR O (preP tr (0+1)) (tr.drop (0+1))):=⟨by rw [HD.out,HPN.out]; simp [preP]⟩
     clear HD HPN
     have x5b:gf 5=some (.lit (.int .i64 0)):=x5
     have hia3b:∀ {H:Mem} {ev:Ev} {o:Oper} {t:TypeId},iaS Tryz.prog H ev o t (some (none,1)) (some s2) (some (.lit (.int .i64 0)))=.val (.ptr a3 of3) H:=fun {H ev o t}=>hia3
     have hc3b:loadB (some (false,1)) (gput gL n' (some (.cells [s1,s2] true 0)) a3) of3=some (.lit (.int .i64 o)):=hc3
     have hlt2b:0 < (tr.length:Int):=by omega
     clear x5 hia3 hc3 hlt2I
     iterate 8 (all_goals try (first | with_reducible refine splitI (fun h=>?_) (fun h=>?_) | with_reducible refine splitBI (fun h=>?_) (fun h=>?_) | simp (config:={ maxSteps:=1000000 }) (disch:=first | assumption | omega | (simp; done) | fail) [Tryz.results14, *]))
     exact ih2.out (tr.length - (0+1)) _ _ (by omega) ⟨0+1,by omega,rfl,rfl,HD2,by simp [*],by simp [*],by simp [*],by simp⟩
    ·obtain ⟨a4,of4,ha4,hia4,hc4⟩:=HR2.out.at (by omega:i < tr.length)
     have hj0:0 < (i:Int)+1:=by omega
     have x5b:gf 5=some (.lit (.int .i64 ((i:Int)+1))):=x5
     have hia3b:∀ {H:Mem} {ev:Ev} {o:Oper} {t:TypeId},iaS Tryz.prog H ev o t (some (none,1)) (some s2) (some (.lit (.int .i64 ((i:Int)+1))))=.val (.ptr a3 (of3+(i+1))) H:=fun {H ev o t}=>hia3
     have hlt2b:(i:Int)+1 < (tr.length:Int):=by omega
     clear x5 hia3 hlt2I
     have HPI:Hide (preP tr (i+1)=decide (tr[i]'(by omega) = -1)):=⟨by show decide (tr[i]?=some (-1))=_; rw [List.getElem?_eq_getElem (by omega:i < tr.length)]; exact decide_eq_decide.2 Option.some_inj⟩
     generalize tr[i]'(by omega)=z at *
     rw [HPI.out] at HD
     have hi1:(i:Int)+1 < 1000:=by omega
     by_cases z1:z = -1
     ·subst z1
      by_cases o1:o = -1
      ·subst o1
       have HD2:Hide (vb=okR O (preP tr (i+1+1)) (tr.drop (i+1+1))):=⟨by rw [HD.out,HPN.out]; simp⟩
       clear HD HPN HPI
       iterate 8 (all_goals try (first | with_reducible refine splitI (fun h=>?_) (fun h=>?_) | with_reducible refine splitBI (fun h=>?_) (fun h=>?_) | simp (config:={ maxSteps:=1000000 }) (disch:=first | assumption | omega | (simp; done) | fail) [Tryz.results14, *]))
       exact ih2.out (tr.length - (i+1+1)) _ _ (by omega) ⟨i+1+1,by omega,rfl,rfl,HD2,by simp [*],by simp [*],by simp [*],by simp⟩
      ·have hr:ret=1:=HBAD.out (by rw [HD.out]; simp [o1])
       clear HD HPN HPI
       iterate 8 (all_goals try (first | with_reducible refine splitI (fun h=>?_) (fun h=>?_) | with_reducible refine splitBI (fun h=>?_) (fun h=>?_) | simp (config:={ maxSteps:=1000000 }) (disch:=first | assumption | omega | (simp; done) | fail) [Tryz.results14, *]))
       all_goals exact ⟨Nat.le_of_lt (Nat.lt_succ_of_lt hn'),fun b (hb:b < n)=>(gput_lt (by omega)).trans (HG.out b hb)⟩
     ·have HD2:Hide (vb=okR O (preP tr (i+1+1)) (tr.drop (i+1+1))):=⟨by rw [HD.out,HPN.out]; simp [z1]⟩
      clear HD HPN HPI
      iterate 8 (all_goals try (first | with_reducible refine splitI (fun h=>?_) (fun h=>?_) | with_reducible refine splitBI (fun h=>?_) (fun h=>?_) | simp (config:={ maxSteps:=1000000 }) (disch:=first | assumption | omega | (simp; done) | fail) [Tryz.results14, *]))
      exact ih2.out (tr.length - (i+1+1)) _ _ (by omega) ⟨i+1+1,by omega,rfl,rfl,HD2,by simp [*],by simp [*],by simp [*],by simp⟩
   ·have hlt2I:¬(j:Int) < (tr.length:Int):=by omega
    have HP2:=Hide.mk (HGOOD.out (by rw [HO.out,List.drop_eq_nil_of_le (by omega)]; rfl))
    clear HO
    iterate 8 (all_goals try (first | with_reducible refine splitI (fun h=>?_) (fun h=>?_) | with_reducible refine splitBI (fun h=>?_) (fun h=>?_) | simp (config:={ maxSteps:=1000000 }) (disch:=first | assumption | omega | (simp; done) | fail) [Tryz.results14, *]))
    exact ih.out (ts.length - (k+1)) _ _ (by omega) ⟨k+1,_,_,by omega,rfl,rfl,by omega,⟨fun b hb=>(gput_lt (by omega)).trans (HG.out b hb)⟩,(gput_lt (by omega)).trans hgn,HP2,by simp [*],by simp⟩
  ·have u1I:¬(tr.length:Int)=(tw.length:Int):=by omega
   have hr:ret=1:=HBAD.out (by rw [HV2.out,decide_eq_false u1]; rfl)
   iterate 8 (all_goals try (first | with_reducible refine splitI (fun h=>?_) (fun h=>?_) | with_reducible refine splitBI (fun h=>?_) (fun h=>?_) | simp (config:={ maxSteps:=1000000 }) (disch:=first | assumption | omega | (simp; done) | fail) [Tryz.results14, *]))
   refine WC.mono HV.out ?_
   rintro _ rfl
   iterate 8 (all_goals try (first | with_reducible refine splitI (fun h=>?_) (fun h=>?_) | with_reducible refine splitBI (fun h=>?_) (fun h=>?_) | simp (config:={ maxSteps:=1000000 }) (disch:=first | assumption | omega | (simp; done) | fail) [Tryz.results14, *]))
   all_goals exact ⟨Nat.le_of_lt (Nat.lt_succ_of_lt hn'),fun b (hb:b < n)=>(gput_lt (by omega)).trans (HG.out b hb)⟩
 ·have hltI:¬(k:Int) < (ts.length:Int):=by omega
  have hr:ret=0:=by
   rw [HRET.out,if_pos]
   exact List.all_eq_true.2 fun t ht=>HP.out t (by rw [show k=ts.length by omega,List.take_length]; exact ht)
  clear HP
  iterate 8 (all_goals try (first | with_reducible refine splitI (fun h=>?_) (fun h=>?_) | with_reducible refine splitBI (fun h=>?_) (fun h=>?_) | simp (config:={ maxSteps:=1000000 }) (disch:=first | assumption | omega | (simp; done) | fail) [Tryz.results14, *]))
  exact ⟨Nat.le_of_lt hn',fun b hb=>HG.out b hb⟩
end Go.Ai
end
