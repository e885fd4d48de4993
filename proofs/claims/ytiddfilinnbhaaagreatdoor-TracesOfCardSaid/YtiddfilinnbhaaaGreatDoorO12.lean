/- A small verified interpreter over names, its proofs, and what was proved with it. No condition. -/
import Derived.Test.YtiddfilinnbhaaaGreatDoorCards
import Derived.Test.YtiddfilinnbhaaaGreatDoorTie
import Derived.WalkKit
import Derived.OpenShut
import Derived.Deep.DeepHandedRow
import Derived.LaidOnce
import Derived.Lay
import Derived.Test.YtiddfilinnbhaaaGreatDoorO11
import Derived.Test.YtiddfilinnbhaaaGreatDoorO05
import Derived.Test.YtiddfilinnbhaaaGreatDoorO07
set_option linter.all false
set_option linter.deprecated false
section
namespace Go.Ai
open Go.Proofs
set_option maxRecDepth 10000
set_option maxHeartbeats 40000000
theorem rcmp_w (a b:List Int) (hal:a.length≤1000000) (hbl:b.length≤1000000) (g:Nat→Option Blk) (n:Nat) (sa sb:AV) (ha:RepW g n a sa) (hb:RepW g n b sb) :
  WC 3 Tryz.prog 37 [sa,sb] ⟨.fn g,n⟩ fun r=>∃ z:Int,r=.ret (.lit (.int .i64 z)) ⟨.fn g,n⟩∧decide (z=0)=decide (a=b):=by
 have hla:=@lenV Tryz.prog _ _ _ _ _ ha
 have hlb:=@lenV Tryz.prog _ _ _ _ _ hb
 have HA:=Hide.mk ha
 have HB:=Hide.mk hb
 clear ha hb
 obtain ⟨ret,hret⟩ : ∃ c,c=decide (a=b):=⟨_,rfl⟩
 rw [← hret]
 have HRET:=Hide.mk hret
 clear hret
 by_cases t1:a.length < b.length
 ·have t1I:(a.length:Int) < (b.length:Int):=by omega
  have hr:ret=false:=by
   rw [HRET.out]; exact decide_eq_false fun h=>by rw [h] at t1; omega
  refine WC.enterP (noO_ok _ _) hG pl37 Tryz.func37 rfl (by decide +kernel) (Nat.le_of_ble_eq_true (by kernel_rfl)) ?_
  iterate 6 (all_goals try (first | with_reducible refine splitI (fun h=>?_) (fun h=>?_) | with_reducible refine splitBI (fun h=>?_) (fun h=>?_) | simp (config:={ maxSteps:=1000000 }) (disch:=first | assumption | omega | (simp; done) | fail) [Tryz.results37, *]))
 by_cases t2:b.length < a.length
 ·have t2I:(b.length:Int) < (a.length:Int):=by omega
  have t1I:¬(a.length:Int) < (b.length:Int):=by omega
  have hr:ret=false:=by
   rw [HRET.out]; exact decide_eq_false fun h=>by rw [h] at t2; omega
  refine WC.enterP (noO_ok _ _) hG pl37 Tryz.func37 rfl (by decide +kernel) (Nat.le_of_ble_eq_true (by kernel_rfl)) ?_
  iterate 6 (all_goals try (first | with_reducible refine splitI (fun h=>?_) (fun h=>?_) | with_reducible refine splitBI (fun h=>?_) (fun h=>?_) | simp (config:={ maxSteps:=1000000 }) (disch:=first | assumption | omega | (simp; done) | fail) [Tryz.results37, *]))
 have hL:b.length=a.length:=by omega
 have HL:=Hide.mk hL
 rw [hL] at hlb
 clear t1 t2 hL hbl
 refine WC.enterP (noO_ok _ _) hG pl37 Tryz.func37 rfl (by decide +kernel) (Nat.le_of_ble_eq_true (by kernel_rfl)) ?_
 iterate 6 (all_goals try (first | with_reducible refine splitI (fun h=>?_) (fun h=>?_) | with_reducible refine splitBI (fun h=>?_) (fun h=>?_) | simp (config:={ maxSteps:=1000000 }) (disch:=first | assumption | omega | (simp; done) | fail) [Tryz.results37, *]))
 refine LX.ind (fun m gf H'=>∃ (k:Nat),k≤a.length∧m=a.length - k∧H'=⟨.fn g,n⟩∧Hide (a.take k=b.take k)∧gf 0=some sa∧gf 1=some sb∧gf 5=some (.lit (.int .i64 k))) (m0:=a.length) ?_ ?_
 ·exact ⟨0,Nat.zero_le _,rfl,rfl,⟨by simp⟩,by simp,by simp,by simp⟩
 rintro m gf H' ⟨k,hk,rfl,rfl,HPRE,w0,w1,w5⟩ ih
 refine LX.roundP (noO_ok _ _) hG pl37 (by decide +kernel) ?_
 by_cases hlt:k < a.length
 ·have hltI:(k:Int) < (a.length:Int):=by omega
  have hltb:k < b.length:=by rw [HL.out]; exact hlt
  obtain ⟨a2,off,ha2,hrow,hia⟩:=SliceV.ia (P:=Tryz.prog) HA.out hlt 1
  obtain ⟨b2,ofb,hb2,hrob,hib⟩:=SliceV.ia (P:=Tryz.prog) HB.out hltb 1
  simp only [Nat.mul_one] at hia hib
  have hca:=hrow.one (k:=k) (s:=1) (by rw [wdC_len]; exact hlt)
  have hcb:=hrob.one (k:=k) (s:=1) (by rw [wdC_len]; exact hltb)
  rw [(List.getElem?_eq_some_iff.1 (wdC_at a k hlt)).2] at hca
  rw [(List.getElem?_eq_some_iff.1 (wdC_at b k hltb)).2] at hcb
  have hta:a.take (k+1)=a.take k++[a[k]]:=by rw [List.take_succ,List.getElem?_eq_getElem hlt]; rfl
  have htb:b.take (k+1)=b.take k++[b[k]]:=by rw [List.take_succ,List.getElem?_eq_getElem hltb]; rfl
  have hneq:a=b→a[k]=b[k]:=fun h=>by subst h; rfl
  have HTA:=Hide.mk hta
  have HTB:=Hide.mk htb
  have HN:=Hide.mk hneq
  clear hta htb hneq hrow hrob ha2 hb2
  generalize a[k]=u at *
  generalize b[k]=v at *
  clear hltb
  have hbad:u≠v→ret=false:=fun h=>by rw [HRET.out]; exact decide_eq_false fun e=>h (HN.out e)
  have HBAD:=Hide.mk hbad
  clear hbad
  by_cases t1:u < v
  ·have hr:=HBAD.out (by omega)
   iterate 6 (all_goals try (first | with_reducible refine splitI (fun h=>?_) (fun h=>?_) | with_reducible refine splitBI (fun h=>?_) (fun h=>?_) | simp (config:={ maxSteps:=1000000 }) (disch:=first | assumption | omega | (simp; done) | fail) [Tryz.results37, *]))
  by_cases t2:v < u
  ·have hr:=HBAD.out (by omega)
   iterate 6 (all_goals try (first | with_reducible refine splitI (fun h=>?_) (fun h=>?_) | with_reducible refine splitBI (fun h=>?_) (fun h=>?_) | simp (config:={ maxSteps:=1000000 }) (disch:=first | assumption | omega | (simp; done) | fail) [Tryz.results37, *]))
  ·have HUV:=Hide.mk (show u=v by omega)
   iterate 6 (all_goals try (first | with_reducible refine splitI (fun h=>?_) (fun h=>?_) | with_reducible refine splitBI (fun h=>?_) (fun h=>?_) | simp (config:={ maxSteps:=1000000 }) (disch:=first | assumption | omega | (simp; done) | fail) [Tryz.results37, *]))
   refine ih.out (a.length - (k+1)) _ _ (by omega) ⟨k+1,by omega,rfl,rfl,⟨?_⟩,by simp [*],by simp [*],by simp⟩
   rw [HTA.out,HTB.out,HPRE.out,HUV.out]
 ·have hltI:¬(k:Int) < (a.length:Int):=by omega
  have hk2:k=a.length:=by omega
  have hr:ret=true:=by
   rw [HRET.out]
   have h1:=HPRE.out
   rw [hk2,List.take_length,← HL.out,List.take_length] at h1
   exact decide_eq_true h1
  clear hk2
  iterate 6 (all_goals try (first | with_reducible refine splitI (fun h=>?_) (fun h=>?_) | with_reducible refine splitBI (fun h=>?_) (fun h=>?_) | simp (config:={ maxSteps:=1000000 }) (disch:=first | assumption | omega | (simp; done) | fail) [Tryz.results37, *]))
theorem rsame_w (a b:List Int) (hal:a.length≤1000000) (hbl:b.length≤1000000) (g:Nat→Option Blk) (n:Nat) (sa sb:AV) (ha:RepW g n a sa) (hb:RepW g n b sb) :
  WC 3 Tryz.prog 32 [sa,sb] ⟨.fn g,n⟩ fun r=>r=.ret (.lit (.bool (decide (a=b)))) ⟨.fn g,n⟩:=by
 have HC:=Hide.mk (rcmp_w a b hal hbl g n sa sb ha hb)
 clear ha hb
 obtain ⟨ret,hret⟩ : ∃ c,c=decide (a=b):=⟨_,rfl⟩
 rw [← hret] at HC ⊢
 clear hret
 refine WC.enterP (noO_ok _ _) hG [] Tryz.func32 rfl (by decide +kernel) (Nat.le_of_ble_eq_true (by kernel_rfl)) ?_
 iterate 6 (all_goals try (first | with_reducible refine splitI (fun h=>?_) (fun h=>?_) | with_reducible refine splitBI (fun h=>?_) (fun h=>?_) | simp (config:={ maxSteps:=1000000 }) (disch:=first | assumption | omega | (simp; done) | fail) [Tryz.results32, *]))
 refine WC.mono HC.out ?_
 rintro _ ⟨z,rfl,hz⟩
 cases ret with
 | true =>
  have hz1:z=0:=of_decide_eq_true hz
  clear hz
  subst hz1
  iterate 6 (all_goals try (first | with_reducible refine splitI (fun h=>?_) (fun h=>?_) | with_reducible refine splitBI (fun h=>?_) (fun h=>?_) | simp (config:={ maxSteps:=1000000 }) (disch:=first | assumption | omega | (simp; done) | fail) [Tryz.results32, *]))
 | false =>
  have hz1:¬z=0:=of_decide_eq_false hz
  clear hz
  iterate 6 (all_goals try (first | with_reducible refine splitI (fun h=>?_) (fun h=>?_) | with_reducible refine splitBI (fun h=>?_) (fun h=>?_) | simp (config:={ maxSteps:=1000000 }) (disch:=first | assumption | omega | (simp; done) | fail) [Tryz.results32, *]))
theorem Equal_w {I O I2 O2:Int} {ts us:List (List Int×List Int)} (hts:SmallL ts) (hus:SmallL us) (g:Nat→Option Blk) (n:Nat) (sv sv2:AV) (hT:LogR g n ts sv) (hU:LogR g n us sv2) :
  WC 3 Tryz.prog 35 [.agg [.lit (.int .i64 I),.lit (.int .i64 O),sv],.agg [.lit (.int .i64 I2),.lit (.int .i64 O2),sv2]] ⟨.fn g,n⟩ fun r=>r=.ret (.lit (.bool (decide (I=I2∧O=O2∧ts=us)))) ⟨.fn g,n⟩:=by
 refine WC.drop1 rfl ?_
 have hlen:=@lenV Tryz.prog _ _ _ _ _ hT.choose_spec.1
 have hlen2:=@lenV Tryz.prog _ _ _ _ _ hU.choose_spec.1
 have h1s:=hT.choose_spec.1.one
 have h2s:=hU.choose_spec.1.one
 have hone:allOne [.lit (.int .i64 I),.lit (.int .i64 O),sv]=true:=by simp [h1s]
 have hone2:allOne [.lit (.int .i64 I2),.lit (.int .i64 O2),sv2]=true:=by simp [h2s]
 have HT:=Hide.mk hT
 have HU:=Hide.mk hU
 have HST:=Hide.mk hts
 have HSU:=Hide.mk hus
 have htl:=hts.len
 have hul:=hus.len
 clear hT hU hts hus
 obtain ⟨ret,hret⟩ : ∃ b,b=decide (I=I2∧O=O2∧ts=us):=⟨_,rfl⟩
 rw [← hret]
 have HRET:=Hide.mk hret
 clear hret
 have HF:Hide (¬(I=I2∧O=O2∧ts=us)→ret=false):=⟨fun h=>by rw [HRET.out]; exact decide_eq_false h⟩
 by_cases t1:I=I2
 ·by_cases t2:O=O2
  ·by_cases t3:ts.length=us.length
   ·have t3I:(ts.length:Int)=(us.length:Int):=by omega
    have HL:=Hide.mk t3
    clear t3
    subst t1 t2
    rw [← HL.out] at hlen2
    clear t3I
    refine WC.enterP (noO_ok _ _) hG pl35 Tryz.func35 rfl (by decide +kernel) (Nat.le_of_ble_eq_true (by kernel_rfl)) ?_
    iterate 8 (all_goals try (first | with_reducible refine splitI (fun h=>?_) (fun h=>?_) | with_reducible refine splitBI (fun h=>?_) (fun h=>?_) | simp (config:={ maxSteps:=1000000 }) (disch:=first | assumption | omega | (simp; done) | fail) [Tryz.results35, *]))
    obtain ⟨gA,hgA⟩ : ∃ gA,gA=gput (gput g n (some (.cells [.lit (.int .i64 I),.lit (.int .i64 O),sv] true 0))) (n+1) (some (.cells [.lit (.int .i64 I),.lit (.int .i64 O),sv2] true 0)):=⟨_,rfl⟩
    rw [← hgA]
    have HGA:Hide (∀ b,b < n→gA b=g b):=⟨fun b hb=>by rw [hgA]; simp (disch:=omega) only [gput_lt]⟩
    have hgn:gA n=some (.cells [.lit (.int .i64 I),.lit (.int .i64 O),sv] true 0):=by rw [hgA]; simp (disch:=omega) only [gput_lt,gput_eq]
    have hgp:gA (n+1)=some (.cells [.lit (.int .i64 I),.lit (.int .i64 O),sv2] true 0):=by rw [hgA]; simp (disch:=omega) only [gput_lt,gput_eq]
    clear hgA
    have HT2:=Hide.mk (HT.out.mono (show n≤n+1+1 by omega) HGA.out)
    have HU2:=Hide.mk (HU.out.mono (show n≤n+1+1 by omega) HGA.out)
    refine LX.ind (fun m gf H'=>∃ (k:Nat),k≤ts.length∧m=ts.length - k∧H'=⟨.fn gA,n+1+1⟩∧Hide (ts.take k=us.take k)∧gf 2=some (.ptr n 0)∧gf 3=some (.ptr (n+1) 0)∧gf 5=some (.lit (.int .i64 k))) (m0:=ts.length) ?_ ?_
    ·exact ⟨0,Nat.zero_le _,rfl,rfl,⟨rfl⟩,by simp,by simp,by simp⟩
    rintro m gf H' ⟨k,hk,rfl,rfl,HP,w2,w3,w5⟩ ih
    refine LX.roundP (noO_ok _ _) hG pl35 (by decide +kernel) ?_
    by_cases hlt:k < ts.length
    ·have hltI:(k:Int) < (ts.length:Int):=by omega
     have hlt2:k < us.length:=by have:=HL.out; omega
     obtain ⟨a2,off,s1,s2,HAT0⟩:=HT2.out.at hlt
     obtain ⟨b2,ofb,r1,r2,HAU0⟩:=HU2.out.at hlt2
     have HAT:=Hide.mk HAT0
     have HAU:=Hide.mk HAU0
     clear HAT0 HAU0
     have hia:∀ {H:Mem} {ev:Ev} {o:Oper} {ty:TypeId},iaS Tryz.prog H ev o ty (some (none,2)) (some sv) (some (.lit (.int .i64 (k:Int))))=.val (.ptr a2 (off+k * 2)) H:=fun {H ev o ty}=>HAT.out.ia
     have hib:∀ {H:Mem} {ev:Ev} {o:Oper} {ty:TypeId},iaS Tryz.prog H ev o ty (some (none,2)) (some sv2) (some (.lit (.int .i64 (k:Int))))=.val (.ptr b2 (ofb+k * 2)) H:=fun {H ev o ty}=>HAU.out.ia
     have hc0:=HAT.out.c0
     have hc1:=HAT.out.c1
     have hd0:=HAU.out.c0
     have hd1:=HAU.out.c1
     have HS1:=Hide.mk (rsame_w ts[k].1 us[k].1 (by have:=HST.out.w1 _ (List.getElem_mem hlt); omega) (by have:=HSU.out.w1 _ (List.getElem_mem hlt2); omega) gA (n+1+1) s1 r1 HAT.out.r1 HAU.out.r1)
     have HS2:=Hide.mk (rsame_w ts[k].2 us[k].2 (by have:=HST.out.w2 _ (List.getElem_mem hlt); omega) (by have:=HSU.out.w2 _ (List.getElem_mem hlt2); omega) gA (n+1+1) s2 r2 HAT.out.r2 HAU.out.r2)
     have HTK:Hide (ts.take (k+1)=ts.take k++[ts[k]]):=⟨take_snoc hlt⟩
     have HUK:Hide (us.take (k+1)=us.take k++[us[k]]):=⟨take_snoc hlt2⟩
     have HNE:Hide (¬ts[k]=us[k]→ret=false):=⟨fun h=>HF.out fun h2=>h (by obtain ⟨_,_,h3⟩:=h2; subst h3; rfl)⟩
     clear HAT HAU
     generalize ts[k]=t at *
     generalize us[k]=u at *
     by_cases q1:t.1=u.1
     ·rw [decide_eq_true q1] at HS1
      by_cases q2:t.2=u.2
      ·rw [decide_eq_true q2] at HS2
       have HTU:Hide (t=u):=⟨Prod.ext q1 q2⟩
       clear q1 q2
       iterate 8 (all_goals try (first | with_reducible refine splitI (fun h=>?_) (fun h=>?_) | with_reducible refine splitBI (fun h=>?_) (fun h=>?_) | simp (config:={ maxSteps:=1000000 }) (disch:=first | assumption | omega | (simp; done) | fail) [Tryz.results35, *]))
       refine WC.mono HS1.out ?_
       rintro _ rfl
       iterate 8 (all_goals try (first | with_reducible refine splitI (fun h=>?_) (fun h=>?_) | with_reducible refine splitBI (fun h=>?_) (fun h=>?_) | simp (config:={ maxSteps:=1000000 }) (disch:=first | assumption | omega | (simp; done) | fail) [Tryz.results35, *]))
       refine WC.mono HS2.out ?_
       rintro _ rfl
       iterate 8 (all_goals try (first | with_reducible refine splitI (fun h=>?_) (fun h=>?_) | with_reducible refine splitBI (fun h=>?_) (fun h=>?_) | simp (config:={ maxSteps:=1000000 }) (disch:=first | assumption | omega | (simp; done) | fail) [Tryz.results35, *]))
       refine ih.out (ts.length - (k+1)) _ _ (by omega) ⟨k+1,by omega,rfl,rfl,⟨?_⟩,by simp [*],by simp [*],by simp⟩
       rw [HTK.out,HUK.out,HP.out,HTU.out]
      ·rw [decide_eq_false q2] at HS2
       have hr:=HNE.out fun h=>q2 (by rw [h])
       clear q1 q2
       iterate 8 (all_goals try (first | with_reducible refine splitI (fun h=>?_) (fun h=>?_) | with_reducible refine splitBI (fun h=>?_) (fun h=>?_) | simp (config:={ maxSteps:=1000000 }) (disch:=first | assumption | omega | (simp; done) | fail) [Tryz.results35, *]))
       refine WC.mono HS1.out ?_
       rintro _ rfl
       iterate 8 (all_goals try (first | with_reducible refine splitI (fun h=>?_) (fun h=>?_) | with_reducible refine splitBI (fun h=>?_) (fun h=>?_) | simp (config:={ maxSteps:=1000000 }) (disch:=first | assumption | omega | (simp; done) | fail) [Tryz.results35, *]))
       refine WC.mono HS2.out ?_
       rintro _ rfl
       iterate 8 (all_goals try (first | with_reducible refine splitI (fun h=>?_) (fun h=>?_) | with_reducible refine splitBI (fun h=>?_) (fun h=>?_) | simp (config:={ maxSteps:=1000000 }) (disch:=first | assumption | omega | (simp; done) | fail) [Tryz.results35, *]))
       all_goals exact ⟨by show n≤n+1+1; omega,fun b (hb:b < n)=>HGA.out b hb⟩
     ·rw [decide_eq_false q1] at HS1
      have hr:=HNE.out fun h=>q1 (by rw [h])
      clear q1
      iterate 8 (all_goals try (first | with_reducible refine splitI (fun h=>?_) (fun h=>?_) | with_reducible refine splitBI (fun h=>?_) (fun h=>?_) | simp (config:={ maxSteps:=1000000 }) (disch:=first | assumption | omega | (simp; done) | fail) [Tryz.results35, *]))
      refine WC.mono HS1.out ?_
      rintro _ rfl
      iterate 8 (all_goals try (first | with_reducible refine splitI (fun h=>?_) (fun h=>?_) | with_reducible refine splitBI (fun h=>?_) (fun h=>?_) | simp (config:={ maxSteps:=1000000 }) (disch:=first | assumption | omega | (simp; done) | fail) [Tryz.results35, *]))
      all_goals exact ⟨by show n≤n+1+1; omega,fun b (hb:b < n)=>HGA.out b hb⟩
    ·have hltI:¬(k:Int) < (ts.length:Int):=by omega
     have hr:ret=true:=by
      rw [HRET.out]
      have h1:=HP.out
      rw [List.take_of_length_le (by omega),List.take_of_length_le (by have:=HL.out; omega)] at h1
      exact decide_eq_true ⟨rfl,rfl,h1⟩
     iterate 8 (all_goals try (first | with_reducible refine splitI (fun h=>?_) (fun h=>?_) | with_reducible refine splitBI (fun h=>?_) (fun h=>?_) | simp (config:={ maxSteps:=1000000 }) (disch:=first | assumption | omega | (simp; done) | fail) [Tryz.results35, *]))
     all_goals exact ⟨by show n≤n+1+1; omega,fun b (hb:b < n)=>HGA.out b hb⟩
   ·have t3I:¬(ts.length:Int)=(us.length:Int):=by omega
    have hr:=HF.out fun h=>t3 (by rw [h.2.2])
    refine WC.enterP (noO_ok _ _) hG pl35 Tryz.func35 rfl (by decide +kernel) (Nat.le_of_ble_eq_true (by kernel_rfl)) ?_
    iterate 8 (all_goals try (first | with_reducible refine splitI (fun h=>?_) (fun h=>?_) | with_reducible refine splitBI (fun h=>?_) (fun h=>?_) | simp (config:={ maxSteps:=1000000 }) (disch:=first | assumption | omega | (simp; done) | fail) [Tryz.results35, *]))
    all_goals exact ⟨by show n≤n+1+1; omega,fun b (hb:b < n)=>(gput_lt (by omega)).trans (gput_lt hb)⟩
  ·have hr:=HF.out fun h=>t2 h.2.1
   refine WC.enterP (noO_ok _ _) hG pl35 Tryz.func35 rfl (by decide +kernel) (Nat.le_of_ble_eq_true (by kernel_rfl)) ?_
   iterate 8 (all_goals try (first | with_reducible refine splitI (fun h=>?_) (fun h=>?_) | with_reducible refine splitBI (fun h=>?_) (fun h=>?_) | simp (config:={ maxSteps:=1000000 }) (disch:=first | assumption | omega | (simp; done) | fail) [Tryz.results35, *]))
   all_goals exact ⟨by show n≤n+1+1; omega,fun b (hb:b < n)=>(gput_lt (by omega)).trans (gput_lt hb)⟩
 ·have hr:=HF.out fun h=>t1 h.1
  refine WC.enterP (noO_ok _ _) hG pl35 Tryz.func35 rfl (by decide +kernel) (Nat.le_of_ble_eq_true (by kernel_rfl)) ?_
  iterate 8 (all_goals try (first | with_reducible refine splitI (fun h=>?_) (fun h=>?_) | with_reducible refine splitBI (fun h=>?_) (fun h=>?_) | simp (config:={ maxSteps:=1000000 }) (disch:=first | assumption | omega | (simp; done) | fail) [Tryz.results35, *]))
  all_goals exact ⟨by show n≤n+1+1; omega,fun b (hb:b < n)=>(gput_lt (by omega)).trans (gput_lt hb)⟩
end Go.Ai
end
section
namespace Go.Ai
open Go.Proofs
set_option maxRecDepth 10000
set_option maxHeartbeats 40000000
def devP (d:Option (Nat×Nat)) : Int×Int:=match d with
 | some (i,k)=>((i:Int),(k:Int))
 | none=>(0,0)
theorem devF_at {M:MachM} {ts:List (List Int×List Int)} {k:Nat} (hk:k < ts.length) : devF M (ts.drop k) k=match neAt (runM M 0 (ts[k]).1) (ts[k]).2 0 with
  | some j=>some (k,j)
  | none=>devF M (ts.drop (k+1)) (k+1):=by
 rw [List.drop_eq_getElem_cons hk]; rfl
theorem neAt_at {a b:List Int} {j:Nat} (ha:j < a.length) (hb:j < b.length) : neAt (a.drop j) (b.drop j) j=if a[j]=b[j] then neAt (a.drop (j+1)) (b.drop (j+1)) (j+1) else some j:=by
 rw [List.drop_eq_getElem_cons ha,List.drop_eq_getElem_cons hb]; rfl
theorem neAt_end {a b:List Int} {j:Nat} (ha:a.length≤j) : neAt (a.drop j) (b.drop j) j=none:=by
 rw [List.drop_eq_nil_of_le ha]; rfl
theorem RepW.of {g:Nat→Option Blk} {n B:Nat} {w:List Int} {own:Bool} {z:Nat} (h:g B=some (.cells (wdC w) own z)) (hB:B < n) {c:Nat} : RepW g n w (.sl B 0 w.length c):=sliceV_all h hB
theorem Against_w {M:MachM} (hM:M.ok) {O:Int} {ts:List (List Int×List Int)} (hL:LogOK M.inp O ts) (g:Nat→Option Blk) (n:Nat) (ms:List AV) (sv:AV) (hr:RepM g n M ms) (hT:LogR g n ts sv) :
  WC 3 Tryz.prog 17 [.agg ms,.agg [.lit (.int .i64 M.inp),.lit (.int .i64 O),sv]] ⟨.fn g,n⟩ fun r=>∃ gX n',r=.ret (.tup [.agg [.lit (.int .i64 (devP (devF M ts 0)).1),.lit (.int .i64 (devP (devF M ts 0)).2)],.lit (.bool (devF M ts 0).isNone),.lit (.int .i64 0)]) ⟨.fn gX,n'⟩∧n≤n'∧∀ b,b < n→gX b=g b:=by
 have hlen:=@lenV Tryz.prog _ _ _ _ _ hT.choose_spec.1
 have h1s:=hT.choose_spec.1.one
 have hone:allOne [.lit (.int .i64 M.inp),.lit (.int .i64 O),sv]=true:=by simp [h1s]
 have hm0:mErr M=0:=mErr_ok.2 hM
 have HMC:=Hide.mk fun (gX:Nat→Option Blk) (n2:Nat) (hn:n≤n2) (hX:∀ b,b < n→gX b=g b)=>mCheck_w (M:=M) (fun r hr=>by have:=(hM.2.2.2.2.2.2 r hr).1; have:=hM.2.1; omega) gX n2 ms (hr.mono hn hX)
 rw [hm0] at HMC
 have HCK:=Hide.mk fun (gX:Nat→Option Blk) (n2:Nat) (hn:n≤n2) (hX:∀ b,b < n→gX b=g b)=>Check_w M.inp O ts hL.small gX n2 sv (hT.mono hn hX)
 rw [hL.err] at HCK
 obtain ⟨rv,rfl,h1v⟩:=hr.one
 have honem:allOne [.lit (.int .i64 M.inp),.lit (.int .i64 M.out),rv]=true:=by simp [h1v]
 have HR:=Hide.mk hr
 have HT:=Hide.mk hT
 have HL:=Hide.mk hL
 have HM:=Hide.mk hM
 have htl:=hL.len
 clear hr hT hL hM hm0
 obtain ⟨D,hD⟩ : ∃ D,D=devF M ts 0:=⟨_,rfl⟩
 rw [← hD]
 have HD:=Hide.mk hD
 clear hD
 refine WC.enterP (noO_ok _ _) hG [] Tryz.func17 rfl (by decide +kernel) (Nat.le_of_ble_eq_true (by kernel_rfl)) ?_
 iterate 8 (all_goals try (first | with_reducible refine splitI (fun h=>?_) (fun h=>?_) | with_reducible refine splitBI (fun h=>?_) (fun h=>?_) | simp (config:={ maxSteps:=1000000 }) (disch:=first | assumption | omega | (simp; done) | fail) [Tryz.results17, *]))
 refine WC.mono (HMC.out _ _ (by omega) fun b (hb:b < n)=>by simp (disch:=omega) only [gput_lt]) ?_
 rintro _ rfl
 iterate 8 (all_goals try (first | with_reducible refine splitI (fun h=>?_) (fun h=>?_) | with_reducible refine splitBI (fun h=>?_) (fun h=>?_) | simp (config:={ maxSteps:=1000000 }) (disch:=first | assumption | omega | (simp; done) | fail) [Tryz.results17, *]))
 refine WC.mono (HCK.out _ _ (by omega) fun b (hb:b < n)=>by simp (disch:=omega) only [gput_lt]) ?_
 rintro _ rfl
 iterate 8 (all_goals try (first | with_reducible refine splitI (fun h=>?_) (fun h=>?_) | with_reducible refine splitBI (fun h=>?_) (fun h=>?_) | simp (config:={ maxSteps:=1000000 }) (disch:=first | assumption | omega | (simp; done) | fail) [Tryz.results17, *]))
 refine LX.ind (fun m gf H'=>∃ (k n' : Nat) (gL:Nat→Option Blk),k≤ts.length∧m=ts.length - k∧H'=⟨.fn gL,n'⟩∧n+1+1+1≤n'∧Hide (∀ b,b < n→gL b=g b)∧gL n=some (.cells [.lit (.int .i64 M.inp),.lit (.int .i64 M.out),rv] true 0)∧gL (n+1+1)=some (.cells [.lit (.int .i64 0),.lit (.int .i64 0)] true 0) ∧
  Hide (D=devF M (ts.drop k) k)∧gf 2=some (.ptr n 0)∧gf 4=some (.ptr (n+1+1) 0)∧gf 34=some sv∧gf 35=some (.lit (.int .i64 ts.length))∧gf 36=some (.lit (.int .i64 k))) (m0:=ts.length) ?_ ?_
 ·refine ⟨0,_,_,Nat.zero_le _,rfl,rfl,Nat.le_refl _,⟨fun b hb=>?_⟩,?_,gput_eq,⟨HD.out⟩,by simp,by simp,by simp,by simp,by simp⟩
  ·simp (disch:=omega) only [gput_lt]
  ·simp (disch:=omega) only [gput_lt,gput_eq]
 rintro m gf H' ⟨k,n',gL,hk,rfl,rfl,hn',HG,hgn,hgp,HP,w2,w4,w34,w35,w36⟩ ih
 refine LX.roundP (noO_ok _ _) hG [] (by decide +kernel) ?_
 by_cases hlt:k < ts.length
 ·have hltI:(k:Int) < (ts.length:Int):=by omega
  obtain ⟨a2,off,s1,s2,HAT0⟩:=(HT.out.mono (show n≤n' by omega) HG.out).at hlt
  have HAT:=Hide.mk HAT0
  clear HAT0
  have hia:∀ {H:Mem} {ev:Ev} {o:Oper} {ty:TypeId},iaS Tryz.prog H ev o ty (some (none,2)) (some sv) (some (.lit (.int .i64 (k:Int))))=.val (.ptr a2 (off+k * 2)) H:=fun {H ev o ty}=>HAT.out.ia
  have han:a2 < n':=HAT.out.an
  have hagg:=HAT.out.agg
  have h1s1:oneC s1=true:=HAT.out.r1.one
  have h1s2:oneC s2=true:=HAT.out.r2.one
  have hone2:allOne [s1,s2]=true:=by simp [h1s1,h1s2]
  have HLN:=Hide.mk (HL.out.lens (List.getElem_mem hlt))
  have hw12:=HL.out.wl _ (List.getElem_mem hlt)
  have HDE:=Hide.mk (HP.out.trans (devF_at hlt))
  have HR1:=Hide.mk HAT.out.r1
  have HR2:=Hide.mk HAT.out.r2
  clear HAT
  generalize ts[k]=t at *
  have HRN:=Hide.mk fun (gX:Nat→Option Blk) (n2:Nat) (hn:n'≤n2) (hX:∀ b,b < n'→gX b=gL b)=>Run_w HM.out t.1 (by omega) HLN.out.2.1 gX n2 [.lit (.int .i64 M.inp),.lit (.int .i64 M.out),rv] s1 (HR.out.mono (by omega) fun b hb=>(hX b (by omega)).trans (HG.out b hb)) (SliceV.mono hn hX HR1.out)
  iterate 8 (all_goals try (first | with_reducible refine splitI (fun h=>?_) (fun h=>?_) | with_reducible refine splitBI (fun h=>?_) (fun h=>?_) | simp (config:={ maxSteps:=1000000 }) (disch:=first | assumption | omega | (simp; done) | fail) [Tryz.results17, *]))
  refine WC.mono (HRN.out _ _ (by omega) fun b hb=>by simp (disch:=omega) only [gput_lt]) ?_
  rintro _ ⟨B,g2,n2,rfl,hB1,hB2,hg2,hgB⟩
  have HG2:Hide (∀ b,b < n'→g2 b=gL b):=⟨fun b hb=>(hg2 b (by omega)).trans (by simp (disch:=omega) only [gput_lt])⟩
  have hgt:g2 n'=some (.cells [s1,s2] true 0):=(hg2 n' (by omega)).trans gput_eq
  have hnn:n'+1≤B:=hB1
  have hrl:(runM M 0 t.1).length=t.1.length:=runM_len _ _
  have HRW:=Hide.mk (RepW.of (n:=n2) (c:=t.1.length) hgB hB2)
  rw [hrl] at HRW
  have hgn2:=(HG2.out n (by omega)).trans hgn
  have hgp2:=(HG2.out (n+1+1) (by omega)).trans hgp
  have HR2':=Hide.mk (SliceV.mono (show n'≤n2 by omega) HG2.out HR2.out)
  clear hg2 hB1 hgB HRN hgn hgp hia hagg
  have hl2:=HLN.out.1
  generalize runM M 0 t.1=R at *
  iterate 8 (all_goals try (first | with_reducible refine splitI (fun h=>?_) (fun h=>?_) | with_reducible refine splitBI (fun h=>?_) (fun h=>?_) | simp (config:={ maxSteps:=1000000 }) (disch:=first | assumption | omega | (simp; done) | fail) [Tryz.results17, *]))
  refine LX.ind (fun m gf H'=>∃ (j:Nat),j≤t.1.length∧m=t.1.length - j∧H'=⟨.fn g2,n2⟩∧Hide (neAt R t.2 0=neAt (R.drop j) (t.2.drop j) j)∧gf 2=some (.ptr n 0)∧gf 4=some (.ptr (n+1+1) 0)∧gf 34=some sv∧gf 35=some (.lit (.int .i64 ts.length))∧gf 36=some (.lit (.int .i64 k)) ∧
   gf 9=some (.lit (.int .i64 k))∧gf 10=some (.ptr n' 0)∧gf 48=some (.sl B 0 t.1.length t.1.length)∧gf 49=some (.lit (.int .i64 t.1.length))∧gf 50=some (.lit (.int .i64 j))) (m0:=t.1.length) ?_ ?_
  ·exact ⟨0,Nat.zero_le _,rfl,rfl,⟨rfl⟩,by simp [*],by simp [*],by simp [*],by simp [*],by simp [*],by simp,by simp,by simp,by simp,by simp⟩
  clear w2 w4 w34 w35 w36
  rintro m gf H' ⟨j,hj,rfl,rfl,HNE,w2,w4,w34,w35,w36,w9,w10,w48,w49,w50⟩ ih2
  refine LX.roundP (noO_ok _ _) hG [] (by decide +kernel) ?_
  by_cases hltj:j < t.1.length
  ·have hltjI:(j:Int) < (t.1.length:Int):=by omega
   obtain ⟨a3,o3,ha3,hia3,hc3⟩:=RepW.at (w:=R) HRW.out (by omega:j < R.length)
   obtain ⟨a4,o4,ha4,hia4,hc4⟩:=RepW.at HR2'.out (by omega:j < t.2.length)
   have HNA:=Hide.mk (HNE.out.trans (neAt_at (a:=R) (b:=t.2) (by omega) (by omega)))
   generalize R[j]=x at *
   generalize t.2[j]=y at *
   by_cases hxy:x=y
   ·rw [if_pos hxy] at HNA
    subst hxy
    iterate 8 (all_goals try (first | with_reducible refine splitI (fun h=>?_) (fun h=>?_) | with_reducible refine splitBI (fun h=>?_) (fun h=>?_) | simp (config:={ maxSteps:=1000000 }) (disch:=first | assumption | omega | (simp; done) | fail) [Tryz.results17, *]))
    exact ih2.out (t.1.length - (j+1)) _ _ (by omega) ⟨j+1,by omega,rfl,rfl,HNA,by simp [*],by simp [*],by simp [*],by simp [*],by simp [*],by simp [*],by simp [*],by simp [*],by simp [*],by simp⟩
   ·rw [if_neg hxy] at HNA
    have hDE:=HDE.out
    rw [HNA.out] at hDE
    have hDE2:D=some (k,j):=hDE
    clear hDE HDE HD HP
    subst hDE2
    iterate 8 (all_goals try (first | with_reducible refine splitI (fun h=>?_) (fun h=>?_) | with_reducible refine splitBI (fun h=>?_) (fun h=>?_) | simp (config:={ maxSteps:=1000000 }) (disch:=first | assumption | omega | (simp; done) | fail) [Tryz.results17, *]))
    refine ⟨_,_,⟨⟨rfl,rfl⟩,rfl,rfl⟩,by omega,fun b hb=>?_⟩
    simp (disch:=omega) only [gput_lt]
    exact (HG2.out b (by omega)).trans (HG.out b hb)
  ·have hltjI:¬(j:Int) < (t.1.length:Int):=by omega
   have hNN:=HNE.out.trans (neAt_end (by omega))
   have hDE:=HDE.out
   rw [hNN] at hDE
   have HDN:Hide (D=devF M (ts.drop (k+1)) (k+1)):=⟨hDE⟩
   clear hDE hNN
   iterate 8 (all_goals try (first | with_reducible refine splitI (fun h=>?_) (fun h=>?_) | with_reducible refine splitBI (fun h=>?_) (fun h=>?_) | simp (config:={ maxSteps:=1000000 }) (disch:=first | assumption | omega | (simp; done) | fail) [Tryz.results17, *]))
   refine ih.out (ts.length - (k+1)) _ _ (by omega) ⟨k+1,n2,g2,by omega,rfl,rfl,by omega,⟨fun b hb=>(HG2.out b (by omega)).trans (HG.out b hb)⟩,hgn2,hgp2,HDN,by simp [*],by simp [*],by simp [*],by simp [*],by simp⟩
 ·have hltI:¬(k:Int) < (ts.length:Int):=by omega
  have hDE:D=none:=by rw [HP.out,List.drop_eq_nil_of_le (by omega)]; rfl
  clear HP HD
  subst hDE
  iterate 8 (all_goals try (first | with_reducible refine splitI (fun h=>?_) (fun h=>?_) | with_reducible refine splitBI (fun h=>?_) (fun h=>?_) | simp (config:={ maxSteps:=1000000 }) (disch:=first | assumption | omega | (simp; done) | fail) [Tryz.results17, *]))
  refine ⟨_,_,⟨⟨rfl,rfl⟩,rfl,rfl⟩,by omega,fun b hb=>?_⟩
  simp (disch:=omega) only [gput_lt]
  exact HG.out b hb
end Go.Ai
end
section
namespace Go.Ai
open Go.Proofs
set_option maxRecDepth 10000
set_option maxHeartbeats 40000000
theorem neAt_self:∀ (x:List Int) (k:Nat),neAt x x k=none
 | [],_=>rfl
 | a :: x,k=>by
  show (if a=a then neAt x x (k+1) else some k)=none
  rw [if_pos rfl]; exact neAt_self x _
theorem devF_self {M:MachM} : ∀ (l:List (List Int)) (i:Nat),devF M (l.map fun w=>(w,runM M 0 w)) i=none
 | [],_=>rfl
 | w :: l,i=>by
  show (match neAt (runM M 0 w) (runM M 0 w) 0 with | some k=>some (i,k) | none=>devF M (l.map fun w=>(w,runM M 0 w)) (i+1))=none
  rw [neAt_self]
  exact devF_self l _
theorem ofErr_ok {M:MachM} (hM:M.ok) {l:List (List Int)} (hl:l.length≤20) (h:ofErr M.inp l=0) : LogOK M.inp M.out (l.map fun w=>(w,runM M 0 w)):=by
 have h1:l.all (fun w=>decide (w.length≤256))=true∧l.all (fun w=>inW w M.inp)=true:=by
  unfold ofErr at h
  split at h
  ·rename_i h1
   split at h
   ·rename_i h2; exact ⟨h1,h2⟩
   ·cases h
  ·cases h
 rw [List.all_eq_true,List.all_eq_true] at h1
 have h0:=hM.2.2.2.2.1
 refine ⟨by rw [List.length_map]; omega,hM.1,hM.2.1,hM.2.2.1,hM.2.2.2.1,fun t ht=>?_,fun t ht=>?_⟩
 ·obtain ⟨w,hw,rfl⟩:=List.mem_map.1 ht
  exact of_decide_eq_true (h1.1 w hw)
 ·obtain ⟨w,hw,rfl⟩:=List.mem_map.1 ht
  exact validB_of (runM_len _ _) (h1.2 w hw) (okR_run hM w 0 false (.inr ⟨0,rfl,by omega⟩) (fun h=>by cases h) (h1.2 w hw))
theorem tracesOf_w (st inp out:Nat) (part:Bool) (es:List Nat) (ev:AV) (hst:st < 256) (hinp:inp < 256) (hout:out < 256) (l:List (List Int)) (m:Int) (g:Nat→Option Blk) (n:Nat) (lv:AV) (hV:ListV g n l lv) (hcap:CapV lv) (hes:SliceA g n ev es.length (u16Cells es)) (heb:∀ c∈es,c < 65536) (h0:g 0=some (.cells [.lit (.int .i64 m)] false 0)) (hn0:3≤n) :
  WC 3 Tryz.prog 12 [.agg [.lit (.int .u8 st),.lit (.int .u8 inp),.lit (.int .u8 out),.lit (.bool part),ev],lv] ⟨.fn g,n⟩ fun r=>r=.ret (.lit (.bool true)) ⟨.fn g,n⟩:=by
 refine WC.drop1 rfl ?_
 have h1v:=hes.one
 have h1l:=hV.choose_spec.1.one
 have hlen:=@lenV Tryz.prog _ _ _ _ _ hV.choose_spec.1
 have honem:allOne [.lit (.int .u8 st),.lit (.int .u8 inp),.lit (.int .u8 out),.lit (.bool part),ev]=true:=by simp [h1v]
 have HLV:=Hide.mk fun (gX:Nat→Option Blk) (n2:Nat) (hX:∀ b,b < n→gX b=g b)=>lives_w ⟨.fn gX,n2⟩ m ((hX 0 (by omega)).trans h0)
 have HMO:=Hide.mk fun (gX:Nat→Option Blk) (n2:Nat) (hn:n≤n2) (hX:∀ b,b < n→gX b=g b)=>MOf_w st inp out part es ev gX n2 hst hinp hout (hes.mono hn hX) heb
 have HK:=Hide.mk (machOf_ok st inp out part es)
 have HV:=Hide.mk hV
 clear hV hes heb h0
 generalize machOf st inp out part es=M at *
 by_cases t1:l.length > 20
 ·have t1I:20 < (l.length:Int):=by omega
  refine WC.enterP (noO_ok _ _) hG [] Tryz.func12 rfl (by decide +kernel) (Nat.le_of_ble_eq_true (by kernel_rfl)) ?_
  iterate 8 (all_goals try (first | with_reducible refine splitI (fun h=>?_) (fun h=>?_) | with_reducible refine splitBI (fun h=>?_) (fun h=>?_) | simp (config:={ maxSteps:=1000000 }) (disch:=first | assumption | omega | (simp; done) | fail) [Tryz.results12, *]))
  all_goals exact ⟨Nat.le_succ n,fun b (hb:b < n)=>gput_lt hb⟩
 have t1I:¬20 < (l.length:Int):=by omega
 refine WC.enterP (noO_ok _ _) hG [] Tryz.func12 rfl (by decide +kernel) (Nat.le_of_ble_eq_true (by kernel_rfl)) ?_
 iterate 8 (all_goals try (first | with_reducible refine splitI (fun h=>?_) (fun h=>?_) | with_reducible refine splitBI (fun h=>?_) (fun h=>?_) | simp (config:={ maxSteps:=1000000 }) (disch:=first | assumption | omega | (simp; done) | fail) [Tryz.results12, *]))
 refine LX.ind (fun m gf H'=>∃ (k:Nat),k≤l.length∧m=l.length - k∧H'=⟨.fn (gput g n (some (.cells [.lit (.int .u8 st),.lit (.int .u8 inp),.lit (.int .u8 out),.lit (.bool part),ev] true 0))),n+1⟩ ∧
  Hide (∀ w∈l.take k,w.length≤300)∧gf 1=some lv∧gf 2=some (.ptr n 0)∧gf 5=some (.lit (.int .i64 k))) (m0:=l.length) ?_ ?_
 ·exact ⟨0,Nat.zero_le _,rfl,rfl,⟨by simp⟩,by simp,by simp,by simp⟩
 rintro m gf H' ⟨k,hk,rfl,rfl,HP,w1,w2,w5⟩ ih
 refine LX.roundP (noO_ok _ _) hG [] (by decide +kernel) ?_
 by_cases hlt:k < l.length
 ·have hltI:(k:Int) < (l.length:Int):=by omega
  obtain ⟨a2,off,q,ha2,hia,hcell,hrw⟩:=HV.out.at hlt
  have hlq:=@lenV Tryz.prog _ _ _ _ _ hrw
  have HTK:Hide (l.take (k+1)=l.take k++[l[k]]):=⟨take_snoc hlt⟩
  clear hrw
  generalize l[k]=w at *
  by_cases hb1:w.length > 300
  ·have hbI:300 < (w.length:Int):=by omega
   iterate 8 (all_goals try (first | with_reducible refine splitI (fun h=>?_) (fun h=>?_) | with_reducible refine splitBI (fun h=>?_) (fun h=>?_) | simp (config:={ maxSteps:=1000000 }) (disch:=first | assumption | omega | (simp; done) | fail) [Tryz.results12, *]))
   all_goals exact ⟨Nat.le_succ n,fun b (hb:b < n)=>gput_lt hb⟩
  have hbI:¬300 < (w.length:Int):=by omega
  have HP2:Hide (∀ v∈l.take (k+1),v.length≤300):=⟨fun v hv=>by
   rw [HTK.out] at hv
   rcases List.mem_append.1 hv with h | h
   ·exact HP.out v h
   ·rw [List.mem_singleton.1 h]; omega⟩
  iterate 8 (all_goals try (first | with_reducible refine splitI (fun h=>?_) (fun h=>?_) | with_reducible refine splitBI (fun h=>?_) (fun h=>?_) | simp (config:={ maxSteps:=1000000 }) (disch:=first | assumption | omega | (simp; done) | fail) [Tryz.results12, *]))
  exact ih.out (l.length - (k+1)) _ _ (by omega) ⟨k+1,by omega,rfl,rfl,HP2,by simp [*],by simp [*],by simp⟩
 ·have hltI:¬(k:Int) < (l.length:Int):=by omega
  have hkl:k=l.length:=by omega
  subst hkl
  have hw300:∀ w∈l,w.length≤300:=fun w hw=>HP.out w (by rw [List.take_length]; exact hw)
  have hl20:l.length≤20:=by omega
  have HOF:=Hide.mk fun (ms:List AV) (gX:Nat→Option Blk) (n2:Nat) (hn:n≤n2) (hX:∀ b,b < n→gX b=g b) (hR:RepM gX n2 M ms)=>Of_w HK.out l hl20 hw300 gX n2 ms lv hR (HV.out.mono hn hX) hcap
  have HRO:=Hide.mk fun (ms:List AV) (gX:Nat→Option Blk) (n2:Nat) (hn:n≤n2) (hX:∀ b,b < n→gX b=g b) (hR:RepM gX n2 M ms)=>rOf_w HK.out l hl20 hw300 gX n2 ms lv hR (HV.out.mono hn hX)
  have HSML:Hide (SmallL (l.map fun w=>(w,runM M 0 w))):=⟨⟨by rw [List.length_map]; omega,fun t ht=>by obtain ⟨w,hw,rfl⟩:=List.mem_map.1 ht; exact hw300 w hw,fun t ht=>by obtain ⟨w,hw,rfl⟩:=List.mem_map.1 ht; show (runM M 0 w).length≤300; rw [runM_len]; exact hw300 w hw⟩⟩
  have HOK:Hide (ofErr M.inp l=0→LogOK M.inp M.out (l.map fun w=>(w,runM M 0 w))):=⟨fun h=>ofErr_ok HK.out hl20 h⟩
  have HDV:=Hide.mk (devF_self (M:=M) l 0)
  have HLL:Hide ((l.map fun w=>(w,runM M 0 w)).length=l.length):=⟨by rw [List.length_map]⟩
  clear hw300 hcap HP ih
  generalize (l.map fun w=>(w,runM M 0 w))=ts at *
  iterate 8 (all_goals try (first | with_reducible refine splitI (fun h=>?_) (fun h=>?_) | with_reducible refine splitBI (fun h=>?_) (fun h=>?_) | simp (config:={ maxSteps:=1000000 }) (disch:=first | assumption | omega | (simp; done) | fail) [Tryz.results12, *]))
  refine WC.mono (HMO.out _ _ (by omega) fun b (hb:b < n)=>by simp (disch:=omega) only [gput_lt]) ?_
  rintro _ ⟨ms,g1,n1,rfl,hn1,hg1,hfr⟩
  have HG1:Hide (∀ b,b < n→g1 b=g b):=⟨fun b hb=>(hg1 b (by omega)).trans (by simp (disch:=omega) only [gput_lt])⟩
  obtain ⟨rv,rfl,h1r⟩:=hfr.rep.one
  have honeR:allOne [.lit (.int .i64 M.inp),.lit (.int .i64 M.out),rv]=true:=by simp [h1r]
  have HREP:=Hide.mk hfr.rep
  have hnn1:n+1≤n1:=hn1
  clear hg1 hn1 hfr HMO
  iterate 8 (all_goals try (first | with_reducible refine splitI (fun h=>?_) (fun h=>?_) | with_reducible refine splitBI (fun h=>?_) (fun h=>?_) | simp (config:={ maxSteps:=1000000 }) (disch:=first | assumption | omega | (simp; done) | fail) [Tryz.results12, *]))
  refine WC.mono (HOF.out _ _ _ (by omega) (fun b (hb:b < n)=>by simp (disch:=omega) only [gput_lt]; exact HG1.out b hb) (HREP.out.mono (by omega) fun b hb=>gput_lt hb)) ?_
  rintro _ ⟨cs,g2,n2,rfl,hn2,hg2,hgot⟩
  have HG2:Hide (∀ b,b < n1→g2 b=g1 b):=⟨fun b hb=>(hg2 b (by omega)).trans (gput_lt hb)⟩
  have hm2:g2 n1=some (.cells [.lit (.int .i64 M.inp),.lit (.int .i64 M.out),rv] true 0):=(hg2 n1 (by omega)).trans gput_eq
  have hnn2:n1+1≤n2:=hn2
  clear hg2 hn2
  have hcs:(¬ofErr M.inp l=0∧cs=[.lit (.int .i64 0),.lit (.int .i64 0),.lit (.slice none 0 0)])∨(ofErr M.inp l=0∧∃ B,cs=[.lit (.int .i64 M.inp),.lit (.int .i64 M.out),.sl B 0 l.length l.length]∧LogR g2 n2 ts (.sl B 0 l.length l.length)):=hgot
  clear hgot
  rcases hcs with ⟨he,rfl⟩ | ⟨he,B,rfl,hlr⟩
  ·have HRO2:Hide (∀ (gX:Nat→Option Blk) (n3:Nat),n≤n3→(∀ b,b < n→gX b=g b)→RepM gX n3 M [.lit (.int .i64 M.inp),.lit (.int .i64 M.out),rv]→WC 3 Tryz.prog 43 [.agg [.lit (.int .i64 M.inp),.lit (.int .i64 M.out),rv],lv] ⟨.fn gX,n3⟩ fun r=>∃ gY n',r=.ret (.tup [.agg [.lit (.int .i64 0),.lit (.int .i64 0),.lit (.slice none 0 0)],.lit (.int .i64 (ofErr M.inp l))]) ⟨.fn gY,n'⟩∧n3≤n'∧(∀ b,b < n3→gY b=gX b)):=⟨fun gX n3 h1 h2 h3=>by
    refine WC.mono (HRO.out _ gX n3 h1 h2 h3) ?_
    rintro _ ⟨cs,gY,n',rfl,k1,k2,⟨_,rfl⟩ | ⟨k3,_⟩⟩
    ·exact ⟨gY,n',rfl,k1,k2⟩
    ·exact absurd k3 he⟩
   have HEQ:=Hide.mk fun (gX:Nat→Option Blk) (n3:Nat)=>Equal_w (I:=0) (O:=0) (I2:=0) (O2:=0) (ts:=[]) (us:=[]) ⟨by simp,by simp,by simp⟩ ⟨by simp,by simp,by simp⟩ gX n3 (.lit (.slice none 0 0)) (.lit (.slice none 0 0)) ⟨[],.inl ⟨rfl,rfl,.inl rfl⟩,rfl,fun k hk=>by cases hk⟩ ⟨[],.inl ⟨rfl,rfl,.inl rfl⟩,rfl,fun k hk=>by cases hk⟩
   rw [show decide ((0:Int)=0∧(0:Int)=0∧([] : List (List Int×List Int))=[])=true by simp] at HEQ
   clear HOF HRO HSML HOK HDV HLL
   generalize ofErr M.inp l=e at *
   iterate 8 (all_goals try (first | with_reducible refine splitI (fun h=>?_) (fun h=>?_) | with_reducible refine splitBI (fun h=>?_) (fun h=>?_) | simp (config:={ maxSteps:=1000000 }) (disch:=first | assumption | omega | (simp; done) | fail) [Tryz.results12, *]))
   refine WC.mono (HRO2.out _ _ (by omega) (fun b (hb:b < n)=>by simp (disch:=omega) only [gput_lt]; rw [HG2.out b (by omega),HG1.out b hb]) (HREP.out.mono (by omega) fun b hb=>by simp (disch:=omega) only [gput_lt]; exact HG2.out b hb)) ?_
   rintro _ ⟨g3,n3,rfl,hn3,hg3⟩
   have HG3:Hide (∀ b,b < n2→g3 b=g2 b):=⟨fun b hb=>(hg3 b (by omega)).trans (gput_lt hb)⟩
   have hm3:=(HG3.out n1 (by omega)).trans hm2
   have hgot3:=hg3 n2 (by omega)
   simp only [gput_eq] at hgot3
   have hnn3:n2+1≤n3:=hn3
   clear hg3 hn3 hm2
   iterate 8 (all_goals try (first | with_reducible refine splitI (fun h=>?_) (fun h=>?_) | with_reducible refine splitBI (fun h=>?_) (fun h=>?_) | simp (config:={ maxSteps:=1000000 }) (disch:=first | assumption | omega | (simp; done) | fail) [Tryz.results12, *]))
   refine WC.mono (HEQ.out _ _) ?_
   rintro _ rfl
   iterate 8 (all_goals try (first | with_reducible refine splitI (fun h=>?_) (fun h=>?_) | with_reducible refine splitBI (fun h=>?_) (fun h=>?_) | simp (config:={ maxSteps:=1000000 }) (disch:=first | assumption | omega | (simp; done) | fail) [Tryz.results12, *]))
   refine WC.mono (HLV.out _ _ fun b (hb:b < n)=>by simp (disch:=omega) only [gput_lt]; rw [HG3.out b (by omega),HG2.out b (by omega),HG1.out b hb]) ?_
   rintro _ rfl
   iterate 8 (all_goals try (first | with_reducible refine splitI (fun h=>?_) (fun h=>?_) | with_reducible refine splitBI (fun h=>?_) (fun h=>?_) | simp (config:={ maxSteps:=1000000 }) (disch:=first | assumption | omega | (simp; done) | fail) [Tryz.results12, *]))
   exact ⟨by show n≤n3+1; omega,fun b (hb:b < n)=>(gput_lt (by omega)).trans ((HG3.out b (by omega)).trans ((HG2.out b (by omega)).trans (HG1.out b hb)))⟩
  ·have HRO2:Hide (∀ (gX:Nat→Option Blk) (n3:Nat),n≤n3→(∀ b,b < n→gX b=g b)→RepM gX n3 M [.lit (.int .i64 M.inp),.lit (.int .i64 M.out),rv]→WC 3 Tryz.prog 43 [.agg [.lit (.int .i64 M.inp),.lit (.int .i64 M.out),rv],lv] ⟨.fn gX,n3⟩ fun r=>∃ sv gY n',r=.ret (.tup [.agg [.lit (.int .i64 M.inp),.lit (.int .i64 M.out),sv],.lit (.int .i64 0)]) ⟨.fn gY,n'⟩∧n3≤n'∧(∀ b,b < n3→gY b=gX b)∧LogR gY n' ts sv):=⟨fun gX n3 h1 h2 h3=>by
    refine WC.mono (HRO.out _ gX n3 h1 h2 h3) ?_
    rintro _ ⟨cs,gY,n',rfl,k1,k2,⟨k3,_⟩ | ⟨_,sv,rfl,k4⟩⟩
    ·exact absurd he k3
    ·rw [he]; exact ⟨sv,gY,n',rfl,k1,k2,k4⟩⟩
   have HL2:=Hide.mk (HOK.out he)
   have HLR:=Hide.mk hlr
   rw [he]
   clear HOF HRO HOK hlr he
   iterate 8 (all_goals try (first | with_reducible refine splitI (fun h=>?_) (fun h=>?_) | with_reducible refine splitBI (fun h=>?_) (fun h=>?_) | simp (config:={ maxSteps:=1000000 }) (disch:=first | assumption | omega | (simp; done) | fail) [Tryz.results12, *]))
   refine WC.mono (HRO2.out _ _ (by omega) (fun b (hb:b < n)=>by simp (disch:=omega) only [gput_lt]; rw [HG2.out b (by omega),HG1.out b hb]) (HREP.out.mono (by omega) fun b hb=>by simp (disch:=omega) only [gput_lt]; exact HG2.out b hb)) ?_
   rintro _ ⟨sv,g3,n3,rfl,hn3,hg3,hls⟩
   have HG3:Hide (∀ b,b < n2→g3 b=g2 b):=⟨fun b hb=>(hg3 b (by omega)).trans (gput_lt hb)⟩
   have hm3:=(HG3.out n1 (by omega)).trans hm2
   have hgot3:=hg3 n2 (by omega)
   simp only [gput_eq] at hgot3
   have hnn3:n2+1≤n3:=hn3
   have h1sv:=hls.choose_spec.1.one
   have honeS:allOne [.lit (.int .i64 M.inp),.lit (.int .i64 M.out),sv]=true:=by simp [h1sv]
   have HLS:=Hide.mk hls
   clear hg3 hn3 hm2 hls
   have HEQ:=Hide.mk fun (gX:Nat→Option Blk) (n4:Nat) (h1:n3≤n4) (h2:∀ b,b < n3→gX b=g3 b)=>Equal_w (I:=M.inp) (O:=M.out) (I2:=M.inp) (O2:=M.out) HSML.out HSML.out gX n4 (.sl B 0 l.length l.length) sv (HLR.out.mono (by omega) fun b hb=>(h2 b (by omega)).trans (HG3.out b hb)) (HLS.out.mono h1 h2)
   rw [show decide (M.inp=M.inp∧M.out=M.out∧ts=ts)=true by simp] at HEQ
   have HAG:=Hide.mk fun (gX:Nat→Option Blk) (n4:Nat) (h1:n3≤n4) (h2:∀ b,b < n3→gX b=g3 b)=>Against_w HK.out HL2.out gX n4 _ (.sl B 0 l.length l.length) (HREP.out.mono (by omega) fun b hb=>by rw [h2 b (by omega),HG3.out b (by omega),HG2.out b hb]) (HLR.out.mono (by omega) fun b hb=>(h2 b (by omega)).trans (HG3.out b hb))
   rw [HDV.out,show devP none=(0,0) from rfl,show (none:Option (Nat×Nat)).isNone=true from rfl] at HAG
   iterate 8 (all_goals try (first | with_reducible refine splitI (fun h=>?_) (fun h=>?_) | with_reducible refine splitBI (fun h=>?_) (fun h=>?_) | simp (config:={ maxSteps:=1000000 }) (disch:=first | assumption | omega | (simp; done) | fail) [Tryz.results12, *]))
   refine WC.mono (HEQ.out _ _ (by omega) fun b hb=>by simp (disch:=omega) only [gput_lt]) ?_
   rintro _ rfl
   iterate 8 (all_goals try (first | with_reducible refine splitI (fun h=>?_) (fun h=>?_) | with_reducible refine splitBI (fun h=>?_) (fun h=>?_) | simp (config:={ maxSteps:=1000000 }) (disch:=first | assumption | omega | (simp; done) | fail) [Tryz.results12, *]))
   refine WC.mono (HAG.out _ _ (by omega) fun b hb=>by simp (disch:=omega) only [gput_lt]) ?_
   rintro _ ⟨g4,n4,rfl,hn4,hg4⟩
   have HG4:Hide (∀ b,b < n3→g4 b=g3 b):=⟨fun b hb=>(hg4 b (by omega)).trans (gput_lt hb)⟩
   clear hg4
   iterate 8 (all_goals try (first | with_reducible refine splitI (fun h=>?_) (fun h=>?_) | with_reducible refine splitBI (fun h=>?_) (fun h=>?_) | simp (config:={ maxSteps:=1000000 }) (disch:=first | assumption | omega | (simp; done) | fail) [Tryz.results12, *]))
   refine WC.mono (HLV.out _ _ fun b (hb:b < n)=>by simp (disch:=omega) only [gput_lt]; rw [HG4.out b (by omega),HG3.out b (by omega),HG2.out b (by omega),HG1.out b hb]) ?_
   rintro _ rfl
   iterate 8 (all_goals try (first | with_reducible refine splitI (fun h=>?_) (fun h=>?_) | with_reducible refine splitBI (fun h=>?_) (fun h=>?_) | simp (config:={ maxSteps:=1000000 }) (disch:=first | assumption | omega | (simp; done) | fail) [Tryz.results12, *]))
   exact ⟨by show n≤n4+1; omega,fun b (hb:b < n)=>(gput_lt (by omega)).trans ((HG4.out b (by omega)).trans ((HG3.out b (by omega)).trans ((HG2.out b (by omega)).trans (HG1.out b hb))))⟩
end Go.Ai
end
section
namespace Go.Ai
open Go.Proofs Go.ChangeShapes Go.WideShapes Go.ChangeAt Go.RowKit
set_option maxRecDepth 10000
variable {H:Type} {enc:TypeId×Value→H} {w:World}
theorem words_of {g:Nat→Option Blk} {b:Nat} : ∀ {l:List (List Int)} {cs:List AV},RL WordR g b l cs→RowsW g b l cs
 | [],_,h=>by
  have h:_=[]:=h
  subst h
  exact ⟨rfl,fun k hk=>by simp at hk⟩
 | x :: l,_,⟨c,r,h1,⟨sv,h2,h3,h4⟩,h5⟩=>by
  obtain ⟨i1,i2⟩:=words_of h5
  subst h1 h2
  refine ⟨by simp [i1],fun k hk=>?_⟩
  cases k with
  | zero=>exact ⟨sv,rfl,h3⟩
  | succ k =>
   obtain ⟨t1,j1,j2⟩:=i2 k (by simpa using hk)
   exact ⟨t1,by simpa using j1,j2⟩
theorem listv_mk (fuel:Nat) (s:Value) (d:DataW H) (p:List MemPlace) (h:DataW.trod enc Tryz.prog w 0 (fun _=>true) true fuel 93 [s]=some (d,p)) (N:Nat) (hN:fuel≤N) (g:Nat→Option Blk) (b:Nat) :
  ∃ sv g' b' l,mkD Tryz.prog noTok N 93 d ⟨.fn g,b⟩=some ([sv],⟨.fn g',b'⟩)∧b≤b'∧(∀ a,a < b→g' a=g a)∧ListV g' b' l sv∧CapV sv:=by
 obtain ⟨sv,g1,b1,l,e1,t1,t2,tc,t3⟩:=name_slice (R:=WordR) Tryz.underlying93 c57 (by decide) (fun h1 h2 ⟨s1,e,h3,h4⟩=>⟨s1,e,SliceV.mono h1 h2 h3,h4⟩) (fun ⟨s1,e,_,_⟩=>by rw [e]; rfl) h (fun m cs d p _ h N hN g b=>word_mk m cs d p h N hN g b) N hN g b
 refine ⟨sv,g1,b1,l,e1,t1,t2,?_,tc⟩
 rcases t3 with ⟨rfl,h⟩ | ⟨a,off,r,q1,q2,q3,q4⟩
 ·exact ⟨[],.inl ⟨rfl,rfl,h⟩,rfl,fun k hk=>by simp at hk⟩
 ·exact ⟨r,.inr ⟨a,off,q1,.inl q2,q3⟩,words_of q4⟩
theorem calls_O {W:World} {v0 v1:Value} {d0 d1:DataW H} {p0 p1:List MemPlace} {base:Nat} (hL:W.ShapedOpen Tryz.prog) (h0:DataW.Trod enc Tryz.prog W 0 (fun _=>true) true 27 v0 d0 p0) (h1:DataW.Trod enc Tryz.prog W 0 (fun _=>true) true 93 v1 d1 p1) (k0:Value.okWide Tryz.prog W .any base 27 v0) (k1:Value.okWide Tryz.prog W .any base 93 v1) :
  Calls Tryz.prog 12 #[v0,v1] W fun e W'=>e=.returned (.bool true)∧Below W.heap.size W W':=by
 have c1:v1.cells.toList=[v1]:=okWide_cells k1 (by intro fs; rw [Tryz.underlying93]; simp) (by intro n e; rw [Tryz.underlying93]; simp)
 simp only [Value.okWide,Tryz.underlying27] at k0
 obtain ⟨cm,rfl,_⟩:=k0
 obtain ⟨f0,h0⟩:=h0
 obtain ⟨f1,h1⟩:=h1
 rw [c1] at h1
 obtain ⟨m,g,ρ,hg0,s,hno⟩:=start34 hL
 obtain ⟨st,inp,out,part,es,ev,g1,n1,e1,t1,t2,b0,b1,b2,t3,t4⟩:=M_mk f0 _ d0 p0 h0 f0 (Nat.le_refl _) g 3
 obtain ⟨ρ1,M1⟩:=mkD_sound (sp:=fun _=>true) (fun _=>rfl) (noTok_ok enc) f0 f0 27 _ d0 p0 ⟨.fn g,3⟩ _ _ ρ h0 (fun h=>by cases h) s hno e1
 obtain ⟨lv,g2,n2,l,e2,u1,u2,u3,u4⟩:=listv_mk f1 _ d1 p1 h1 f1 (Nat.le_refl _) g1 n1
 obtain ⟨ρ2,M2⟩:=mkD_sound (sp:=fun _=>true) (fun _=>rfl) (noTok_ok enc) f1 f1 93 _ d1 p1 ⟨.fn g1,n1⟩ _ _ ρ1 h1 (fun h=>by cases h) M1.sim M1.no e2
 have hv1:VR ρ2 lv v1:=by obtain ⟨_,_,e,h,_⟩:=M2.vals; cases e; exact h
 have hw:=tracesOf_w st inp out part es ev b0 b1 b2 l m g2 n2 lv u3 u4 (t3.mono u1 u2) t4 (((u2 0 (by omega)).trans (t2 0 (by omega))).trans hg0) (by omega)
 refine (hw W.heap.size ρ2 #[.agg cm,v1] W M2.sim ?_).mono ?_
 ·exact ⟨_,_,rfl,⟨cm,rfl,M1.vals.mono (M2.sub M1.sim)⟩,_,_,rfl,hv1,rfl⟩
 ·rintro e W' ⟨r,rfl,hcp⟩
  cases e with
  | returned u=>obtain ⟨ρ',q1,q2,q3,q4⟩:=hcp; exact ⟨congrArg _ q3,q1.below⟩
  | _=>exact hcp.elim
end Go.Ai
end
section
namespace Go.Proofs.YtiddfilinnbhaaaGreatDoor
open Go Go.Ai Go.ChangeShapes Go.WideShapes Go.ChangeAt Go.RowKit
theorem own:ownKnob Tryz.prog.godebug=none:=by kernel_rfl
theorem laidOut:laidOutB Tryz.prog=true:=by kernel_rfl
noncomputable def door (os:Os) : World:=World.laidAll Tryz.prog os Rows.tracesCheckRow.laid
theorem door_met (os:Os) (args:Array Value) : laidMetH Tryz.prog Rows.tracesCheckRow.laid ((door os).forCall (fun _ _=>0) ⟨#[],args,[]⟩).memory:=by
 rw [MakeChecks.laidMetH_plain _ _ _ (by kernel_rfl)]
 exact laidMet_laidAll _ (by kernel_rfl) (by kernel_rfl)
end Go.Proofs.YtiddfilinnbhaaaGreatDoor
end
