/- A small verified interpreter over names, its proofs, and what was proved with it. No condition. -/
import Derived.Test.YtiddfilinnbhaaaGreatDoorB19
import Derived.Test.YtiddfilinnbhaaaGreatDoorB16
import Derived.Test.YtiddfilinnbhaaaGreatDoorB13
set_option linter.all false
set_option linter.deprecated false
section
namespace Go.Ai
open Go.Proofs
set_option maxRecDepth 10000
set_option maxHeartbeats 40000000
theorem tracesBack_w {st inp out:Nat} {part:Bool} {es:List Nat} {ev:AV} {ws:List (List Nat)} {wv:AV} (ia ib ic:Nat) (hia:ia < 256) (hib:ib < 256) (hic:ic < 256) (m:Int) (g:Nat→Option Blk) (n:Nat) (hI:InG g n st inp out es ev ws wv) (h0:g 0=some (.cells [.lit (.int .i64 m)] false 0)) (hn0:3≤n) :
  WC 3 Tryz.prog 8 [.agg [.lit (.int .u8 st),.lit (.int .u8 inp),.lit (.int .u8 out),.lit (.bool part),ev,wv,.lit (.int .u8 ia),.lit (.int .u8 ib),.lit (.int .u8 ic)]] ⟨.fn g,n⟩ fun r=>r=.ret (.lit (.bool true)) ⟨.fn g,n⟩:=by
 refine WC.drop1 rfl ?_
 have h1e:=hI.se.one
 have h1w:=hI.sw.choose_spec.1.one
 have hone:allOne [.lit (.int .u8 st),.lit (.int .u8 inp),.lit (.int .u8 out),.lit (.bool part),ev,wv,.lit (.int .u8 ia),.lit (.int .u8 ib),.lit (.int .u8 ic)]=true:=by simp [h1e,h1w]
 have HLV:=Hide.mk fun (gX:Nat→Option Blk) (n2:Nat) (hX:∀ b,b < n→gX b=g b)=>lives_w ⟨.fn gX,n2⟩ m ((hX 0 (by omega)).trans h0)
 have HGO:=Hide.mk fun (gX:Nat→Option Blk) (n2:Nat) (hn:n≤n2) (hX:∀ b,b < n→gX b=g b)=>GOf_c (part:=part) ia ib ic hia hib hic gX n2 (hI.mono hn hX)
 have HK1:=Hide.mk (machOf_ok st inp out part es)
 clear hI h0
 generalize machOf st inp out part es=M at *
 have HL:=Hide.mk (ofG_ok HK1.out ws ia ib ic)
 generalize ofG M ws ia ib ic=ts at *
 generalize M.inp=Iz at *
 generalize M.out=O at *
 clear HK1
 obtain ⟨I,rfl⟩ : ∃ I:Nat,Iz=I:=⟨Iz.toNat,by have:=HL.out.i1; omega⟩
 have hI1:=HL.out.i1
 have hI2:=HL.out.i2
 have hI1' : 1≤I:=by omega
 have hI2' : I≤16:=by omega
 have hO1:=HL.out.o1
 have hO2:=HL.out.o2
 have htl:=HL.out.len
 refine WC.enterP (noO_ok _ _) hG pl8 Tryz.func8 rfl (by decide +kernel) (Nat.le_of_ble_eq_true (by kernel_rfl)) ?_
 iterate 8 all_goals try first|with_reducible refine spI (fun h=>?_) fun h=>?_|with_reducible refine spB (fun h=>?_) fun h=>?_|simp (maxSteps:=999999) (disch:=first|assumption|omega|(simp;done)|fail) [*]
 refine WC.mono (HGO.out _ _ (by omega) fun b (hb:b < n)=>by simp (disch:=omega) only [gpl]) ?_
 rintro _ ⟨sv,g1,n1,B,rfl,hn1,hg1,hlf⟩
 have HG1:Hide (∀ b,b < n→g1 b=g b):=⟨fun b hb=>(hg1 b (by omega)).trans (by simp (disch:=omega) only [gpl])⟩
 have hx1:=hg1 n (by omega)
 simp (disch:=omega) only [gpl,gpe] at hx1
 have HT:=Hide.mk hlf.logX
 have HCP:Hide (CapV sv):=⟨capV_grow hlf.choose_spec.1⟩
 have h1sv:=hlf.one
 have honeL:allOne [.lit (.int .i64 I),.lit (.int .i64 O),sv]=true:=by simp [h1sv]
 clear hg1 hlf HGO
 cases hD:conB ts ts 0 with
 | some D =>
  have HTB:=Hide.mk fun (gX:Nat→Option Blk) (n3:Nat) (hn:n1≤n3) (hX:∀ b,b < n1→gX b=g1 b)=>TreeOf_bad HL.out hD gX n3 sv (HT.out.mono hn hX).log HCP.out
  clear hD
  iterate 8 all_goals try first|with_reducible refine spI (fun h=>?_) fun h=>?_|with_reducible refine spB (fun h=>?_) fun h=>?_|simp (maxSteps:=999999) (disch:=first|assumption|omega|(simp;done)|fail) [*]
  refine WC.mono (HTB.out _ _ (by omega) fun b hb=>gpl hb) ?_
  rintro _ ⟨g2,n2,rfl,hn2,hg2⟩
  have HG2:Hide (∀ b,b < n1→g2 b=g1 b):=⟨fun b hb=>(hg2 b (by omega)).trans (gpl hb)⟩
  clear hg2 HTB
  iterate 8 all_goals try first|with_reducible refine spI (fun h=>?_) fun h=>?_|with_reducible refine spB (fun h=>?_) fun h=>?_|simp (maxSteps:=999999) (disch:=first|assumption|omega|(simp;done)|fail) [*]
  refine WC.mono (HLV.out _ _ fun b hb=>?_) ?_
  ·rw [gpl (by omega),HG2.out b (by omega)]; exact HG1.out b hb
  rintro _ rfl
  iterate 8 all_goals try first|with_reducible refine spI (fun h=>?_) fun h=>?_|with_reducible refine spB (fun h=>?_) fun h=>?_|simp (maxSteps:=999999) (disch:=first|assumption|omega|(simp;done)|fail) [Tryz.results8, *]
  exact ⟨show n≤n2+1 by omega,fun b (hb:b < n)=>(gpl (show b < n2 by omega)).trans (by rw [HG2.out b (by omega)]; exact HG1.out b hb)⟩
 | none =>
  have HTB:=Hide.mk fun (gX:Nat→Option Blk) (n3:Nat) (hn:n1≤n3) (hX:∀ b,b < n1→gX b=g1 b)=>TreeOf_good HL.out hD gX n3 sv (HT.out.mono hn hX).log HCP.out
  have hCC:=Hide.mk ((cons_iff fun t ht=>(HL.out.lens ht).1).1 hD)
  clear hD
  iterate 8 all_goals try first|with_reducible refine spI (fun h=>?_) fun h=>?_|with_reducible refine spB (fun h=>?_) fun h=>?_|simp (maxSteps:=999999) (disch:=first|assumption|omega|(simp;done)|fail) [*]
  refine WC.mono (HTB.out _ _ (by omega) fun b hb=>gpl hb) ?_
  rintro _ ⟨g2,n2,bs,B2,rfl,hn2,hg2,hB1,hB2,hrc,hgB,hgo⟩
  have HG2:Hide (∀ b,b < n1→g2 b=g1 b):=⟨fun b hb=>(hg2 b (by omega)).trans (gpl hb)⟩
  have hl2:=(hg2 n1 (by omega)).trans gpe
  have HTV:=Hide.mk (hrc.tree hB2 hgB)
  have HGO:=Hide.mk hgo
  have HBF:=Hide.mk (BF.of HL.out hCC.out hgo)
  have HUS:=Hide.mk fun (us:List (List Int×List Int)) (hp:us.Perm (bkM (rowsL I ts) (rWords (rowsL I ts)))) (hs:∀ (i j:Nat) (_:i < j) (hj:j < us.length),¬ cmpM us[j].1 (us[i]'(by omega)).1 < 0)=>BF.us HL.out HBF.out hp hs
  have HRI:Hide (∀ r∈rowsL I ts,r.length≤1000):=⟨fun r hr=>by
   obtain ⟨w,_,rfl⟩:=List.mem_map.1 hr
   rw [rowW_len]; omega⟩
  clear hg2 HTB hrc hgB hgo
  generalize rowsL I ts=T at *
  have hTl:=HBF.out.len
  have HBK:=Hide.mk fun (gX:Nat→Option Blk) (n3:Nat) (hn:n2≤n3) (hX:∀ b,b < n2→gX b=g2 b)=>Back_w (I:=I) (O:=O) hI1' hI2' hO1 hO2 HBF.out.ne (by omega) HGO.out HBF.out.lab (by have:=HBF.out.cnt; omega) HBF.out.wl HBF.out.el HBF.out.sum gX n3 _ (HTV.out.mono hn hX)
  have HRB:=Hide.mk fun (gX:Nat→Option Blk) (n3:Nat) (hn:n2≤n3) (hX:∀ b,b < n2→gX b=g2 b)=>rBack_w (I:=I) (O:=O) hI1' hI2' hO1 HBF.out.ne hTl HGO.out HBF.out.lab (by have:=HBF.out.cnt; omega) (fun t ht=>by have:=HBF.out.wl t ht; omega) gX n3 _ (HTV.out.mono hn hX)
  clear HBF HGO
  iterate 8 all_goals try first|with_reducible refine spI (fun h=>?_) fun h=>?_|with_reducible refine spB (fun h=>?_) fun h=>?_|simp (maxSteps:=999999) (disch:=first|assumption|omega|(simp;done)|fail) [*]
  refine WC.mono (HBK.out _ _ (by omega) fun b hb=>gpl hb) ?_
  rintro _ ⟨us,cs,B,g3,n3,rfl,hperm,hsort,hn3,hg3,hB3,hBn,hgB3,hrf,hcap⟩
  obtain ⟨hLU,hcU,hrU,hrb,hln,hinc⟩:=HUS.out us hperm hsort
  have HG3:Hide (∀ b,b < n2→g3 b=g2 b):=⟨fun b hb=>(hg3 b (by omega)).trans (gpl hb)⟩
  have ht3:=(hg3 n2 (by omega)).trans gpe
  rw [hrb] at HRB
  rw [← hln]
  have HLR:Hide (LogR g3 n3 us (.sl B 0 us.length us.length)):=⟨⟨cs,sliceV_all hgB3 hBn,hrf.rows⟩⟩
  have HTU:=Hide.mk fun (gX:Nat→Option Blk) (n4:Nat) (hn:n3≤n4) (hX:∀ b,b < n3→gX b=g3 b)=>TreeOf_good hLU hcU gX n4 (.sl B 0 us.length us.length) (HLR.out.mono hn hX) (fun a o n c e=>by cases e; exact Nat.le_refl _)
  rw [hrU] at HTU
  have HEQ:=Hide.mk fun (gX:Nat→Option Blk) (n4:Nat) (lv:AV) (hn:n3≤n4) (hX:∀ b,b < n3→gX b=g3 b) (h2:LogR gX n4 us lv)=>Equal_w (I:=I) (O:=O) (I2:=I) (O2:=O) hLU.small hLU.small gX n4 (.sl B 0 us.length us.length) lv (HLR.out.mono hn hX) h2
  have HIN:=Hide.mk hinc
  have HWL:=Hide.mk hLU.wl
  have hul:us.length≤40:=hLU.len
  clear hg3 hperm hsort hgB3 hrf hcap hLU hcU hrU hrb hln hinc HUS HBK
  iterate 8 all_goals try first|with_reducible refine spI (fun h=>?_) fun h=>?_|with_reducible refine spB (fun h=>?_) fun h=>?_|simp (maxSteps:=999999) (disch:=first|assumption|omega|(simp;done)|fail) [*]
  refine WC.mono (HTU.out _ _ (by omega) fun b hb=>gpl hb) ?_
  rintro _ ⟨g4,n4,bs4,B4,rfl,hn4,hg4,hB41,hB42,hrc4,hgB4,hgo4⟩
  have HG4:Hide (∀ b,b < n3→g4 b=g3 b):=⟨fun b hb=>(hg4 b (by omega)).trans (gpl hb)⟩
  have hl4:=(hg4 n3 (by omega)).trans gpe
  have ht4:=(HG4.out n2 (by omega)).trans ht3
  have HTV4:=Hide.mk (hrc4.tree hB42 hgB4)
  clear hg4 hrc4 hgB4 hgo4 HTU
  iterate 8 all_goals try first|with_reducible refine spI (fun h=>?_) fun h=>?_|with_reducible refine spB (fun h=>?_) fun h=>?_|simp (maxSteps:=999999) (disch:=first|assumption|omega|(simp;done)|fail) [*]
  refine WC.mono (HRB.out _ _ (by omega) fun b hb=>?_) ?_
  ·rw [gpl (by omega),HG4.out b (by omega)]; exact HG3.out b hb
  rintro _ ⟨lv,g5,n5,rfl,hn5,hg5,hlr5⟩
  have HG5:Hide (∀ b,b < n4→g5 b=g4 b):=⟨fun b hb=>(hg5 b (by omega)).trans (gpl hb)⟩
  have hu5:=(hg5 n4 (by omega)).trans gpe
  have hl5:=(HG5.out n3 (by omega)).trans hl4
  have ht5:=(HG5.out n2 (by omega)).trans ht4
  have h1l5:oneC lv=true:=hlr5.choose_spec.1.one
  have HE5:=Hide.mk (HEQ.out g5 n5 lv (by omega) (fun b hb=>(HG5.out b (by omega)).trans (HG4.out b hb)) hlr5)
  clear hg5 hlr5 HRB HEQ
  iterate 8 all_goals try first|with_reducible refine spI (fun h=>?_) fun h=>?_|with_reducible refine spB (fun h=>?_) fun h=>?_|simp (maxSteps:=999999) (disch:=first|assumption|omega|(simp;done)|fail) [*]
  refine WC.mono HE5.out ?_
  rintro _ rfl
  have HTS:=Hide.mk (TSame_w (I:=I) (O:=O) (by omega) HRI.out g5 n5 _ _ (HTV4.out.mono (by omega) fun b hb=>HG5.out b hb) (HTV.out.mono (by omega) fun b hb=>by rw [HG5.out b (by omega),HG4.out b (by omega)]; exact HG3.out b hb))
  clear HE5
  iterate 8 all_goals try first|with_reducible refine spI (fun h=>?_) fun h=>?_|with_reducible refine spB (fun h=>?_) fun h=>?_|simp (maxSteps:=999999) (disch:=first|assumption|omega|(simp;done)|fail) [*]
  refine WC.mono HTS.out ?_
  rintro _ ⟨g6,rfl,hg6⟩
  have HG6:Hide (∀ b,b < n5→g6 b=g5 b):=⟨hg6⟩
  have hl6:=(hg6 n3 (by omega)).trans hl5
  have HL6:Hide (LogR g6 (n5+1+1+1+1) us (.sl B 0 us.length us.length)):=⟨HLR.out.mono (by omega) fun b hb=>by rw [HG6.out b (by omega),HG5.out b (by omega)]; exact HG4.out b hb⟩
  have HM6:Hide (∀ b,b < n→g6 b=g b):=⟨fun b hb=>by rw [HG6.out b (by omega),HG5.out b (by omega),HG4.out b (by omega),HG3.out b (by omega),HG2.out b (by omega)]; exact HG1.out b hb⟩
  clear hg6 HTS HTV HTV4 HLR HG6 HG5 HG4 HG3 HG2 HG1 ht5 hu5 ht4 hl4 hl5 ht3
  iterate 8 all_goals try first|with_reducible refine spI (fun h=>?_) fun h=>?_|with_reducible refine spB (fun h=>?_) fun h=>?_|simp (maxSteps:=999999) (disch:=first|assumption|omega|(simp;done)|fail) [*]
  refine LX.ind (fun m gf H'=>∃ (j:Nat),m=us.length - j∧H'=⟨.fn g6,n5+1+1+1+1⟩∧gf 6=some (.ptr n3 0)∧gf 10=some (.lit (.int .i64 ((j:Int)+1)))) (m0:=us.length) ?_ ?_
  ·exact ⟨0,rfl,rfl,by simp,by simp⟩
  rintro m gf H' ⟨j,rfl,rfl,w6,w10⟩ ih
  refine LX.roundP (noO_ok _ _) hG pl8 (by decide +kernel) ?_
  by_cases hlt:j+1 < us.length
  ·have hltI:(j:Int)+1 < (us.length:Int):=by omega
   obtain ⟨a1,o1,p1,p2,hA⟩:=HL6.out.at (show j < us.length by omega)
   obtain ⟨a2,o2,q1,q2,hB⟩:=HL6.out.at hlt
   have hia1:=@AtT.ia _ _ _ _ _ _ _ _ _ hA
   have hia2:=@AtT.ia _ _ _ _ _ _ _ _ _ hB
   rw [show ((j+1:Nat) : Int)=(j:Int)+1 by omega] at hia2
   have hca:=hA.c0
   have hcb:=hB.c0
   have hlo:=HIN.out j (j+1) (by omega) hlt
   have hw1:=HWL.out _ (List.getElem_mem (show j < us.length by omega))
   have hw2:=HWL.out _ (List.getElem_mem hlt)
   have HC:=Hide.mk (rcmp2_w _ _ (by omega) (by omega) g6 (n5+1+1+1+1) p1 q1 hA.r1 hB.r1)
   clear hA hB hw1 hw2
   generalize cmpM (us[j]'(by omega)).1 us[j+1].1=c at *
   have hge:¬(0:Int)≤c:=by omega
   have hge2:¬c ≥ 0:=by omega
   iterate 8 all_goals try first|with_reducible refine spI (fun h=>?_) fun h=>?_|with_reducible refine spB (fun h=>?_) fun h=>?_|simp (maxSteps:=999999) (disch:=first|assumption|omega|(simp;done)|fail) [*]
   refine WC.mono HC.out ?_
   rintro _ rfl
   iterate 8 all_goals try first|with_reducible refine spI (fun h=>?_) fun h=>?_|with_reducible refine spB (fun h=>?_) fun h=>?_|simp (maxSteps:=999999) (disch:=first|assumption|omega|(simp;done)|fail) [*]
   exact ih.out (us.length - (j+1)) _ _ (by omega) ⟨j+1,rfl,rfl,by simp [*],by simp⟩
  ·have hltI:¬(j:Int)+1 < (us.length:Int):=by omega
   iterate 8 all_goals try first|with_reducible refine spI (fun h=>?_) fun h=>?_|with_reducible refine spB (fun h=>?_) fun h=>?_|simp (maxSteps:=999999) (disch:=first|assumption|omega|(simp;done)|fail) [*]
   refine WC.mono (HLV.out _ _ fun b hb=>HM6.out b hb) ?_
   rintro _ rfl
   iterate 8 all_goals try first|with_reducible refine spI (fun h=>?_) fun h=>?_|with_reducible refine spB (fun h=>?_) fun h=>?_|simp (maxSteps:=999999) (disch:=first|assumption|omega|(simp;done)|fail) [Tryz.results8, *]
   exact ⟨show n≤n5+1+1+1+1 by omega,HM6.out⟩
end Go.Ai
end
