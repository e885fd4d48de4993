/- A small verified interpreter over names, its proofs, and what was proved with it. No condition. -/
import Derived.Test.YtiddfilinnbhaaaGreatDoorR12
import Derived.Test.YtiddfilinnbhaaaGreatDoorR11
set_option linter.all false
set_option linter.deprecated false
section
namespace Go.Ai
open Go.Proofs
set_option maxRecDepth 10000
set_option maxHeartbeats 40000000
theorem TSame_w {I O:Int} {rows:List (List (Int×Int))} (hl:rows.length≤100000) (hI:∀ r∈rows,r.length≤1000) (g:Nat→Option Blk) (n:Nat) (tv uv:AV) (h1:TreeV g n rows tv) (h2:TreeV g n rows uv) :
  WC 3 Tryz.prog 26 [.agg [.lit (.int .i64 I),.lit (.int .i64 O),tv],.agg [.lit (.int .i64 I),.lit (.int .i64 O),uv]] ⟨.fn g,n⟩ fun r=>∃ g',r=.ret (.lit (.bool true)) ⟨.fn g',n+1+1+1+1⟩∧∀ b,b < n→g' b=g b:=by
 have ho1:=h1.choose_spec.1.one
 have ho2:=h2.choose_spec.1.one
 have hct:=h1.choose_spec.1.cell
 have hcu:=h2.choose_spec.1.cell
 have hone1:allOne [.lit (.int .i64 I),.lit (.int .i64 O),tv]=true:=by simp [ho1]
 have hone2:allOne [.lit (.int .i64 I),.lit (.int .i64 O),uv]=true:=by simp [ho2]
 have HM:=Hide.mk fun (gX:Nat→Option Blk) (hX:∀ b,b < n→gX b=g b)=>mSame_w hl hI gX (n+1+1) tv uv (h1.mono (by omega) hX) (h2.mono (by omega) hX)
 clear h1 h2 hI
 refine WC.enterP (noO_ok _ _) hG [] Tryz.func26 rfl (by decide +kernel) (Nat.le_of_ble_eq_true (by kernel_rfl)) ?_
 iterate 8 (all_goals try (first | with_reducible refine splitI (fun h=>?_) (fun h=>?_) | with_reducible refine splitBI (fun h=>?_) (fun h=>?_) | simp (config:={ maxSteps:=1000000 }) (disch:=first | assumption | omega | (simp; done) | fail) [Tryz.results26, *]))
 refine WC.mono (HM.out _ fun b hb=>by simp (disch:=omega) only [gput_lt]) ?_
 rintro _ ⟨gX,rfl,hX⟩
 have HX:Hide (∀ b,b < n→gX b=g b):=⟨fun b hb=>(hX b (by omega)).trans (by simp (disch:=omega) only [gput_lt])⟩
 have hb1:=hX n (by omega)
 have hb2:=hX (n+1) (by omega)
 simp (disch:=omega) only [gput_lt,gput_eq] at hb1 hb2
 clear hX
 iterate 8 (all_goals try (first | with_reducible refine splitI (fun h=>?_) (fun h=>?_) | with_reducible refine splitBI (fun h=>?_) (fun h=>?_) | simp (config:={ maxSteps:=1000000 }) (disch:=first | assumption | omega | (simp; done) | fail) [Tryz.results26, *]))
 exact HX.out
end Go.Ai
end
section
namespace Go.Ai
open Go.Proofs
set_option maxRecDepth 10000
set_option maxHeartbeats 40000000
theorem rTree_w {I:Nat} {O:Int} {ts:List (List Int×List Int)} (hL:LogOK I O ts) (hC:Cons ts) (g:Nat→Option Blk) (n:Nat) (sv:AV) (hT:LogX g n ts sv) :
  WC 3 Tryz.prog 27 [.agg [.lit (.int .i64 I),.lit (.int .i64 O),sv]] ⟨.fn g,n⟩ fun r=>∃ rv g' n',r=.ret (.agg [.lit (.int .i64 I),.lit (.int .i64 O),rv]) ⟨.fn g',n'⟩∧n≤n'∧(∀ b,b < n→g' b=g b)∧TreeV g' n' (rowsL I ts) rv:=by
 have h1s:=hT.choose_spec.1.one
 have hone:allOne [.lit (.int .i64 I),.lit (.int .i64 O),sv]=true:=by simp [h1s]
 have hI1:=hL.i1
 have hI2:=hL.i2
 have htl:=hL.len
 have HNO:=Hide.mk fun (gX:Nat→Option Blk) (n2:Nat) (hn:n≤n2) (hX:∀ b,b < n→gX b=g b)=>Nodes_w (I:=I) (O:=O) hL.small (fun t ht=>(hL.lens ht).1) gX n2 sv (hT.mono hn hX)
 have HLA:=Hide.mk fun (w:List Int) (h0:0 < w.length) (hw:w.length≤1000) (gX:Nat→Option Blk) (n2:Nat) (wv:AV) (hn:n≤n2) (hX:∀ b,b < n→gX b=g b) (hW:RepW gX n2 w wv)=>last_w (I:=I) (O:=O) hL.small (fun t ht=>(hL.lens ht).1) h0 hw gX n2 sv wv (hT.mono hn hX) hW
 have HMV:=Hide.mk fun (x:List Int)=>nodesM_val hL.ok hC x
 have HRL:Hide (rowsL I ts=(nodesM ts).map (rowW (valT ts) (nodesM ts) I)):=⟨rfl⟩
 have hpos:Hide (0 < (nodesM ts).length):=⟨List.length_pos_of_mem ((nodesM_val hL.ok hC []).2 (.inl rfl))⟩
 clear hL hC hT
 refine WC.enterP (noO_ok _ _) hG [] Tryz.func27 rfl (by decide +kernel) (Nat.le_of_ble_eq_true (by kernel_rfl)) ?_
 iterate 8 (all_goals try (first | with_reducible refine splitI (fun h=>?_) (fun h=>?_) | with_reducible refine splitBI (fun h=>?_) (fun h=>?_) | simp (config:={ maxSteps:=1000000 }) (disch:=first | assumption | omega | (simp; done) | fail) [Tryz.results27, *]))
 refine WC.mono (HNO.out _ _ (by omega) fun b hb=>by simp (disch:=omega) only [gput_lt]) ?_
 rintro _ ⟨ov,gX,n',rfl,hn',hX,hLV,hnl,hwl⟩
 have HX:Hide (∀ b,b < n→gX b=g b):=⟨fun b hb=>(hX b (by omega)).trans (by simp (disch:=omega) only [gput_lt])⟩
 have hb0:=hX n (by omega)
 have hb1:=hX (n+1) (by omega)
 simp (disch:=omega) only [gput_lt,gput_eq] at hb0 hb1
 have hlen:=@lenV Tryz.prog _ _ _ _ _ hLV.choose_spec.1
 have HLV:=Hide.mk hLV
 have HWL:=Hide.mk hwl
 clear hX hLV hwl HNO
 rw [HRL.out]
 clear HRL
 generalize nodesM ts=ws at *
 generalize valT ts=V at *
 have hnl2:ws.length≤20000:=by omega
 iterate 8 (all_goals try (first | with_reducible refine splitI (fun h=>?_) (fun h=>?_) | with_reducible refine splitBI (fun h=>?_) (fun h=>?_) | simp (config:={ maxSteps:=1000000 }) (disch:=first | assumption | omega | (simp; done) | fail) [Tryz.results27, *]))
 refine LX.ind (fun m gf H'=>∃ (q n2 B:Nat) (gL:Nat→Option Blk) (rv:AV) (svs:List AV),q≤ws.length∧m=ws.length - q∧H'=⟨.fn gL,n2⟩∧n'+1≤n2∧B < n2∧Hide (∀ b,b < n'→gL b=gX b)∧gL n'=some (.cells [.lit (.int .i64 I),.lit (.int .i64 O),rv] true 0)∧Hide (GrowV gL (n'+1) n2 B rv q 1 svs)∧Hide (RowsG (mask (n+1) (mask n' (mask B gL))) n2 ((ws.take q).map (rowW V ws I)) svs) ∧
  gf 1=some (.ptr n 0)∧gf 2=some (.ptr (n+1) 0)∧gf 3=some ov∧gf 4=some (.ptr n' 0)∧gf 5=some (.lit (.int .i64 q))) (m0:=ws.length) ?_ ?_
 ·exact ⟨0,n'+1,0,_,_,[],Nat.zero_le _,rfl,rfl,Nat.le_refl _,Nat.succ_pos _,⟨fun b hb=>gput_lt hb⟩,gput_eq,⟨.inl ⟨rfl,rfl,rfl⟩⟩,⟨⟨by simp,fun k hk=>by simp at hk⟩⟩,by simp,by simp,by simp,by simp,by simp⟩
 rintro m gf H' ⟨q,n2,B,gL,rv,svs,hq,rfl,rfl,hn2,hBn,HG,hgr,HGR,HRG,w1,w2,w3,w4,w5⟩ ih
 have hg0:=(HG.out n (by omega)).trans hb0
 have hg1:=(HG.out (n+1) (by omega)).trans hb1
 refine LX.roundP (noO_ok _ _) hG [] (by decide +kernel) ?_
 by_cases hlt:q < ws.length
 ·have hltI:(q:Int) < (ws.length:Int):=by omega
  obtain ⟨a1,o1,qv,ha1,hia1,hc1,hqv⟩:=HLV.out.at hlt
  have HMQ:Hide (ws[q]∈ws):=⟨List.getElem_mem hlt⟩
  have hwq:=HWL.out _ HMQ.out
  have HQV:=Hide.mk hqv
  have HTK:Hide ((ws.take (q+1)).map (rowW V ws I)=(ws.take q).map (rowW V ws I)++[rowW V ws I ws[q]]):=⟨by rw [take_snoc hlt,List.map_append]; rfl⟩
  clear hqv
  generalize ws[q]=node at *
  iterate 8 (all_goals try (first | with_reducible refine splitI (fun h=>?_) (fun h=>?_) | with_reducible refine splitBI (fun h=>?_) (fun h=>?_) | simp (config:={ maxSteps:=1000000 }) (disch:=first | assumption | omega | (simp; done) | fail) [Tryz.results27, *]))
  refine LX.ind (fun m gf H'=>∃ (i n3 B6:Nat) (gI:Nat→Option Blk) (tv:AV),i≤I∧m=I - i∧H'=⟨.fn gI,n3⟩∧n2≤n3∧Hide (∀ b,b < n2→gI b=gL b)∧Hide (GrowV gI n2 n3 B6 tv i 2 (rowC ((rowW V ws I node).take i))) ∧
   gf 1=some (.ptr n 0)∧gf 2=some (.ptr (n+1) 0)∧gf 3=some ov∧gf 4=some (.ptr n' 0)∧gf 5=some (.lit (.int .i64 q))∧gf 6=some tv∧gf 7=some (.lit (.int .i64 i))) (m0:=I) ?_ ?_
  ·exact ⟨0,n2,0,gL,_,Nat.zero_le _,rfl,rfl,Nat.le_refl _,⟨fun _ _=>rfl⟩,⟨.inl ⟨rfl,rfl,rfl⟩⟩,by simp [*],by simp [*],by simp [*],by simp [*],by simp [*],by simp,by simp⟩
  clear w1 w2 w3 w4 w5
  rintro m gf H' ⟨i,n3,B6,gI,tv,hi,rfl,rfl,hn3,HGI,HG6,w1,w2,w3,w4,w5,w6,w7⟩ ih2
  have hi0:=(HGI.out n (by omega)).trans hg0
  have hi1:=(HGI.out (n+1) (by omega)).trans hg1
  have hir:=(HGI.out n' (by omega)).trans hgr
  refine LX.roundP (noO_ok _ _) hG [] (by decide +kernel) ?_
  by_cases hli:i < I
  ·have hliI:(i:Int) < (I:Int):=by omega
   have HGX:Hide (∀ b,b < n'→gI b=gX b):=⟨fun b hb=>(HGI.out b (by omega)).trans (HG.out b hb)⟩
   have hc1' : loadB (some (false,1)) (gI a1) (o1+q)=some qv:=(congrArg (fun z=>loadB (some (false,1)) z (o1+q)) (HGX.out a1 ha1)).trans hc1
   have hv:SliceV gI n3 qv node.length (wdC node):=SliceV.mono (by omega) HGX.out HQV.out
   have hcr:(rowC ((rowW V ws I node).take i)).length=i * 2:=by rw [rowC_len,List.length_take,rowW_len]; omega
   have HNX:Hide ((rowW V ws I node).take (i+1)=(rowW V ws I node).take i++[entT V ws node i]):=⟨by
    have h1:i < (rowW V ws I node).length:=by rw [rowW_len]; exact hli
    rw [take_snoc h1]
    have h2:=rowW_at (V:=V) (ws:=ws) (I:=I) (w:=node) hli
    rw [(List.getElem?_eq_some_iff.1 h2).2]⟩
   have hcsn:∀ e:Int×Int,rowC ((rowW V ws I node).take i++[e])=rowC ((rowW V ws I node).take i)++[.lit (.int .i64 e.1),.lit (.int .i64 e.2)]:=fun e=>rowC_snoc _ _
   have HSN:=Hide.mk hcsn
   clear hcsn hc1
   by_cases hne:node.length=0
   ·have hnn:node=[]:=List.length_eq_zero_iff.1 hne
    rw [hne] at hv
    have hap:=fun {H:Mem} {ev:Ev} {d:Option Tmp} {ty:TypeId} {p:String} {af:Array Edge} {gd:Option (Nat×Bool)} {x y:Operand} {s t:TypeId} {a off:Nat} {hx:ev x=some (.sl a off 0 0)} {hy:ev y=some qv} (hp:(apI Tryz.prog s t).isSome=true)=>SliceV.ap00 (P:=Tryz.prog) hv (H:=H) (ev:=ev) (d:=d) (ty:=ty) (p:=p) (af:=af) (gd:=gd) (x:=x) (y:=y) (a:=a) (off:=off) (hx:=hx) (hy:=hy) hp
    have HNN:=Hide.mk hnn
    clear hv hne hnn
    iterate 8 (all_goals try (first | with_reducible refine splitI (fun h=>?_) (fun h=>?_) | with_reducible refine splitBI (fun h=>?_) (fun h=>?_) | simp (config:={ maxSteps:=1000000 }) (disch:=first | assumption | omega | (simp; done) | fail) [Tryz.results27, *]))
    have HREP:=Hide.mk fun (g9:Nat→Option Blk) (n9:Nat) (h1:g9 (n3+1+1)=some (.cells [.lit (.int .i64 i)] true 1)) (h2:n3+1+1 < n9)=>show RepW g9 n9 (node++[(i:Int)]) (.slq (n3+1+1) 0 1 0) from by
     exact .inr ⟨n3+1+1,0,h2,.inr ⟨0,by rw [HNN.out]; rfl⟩,_,true,1,h1,by simp [HNN.out,wdC],by rw [HNN.out]; simp [wdC]⟩
    clear hap
    refine WC.mono (HLA.out (node++[(i:Int)]) (by simp) (by simp; omega) _ _ _ (by omega) (fun b hb=>?_) (HREP.out _ _ gput_eq (by omega))) ?_
    ·simp (disch:=omega) only [gput_lt,gput_ne]; exact (HGX.out b (by omega)).trans (HX.out b hb)
    rintro _ ⟨g5,rfl,hg5⟩
    have H5:Hide (∀ b,b < n3→g5 b=gI b):=⟨fun b hb=>(hg5 b (by omega)).trans (by simp (disch:=omega) only [gput_lt,gput_ne])⟩
    have HR5:=Hide.mk (HREP.out g5 (n3+1+1+1+1) ((hg5 (n3+1+1) (by omega)).trans gput_eq) (by omega))
    clear hg5
    cases hVo:V (node++[(i:Int)]) with
    | none =>
     have HE:Hide (entT V ws node i=(-1,-1)):=⟨by unfold entT; rw [hVo]⟩
     simp only [lastV]
     rcases HG6.out with ⟨h6,hc6,hs6⟩ | ⟨h6,hs6,hC1,hC2,hC3,hC4⟩
     ·subst hs6
      have HZ:=Hide.mk (And.intro h6 hc6)
      clear h6 hc6
      iterate 8 (all_goals try (first | with_reducible refine splitI (fun h=>?_) (fun h=>?_) | with_reducible refine splitBI (fun h=>?_) (fun h=>?_) | simp (config:={ maxSteps:=1000000 }) (disch:=first | assumption | omega | (simp; done) | fail) [Tryz.results27, *]))
      refine ih2.out (I - (i+1)) _ _ (by omega) ⟨i+1,n3+1+1+1+1+1+1,n3+1+1+1+1+1,_,.slq (n3+1+1+1+1+1) 0 (i+1) 0,by omega,rfl,rfl,by omega,⟨fun b hb=>?_⟩,⟨?_⟩,by simp [*],by simp [*],by simp [*],by simp [*],by simp [*],by simp [HZ.out.1, *],by simp⟩
      ·simp (disch:=omega) only [gput_lt,gput_ne]; exact (H5.out b (by omega)).trans (HGI.out b hb)
      ·rw [HNX.out,HE.out,HSN.out]
       refine .mk ?_ (by omega) (by omega) (by simp; omega)
       rw [HZ.out.2]
       simp (disch:=omega) only [gput_lt,gput_ne,gput_eq]; rfl
     ·subst hs6
      have hC5:=(H5.out B6 (by omega)).trans hC3
      clear hC3
      iterate 8 (all_goals try (first | with_reducible refine splitI (fun h=>?_) (fun h=>?_) | with_reducible refine splitBI (fun h=>?_) (fun h=>?_) | simp (config:={ maxSteps:=1000000 }) (disch:=first | assumption | omega | (simp; done) | fail) [Tryz.results27, *]))
      refine ih2.out (I - (i+1)) _ _ (by omega) ⟨i+1,n3+1+1+1+1+1+1,n3+1+1+1+1+1,_,.slq (n3+1+1+1+1+1) 0 (i+1) 0,by omega,rfl,rfl,by omega,⟨fun b hb=>?_⟩,⟨?_⟩,by simp [*],by simp [*],by simp [*],by simp [*],by simp [*],by simp [*],by simp⟩
      ·simp (disch:=omega) only [gput_lt,gput_ne]; exact (H5.out b (by omega)).trans (HGI.out b hb)
      ·rw [HNX.out,HE.out,HSN.out]
       refine .mk ?_ (by omega) (by omega) (by simp; omega)
       simp (disch:=omega) only [gput_lt,gput_ne,gput_eq]
    | some o =>
     by_cases ho:o = -1
     ·have HE:Hide (entT V ws node i=(-1,-2)):=⟨by unfold entT; rw [hVo]; exact if_pos ho⟩
      clear hVo
      subst ho
      simp only [lastV]
      rcases HG6.out with ⟨h6,hc6,hs6⟩ | ⟨h6,hs6,hC1,hC2,hC3,hC4⟩
      ·subst hs6
       have HZ:=Hide.mk (And.intro h6 hc6)
       clear h6 hc6
       iterate 8 (all_goals try (first | with_reducible refine splitI (fun h=>?_) (fun h=>?_) | with_reducible refine splitBI (fun h=>?_) (fun h=>?_) | simp (config:={ maxSteps:=1000000 }) (disch:=first | assumption | omega | (simp; done) | fail) [Tryz.results27, *]))
       refine ih2.out (I - (i+1)) _ _ (by omega) ⟨i+1,n3+1+1+1+1+1+1,n3+1+1+1+1+1,_,.slq (n3+1+1+1+1+1) 0 (i+1) 0,by omega,rfl,rfl,by omega,⟨fun b hb=>?_⟩,⟨?_⟩,by simp [*],by simp [*],by simp [*],by simp [*],by simp [*],by simp [HZ.out.1, *],by simp⟩
       ·simp (disch:=omega) only [gput_lt,gput_ne]; exact (H5.out b (by omega)).trans (HGI.out b hb)
       ·rw [HNX.out,HE.out,HSN.out]
        refine .mk ?_ (by omega) (by omega) (by simp; omega)
        rw [HZ.out.2]
        simp (disch:=omega) only [gput_lt,gput_ne,gput_eq]; rfl
      ·subst hs6
       have hC5:=(H5.out B6 (by omega)).trans hC3
       clear hC3
       iterate 8 (all_goals try (first | with_reducible refine splitI (fun h=>?_) (fun h=>?_) | with_reducible refine splitBI (fun h=>?_) (fun h=>?_) | simp (config:={ maxSteps:=1000000 }) (disch:=first | assumption | omega | (simp; done) | fail) [Tryz.results27, *]))
       refine ih2.out (I - (i+1)) _ _ (by omega) ⟨i+1,n3+1+1+1+1+1+1,n3+1+1+1+1+1,_,.slq (n3+1+1+1+1+1) 0 (i+1) 0,by omega,rfl,rfl,by omega,⟨fun b hb=>?_⟩,⟨?_⟩,by simp [*],by simp [*],by simp [*],by simp [*],by simp [*],by simp [*],by simp⟩
       ·simp (disch:=omega) only [gput_lt,gput_ne]; exact (H5.out b (by omega)).trans (HGI.out b hb)
       ·rw [HNX.out,HE.out,HSN.out]
        refine .mk ?_ (by omega) (by omega) (by simp; omega)
        simp (disch:=omega) only [gput_lt,gput_ne,gput_eq]
     ·have HE:Hide (entT V ws node i=(((ws.idxOf (node++[(i:Int)]) : Nat) : Int),o)):=⟨by unfold entT; rw [hVo]; exact if_neg ho⟩
      have HFI:=Hide.mk (find_w (l:=ws) (by omega) (w:=node++[(i:Int)]) (by simp; omega) ((HMV.out _).2 (.inr ⟨o,hVo,ho⟩)) (fun x hx=>by have:=HWL.out x hx; omega) g5 (n3+1+1+1+1) ov _ (HLV.out.mono (by omega) fun b hb=>(H5.out b (by omega)).trans (HGX.out b hb)) HR5.out)
      clear hVo
      generalize ws.idxOf (node++[(i:Int)])=ix at *
      simp only [lastV]
      rcases HG6.out with ⟨h6,hc6,hs6⟩ | ⟨h6,hs6,hC1,hC2,hC3,hC4⟩
      ·subst hs6
       have HZ:=Hide.mk (And.intro h6 hc6)
       clear h6 hc6
       iterate 8 (all_goals try (first | with_reducible refine splitI (fun h=>?_) (fun h=>?_) | with_reducible refine splitBI (fun h=>?_) (fun h=>?_) | simp (config:={ maxSteps:=1000000 }) (disch:=first | assumption | omega | (simp; done) | fail) [Tryz.results27, *]))
       refine WC.mono HFI.out ?_
       rintro _ rfl
       iterate 8 (all_goals try (first | with_reducible refine splitI (fun h=>?_) (fun h=>?_) | with_reducible refine splitBI (fun h=>?_) (fun h=>?_) | simp (config:={ maxSteps:=1000000 }) (disch:=first | assumption | omega | (simp; done) | fail) [Tryz.results27, *]))
       refine ih2.out (I - (i+1)) _ _ (by omega) ⟨i+1,n3+1+1+1+1+1+1,n3+1+1+1+1+1,_,.slq (n3+1+1+1+1+1) 0 (i+1) 0,by omega,rfl,rfl,by omega,⟨fun b hb=>?_⟩,⟨?_⟩,by simp [*],by simp [*],by simp [*],by simp [*],by simp [*],by simp [HZ.out.1, *],by simp⟩
       ·simp (disch:=omega) only [gput_lt,gput_ne]; exact (H5.out b (by omega)).trans (HGI.out b hb)
       ·rw [HNX.out,HE.out,HSN.out]
        refine .mk ?_ (by omega) (by omega) (by simp; omega)
        rw [HZ.out.2]
        simp (disch:=omega) only [gput_lt,gput_ne,gput_eq]; rfl
      ·subst hs6
       have hC5:=(H5.out B6 (by omega)).trans hC3
       clear hC3
       iterate 8 (all_goals try (first | with_reducible refine splitI (fun h=>?_) (fun h=>?_) | with_reducible refine splitBI (fun h=>?_) (fun h=>?_) | simp (config:={ maxSteps:=1000000 }) (disch:=first | assumption | omega | (simp; done) | fail) [Tryz.results27, *]))
       refine WC.mono HFI.out ?_
       rintro _ rfl
       iterate 8 (all_goals try (first | with_reducible refine splitI (fun h=>?_) (fun h=>?_) | with_reducible refine splitBI (fun h=>?_) (fun h=>?_) | simp (config:={ maxSteps:=1000000 }) (disch:=first | assumption | omega | (simp; done) | fail) [Tryz.results27, *]))
       refine ih2.out (I - (i+1)) _ _ (by omega) ⟨i+1,n3+1+1+1+1+1+1,n3+1+1+1+1+1,_,.slq (n3+1+1+1+1+1) 0 (i+1) 0,by omega,rfl,rfl,by omega,⟨fun b hb=>?_⟩,⟨?_⟩,by simp [*],by simp [*],by simp [*],by simp [*],by simp [*],by simp [*],by simp⟩
       ·simp (disch:=omega) only [gput_lt,gput_ne]; exact (H5.out b (by omega)).trans (HGI.out b hb)
       ·rw [HNX.out,HE.out,HSN.out]
        refine .mk ?_ (by omega) (by omega) (by simp; omega)
        simp (disch:=omega) only [gput_lt,gput_ne,gput_eq]
   ·have hnp:0 < node.length:=by omega
    obtain ⟨a2,blk,ha2,hga2,hap⟩:=SliceV.ap0 (P:=Tryz.prog) (sz:=1) hv hnp (by omega) (by rw [wdC_len,Nat.mul_one])
    have hwl1:(wdC node).length=node.length * 1:=by rw [wdC_len,Nat.mul_one]
    have hnl3:node.length≤1000000:=by omega
    clear hv hne
    iterate 8 (all_goals try (first | with_reducible refine splitI (fun h=>?_) (fun h=>?_) | with_reducible refine splitBI (fun h=>?_) (fun h=>?_) | simp (config:={ maxSteps:=1000000 }) (disch:=first | assumption | omega | (simp; done) | fail) [Tryz.results27, *]))
    have HREP:=Hide.mk fun (g9:Nat→Option Blk) (n9:Nat) (h1:g9 (n3+1+1+1)=some (.cells (wdC node++[.lit (.int .i64 i)]) true 1)) (h2:n3+1+1+1 < n9)=>show RepW g9 n9 (node++[(i:Int)]) (.slq (n3+1+1+1) 0 (node.length+1) 0) from by
     exact .inr ⟨n3+1+1+1,0,h2,.inr ⟨0,by simp⟩,_,true,1,h1,by simp [wdC],by rw [wdC_snoc,List.drop_zero]; exact List.take_of_length_le (by simp [wdC])⟩
    clear hap hga2 hwl1
    refine WC.mono (HLA.out (node++[(i:Int)]) (by simp) (by simp; omega) _ _ _ (by omega) (fun b hb=>?_) (HREP.out _ _ gput_eq (by omega))) ?_
    ·simp (disch:=omega) only [gput_lt,gput_ne]; exact (HGX.out b (by omega)).trans (HX.out b hb)
    rintro _ ⟨g5,rfl,hg5⟩
    have H5:Hide (∀ b,b < n3→g5 b=gI b):=⟨fun b hb=>(hg5 b (by omega)).trans (by simp (disch:=omega) only [gput_lt,gput_ne])⟩
    have HR5:=Hide.mk (HREP.out g5 (n3+1+1+1+1+1) ((hg5 (n3+1+1+1) (by omega)).trans gput_eq) (by omega))
    clear hg5
    cases hVo:V (node++[(i:Int)]) with
    | none =>
     have HE:Hide (entT V ws node i=(-1,-1)):=⟨by unfold entT; rw [hVo]⟩
     simp only [lastV]
     rcases HG6.out with ⟨h6,hc6,hs6⟩ | ⟨h6,hs6,hC1,hC2,hC3,hC4⟩
     ·subst hs6
      have HZ:=Hide.mk (And.intro h6 hc6)
      clear h6 hc6
      iterate 8 (all_goals try (first | with_reducible refine splitI (fun h=>?_) (fun h=>?_) | with_reducible refine splitBI (fun h=>?_) (fun h=>?_) | simp (config:={ maxSteps:=1000000 }) (disch:=first | assumption | omega | (simp; done) | fail) [Tryz.results27, *]))
      refine ih2.out (I - (i+1)) _ _ (by omega) ⟨i+1,n3+1+1+1+1+1+1+1,n3+1+1+1+1+1+1,_,.slq (n3+1+1+1+1+1+1) 0 (i+1) 0,by omega,rfl,rfl,by omega,⟨fun b hb=>?_⟩,⟨?_⟩,by simp [*],by simp [*],by simp [*],by simp [*],by simp [*],by simp [HZ.out.1, *],by simp⟩
      ·simp (disch:=omega) only [gput_lt,gput_ne]; exact (H5.out b (by omega)).trans (HGI.out b hb)
      ·rw [HNX.out,HE.out,HSN.out]
       refine .mk ?_ (by omega) (by omega) (by simp; omega)
       rw [HZ.out.2]
       simp (disch:=omega) only [gput_lt,gput_ne,gput_eq]; rfl
     ·subst hs6
      have hC5:=(H5.out B6 (by omega)).trans hC3
      clear hC3
      iterate 8 (all_goals try (first | with_reducible refine splitI (fun h=>?_) (fun h=>?_) | with_reducible refine splitBI (fun h=>?_) (fun h=>?_) | simp (config:={ maxSteps:=1000000 }) (disch:=first | assumption | omega | (simp; done) | fail) [Tryz.results27, *]))
      refine ih2.out (I - (i+1)) _ _ (by omega) ⟨i+1,n3+1+1+1+1+1+1+1,n3+1+1+1+1+1+1,_,.slq (n3+1+1+1+1+1+1) 0 (i+1) 0,by omega,rfl,rfl,by omega,⟨fun b hb=>?_⟩,⟨?_⟩,by simp [*],by simp [*],by simp [*],by simp [*],by simp [*],by simp [*],by simp⟩
      ·simp (disch:=omega) only [gput_lt,gput_ne]; exact (H5.out b (by omega)).trans (HGI.out b hb)
      ·rw [HNX.out,HE.out,HSN.out]
       refine .mk ?_ (by omega) (by omega) (by simp; omega)
       simp (disch:=omega) only [gput_lt,gput_ne,gput_eq]
    | some o =>
     by_cases ho:o = -1
     ·have HE:Hide (entT V ws node i=(-1,-2)):=⟨by unfold entT; rw [hVo]; exact if_pos ho⟩
      clear hVo
      subst ho
      simp only [lastV]
      rcases HG6.out with ⟨h6,hc6,hs6⟩ | ⟨h6,hs6,hC1,hC2,hC3,hC4⟩
      ·subst hs6
       have HZ:=Hide.mk (And.intro h6 hc6)
       clear h6 hc6
       iterate 8 (all_goals try (first | with_reducible refine splitI (fun h=>?_) (fun h=>?_) | with_reducible refine splitBI (fun h=>?_) (fun h=>?_) | simp (config:={ maxSteps:=1000000 }) (disch:=first | assumption | omega | (simp; done) | fail) [Tryz.results27, *]))
       refine ih2.out (I - (i+1)) _ _ (by omega) ⟨i+1,n3+1+1+1+1+1+1+1,n3+1+1+1+1+1+1,_,.slq (n3+1+1+1+1+1+1) 0 (i+1) 0,by omega,rfl,rfl,by omega,⟨fun b hb=>?_⟩,⟨?_⟩,by simp [*],by simp [*],by simp [*],by simp [*],by simp [*],by simp [HZ.out.1, *],by simp⟩
       ·simp (disch:=omega) only [gput_lt,gput_ne]; exact (H5.out b (by omega)).trans (HGI.out b hb)
       ·rw [HNX.out,HE.out,HSN.out]
        refine .mk ?_ (by omega) (by omega) (by simp; omega)
        rw [HZ.out.2]
        simp (disch:=omega) only [gput_lt,gput_ne,gput_eq]; rfl
      ·subst hs6
       have hC5:=(H5.out B6 (by omega)).trans hC3
       clear hC3
       iterate 8 (all_goals try (first | with_reducible refine splitI (fun h=>?_) (fun h=>?_) | with_reducible refine splitBI (fun h=>?_) (fun h=>?_) | simp (config:={ maxSteps:=1000000 }) (disch:=first | assumption | omega | (simp; done) | fail) [Tryz.results27, *]))
       refine ih2.out (I - (i+1)) _ _ (by omega) ⟨i+1,n3+1+1+1+1+1+1+1,n3+1+1+1+1+1+1,_,.slq (n3+1+1+1+1+1+1) 0 (i+1) 0,by omega,rfl,rfl,by omega,⟨fun b hb=>?_⟩,⟨?_⟩,by simp [*],by simp [*],by simp [*],by simp [*],by simp [*],by simp [*],by simp⟩
       ·simp (disch:=omega) only [gput_lt,gput_ne]; exact (H5.out b (by omega)).trans (HGI.out b hb)
       ·rw [HNX.out,HE.out,HSN.out]
        refine .mk ?_ (by omega) (by omega) (by simp; omega)
        simp (disch:=omega) only [gput_lt,gput_ne,gput_eq]
     ·have HE:Hide (entT V ws node i=(((ws.idxOf (node++[(i:Int)]) : Nat) : Int),o)):=⟨by unfold entT; rw [hVo]; exact if_neg ho⟩
      have HFI:=Hide.mk (find_w (l:=ws) (by omega) (w:=node++[(i:Int)]) (by simp; omega) ((HMV.out _).2 (.inr ⟨o,hVo,ho⟩)) (fun x hx=>by have:=HWL.out x hx; omega) g5 (n3+1+1+1+1+1) ov _ (HLV.out.mono (by omega) fun b hb=>(H5.out b (by omega)).trans (HGX.out b hb)) HR5.out)
      clear hVo
      generalize ws.idxOf (node++[(i:Int)])=ix at *
      simp only [lastV]
      rcases HG6.out with ⟨h6,hc6,hs6⟩ | ⟨h6,hs6,hC1,hC2,hC3,hC4⟩
      ·subst hs6
       have HZ:=Hide.mk (And.intro h6 hc6)
       clear h6 hc6
       iterate 8 (all_goals try (first | with_reducible refine splitI (fun h=>?_) (fun h=>?_) | with_reducible refine splitBI (fun h=>?_) (fun h=>?_) | simp (config:={ maxSteps:=1000000 }) (disch:=first | assumption | omega | (simp; done) | fail) [Tryz.results27, *]))
       refine WC.mono HFI.out ?_
       rintro _ rfl
       iterate 8 (all_goals try (first | with_reducible refine splitI (fun h=>?_) (fun h=>?_) | with_reducible refine splitBI (fun h=>?_) (fun h=>?_) | simp (config:={ maxSteps:=1000000 }) (disch:=first | assumption | omega | (simp; done) | fail) [Tryz.results27, *]))
       refine ih2.out (I - (i+1)) _ _ (by omega) ⟨i+1,n3+1+1+1+1+1+1+1,n3+1+1+1+1+1+1,_,.slq (n3+1+1+1+1+1+1) 0 (i+1) 0,by omega,rfl,rfl,by omega,⟨fun b hb=>?_⟩,⟨?_⟩,by simp [*],by simp [*],by simp [*],by simp [*],by simp [*],by simp [HZ.out.1, *],by simp⟩
       ·simp (disch:=omega) only [gput_lt,gput_ne]; exact (H5.out b (by omega)).trans (HGI.out b hb)
       ·rw [HNX.out,HE.out,HSN.out]
        refine .mk ?_ (by omega) (by omega) (by simp; omega)
        rw [HZ.out.2]
        simp (disch:=omega) only [gput_lt,gput_ne,gput_eq]; rfl
      ·subst hs6
       have hC5:=(H5.out B6 (by omega)).trans hC3
       clear hC3
       iterate 8 (all_goals try (first | with_reducible refine splitI (fun h=>?_) (fun h=>?_) | with_reducible refine splitBI (fun h=>?_) (fun h=>?_) | simp (config:={ maxSteps:=1000000 }) (disch:=first | assumption | omega | (simp; done) | fail) [Tryz.results27, *]))
       refine WC.mono HFI.out ?_
       rintro _ rfl
       iterate 8 (all_goals try (first | with_reducible refine splitI (fun h=>?_) (fun h=>?_) | with_reducible refine splitBI (fun h=>?_) (fun h=>?_) | simp (config:={ maxSteps:=1000000 }) (disch:=first | assumption | omega | (simp; done) | fail) [Tryz.results27, *]))
       refine ih2.out (I - (i+1)) _ _ (by omega) ⟨i+1,n3+1+1+1+1+1+1+1,n3+1+1+1+1+1+1,_,.slq (n3+1+1+1+1+1+1) 0 (i+1) 0,by omega,rfl,rfl,by omega,⟨fun b hb=>?_⟩,⟨?_⟩,by simp [*],by simp [*],by simp [*],by simp [*],by simp [*],by simp [*],by simp⟩
       ·simp (disch:=omega) only [gput_lt,gput_ne]; exact (H5.out b (by omega)).trans (HGI.out b hb)
       ·rw [HNX.out,HE.out,HSN.out]
        refine .mk ?_ (by omega) (by omega) (by simp; omega)
        simp (disch:=omega) only [gput_lt,gput_ne,gput_eq]
  ·have hliI:¬(i:Int) < (I:Int):=by omega
   have hiI:i=I:=by omega
   have hRF:(rowW V ws I node).take i=rowW V ws I node:=List.take_of_length_le (by rw [rowW_len]; omega)
   rw [hRF] at HG6
   rcases HG6.out with ⟨h6,_⟩ | ⟨h6,hs6,hC1,hC2,hC3,hC4⟩
   ·omega
   subst hs6
   have hcl:=HRG.out.1
   rw [List.length_map,List.length_take,Nat.min_eq_left hq] at hcl
   have hq2:q≤1000000:=by omega
   have HRW:Hide ((rowW V ws I node).length=i):=⟨by rw [rowW_len]; omega⟩
   have HEX:=Hide.mk fun (g2:Nat→Option Blk) (h1:∀ a,a < n3→a≠n'→a≠B→g2 a=gI a)=>show RowsG (mask (n+1) (mask n' (mask (n3+1) g2))) (n3+1+1) ((ws.take (q+1)).map (rowW V ws I)) (svs++[.slq B6 0 i 0]) from by
    rw [HTK.out]
    refine RowsG.snoc (HRG.out.ext (by omega) fun a x ha hx=>?_) ?_
    ·have hx0:=mask_some hx
     have hx1:=mask_some hx0
     have hx2:=mask_some hx1
     have e0:a≠n+1:=fun h=>by rw [h] at hx; simp [mask] at hx
     have e1:a≠n':=fun h=>by rw [h] at hx0; simp [mask] at hx0
     have e2:a≠B:=fun h=>by rw [h] at hx1; simp [mask] at hx1
     rw [mask_ne e0,mask_ne e1,mask_ne (by omega),h1 a (by omega) e1 e2,HGI.out a ha]
     exact hx2
    ·rw [HRW.out]
     refine .inr ⟨B6,0,by omega,.inr ⟨0,rfl⟩,rowC (rowW V ws I node),true,2,?_,by simp,by simp⟩
     rw [mask_ne (by omega),mask_ne (by omega),mask_ne (by omega)]
     by_cases hb6:B6=B
     ·exact absurd hb6 (by omega)
     ·rw [h1 B6 hC2 (by omega) hb6]; exact hC3
   clear hiI hRF
   rcases HGR.out with ⟨h0,hc0,hs0⟩ | ⟨h0,hs0,hB1,hB2,hB3,hB4⟩
   ·subst hs0
    have HZ:=Hide.mk (And.intro h0 hc0)
    clear h0 hc0
    iterate 8 (all_goals try (first | with_reducible refine splitI (fun h=>?_) (fun h=>?_) | with_reducible refine splitBI (fun h=>?_) (fun h=>?_) | simp (config:={ maxSteps:=1000000 }) (disch:=first | assumption | omega | (simp; done) | fail) [Tryz.results27, *]))
    refine ih.out (ws.length - (q+1)) _ _ (by omega) ⟨q+1,n3+1+1,n3+1,_,.slq (n3+1) 0 (q+1) 0,svs++[.slq B6 0 i 0],by omega,rfl,rfl,by omega,by omega,⟨fun b hb=>?_⟩,?_,⟨.mk ?_ (by omega) (by omega) (by simp; omega)⟩,⟨HEX.out _ fun a k1 k2 k3=>?_⟩,by simp [*],by simp [*],by simp [*],by simp [*],by simp⟩
    ·simp (disch:=omega) only [gput_lt,gput_ne]; exact (HGI.out b (by omega)).trans (HG.out b hb)
    ·rw [HZ.out.1]; exact gput_eq
    ·rw [HZ.out.2]; simp (disch:=omega) only [gput_lt,gput_ne,gput_eq]; rfl
    ·simp (disch:=omega) only [gput_lt,gput_ne]
   ·subst hs0
    have hB3':=(HGI.out B (by omega)).trans hB3
    have hxn:∀ (G:Nat→Option Blk) (x:Option Blk),gput G B x n'=G n':=fun G x=>gput_ne (by omega)
    iterate 8 (all_goals try (first | with_reducible refine splitI (fun h=>?_) (fun h=>?_) | with_reducible refine splitBI (fun h=>?_) (fun h=>?_) | simp (config:={ maxSteps:=1000000 }) (disch:=first | assumption | omega | (simp; done) | fail) [Tryz.results27, *]))
    refine ih.out (ws.length - (q+1)) _ _ (by omega) ⟨q+1,n3+1+1,n3+1,_,.slq (n3+1) 0 (q+1) 0,svs++[.slq B6 0 i 0],by omega,rfl,rfl,by omega,by omega,⟨fun b hb=>?_⟩,?_,⟨.mk ?_ (by omega) (by omega) (by simp; omega)⟩,⟨HEX.out _ fun a k1 k2 k3=>?_⟩,by simp [*],by simp [*],by simp [*],by simp [*],by simp⟩
    ·simp (disch:=omega) only [gput_lt,gput_ne]; exact (HGI.out b (by omega)).trans (HG.out b hb)
    ·exact gput_eq
    ·simp (disch:=omega) only [gput_lt,gput_ne,gput_eq]
    ·simp (disch:=omega) only [gput_lt,gput_ne]
 ·have hltI:¬(q:Int) < (ws.length:Int):=by omega
  rw [List.take_of_length_le (by omega)] at HRG
  have h1r:oneC rv=true:=HGR.out.one
  have hone3:allOne [.lit (.int .i64 I),.lit (.int .i64 O),rv]=true:=by simp [h1r]
  have hqw:q=ws.length:=by omega
  have HTV:Hide (TreeV (gput gL (n+1) (some (.cells [.lit (.int .i64 I),.lit (.int .i64 O),rv] true 0))) n2 (ws.map (rowW V ws I)) rv):=⟨by
   refine ⟨svs,?_,HRG.out.ext (Nat.le_refl _) fun a x ha hx=>?_⟩
   ·rw [List.length_map,← hqw]
    refine SliceV.ext (Nat.le_refl _) (fun a x _ hx=>?_) HGR.out.slice
    split at hx
    ·rw [gput_ne (by omega)]; exact hx
    ·cases hx
   ·have hx0:=mask_some hx
    have e0:a≠n+1:=fun h=>by rw [h] at hx; simp [mask] at hx
    rw [gput_ne e0]
    exact mask_some (mask_some hx0)⟩
  iterate 8 (all_goals try (first | with_reducible refine splitI (fun h=>?_) (fun h=>?_) | with_reducible refine splitBI (fun h=>?_) (fun h=>?_) | simp (config:={ maxSteps:=1000000 }) (disch:=first | assumption | omega | (simp; done) | fail) [Tryz.results27, *]))
  exact ⟨_,_,_,⟨rfl,rfl,rfl⟩,by omega,fun b hb=>by rw [gput_lt (by omega),HG.out b (by omega)]; exact HX.out b hb,HTV.out⟩
end Go.Ai
end
section
namespace Go.Ai
open Go.Proofs
set_option maxRecDepth 10000
set_option maxHeartbeats 40000000
def edC (e:Int×Int) : List AV:=[.lit (.int .i64 e.1),.lit (.int .i64 e.2)]
def RepE (g:Nat→Option Blk) (n:Nat) (r:List (Int×Int)) (sv:AV) : Prop:=SliceV g n sv r.length (r.flatMap edC)
def RowsK (g:Nat→Option Blk) (n:Nat) (T:List (List (Int×Int))) (svs:List AV) : Prop:=svs.length=T.length∧∀ (k:Nat) (h:k < T.length),∃ sv,svs[k]?=some sv∧RepE g n T[k] sv
theorem RowsK.ext {g g' : Nat→Option Blk} {b b' : Nat} {l:List (List (Int×Int))} {svs:List AV} (h:RowsK g b l svs) (hb:b≤b') (hg:∀ a x,a < b→g a=some x→g' a=some x) : RowsK g' b' l svs :=
 ⟨h.1,fun k hk=>let ⟨sv,h1,h2⟩:=h.2 k hk; ⟨sv,h1,SliceV.ext hb hg h2⟩⟩
theorem RepE.at {g:Nat→Option Blk} {n:Nat} {r:List (Int×Int)} {sv:AV} (h:RepE g n r sv) {i:Nat} (hi:i < r.length) :
  ∃ a off,a < n∧(∀ {H:Mem} {ev:Ev} {o:Oper} {t:TypeId},iaS Tryz.prog H ev o t (some (none,2)) (some sv) (some (.lit (.int .i64 (i:Int))))=.val (.ptr a (off+i * 2)) H)∧loadB (some (true,2)) (g a) (off+i * 2)=some (.agg (edC r[i])):=by
 obtain ⟨a,off,ha,hrow,hia⟩:=SliceV.ia (P:=Tryz.prog) h hi 2
 refine ⟨a,off,ha,hia,?_⟩
 have:=hrow.agg (k:=i * 2) (s:=2) (by rw [flat_len (sz:=2) _ (fun _ _=>rfl)]; omega)
 rw [flat_at (sz:=2) r i hi (fun _ _=>rfl)] at this
 exact this
theorem goE_step {O:Int} {e:Int×Int} {l:List (Int×Int)} {nx:Nat} : goE O (e :: l) nx=match edOK O nx e with | none=>none | some k=>goE O l k:=rfl
def restT (I O:Int) (rows:List (List (Int×Int))) (n:Nat) (es:List (Int×Int)) (nx:Nat) : Option Nat:=match goE O es nx with | none=>none | some z=>goT I O rows (n+1) z
theorem restT_cons {I O:Int} {rows:List (List (Int×Int))} {n:Nat} {e:Int×Int} {es:List (Int×Int)} {nx:Nat} : restT I O rows n (e :: es) nx=match edOK O nx e with | none=>none | some k=>restT I O rows n es k:=by
 unfold restT
 rw [goE_step]
 cases edOK O nx e <;> rfl
theorem goT_cons {I O:Int} {r:List (Int×Int)} {rows:List (List (Int×Int))} {n nx:Nat} : goT I O (r :: rows) n nx=if (r.length:Int)=I∧n < nx then restT I O rows n r nx else none:=rfl
theorem CheckTree_w (I O:Int) (T:List (List (Int×Int))) (hl:T.length≤1000000) (hw:∀ r∈T,r.length≤1000000) (g:Nat→Option Blk) (n:Nat) (sv:AV) (svs:List AV) (hsv:SliceV g n sv T.length svs) (hr:RowsK g n T svs) :
  WC 3 Tryz.prog 28 [.agg [.lit (.int .i64 I),.lit (.int .i64 O),sv]] ⟨.fn g,n⟩ fun r=>r=.ret (.lit (.int .i64 (treeErr I O T))) ⟨.fn g,n⟩:=by
 refine WC.drop1 rfl ?_
 have hlen:=@lenV Tryz.prog _ _ _ _ _ hsv
 have h1s:=hsv.one
 have hone:allOne [.lit (.int .i64 I),.lit (.int .i64 O),sv]=true:=by simp [h1s]
 have HS:=Hide.mk hsv
 have HR:=Hide.mk hr
 have HW:=Hide.mk hw
 clear hsv hr hw
 obtain ⟨ret,hret⟩ : ∃ b,b=treeErr I O T:=⟨_,rfl⟩
 rw [← hret]
 unfold treeErr at hret
 by_cases t1:I > 16
 ·have hr:ret=3:=by rw [hret,if_pos (.inl t1)]
  clear hret
  refine WC.enterP (noO_ok _ _) hG [] Tryz.func28 rfl (by decide +kernel) (Nat.le_of_ble_eq_true (by kernel_rfl)) ?_
  iterate 8 (all_goals try (first | with_reducible refine splitI (fun h=>?_) (fun h=>?_) | with_reducible refine splitBI (fun h=>?_) (fun h=>?_) | simp (config:={ maxSteps:=1000000 }) (disch:=first | assumption | omega | (simp; done) | fail) [Tryz.results28, *]))
  all_goals exact ⟨Nat.le_succ n,fun b hb=>gput_lt hb⟩
 by_cases t2:O > 16
 ·have hr:ret=3:=by rw [hret,if_pos (.inr (.inl t2))]
  clear hret
  refine WC.enterP (noO_ok _ _) hG [] Tryz.func28 rfl (by decide +kernel) (Nat.le_of_ble_eq_true (by kernel_rfl)) ?_
  iterate 8 (all_goals try (first | with_reducible refine splitI (fun h=>?_) (fun h=>?_) | with_reducible refine splitBI (fun h=>?_) (fun h=>?_) | simp (config:={ maxSteps:=1000000 }) (disch:=first | assumption | omega | (simp; done) | fail) [Tryz.results28, *]))
  all_goals exact ⟨Nat.le_succ n,fun b hb=>gput_lt hb⟩
 by_cases t3:T.length > 65537
 ·have hr:ret=3:=by rw [hret,if_pos (.inr (.inr t3))]
  have t3I:65537 < (T.length:Int):=by omega
  clear hret
  refine WC.enterP (noO_ok _ _) hG [] Tryz.func28 rfl (by decide +kernel) (Nat.le_of_ble_eq_true (by kernel_rfl)) ?_
  iterate 8 (all_goals try (first | with_reducible refine splitI (fun h=>?_) (fun h=>?_) | with_reducible refine splitBI (fun h=>?_) (fun h=>?_) | simp (config:={ maxSteps:=1000000 }) (disch:=first | assumption | omega | (simp; done) | fail) [Tryz.results28, *]))
  all_goals exact ⟨Nat.le_succ n,fun b hb=>gput_lt hb⟩
 have t3I:¬65537 < (T.length:Int):=by omega
 rw [if_neg (by omega)] at hret
 by_cases t4:I < 1
 ·have hr:ret=1:=by rw [hret,if_pos (.inl t4)]
  clear hret
  refine WC.enterP (noO_ok _ _) hG [] Tryz.func28 rfl (by decide +kernel) (Nat.le_of_ble_eq_true (by kernel_rfl)) ?_
  iterate 8 (all_goals try (first | with_reducible refine splitI (fun h=>?_) (fun h=>?_) | with_reducible refine splitBI (fun h=>?_) (fun h=>?_) | simp (config:={ maxSteps:=1000000 }) (disch:=first | assumption | omega | (simp; done) | fail) [Tryz.results28, *]))
  all_goals exact ⟨Nat.le_succ n,fun b hb=>gput_lt hb⟩
 by_cases t5:O < 1
 ·have hr:ret=1:=by rw [hret,if_pos (.inr (.inl t5))]
  clear hret
  refine WC.enterP (noO_ok _ _) hG [] Tryz.func28 rfl (by decide +kernel) (Nat.le_of_ble_eq_true (by kernel_rfl)) ?_
  iterate 8 (all_goals try (first | with_reducible refine splitI (fun h=>?_) (fun h=>?_) | with_reducible refine splitBI (fun h=>?_) (fun h=>?_) | simp (config:={ maxSteps:=1000000 }) (disch:=first | assumption | omega | (simp; done) | fail) [Tryz.results28, *]))
  all_goals exact ⟨Nat.le_succ n,fun b hb=>gput_lt hb⟩
 by_cases t6:T.length < 1
 ·have hr:ret=1:=by rw [hret,if_pos (.inr (.inr t6))]
  have t6I:(T.length:Int) < 1:=by omega
  clear hret
  refine WC.enterP (noO_ok _ _) hG [] Tryz.func28 rfl (by decide +kernel) (Nat.le_of_ble_eq_true (by kernel_rfl)) ?_
  iterate 8 (all_goals try (first | with_reducible refine splitI (fun h=>?_) (fun h=>?_) | with_reducible refine splitBI (fun h=>?_) (fun h=>?_) | simp (config:={ maxSteps:=1000000 }) (disch:=first | assumption | omega | (simp; done) | fail) [Tryz.results28, *]))
  all_goals exact ⟨Nat.le_succ n,fun b hb=>gput_lt hb⟩
 have t6I:¬(T.length:Int) < 1:=by omega
 rw [if_neg (by omega)] at hret
 have HRET:=Hide.mk hret
 clear hret
 refine WC.enterP (noO_ok _ _) hG [] Tryz.func28 rfl (by decide +kernel) (Nat.le_of_ble_eq_true (by kernel_rfl)) ?_
 iterate 8 (all_goals try (first | with_reducible refine splitI (fun h=>?_) (fun h=>?_) | with_reducible refine splitBI (fun h=>?_) (fun h=>?_) | simp (config:={ maxSteps:=1000000 }) (disch:=first | assumption | omega | (simp; done) | fail) [Tryz.results28, *]))
 refine LX.ind (fun m gf H'=>∃ (k:Nat) (gL:Nat→Option Blk) (n' nx:Nat),k≤T.length∧m=T.length - k∧H'=⟨.fn gL,n'⟩∧n < n'∧Hide (∀ b,b < n→gL b=g b)∧gL n=some (.cells [.lit (.int .i64 I),.lit (.int .i64 O),sv] true 0) ∧
  Hide (goT I O T 0 1=goT I O (T.drop k) k nx)∧nx≤1+k * 1000000∧gf 1=some (.ptr n 0)∧gf 3=some (.lit (.int .i64 nx))∧gf 37=some sv∧gf 38=some (.lit (.int .i64 T.length))∧gf 39=some (.lit (.int .i64 k))) (m0:=T.length) ?_ ?_
 ·exact ⟨0,_,_,1,Nat.zero_le _,rfl,rfl,by omega,⟨fun b hb=>gput_lt hb⟩,gput_eq,⟨rfl⟩,by omega,by simp,by simp,by simp,by simp,by simp⟩
 rintro m gf H' ⟨k,gL,n',nx,hk,rfl,rfl,hn',HG,hgn,HV,hnx,w1,w3,w37,w38,w39⟩ ih
 refine LX.roundP (noO_ok _ _) hG [] (by decide +kernel) ?_
 by_cases hlt:k < T.length
 ·have hltI:(k:Int) < (T.length:Int):=by omega
  obtain ⟨q1,hw1,hrep⟩:=HR.out.2 k hlt
  obtain ⟨a2,off,ha2,hrow,hia⟩:=HS.out.ia (P:=Tryz.prog) hlt 1
  simp only [Nat.mul_one] at hia
  have hkl:k < svs.length:=(List.getElem?_eq_some_iff.1 hw1).1
  have hcell:=(hrow.mono (HG.out a2 ha2)).one (k:=k) (s:=1) hkl
  rw [(List.getElem?_eq_some_iff.1 hw1).2] at hcell
  have hlw:=@lenV Tryz.prog _ _ _ _ _ hrep
  have hdrop:T.drop k=T[k] :: T.drop (k+1):=List.drop_eq_getElem_cons hlt
  have hv:=HV.out
  rw [hdrop,goT_cons] at hv
  have hrl:=HW.out _ (List.getElem_mem hlt)
  have HREP:=Hide.mk hrep
  have HV2:=Hide.mk hv
  clear hrow hrep hw1 ha2 hdrop hv HV
  generalize T[k]=row at *
  have h1q:oneC q1=true:=HREP.out.one
  by_cases u1:(row.length:Int)=I
  ·subst u1
   by_cases u2:k < nx
   ·have u2I:¬(nx:Int)≤(k:Int):=by omega
    have hv:=HV2.out
    rw [if_pos ⟨rfl,u2⟩] at hv
    have HV3:=Hide.mk hv
    clear hv HV2
    iterate 8 (all_goals try (first | with_reducible refine splitI (fun h=>?_) (fun h=>?_) | with_reducible refine splitBI (fun h=>?_) (fun h=>?_) | simp (config:={ maxSteps:=1000000 }) (disch:=first | assumption | omega | (simp; done) | fail) [Tryz.results28, *]))
    refine LX.ind (fun m gf H'=>∃ (i:Nat) (gM:Nat→Option Blk) (n2 nz:Nat),i≤row.length∧m=row.length - i∧H'=⟨.fn gM,n2⟩∧n < n2∧Hide (∀ b,b < n→gM b=g b)∧gM n=some (.cells [.lit (.int .i64 (row.length:Int)),.lit (.int .i64 O),sv] true 0) ∧
     Hide (goT (row.length:Int) O T 0 1=restT (row.length:Int) O (T.drop (k+1)) k (row.drop i) nz)∧nz≤1+k * 1000000+i∧gf 1=some (.ptr n 0)∧gf 3=some (.lit (.int .i64 nz))∧gf 37=some sv∧gf 38=some (.lit (.int .i64 T.length))∧gf 39=some (.lit (.int .i64 k)) ∧
     gf 54=some q1∧gf 55=some (.lit (.int .i64 row.length))∧gf 56=some (.lit (.int .i64 i))) (m0:=row.length) ?_ ?_
    ·exact ⟨0,gL,n',nx,Nat.zero_le _,rfl,rfl,hn',HG,hgn,HV3,by omega,by simp [*],by simp [*],by simp [*],by simp [*],by simp [*],by simp [*],by simp [*],by simp⟩
    rintro m gf H' ⟨i,gM,n2,nz,hi,rfl,rfl,hn2,HGM,hgMn,HVM,hnz,x1,x3,x37,x38,x39,x54,x55,x56⟩ ih2
    refine LX.roundP (noO_ok _ _) hG [] (by decide +kernel) ?_
    by_cases hlt2:i < row.length
    ·have hlt2I:(i:Int) < (row.length:Int):=by omega
     obtain ⟨a3,of3,ha3,hia3,hc3⟩:=RepE.at HREP.out hlt2
     rw [← HGM.out a3 ha3] at hc3
     have hdr:row.drop i=row[i] :: row.drop (i+1):=List.drop_eq_getElem_cons hlt2
     have hv:=HVM.out
     rw [hdr,restT_cons] at hv
     have HV4:=Hide.mk hv
     clear hv HVM hdr
     generalize row[i]=e at *
     obtain ⟨to,out⟩:=e
     simp only [edC] at hc3
     by_cases e1:to = -1
     ·subst e1
      by_cases e2:out = -1
      ·subst e2
       have hv2:goT (row.length:Int) O T 0 1=restT (row.length:Int) O (T.drop (k+1)) k (row.drop (i+1)) nz:=by rw [HV4.out]; simp [edOK]
       iterate 8 (all_goals try (first | with_reducible refine splitI (fun h=>?_) (fun h=>?_) | with_reducible refine splitBI (fun h=>?_) (fun h=>?_) | simp (config:={ maxSteps:=1000000 }) (disch:=first | assumption | omega | (simp; done) | fail) [Tryz.results28, *]))
       refine ih2.out (row.length - (i+1)) _ _ (by omega) ⟨i+1,_,_,nz,by omega,rfl,rfl,by omega,⟨fun b hb=>(gput_lt (by omega)).trans (HGM.out b hb)⟩,(gput_lt (by omega)).trans hgMn,⟨hv2⟩,by omega,by simp [*],by simp [*],by simp [*],by simp [*],by simp [*],by simp [*],by simp [*],by simp [*]⟩
      ·by_cases e3:out = -2
       ·subst e3
        have hv2:goT (row.length:Int) O T 0 1=restT (row.length:Int) O (T.drop (k+1)) k (row.drop (i+1)) nz:=by rw [HV4.out]; simp [edOK]
        iterate 8 (all_goals try (first | with_reducible refine splitI (fun h=>?_) (fun h=>?_) | with_reducible refine splitBI (fun h=>?_) (fun h=>?_) | simp (config:={ maxSteps:=1000000 }) (disch:=first | assumption | omega | (simp; done) | fail) [Tryz.results28, *]))
        refine ih2.out (row.length - (i+1)) _ _ (by omega) ⟨i+1,_,_,nz,by omega,rfl,rfl,by omega,⟨fun b hb=>(gput_lt (by omega)).trans (HGM.out b hb)⟩,(gput_lt (by omega)).trans hgMn,⟨hv2⟩,by omega,by simp [*],by simp [*],by simp [*],by simp [*],by simp [*],by simp [*],by simp [*],by simp [*]⟩
       ·have e4:¬(-1:Int)=(nz:Int):=by omega
        have hv2:goT (row.length:Int) O T 0 1=none:=by rw [HV4.out]; simp [edOK,e2,e3,e4]
        have hr:ret=1:=by rw [HRET.out,hv2]; simp
        clear hv2
        iterate 8 (all_goals try (first | with_reducible refine splitI (fun h=>?_) (fun h=>?_) | with_reducible refine splitBI (fun h=>?_) (fun h=>?_) | simp (config:={ maxSteps:=1000000 }) (disch:=first | assumption | omega | (simp; done) | fail) [Tryz.results28, *]))
        exact ⟨Nat.le_of_lt (Nat.lt_succ_of_lt hn2),fun b (hb:b < n)=>(gput_lt (by omega)).trans (HGM.out b hb)⟩
     ·by_cases e4:to=(nz:Int)
      ·subst e4
       by_cases e5:0≤out
       ·by_cases e6:out < O
        ·have hv2:goT (row.length:Int) O T 0 1=restT (row.length:Int) O (T.drop (k+1)) k (row.drop (i+1)) (nz+1):=by rw [HV4.out]; simp [edOK,e1,e5,e6]
         iterate 8 (all_goals try (first | with_reducible refine splitI (fun h=>?_) (fun h=>?_) | with_reducible refine splitBI (fun h=>?_) (fun h=>?_) | simp (config:={ maxSteps:=1000000 }) (disch:=first | assumption | omega | (simp; done) | fail) [Tryz.results28, *]))
         refine ih2.out (row.length - (i+1)) _ _ (by omega) ⟨i+1,_,_,(nz+1),by omega,rfl,rfl,by omega,⟨fun b hb=>(gput_lt (by omega)).trans (HGM.out b hb)⟩,(gput_lt (by omega)).trans hgMn,⟨hv2⟩,by omega,by simp [*],by simp [*],by simp [*],by simp [*],by simp [*],by simp [*],by simp [*],by simp [*]⟩
        ·have hv2:goT (row.length:Int) O T 0 1=none:=by rw [HV4.out]; simp [edOK,e1,e6]
         have hr:ret=1:=by rw [HRET.out,hv2]; simp
         clear hv2
         iterate 8 (all_goals try (first | with_reducible refine splitI (fun h=>?_) (fun h=>?_) | with_reducible refine splitBI (fun h=>?_) (fun h=>?_) | simp (config:={ maxSteps:=1000000 }) (disch:=first | assumption | omega | (simp; done) | fail) [Tryz.results28, *]))
         exact ⟨Nat.le_of_lt (Nat.lt_succ_of_lt hn2),fun b (hb:b < n)=>(gput_lt (by omega)).trans (HGM.out b hb)⟩
       ·have hv2:goT (row.length:Int) O T 0 1=none:=by rw [HV4.out]; simp [edOK,e1,e5]
        have hr:ret=1:=by rw [HRET.out,hv2]; simp
        clear hv2
        iterate 8 (all_goals try (first | with_reducible refine splitI (fun h=>?_) (fun h=>?_) | with_reducible refine splitBI (fun h=>?_) (fun h=>?_) | simp (config:={ maxSteps:=1000000 }) (disch:=first | assumption | omega | (simp; done) | fail) [Tryz.results28, *]))
        exact ⟨Nat.le_of_lt (Nat.lt_succ_of_lt hn2),fun b (hb:b < n)=>(gput_lt (by omega)).trans (HGM.out b hb)⟩
      ·have hv2:goT (row.length:Int) O T 0 1=none:=by rw [HV4.out]; simp [edOK,e1,e4]
       have hr:ret=1:=by rw [HRET.out,hv2]; simp
       clear hv2
       iterate 8 (all_goals try (first | with_reducible refine splitI (fun h=>?_) (fun h=>?_) | with_reducible refine splitBI (fun h=>?_) (fun h=>?_) | simp (config:={ maxSteps:=1000000 }) (disch:=first | assumption | omega | (simp; done) | fail) [Tryz.results28, *]))
       exact ⟨Nat.le_of_lt (Nat.lt_succ_of_lt hn2),fun b (hb:b < n)=>(gput_lt (by omega)).trans (HGM.out b hb)⟩
    ·have hlt2I:¬(i:Int) < (row.length:Int):=by omega
     have hi2:i=row.length:=by omega
     have hv:=HVM.out
     rw [hi2,List.drop_length] at hv
     have HV4:=Hide.mk (show goT (row.length:Int) O T 0 1=goT (row.length:Int) O (T.drop (k+1)) (k+1) nz from hv)
     clear hv HVM hi2
     iterate 8 (all_goals try (first | with_reducible refine splitI (fun h=>?_) (fun h=>?_) | with_reducible refine splitBI (fun h=>?_) (fun h=>?_) | simp (config:={ maxSteps:=1000000 }) (disch:=first | assumption | omega | (simp; done) | fail) [Tryz.results28, *]))
     refine ih.out (T.length - (k+1)) _ _ (by omega) ⟨k+1,gM,n2,nz,by omega,rfl,rfl,hn2,HGM,hgMn,HV4,by omega,by simp [*],by simp [*],by simp [*],by simp [*],by simp [*]⟩
   ·have u2I:(nx:Int)≤(k:Int):=by omega
    have hv:=HV2.out
    rw [if_neg (fun h=>u2 h.2)] at hv
    have hr:ret=1:=by rw [HRET.out,hv]; simp
    clear hv
    iterate 8 (all_goals try (first | with_reducible refine splitI (fun h=>?_) (fun h=>?_) | with_reducible refine splitBI (fun h=>?_) (fun h=>?_) | simp (config:={ maxSteps:=1000000 }) (disch:=first | assumption | omega | (simp; done) | fail) [Tryz.results28, *]))
    exact ⟨Nat.le_of_lt hn',fun b hb=>HG.out b hb⟩
  ·have hv:=HV2.out
   rw [if_neg (fun h=>u1 h.1)] at hv
   have hr:ret=1:=by rw [HRET.out,hv]; simp
   clear hv
   iterate 8 (all_goals try (first | with_reducible refine splitI (fun h=>?_) (fun h=>?_) | with_reducible refine splitBI (fun h=>?_) (fun h=>?_) | simp (config:={ maxSteps:=1000000 }) (disch:=first | assumption | omega | (simp; done) | fail) [Tryz.results28, *]))
   exact ⟨Nat.le_of_lt hn',fun b hb=>HG.out b hb⟩
 ·have hltI:¬(k:Int) < (T.length:Int):=by omega
  have hk2:k=T.length:=by omega
  have hv:=HV.out
  rw [hk2,List.drop_length] at hv
  have hv' : goT I O T 0 1=some nx:=hv
  clear hk2 hv HV
  by_cases u3:nx=T.length
  ·rw [u3] at w3
   have hr:ret=0:=by rw [HRET.out,hv',u3]; simp
   clear hv' u3
   iterate 8 (all_goals try (first | with_reducible refine splitI (fun h=>?_) (fun h=>?_) | with_reducible refine splitBI (fun h=>?_) (fun h=>?_) | simp (config:={ maxSteps:=1000000 }) (disch:=first | assumption | omega | (simp; done) | fail) [Tryz.results28, *]))
   exact ⟨Nat.le_of_lt hn',fun b hb=>HG.out b hb⟩
  ·have u3I:¬(nx:Int)=(T.length:Int):=by omega
   have hr:ret=1:=by rw [HRET.out,hv',if_neg (fun h=>u3 (by injection h))]
   clear hv'
   iterate 8 (all_goals try (first | with_reducible refine splitI (fun h=>?_) (fun h=>?_) | with_reducible refine splitBI (fun h=>?_) (fun h=>?_) | simp (config:={ maxSteps:=1000000 }) (disch:=first | assumption | omega | (simp; done) | fail) [Tryz.results28, *]))
   exact ⟨Nat.le_of_lt hn',fun b hb=>HG.out b hb⟩
theorem rowsL_len {I:Nat} {ts:List (List Int×List Int)} : (rowsL I ts).length=(nodesM ts).length:=rowsT_len
theorem check_tree {I:Nat} {O:Int} {rows:List (List (Int×Int))} (hI1:1≤I) (hI2:I≤16) (hO1:1≤O) (hO2:O≤16) (h0:0 < rows.length) (hl:rows.length≤65537) (hgo:goT I O rows 0 1=some rows.length) (hw:∀ r∈rows,r.length≤1000000) (g:Nat→Option Blk) (n:Nat) (tv:AV) (hT:TreeV g n rows tv) :
  WC 3 Tryz.prog 28 [.agg [.lit (.int .i64 I),.lit (.int .i64 O),tv]] ⟨.fn g,n⟩ fun r=>r=.ret (.lit (.int .i64 0)) ⟨.fn g,n⟩:=by
 obtain ⟨svs,h1,h2,h3⟩:=hT
 have h:=CheckTree_w I O rows (by omega) hw g n tv svs h1 ⟨h2,h3⟩
 have e:treeErr I O rows=0:=by
  unfold treeErr
  rw [if_neg (by omega),if_neg (by omega),if_pos hgo]
 rw [e] at h
 exact h
end Go.Ai
end
section
namespace Go.Ai
open Go.Proofs
set_option maxRecDepth 10000
set_option maxHeartbeats 40000000
theorem capV_grow {g:Nat→Option Blk} {lo n B len sz:Nat} {sv:AV} {cs:List AV} (h:GrowV g lo n B sv len sz cs) : CapV sv:=by
 intro a o k c e
 rcases h with ⟨_,_,h3⟩ | ⟨_,h3,_⟩
 ·rw [h3] at e; cases e
 ·rw [h3] at e; cases e
def FreshC (g:Nat→Option Blk) (lo n:Nat) (w:List Int) (sv:AV) : Prop:=FreshW g lo n w sv∧CapV sv
def LogC (g:Nat→Option Blk) (lo n B:Nat) (ts:List (List Int×List Int)) (sv:AV) : Prop:=∃ cs,GrowV g lo n B sv ts.length 2 cs∧RowsF g lo n B ts cs∧∀ v∈cs,CapV v
theorem LogC.logF {g:Nat→Option Blk} {lo n B:Nat} {ts:List (List Int×List Int)} {sv:AV} (h:LogC g lo n B ts sv) : LogF g lo n B ts sv:=let ⟨cs,h1,h2,_⟩:=h; ⟨cs,h1,h2⟩
theorem LogC.one {g:Nat→Option Blk} {lo n B:Nat} {ts:List (List Int×List Int)} {sv:AV} (h:LogC g lo n B ts sv) : oneC sv=true:=h.logF.one
theorem LogC.logX {g:Nat→Option Blk} {lo n B:Nat} {ts:List (List Int×List Int)} {sv:AV} (h:LogC g lo n B ts sv) : LogX g n ts sv:=by
 obtain ⟨cs,h1,h2,h3⟩:=h
 refine ⟨cs,SliceV.ext (Nat.le_refl _) (fun a x _ hx=>?_) h1.slice,h2.rows,h3⟩
 split at hx
 ·exact hx
 ·cases hx
theorem LogC.keep {g g' : Nat→Option Blk} {lo lo' n n' B:Nat} {ts:List (List Int×List Int)} {sv:AV} (h:LogC g lo n B ts sv) (h0:lo'≤lo) (h2:n≤n') (hg:∀ a,lo≤a→a < n→g' a=g a) : LogC g' lo' n' B ts sv:=by
 obtain ⟨cs,h1,h3,h4⟩:=h
 refine ⟨cs,?_,h3.keep h0 h2 (.inr (.inl rfl)) fun a h4 h5 _=>hg a h4 h5,h4⟩
 rcases h1 with h1 | ⟨k1,k2,k3,k4,k5,k6⟩
 ·exact .inl h1
 ·exact .inr ⟨k1,k2,by omega,by omega,(hg B k3 k4).trans k5,k6⟩
theorem rRun_c {M:MachM} (hM:M.ok) (w:List Int) (hwl:w.length≤300) (hw:inW w M.inp=true) (g:Nat→Option Blk) (n:Nat) (ms:List AV) (wv:AV) (hr:RepM g n M ms) (hv:RepW g n w wv) :
  WC 3 Tryz.prog 33 [.agg ms,.lit (.int .i64 0),wv] ⟨.fn g,n⟩ fun r=>∃ sv g' n',r=.ret sv ⟨.fn g',n'⟩∧n≤n'∧(∀ b,b < n→g' b=g b)∧FreshC g' n n' (runM M 0 w) sv:=by
 obtain ⟨rv,rfl,h1r⟩:=hr.one
 have h1a:allOne [.lit (.int .i64 M.inp),.lit (.int .i64 M.out),rv]=true:=by simp [h1r]
 have hlen:=@lenV Tryz.prog _ _ _ _ _ hv
 have HR:=Hide.mk hr
 have HV:=Hide.mk hv
 have HM:=Hide.mk hM
 have HW:=Hide.mk hw
 have hr0:=hM.2.2.2.2.1
 clear hr hv hM hw
 refine WC.enterP (noO_ok _ _) hG pl33 Tryz.func33 rfl (by decide +kernel) (Nat.le_of_ble_eq_true (by kernel_rfl)) ?_
 iterate 8 (all_goals try (first | with_reducible refine splitI (fun h=>?_) (fun h=>?_) | with_reducible refine splitBI (fun h=>?_) (fun h=>?_) | simp (config:={ maxSteps:=1000000 }) (disch:=first | assumption | omega | (simp; done) | fail) [Tryz.results33, *]))
 refine LX.ind (fun m gf H'=>∃ (k n' : Nat) (gL:Nat→Option Blk) (B:Nat) (sv:AV) (cs:List AV) (s:Int),k≤w.length∧m=w.length - k∧H'=⟨.fn gL,n'⟩∧n+1≤n'∧Hide (∀ b,b < n→gL b=g b)∧gL n=some (.cells [.lit (.int .i64 M.inp),.lit (.int .i64 M.out),rv] true 0) ∧
  Hide (GrowV gL (n+1) n' B sv k 1 cs)∧Hide (cs=wdC (runM M 0 (w.take k)))∧Hide (s=aftM M 0 (w.take k)∧stOK M s)∧gf 1=some (.lit (.int .i64 s))∧gf 2=some wv∧gf 3=some (.ptr n 0)∧gf 7=some sv∧gf 8=some (.lit (.int .i64 k))) (m0:=w.length) ?_ ?_
 ·exact ⟨0,_,_,0,_,[],0,Nat.zero_le _,rfl,rfl,Nat.le_refl _,⟨fun b hb=>gput_lt hb⟩,gput_eq,⟨.inl ⟨rfl,rfl,rfl⟩⟩,⟨rfl⟩,⟨rfl,.inr ⟨0,rfl,by omega⟩⟩,by simp,by simp,by simp,by simp,by simp⟩
 rintro m gf H' ⟨k,n',gL,B,sv,cs,s,hk,rfl,rfl,hn',HG,hgn,HGR,HC,HST,w1,w2,w3,w7,w8⟩ ih
 refine LX.roundP (noO_ok _ _) hG pl33 (by decide +kernel) ?_
 by_cases hlt:k < w.length
 ·have hltI:(k:Int) < (w.length:Int):=by omega
  obtain ⟨a2,off,ha2,hia,hcell⟩:=SliceV.mono (Nat.le_of_lt hn') HG.out HV.out |> fun h=>RepW.at (w:=w) h hlt
  have htk:=take_snoc hlt
  have hx:=of_decide_eq_true (List.all_eq_true.1 HW.out _ (List.getElem_mem hlt))
  have HN:=Hide.mk (fun (gX:Nat→Option Blk) (n2:Nat) (hn2:n≤n2) (hX:∀ b,b < n→gX b=g b)=>rNext_w HM.out s w[k] HST.out.2 hx.1 hx.2 gX n2 _ (HR.out.mono hn2 hX))
  have HA:Hide (aftM M 0 (w.take (k+1))=(nextM M s w[k]).1):=⟨by rw [htk,aftM_app,← HST.out.1]; rfl⟩
  have HRN:Hide (runM M 0 (w.take (k+1))=runM M 0 (w.take k)++[(nextM M s w[k]).2]):=⟨by rw [htk,runM_app,← HST.out.1]; rfl⟩
  have HOK:=Hide.mk (edgeOK_st (nextM_ok HM.out HST.out.2 hx.1 hx.2)).1
  clear hx htk
  generalize w[k]=x at *
  generalize nextM M s x=e at *
  obtain ⟨to,eo⟩:=e
  dsimp only at *
  iterate 8 (all_goals try (first | with_reducible refine splitI (fun h=>?_) (fun h=>?_) | with_reducible refine splitBI (fun h=>?_) (fun h=>?_) | simp (config:={ maxSteps:=1000000 }) (disch:=first | assumption | omega | (simp; done) | fail) [Tryz.results33, *]))
  refine WC.mono (HN.out _ _ (by omega) fun b (hb:b < n)=>(gput_lt (by omega)).trans (HG.out b hb)) ?_
  rintro _ ⟨g2,n2,rfl,hn2,hX⟩
  have HG2:Hide (∀ b,b < n→g2 b=g b):=⟨fun b hb=>(hX b (by omega)).trans ((gput_lt (by omega)).trans (HG.out b hb))⟩
  have hnn2:n'+1≤n2:=hn2
  have hg2n:g2 n=some (.cells [.lit (.int .i64 M.inp),.lit (.int .i64 M.out),rv] true 0):=(hX n (by omega)).trans ((gput_lt (by omega)).trans hgn)
  have hg2e:g2 n'=some (.cells [.lit (.int .i64 0),.lit (.int .i64 0)] true 0):=(hX n' (by omega)).trans gput_eq
  have HX:=Hide.mk hX
  have HEND:Hide (∀ cs',cs'=cs++[.lit (.int .i64 eo)]→cs'=wdC (runM M 0 (w.take (k+1)))∧cs'.length=(k+1) * 1):=⟨fun cs' h=>by
   rw [HRN.out,wdC_snoc,← HC.out]
   refine ⟨h,?_⟩
   rw [h,HC.out,List.length_append,wdC_len,runM_len,List.length_take]
   simp; omega⟩
  clear hX hn2 HN hia hcell ha2
  rcases HGR.out with ⟨hk0,hc0,hs0⟩ | ⟨hk0,hs0,hB1,hB2,hB3,hB4⟩
  ·subst hs0
   have HZ:=Hide.mk (And.intro hk0 hc0)
   clear hk0 hc0
   iterate 8 (all_goals try (first | with_reducible refine splitI (fun h=>?_) (fun h=>?_) | with_reducible refine splitBI (fun h=>?_) (fun h=>?_) | simp (config:={ maxSteps:=1000000 }) (disch:=first | assumption | omega | (simp; done) | fail) [Tryz.results33, *]))
   have HQ:=HEND.out [.lit (.int .i64 eo)] (by rw [HZ.out.2]; rfl)
   refine ih.out (w.length - (k+1)) _ _ (by omega) ⟨k+1,n2+1+1,_,n2+1,.slq (n2+1) 0 (k+1) 0,_,to,by omega,rfl,rfl,by omega,⟨fun b hb=>?_⟩,?_,⟨.mk gput_eq (by omega) (by omega) HQ.2⟩,⟨HQ.1⟩,⟨HA.out.symm,HOK.out⟩,by simp,by simp [*],by simp [*],by rw [HZ.out.1]; simp,by simp⟩
   ·simp (disch:=omega) only [gput_lt]; exact HG2.out b hb
   ·simp (disch:=omega) only [gput_lt]; exact hg2n
  ·subst hs0
   have hB5:g2 B=some (.cells cs true 1):=(HX.out B (by omega)).trans ((gput_lt hB2).trans hB3)
   clear hB3
   iterate 8 (all_goals try (first | with_reducible refine splitI (fun h=>?_) (fun h=>?_) | with_reducible refine splitBI (fun h=>?_) (fun h=>?_) | simp (config:={ maxSteps:=1000000 }) (disch:=first | assumption | omega | (simp; done) | fail) [Tryz.results33, *]))
   have HQ:=HEND.out _ rfl
   refine ih.out (w.length - (k+1)) _ _ (by omega) ⟨k+1,n2+1+1,_,n2+1,.slq (n2+1) 0 (k+1) 0,_,to,by omega,rfl,rfl,by omega,⟨fun b hb=>?_⟩,?_,⟨.mk gput_eq (by omega) (by omega) HQ.2⟩,⟨HQ.1⟩,⟨HA.out.symm,HOK.out⟩,by simp,by simp [*],by simp [*],by simp,by simp⟩
   ·simp (disch:=omega) only [gput_lt,gput_ne]; exact HG2.out b hb
   ·simp (disch:=omega) only [gput_lt,gput_ne]; exact hg2n
 ·have hltI:¬(k:Int) < (w.length:Int):=by omega
  have hkw:k=w.length:=by omega
  have HREP:Hide (FreshC gL n n' (runM M 0 w) sv):=⟨by
   have h1:=HGR.out
   rw [HC.out,hkw,List.take_length] at h1
   exact ⟨(h1.fresh (runM_len w 0).symm).keep (Nat.le_succ n) (Nat.le_refl _) fun _ _ _=>rfl,capV_grow h1⟩⟩
  clear hkw
  iterate 8 (all_goals try (first | with_reducible refine splitI (fun h=>?_) (fun h=>?_) | with_reducible refine splitBI (fun h=>?_) (fun h=>?_) | simp (config:={ maxSteps:=1000000 }) (disch:=first | assumption | omega | (simp; done) | fail) [Tryz.results33, *]))
  exact ⟨_,_,_,⟨rfl,rfl,rfl⟩,by omega,HG.out,HREP.out⟩
theorem Word_c (bs:List Nat) (hb:∀ b∈bs,b < 256) (I most:Nat) (hI0:0 < I) (hI:I≤16) (hm:most≤12) (g:Nat→Option Blk) (n:Nat) (bv:AV) (hv:RepB g n bs bv) :
  WC 3 Tryz.prog 29 [bv,.lit (.int .i64 I),.lit (.int .i64 most)] ⟨.fn g,n⟩ fun r=>∃ sv g' n',r=.ret sv ⟨.fn g',n'⟩∧n≤n'∧(∀ b,b < n→g' b=g b)∧FreshC g' n n' (wordG bs I most) sv:=by
 have hlen:=@lenV Tryz.prog _ _ _ _ _ hv
 have HV:=Hide.mk hv
 have HBS:=Hide.mk hb
 clear hv hb
 refine WC.enterP (noO_ok _ _) hG [] Tryz.func29 rfl (by decide +kernel) (Nat.le_of_ble_eq_true (by kernel_rfl)) ?_
 iterate 8 (all_goals try (first | with_reducible refine splitI (fun h=>?_) (fun h=>?_) | with_reducible refine splitBI (fun h=>?_) (fun h=>?_) | simp (config:={ maxSteps:=1000000 }) (disch:=first | assumption | omega | (simp; done) | fail) [Tryz.results29, *]))
 refine LX.ind (fun m gf H'=>∃ (k n' : Nat) (gL:Nat→Option Blk) (B:Nat) (sv:AV) (cs:List AV),k≤bs.length∧k≤most∧m=most - k∧H'=⟨.fn gL,n'⟩∧n≤n'∧Hide (∀ b,b < n→gL b=g b) ∧
  Hide (GrowV gL n n' B sv k 1 cs)∧Hide (cs=wdC ((bs.take k).map fun b=>((b % I:Nat) : Int)))∧gf 0=some bv∧gf 1=some (.lit (.int .i64 I))∧gf 2=some (.lit (.int .i64 most))∧gf 7=some sv∧gf 8=some (.lit (.int .i64 k))) (m0:=most) ?_ ?_
 ·exact ⟨0,_,_,0,_,[],Nat.zero_le _,Nat.zero_le _,rfl,rfl,Nat.le_refl _,⟨fun b hb=>rfl⟩,⟨.inl ⟨rfl,rfl,rfl⟩⟩,⟨rfl⟩,by simp,by simp,by simp,by simp,by simp⟩
 rintro m gf H' ⟨k,n',gL,B,sv,cs,hk,hkm,rfl,rfl,hn',HG,HGR,HC,w0,w1,w2,w7,w8⟩ ih
 refine LX.roundP (noO_ok _ _) hG [] (by decide +kernel) ?_
 have fin:¬(k < bs.length∧k < most)→Hide (FreshC gL n n' (wordG bs I most) sv):=fun h=>⟨by
  have h1:=HGR.out
  have e:bs.take k=bs.take most:=by
   by_cases h2:k < most
   ·rw [List.take_of_length_le (by omega),List.take_of_length_le (by omega)]
   ·rw [show k=most by omega]
  rw [HC.out,e] at h1
  exact ⟨h1.fresh (by rw [List.length_map,← e,List.length_take]; omega),capV_grow h1⟩⟩
 have FIN:=Hide.mk fin
 clear fin
 by_cases hlt:k < bs.length
 ·have hltI:(k:Int) < (bs.length:Int):=by omega
  by_cases hlm:k < most
  ·have hlmI:(k:Int) < (most:Int):=by omega
   obtain ⟨a2,off,ha2,hia,hcell⟩:=RepB.at (n:=n') (w:=bs) (SliceV.mono hn' HG.out HV.out) hlt
   have hx:=HBS.out _ (List.getElem_mem hlt)
   have HEND:Hide (∀ cs',cs'=cs++[.lit (.int .i64 ((bs[k] % I:Nat) : Int))]→cs'=wdC ((bs.take (k+1)).map fun b=>((b % I:Nat) : Int))∧cs'.length=(k+1) * 1):=⟨fun cs' h=>by
    rw [take_snoc hlt,List.map_append,List.map_singleton,wdC_snoc,← HC.out]
    refine ⟨h,?_⟩
    rw [h,HC.out,List.length_append,wdC_len,List.length_map,List.length_take]
    simp; omega⟩
   generalize bs[k]=x at *
   have hrem:(x:Int).tmod (I:Int)=((x % I:Nat) : Int):=(Int.ofNat_tmod x I).symm
   have hxi:x % I < 256:=Nat.lt_of_le_of_lt (Nat.mod_le x I) hx
   generalize x % I=y at *
   have hI1:¬(I:Int)=0:=by omega
   have hI2:¬I=0:=by omega
   rcases HGR.out with ⟨hk0,hc0,hs0⟩ | ⟨hk0,hs0,hB1,hB2,hB3,hB4⟩
   ·subst hs0
    have HZ:=Hide.mk (And.intro hk0 hc0)
    clear hk0 hc0
    iterate 8 (all_goals try (first | with_reducible refine splitI (fun h=>?_) (fun h=>?_) | with_reducible refine splitBI (fun h=>?_) (fun h=>?_) | simp (config:={ maxSteps:=1000000 }) (disch:=first | assumption | omega | (simp; done) | fail) [Tryz.results29, *]))
    have HQ:=HEND.out [.lit (.int .i64 (y:Int))] (by rw [HZ.out.2]; rfl)
    refine ih.out (most - (k+1)) _ _ (by omega) ⟨k+1,n'+1+1,_,n'+1,.slq (n'+1) 0 (k+1) 0,_,by omega,by omega,rfl,rfl,by omega,⟨fun b hb=>?_⟩,⟨.mk gput_eq (by omega) (by omega) HQ.2⟩,⟨HQ.1⟩,by simp [*],by simp [*],by simp [*],by rw [HZ.out.1]; simp,by simp⟩
    simp (disch:=omega) only [gput_lt]; exact HG.out b hb
   ·subst hs0
    iterate 8 (all_goals try (first | with_reducible refine splitI (fun h=>?_) (fun h=>?_) | with_reducible refine splitBI (fun h=>?_) (fun h=>?_) | simp (config:={ maxSteps:=1000000 }) (disch:=first | assumption | omega | (simp; done) | fail) [Tryz.results29, *]))
    have HQ:=HEND.out _ rfl
    refine ih.out (most - (k+1)) _ _ (by omega) ⟨k+1,n'+1+1,_,n'+1,.slq (n'+1) 0 (k+1) 0,_,by omega,by omega,rfl,rfl,by omega,⟨fun b hb=>?_⟩,⟨.mk gput_eq (by omega) (by omega) HQ.2⟩,⟨HQ.1⟩,by simp [*],by simp [*],by simp [*],by simp,by simp⟩
    simp (disch:=omega) only [gput_lt,gput_ne]; exact HG.out b hb
  ·have hlmI:¬(k:Int) < (most:Int):=by omega
   have HF:=FIN.out (by omega)
   iterate 8 (all_goals try (first | with_reducible refine splitI (fun h=>?_) (fun h=>?_) | with_reducible refine splitBI (fun h=>?_) (fun h=>?_) | simp (config:={ maxSteps:=1000000 }) (disch:=first | assumption | omega | (simp; done) | fail) [Tryz.results29, *]))
   exact ⟨_,_,_,⟨rfl,rfl,rfl⟩,by omega,HG.out,HF.out⟩
 ·have hltI:¬(k:Int) < (bs.length:Int):=by omega
  have HF:=FIN.out (by omega)
  iterate 8 (all_goals try (first | with_reducible refine splitI (fun h=>?_) (fun h=>?_) | with_reducible refine splitBI (fun h=>?_) (fun h=>?_) | simp (config:={ maxSteps:=1000000 }) (disch:=first | assumption | omega | (simp; done) | fail) [Tryz.results29, *]))
  exact ⟨_,_,_,⟨rfl,rfl,rfl⟩,by omega,HG.out,HF.out⟩
theorem Word2_c (bs:List Nat) (hb:∀ b∈bs,b < 256) (I:Int) (most:Nat) (hI0:1≤I) (hI:I≤16) (hm:most≤12) (mm:Int) (hmm:mm=most) (g:Nat→Option Blk) (n:Nat) (bv:AV) (hv:RepB g n bs bv) :
  WC 3 Tryz.prog 29 [bv,.lit (.int .i64 I),.lit (.int .i64 mm)] ⟨.fn g,n⟩ fun r=>∃ sv g' n',r=.ret sv ⟨.fn g',n'⟩∧n≤n'∧(∀ b,b < n→g' b=g b)∧FreshC g' n n' (wordG bs I.toNat most) sv:=by
 obtain ⟨k,rfl⟩ : ∃ k:Nat,I=k:=⟨I.toNat,by omega⟩
 subst hmm
 exact Word_c bs hb k most (by omega) (by omega) hm g n bv hv
theorem Runs_c {st inp out:Nat} {part:Bool} {es:List Nat} {ev:AV} {ws:List (List Nat)} {wv:AV} (ia ib ic:Int) (g:Nat→Option Blk) (n:Nat) (hI:InG g n st inp out es ev ws wv) :
  WC 3 Tryz.prog 25 [.agg [.lit (.int .u8 st),.lit (.int .u8 inp),.lit (.int .u8 out),.lit (.bool part),ev,wv,.lit (.int .u8 ia),.lit (.int .u8 ib),.lit (.int .u8 ic)]] ⟨.fn g,n⟩ fun r=>∃ sv g' n' B,r=.ret (.agg [.lit (.int .i64 (machOf st inp out part es).inp),.lit (.int .i64 (machOf st inp out part es).out),sv]) ⟨.fn g',n'⟩∧n≤n'∧(∀ b,b < n→g' b=g b)∧LogC g' n n' B (runsM (machOf st inp out part es) ws) sv:=by
 have hlen:=@lenV Tryz.prog _ _ _ _ _ hI.sw.choose_spec.1
 have h1e:=hI.se.one
 have h1w:=hI.sw.choose_spec.1.one
 have hone:allOne [.lit (.int .u8 st),.lit (.int .u8 inp),.lit (.int .u8 out),.lit (.bool part),ev,wv,.lit (.int .u8 ia),.lit (.int .u8 ib),.lit (.int .u8 ic)]=true:=by simp [h1e,h1w]
 have HMO:=Hide.mk fun (gX:Nat→Option Blk) (n2:Nat) (hn:n≤n2) (hX:∀ b,b < n→gX b=g b)=>MOf_w st inp out part es ev gX n2 hI.b0 hI.b1 hI.b2 (hI.se.mono hn hX) hI.eb
 have HI:=Hide.mk hI
 have HM:=Hide.mk (machOf_ok st inp out part es)
 clear hI
 generalize machOf st inp out part es=M at *
 refine WC.enterP (noO_ok _ _) hG pl25 Tryz.func25 rfl (by decide +kernel) (Nat.le_of_ble_eq_true (by kernel_rfl)) ?_
 iterate 8 (all_goals try (first | with_reducible refine splitI (fun h=>?_) (fun h=>?_) | with_reducible refine splitBI (fun h=>?_) (fun h=>?_) | simp (config:={ maxSteps:=1000000 }) (disch:=first | assumption | omega | (simp; done) | fail) [Tryz.results25, *]))
 refine WC.mono (HMO.out _ _ (by omega) fun b (hb:b < n)=>by simp (disch:=omega) only [gput_lt]) ?_
 rintro _ ⟨ms,g1,n1,rfl,hn1,hg1,hfr⟩
 obtain ⟨rv,hms,h1r⟩:=hfr.rep.one
 subst hms
 have hone2:allOne [.lit (.int .i64 M.inp),.lit (.int .i64 M.out),rv]=true:=by simp [h1r]
 have HR:=Hide.mk hfr.rep
 have HG1:Hide (∀ b,b < n→g1 b=g b):=⟨fun b hb=>(hg1 b (by omega)).trans (by simp (disch:=omega) only [gput_lt])⟩
 have HX1:=Hide.mk hg1
 clear hg1 hfr HMO
 iterate 8 (all_goals try (first | with_reducible refine splitI (fun h=>?_) (fun h=>?_) | with_reducible refine splitBI (fun h=>?_) (fun h=>?_) | simp (config:={ maxSteps:=1000000 }) (disch:=first | assumption | omega | (simp; done) | fail) [Tryz.results25, *]))
 have hgn1:g1 n=some (.cells [.lit (.int .u8 st),.lit (.int .u8 inp),.lit (.int .u8 out),.lit (.bool part),ev,wv,.lit (.int .u8 ia),.lit (.int .u8 ib),.lit (.int .u8 ic)] true 0):=(HX1.out n (by omega)).trans (by simp (disch:=omega) only [gput_lt,gput_eq])
 have hgo1:g1 (n+1)=some (.cells [.lit (.int .i64 0),.lit (.int .i64 0),.lit (.slice none 0 0)] true 0):=(HX1.out (n+1) (by omega)).trans (by simp (disch:=omega) only [gput_lt,gput_eq])
 clear HX1
 refine LX.ind (fun m gf H'=>∃ (k n' : Nat) (gL:Nat→Option Blk) (B:Nat) (sv:AV),k≤ws.length∧k≤12∧m=12 - k∧H'=⟨.fn gL,n'⟩∧n1+1+1≤n'∧B < n'∧Hide (∀ b,b < n1→gL b=g1 b)∧gL n1=some (.cells [.lit (.int .i64 M.inp),.lit (.int .i64 M.out),rv] true 0) ∧
  gL (n1+1)=some (.cells [.lit (.int .i64 M.inp),.lit (.int .i64 M.out),sv] true 0)∧Hide (LogC gL (n1+1+1) n' B ((ws.take k).map (oneM M)) sv)∧gf 1=some (.ptr n 0)∧gf 2=some (.ptr (n+1) 0)∧gf 3=some (.ptr n1 0)∧gf 4=some (.ptr (n1+1) 0)∧gf 5=some (.lit (.int .i64 k))) (m0:=12) ?_ ?_
 ·refine ⟨0,_,_,0,_,Nat.zero_le _,Nat.zero_le _,rfl,rfl,Nat.le_refl _,by omega,⟨fun b hb=>?_⟩,?_,gput_eq,⟨[],.inl ⟨rfl,rfl,rfl⟩,.nil,fun v hv=>by cases hv⟩,by simp,by simp,by simp,by simp,by simp⟩
  ·exact (gput_lt (by omega)).trans (gput_lt hb)
  ·exact (gput_lt (by omega)).trans gput_eq
 rintro m gf H' ⟨k,n',gL,B,sv,hk,hk12,rfl,rfl,hn',hBn,HG,hgm,hgl,HL,w1,w2,w3,w4,w5⟩ ih
 have hgn:=(HG.out n (by omega)).trans hgn1
 have hgo:=(HG.out (n+1) (by omega)).trans hgo1
 have h1sv:=HL.out.one
 have hone3:allOne [.lit (.int .i64 M.inp),.lit (.int .i64 M.out),sv]=true:=by simp [h1sv]
 have FIN:Hide (¬(k < ws.length∧k < 12)→LogC gL (n1+1+1) n' B (runsM M ws) sv):=⟨fun h=>by
  have e:ws.take k=ws.take 12:=by
   by_cases h2:k < 12
   ·rw [List.take_of_length_le (by omega),List.take_of_length_le (by omega)]
   ·rw [show k=12 by omega]
  have h1:=HL.out
  rw [e] at h1
  exact h1⟩
 refine LX.roundP (noO_ok _ _) hG pl25 (by decide +kernel) ?_
 by_cases hlt:k < ws.length
 ·have hltI:(k:Int) < (ws.length:Int):=by omega
  by_cases hlm:k < 12
  ·have hlmI:(k:Int) < 12:=by omega
   obtain ⟨a2,off,q,ha2,hia,hcell,hrb⟩:=HI.out.sw.at hlt
   have hcell2:loadB (some (false,1)) (gL a2) (off+k)=some q:=(congrArg (fun z=>loadB (some (false,1)) z (off+k)) ((HG.out a2 (by omega)).trans (HG1.out a2 ha2))).trans hcell
   have hM:=HM.out
   have HWD:=Hide.mk (fun (gX:Nat→Option Blk) (n2:Nat) (hn2:n≤n2) (hX:∀ b,b < n→gX b=g b)=>Word2_c ws[k] (HI.out.wb _ (List.getElem_mem hlt)) M.inp 10 hM.1 hM.2.1 (by decide) 10 rfl gX n2 q (SliceV.mono hn2 hX hrb))
   have HTK:Hide ((ws.take (k+1)).map (oneM M)=(ws.take k).map (oneM M)++[oneM M ws[k]]):=⟨by rw [take_snoc hlt,List.map_append,List.map_singleton]⟩
   have HW:Hide (oneM M ws[k]=(wordG ws[k] M.inp.toNat 10,runM M 0 (wordG ws[k] M.inp.toNat 10))∧(wordG ws[k] M.inp.toNat 10).length≤10∧inW (wordG ws[k] M.inp.toNat 10) M.inp=true):=⟨rfl,wordG_len,wordG_in hM.1⟩
   clear hcell hrb hM
   generalize wordG ws[k] M.inp.toNat 10=w at *
   generalize oneM M ws[k]=t at *
   iterate 8 (all_goals try (first | with_reducible refine splitI (fun h=>?_) (fun h=>?_) | with_reducible refine splitBI (fun h=>?_) (fun h=>?_) | simp (config:={ maxSteps:=1000000 }) (disch:=first | assumption | omega | (simp; done) | fail) [Tryz.results25, *]))
   refine WC.mono (HWD.out _ _ (by omega) fun b (hb:b < n)=>(HG.out b (by omega)).trans (HG1.out b hb)) ?_
   rintro _ ⟨uv,g2,n2,rfl,hn2,hX2,hfw⟩
   have HX2:=Hide.mk hX2
   have HFW:=Hide.mk hfw
   have hgm2:=(hX2 n1 (by omega)).trans hgm
   have hgl2:=(hX2 (n1+1) (by omega)).trans hgl
   have hone4:oneC uv=true:=hfw.1.rep.one
   have hcu:cellsOf uv=[uv]:=hfw.1.rep.cell
   have HRU:=Hide.mk (fun (gX:Nat→Option Blk) (n3:Nat) (hn3:n2≤n3) (hX:∀ b,b < n2→gX b=g2 b)=>rRun_c HM.out w (by have:=HW.out.2.1; omega) HW.out.2.2 gX n3 [.lit (.int .i64 M.inp),.lit (.int .i64 M.out),rv] uv (HR.out.mono (by omega) fun b hb=>(hX b (by omega)).trans ((HX2.out b (by omega)).trans (HG.out b (by omega)))) (SliceV.mono hn3 hX HFW.out.1.rep))
   clear hX2 hfw HWD hcell2 hia
   iterate 8 (all_goals try (first | with_reducible refine splitI (fun h=>?_) (fun h=>?_) | with_reducible refine splitBI (fun h=>?_) (fun h=>?_) | simp (config:={ maxSteps:=1000000 }) (disch:=first | assumption | omega | (simp; done) | fail) [Tryz.results25, *]))
   refine WC.mono (HRU.out _ _ (by omega) fun b hb=>rfl) ?_
   rintro _ ⟨zv,g3,n3,rfl,hn3,hX3,hfz⟩
   have HX3:=Hide.mk hX3
   have HFZ:=Hide.mk hfz
   have hgm3:=(hX3 n1 (by omega)).trans hgm2
   have hgl3:=(hX3 (n1+1) (by omega)).trans hgl2
   have hone5:oneC zv=true:=hfz.1.rep.one
   have hcz:cellsOf zv=[zv]:=hfz.1.rep.cell
   have hone6:allOne [uv,zv]=true:=by simp [hone4,hone5]
   clear hX3 hfz HRU
   obtain ⟨cs,hgr,hrf,hcc⟩:=HL.out
   have HCC:=Hide.mk hcc
   clear hcc
   have HRF:=Hide.mk hrf
   have hcl:=hrf.1
   rw [List.length_map,List.length_take,Nat.min_eq_left hk] at hgr
   rw [List.length_map,List.length_take,Nat.min_eq_left hk] at hcl
   clear hrf
   have HNB:Hide (∀ a,n'≤a→a≠B):=⟨fun a h=>by omega⟩
   have HLOG:Hide (∀ gF:Nat→Option Blk,(∀ b,n1+1+1≤b→b < n3→b≠B→gF b=g3 b)→gF (n3+1)=some (.cells (cs++[uv,zv]) true 2)→LogC gF (n1+1+1) (n3+1+1) (n3+1) ((ws.take (k+1)).map (oneM M)) (.slq (n3+1) 0 (k+1) 0)):=⟨fun gF h1 h2=>by
    refine ⟨cs++[uv,zv],?_,?_,?_⟩
    ·rw [HTK.out,List.length_append,List.length_map,List.length_take,Nat.min_eq_left hk]
     exact .mk h2 (by omega) (by omega) (by rw [List.length_append,hcl]; simp; omega)
    ·rw [HTK.out,HW.out.1]
     exact (HRF.out.keep (Nat.le_refl _) (by omega) (.inl (by omega)) fun a h3 h4 h5=>(h1 a h3 (by omega) h5).trans ((HX3.out a (by omega)).trans (HX2.out a h4))).snoc (HFW.out.1.safe (by omega) (by omega) (.inl (by omega)) fun a h3 h4=>(h1 a (by omega) (by omega) (HNB.out a (by omega))).trans (HX3.out a h4)) (HFZ.out.1.safe (by omega) (by omega) (.inl (by omega)) fun a h3 h4=>h1 a (by omega) h4 (HNB.out a (by omega)))
    ·intro v hv
     rcases List.mem_append.1 hv with h | h
     ·exact HCC.out v h
     ·rcases List.mem_cons.1 h with rfl | h
      ·exact HFW.out.2
      ·rw [List.mem_singleton.1 h]; exact HFZ.out.2⟩
   rcases hgr with ⟨hk0,hc0,hs0⟩ | ⟨hk0,hs0,hB1,hB2,hB3,hB4⟩
   ·subst hs0
    have HZ:=Hide.mk (And.intro hk0 hc0)
    clear hk0 hc0
    iterate 8 (all_goals try (first | with_reducible refine splitI (fun h=>?_) (fun h=>?_) | with_reducible refine splitBI (fun h=>?_) (fun h=>?_) | simp (config:={ maxSteps:=1000000 }) (disch:=first | assumption | omega | (simp; done) | fail) [Tryz.results25, *]))
    refine ih.out (12 - (k+1)) _ _ (by omega) ⟨k+1,n3+1+1,_,n3+1,.slq (n3+1) 0 (k+1) 0,by omega,by omega,rfl,rfl,by omega,by omega,⟨fun b hb=>?_⟩,?_,?_,⟨HLOG.out _ (fun b h1 h2 h3=>?_) ?_⟩,by simp [*],by simp [*],by simp [*],by simp [*],by simp⟩
    ·simp (disch:=omega) only [gput_lt,gput_ne]; exact (HX3.out b (by omega)).trans ((HX2.out b (by omega)).trans (HG.out b hb))
    ·simp (disch:=omega) only [gput_lt,gput_ne]; exact hgm3
    ·rw [HZ.out.1]; simp (disch:=omega) only [gput_lt,gput_ne,gput_eq]
    ·simp (disch:=omega) only [gput_lt,gput_ne]
    ·rw [HZ.out.2]; simp (disch:=omega) only [gput_lt,gput_ne,gput_eq]; rfl
   ·subst hs0
    have hB5:g3 B=some (.cells cs true 2):=(HX3.out B (by omega)).trans ((HX2.out B hB2).trans hB3)
    clear hB3
    iterate 8 (all_goals try (first | with_reducible refine splitI (fun h=>?_) (fun h=>?_) | with_reducible refine splitBI (fun h=>?_) (fun h=>?_) | simp (config:={ maxSteps:=1000000 }) (disch:=first | assumption | omega | (simp; done) | fail) [Tryz.results25, *]))
    refine ih.out (12 - (k+1)) _ _ (by omega) ⟨k+1,n3+1+1,_,n3+1,.slq (n3+1) 0 (k+1) 0,by omega,by omega,rfl,rfl,by omega,by omega,⟨fun b hb=>?_⟩,?_,?_,⟨HLOG.out _ (fun b h1 h2 h3=>?_) ?_⟩,by simp [*],by simp [*],by simp [*],by simp [*],by simp⟩
    ·simp (disch:=omega) only [gput_lt,gput_ne]; exact (HX3.out b (by omega)).trans ((HX2.out b (by omega)).trans (HG.out b hb))
    ·simp (disch:=omega) only [gput_lt,gput_ne]; exact hgm3
    ·simp (disch:=omega) only [gput_lt,gput_ne,gput_eq]
    ·simp (disch:=omega) only [gput_lt,gput_ne]
    ·simp (disch:=omega) only [gput_lt,gput_ne,gput_eq]
  ·have hlmI:¬(k:Int) < 12:=by omega
   have HF:=Hide.mk (FIN.out (by omega))
   iterate 8 (all_goals try (first | with_reducible refine splitI (fun h=>?_) (fun h=>?_) | with_reducible refine splitBI (fun h=>?_) (fun h=>?_) | simp (config:={ maxSteps:=1000000 }) (disch:=first | assumption | omega | (simp; done) | fail) [Tryz.results25, *]))
   exact ⟨_,_,_,⟨rfl,rfl,rfl⟩,by omega,fun b hb=>(gput_lt (by omega)).trans ((HG.out b (by omega)).trans (HG1.out b hb)),B,HF.out.keep (by omega) (Nat.le_refl _) fun a h1 h2=>gput_ne (by omega)⟩
 ·have hltI:¬(k:Int) < (ws.length:Int):=by omega
  have HF:=Hide.mk (FIN.out (by omega))
  iterate 8 (all_goals try (first | with_reducible refine splitI (fun h=>?_) (fun h=>?_) | with_reducible refine splitBI (fun h=>?_) (fun h=>?_) | simp (config:={ maxSteps:=1000000 }) (disch:=first | assumption | omega | (simp; done) | fail) [Tryz.results25, *]))
  exact ⟨_,_,_,⟨rfl,rfl,rfl⟩,by omega,fun b hb=>(gput_lt (by omega)).trans ((HG.out b (by omega)).trans (HG1.out b hb)),B,HF.out.keep (by omega) (Nat.le_refl _) fun a h1 h2=>gput_ne (by omega)⟩
end Go.Ai
end
section
namespace Go.Ai
open Go.Proofs
set_option maxRecDepth 10000
set_option maxHeartbeats 40000000
theorem GOf_c {st inp out:Nat} {part:Bool} {es:List Nat} {ev:AV} {ws:List (List Nat)} {wv:AV} (ia ib ic:Nat) (hia:ia < 256) (hib:ib < 256) (hic:ic < 256) (g:Nat→Option Blk) (n:Nat) (hI:InG g n st inp out es ev ws wv) :
  WC 3 Tryz.prog 22 [.agg [.lit (.int .u8 st),.lit (.int .u8 inp),.lit (.int .u8 out),.lit (.bool part),ev,wv,.lit (.int .u8 ia),.lit (.int .u8 ib),.lit (.int .u8 ic)]] ⟨.fn g,n⟩ fun r=>∃ sv g' n' B,r=.ret (.agg [.lit (.int .i64 (machOf st inp out part es).inp),.lit (.int .i64 (machOf st inp out part es).out),sv]) ⟨.fn g',n'⟩∧n≤n'∧(∀ b,b < n→g' b=g b)∧LogC g' n n' B (ofG (machOf st inp out part es) ws ia ib ic) sv:=by
 have h1e:=hI.se.one
 have h1w:=hI.sw.choose_spec.1.one
 have hone:allOne [.lit (.int .u8 st),.lit (.int .u8 inp),.lit (.int .u8 out),.lit (.bool part),ev,wv,.lit (.int .u8 ia),.lit (.int .u8 ib),.lit (.int .u8 ic)]=true:=by simp [h1e,h1w]
 have HRU:=Hide.mk fun (gX:Nat→Option Blk) (n2:Nat) (hn:n≤n2) (hX:∀ b,b < n→gX b=g b)=>Runs_c (part:=part) ia ib ic gX n2 (hI.mono hn hX)
 have HM:=Hide.mk (machOf_ok st inp out part es)
 clear hI
 generalize machOf st inp out part es=M at *
 have HOF:=Hide.mk (rfl:ofG M ws ia ib ic=ofG M ws ia ib ic)
 have hOK:=runsM_ok HM.out ws
 have HOK:=Hide.mk hOK
 have hO1:=hOK.o1
 have hO2:=hOK.o2
 obtain ⟨L,hL⟩ : ∃ L,L=ofG M ws ia ib ic:=⟨_,rfl⟩
 rw [← hL]
 unfold ofG at hL
 have HL:=Hide.mk hL
 clear hL HOF hOK
 generalize runsM M ws=ts at *
 have hrem4:(ic:Int).tmod 4=((ic % 4:Nat) : Int):=(Int.ofNat_tmod ic 4).symm
 have hq4:ic % 4 < 4:=Nat.mod_lt _ (by decide)
 generalize ic % 4=q at *
 refine WC.enterP (noO_ok _ _) hG pl22 Tryz.func22 rfl (by decide +kernel) (Nat.le_of_ble_eq_true (by kernel_rfl)) ?_
 iterate 8 (all_goals try (first | with_reducible refine splitI (fun h=>?_) (fun h=>?_) | with_reducible refine splitBI (fun h=>?_) (fun h=>?_) | simp (config:={ maxSteps:=1000000 }) (disch:=first | assumption | omega | (simp; done) | fail) [Tryz.results22, *]))
 refine WC.mono (HRU.out _ _ (by omega) fun b (hb:b < n)=>by simp (disch:=omega) only [gput_lt]) ?_
 rintro _ ⟨sv,g1,n1,B,rfl,hn1,hg1,hlf⟩
 have HG1:Hide (∀ b,b < n→g1 b=g b):=⟨fun b hb=>(hg1 b (by omega)).trans (by simp (disch:=omega) only [gput_lt])⟩
 have hgn1:g1 n=some (.cells [.lit (.int .u8 st),.lit (.int .u8 inp),.lit (.int .u8 out),.lit (.bool part),ev,wv,.lit (.int .u8 ia),.lit (.int .u8 ib),.lit (.int .u8 ic)] true 0):=(hg1 n (by omega)).trans (by simp (disch:=omega) only [gput_lt,gput_eq])
 have hgo1:g1 (n+1)=some (.cells [.lit (.int .i64 0),.lit (.int .i64 0),.lit (.slice none 0 0)] true 0):=(hg1 (n+1) (by omega)).trans (by simp (disch:=omega) only [gput_lt,gput_eq])
 clear hg1 HRU
 have h1sv:=hlf.one
 have hone3:allOne [.lit (.int .i64 M.inp),.lit (.int .i64 M.out),sv]=true:=by simp [h1sv]
 have hlenS:=@lenV Tryz.prog _ _ _ _ _ hlf.logF.log.choose_spec.1
 have HLF:=Hide.mk hlf
 have htl:=HOK.out.len
 clear hlf
 have FIN0:Hide (L=ts→∀ gF:Nat→Option Blk,∀ m,n1≤m→(∀ b,n+1+1≤b→b < n1→gF b=g1 b)→LogC gF n m B L sv):=⟨fun h gF m hm hgF=>by
  rw [h]; exact HLF.out.keep (by omega) hm fun a h1 h2=>hgF a (by omega) h2⟩
 by_cases c1:ts.length=0
 ·have hLt:L=ts:=by rw [HL.out,if_pos (.inl c1)]
  have HF:=Hide.mk (FIN0.out hLt)
  have c1I:(ts.length:Int)=0:=by omega
  clear hLt
  iterate 8 (all_goals try (first | with_reducible refine splitI (fun h=>?_) (fun h=>?_) | with_reducible refine splitBI (fun h=>?_) (fun h=>?_) | simp (config:={ maxSteps:=1000000 }) (disch:=first | assumption | omega | (simp; done) | fail) [Tryz.results22, *]))
  refine ⟨_,_,_,⟨rfl,rfl,rfl⟩,by omega,fun b hb=>?_,B,HF.out _ _ (by omega) fun b h1 h2=>?_⟩
  ·simp (disch:=omega) only [gput_lt]; exact HG1.out b hb
  ·simp (disch:=omega) only [gput_lt,gput_ne]
 have c1I:¬(ts.length:Int)=0:=by omega
 have c1N:¬ts=[]:=fun h=>c1 (by rw [h]; rfl)
 have hremI:(ia:Int).tmod (ts.length:Int)=((ia % ts.length:Nat) : Int):=(Int.ofNat_tmod ia _).symm
 by_cases c2:q < 2
 ·have hLt:L=ts:=by rw [HL.out,if_pos (.inr c2)]
  have HF:=Hide.mk (FIN0.out hLt)
  have c2I:(q:Int) < 2:=by omega
  clear hLt
  iterate 8 (all_goals try (first | with_reducible refine splitI (fun h=>?_) (fun h=>?_) | with_reducible refine splitBI (fun h=>?_) (fun h=>?_) | simp (config:={ maxSteps:=1000000 }) (disch:=first | assumption | omega | (simp; done) | fail) [Tryz.results22, *]))
  refine ⟨_,_,_,⟨rfl,rfl,rfl⟩,by omega,fun b hb=>?_,B,HF.out _ _ (by omega) fun b h1 h2=>?_⟩
  ·simp (disch:=omega) only [gput_lt]; exact HG1.out b hb
  ·simp (disch:=omega) only [gput_lt,gput_ne]
 have c2I:¬(q:Int) < 2:=by omega
 have hi:ia % ts.length < ts.length:=Nat.mod_lt _ (by omega)
 rw [if_neg (by omega),(getD_mem hi).2] at HL
 generalize ia % ts.length=i at *
 have hiI:(i:Int) < (ts.length:Int):=by omega
 have HTI:=Hide.mk (HOK.out.lens (List.getElem_mem hi))
 have hrl:(ts[i]).2.length≤256:=by rw [HTI.out.1]; exact HOK.out.wl _ (List.getElem_mem hi)
 obtain ⟨cs,hgr,hrf,hcc⟩:=HLF.out
 have HCC:=Hide.mk hcc
 clear hcc
 rcases hgr with ⟨hk0,_,_⟩ | ⟨hk0,hs0,hB1,hB2,hB3,hB4⟩
 ·omega
 subst hs0
 obtain ⟨s1,s2,hc1,hc2,hw1,hw2⟩:=hrf.2 i hi
 obtain ⟨hil,hc2⟩:=List.getElem?_eq_some_iff.1 hc2
 have h1s2:oneC s2=true:=hw2.rep.one
 have hcs2:cellsOf s2=[s2]:=hw2.rep.cell
 have hlenR:=@lenV Tryz.prog _ _ _ _ _ hw2.rep
 have HRF:=Hide.mk hrf
 have HW2:=Hide.mk hw2.rep
 have HW1:=Hide.mk hw1
 clear hw1 hw2 hrf hc1
 by_cases c3:(ts[i]).2.length=0
 ·have hLt:L=ts:=by rw [HL.out,if_pos c3]
  have HF:=Hide.mk (FIN0.out hLt)
  have H30:Hide (SliceV g1 n1 s2 0 (wdC (ts[i]).2)):=⟨by have h:=HW2.out; unfold RepW at h; rw [c3] at h; exact h⟩
  have hap:=fun {H:Mem} {ev:Ev} {d:Option Tmp} {ty:TypeId} {p:String} {af:Array Edge} {gd:Option (Nat×Bool)} {x y:Operand} {s t:TypeId} {a off:Nat} {hx:ev x=some (.sl a off 0 0)} {hy:ev y=some s2} (hp:(apI Tryz.prog s t).isSome=true)=>SliceV.ap00 (P:=Tryz.prog) (H30.out) (H:=H) (ev:=ev) (d:=d) (ty:=ty) (p:=p) (af:=af) (gd:=gd) (x:=x) (y:=y) (a:=a) (off:=off) (hx:=hx) (hy:=hy) hp
  have c3I:((ts[i]).2.length:Int)=0:=by omega
  clear hLt
  iterate 8 (all_goals try (first | with_reducible refine splitI (fun h=>?_) (fun h=>?_) | with_reducible refine splitBI (fun h=>?_) (fun h=>?_) | simp (config:={ maxSteps:=1000000 }) (disch:=first | assumption | omega | (simp; done) | fail) [Tryz.results22, *]))
  refine ⟨_,_,_,⟨rfl,rfl,rfl⟩,by omega,fun b hb=>?_,B,HF.out _ _ (by omega) fun b h1 h2=>?_⟩
  ·simp (disch:=omega) only [gput_lt]; exact HG1.out b hb
  ·simp (disch:=omega) only [gput_lt,gput_ne]
 have c3I:¬((ts[i]).2.length:Int)=0:=by omega
 rw [if_neg c3] at HL
 obtain ⟨a2,blk,ha2,hga2,hap⟩:=SliceV.ap0 (P:=Tryz.prog) (sz:=1) HW2.out (by omega) (by omega) (by rw [wdC_len]; omega)
 have hremR:(ib:Int).tmod ((ts[i]).2.length:Int)=((ib % (ts[i]).2.length:Nat) : Int):=(Int.ofNat_tmod ib _).symm
 have hk:ib % (ts[i]).2.length < (ts[i]).2.length:=Nat.mod_lt _ (by omega)
 have HAT:=Hide.mk (okR_at (ts[i]).2 (ib % (ts[i]).2.length) false HTI.out.2.2 hk)
 have HGD:=Hide.mk (getD_mem (d:=(0:Int)) hk)
 have HFIN:Hide (∀ (gF:Nat→Option Blk) (m c:Nat) (r' : List Int),r'.length=(ts[i]).2.length→L=ts.set i ((ts[i]).1,r')→(∀ b,n+1+1≤b→b < n1→b≠B→gF b=g1 b)→gF B=some (.cells (cs.set (i * 2+1) (.slq (n1+1+1) 0 (ts[i]).2.length c)) true 2)→gF (n1+1+1)=some (.cells (wdC r') true 1)→n1+1+1 < m→LogC gF n m B L (.slq B 0 ts.length 0)):=⟨fun gF m c r' h1 h2 h3 h4 h5 h6=>by
  refine ⟨cs.set (i * 2+1) (.slq (n1+1+1) 0 (ts[i]).2.length c),.inr ⟨?_,?_,by omega,by omega,h4,?_⟩,?_,?_⟩
  ·rw [h2,List.length_set]; exact hk0
  ·rw [h2,List.length_set]
  ·rw [h2,List.length_set,List.length_set]; exact hB4
  ·rw [h2]
   refine (HRF.out.keep (by omega) (by omega) (.inr (.inl rfl)) h3).set2 hi ?_
   rw [← h1]
   exact .mk h5 (by omega) h6 (by omega)
  ·intro v hv
   rcases List.mem_or_eq_of_mem_set hv with h | rfl
   ·exact HCC.out v h
   ·intro a o n c e; cases e⟩
 generalize ib % (ts[i]).2.length=k at *
 have hkI:(k:Int) < ((ts[i]).2.length:Int):=by omega
 have hwk:(wdC (ts[i]).2)[k]'(by rw [wdC_len]; exact hk)=.lit (.int .i64 ((ts[i]).2[k])):=(List.getElem?_eq_some_iff.1 (wdC_at _ k hk)).2
 have hwl:(wdC (ts[i]).2).length=(ts[i]).2.length:=wdC_len _
 rw [HGD.out.2] at HAT
 have HCH:Hide (changeR M.out q k (ts[i]).2=if q=2 then (if (ts[i]).2[k] = -1 then (ts[i]).2 else (ts[i]).2.set k (((ts[i]).2[k]+1).tmod M.out)) else (ts[i]).2.take k++List.replicate ((ts[i]).2.length - k) (-1)):=⟨by unfold changeR; rw [HGD.out.2]⟩
 have HWS:Hide (∀ v,(wdC (ts[i]).2).set k (.lit (.int .i64 v))=wdC ((ts[i]).2.set k v)):=⟨fun v=>wdC_set _ _ _⟩
 have ha2n:¬a2=n1:=by omega
 clear HLF FIN0
 generalize (ts[i]).2=r at *
 have hrkO : -1≤r[k]∧r[k] < M.out:=HAT.out
 generalize hxx:r[k]=x at *
 have HXX:=Hide.mk hxx
 clear hxx
 have hx1:=hrkO.1
 have hx2:=hrkO.2
 have hOI:¬M.out=0:=by omega
 by_cases c4:q=2
 ·subst c4
  rw [if_pos rfl] at HCH
  by_cases c5:x = -1
  ·rw [if_pos c5] at HCH
   have HF:=Hide.mk fun gF m c h3 h4 h5 h6=>HFIN.out gF m c r rfl (by rw [HL.out,HCH.out]) h3 h4 h5 h6
   iterate 12 (all_goals try (first | with_reducible refine splitI (fun h=>?_) (fun h=>?_) | with_reducible refine splitBI (fun h=>?_) (fun h=>?_) | simp (config:={ maxSteps:=1000000 }) (disch:=first | assumption | omega | (simp; done) | fail) [Tryz.results22, *]))
   refine LX.roundP (noO_ok _ _) hG pl22 (by decide +kernel) ?_
   iterate 8 (all_goals try (first | with_reducible refine splitI (fun h=>?_) (fun h=>?_) | with_reducible refine splitBI (fun h=>?_) (fun h=>?_) | simp (config:={ maxSteps:=1000000 }) (disch:=first | assumption | omega | (simp; done) | fail) [Tryz.results22, *]))
   refine ⟨_,_,_,⟨rfl,rfl,rfl⟩,by omega,fun b hb=>?_,B,HF.out _ _ 0 (fun b h1 h2 h3=>?_) ?_ ?_ (by omega)⟩
   ·simp (disch:=omega) only [gput_lt]; exact HG1.out b hb
   ·simp (disch:=omega) only [gput_lt,gput_ne]
   ·simp (disch:=omega) only [gput_lt,gput_ne,gput_eq]
   ·simp (disch:=omega) only [gput_lt,gput_ne,gput_eq]
  ·rw [if_neg c5] at HCH
   have HF:=Hide.mk fun gF m c h3 h4 h5 h6=>HFIN.out gF m c (r.set k ((x+1).tmod M.out)) List.length_set (by rw [HL.out,HCH.out]) h3 h4 h5 h6
   have hv0:0≤(x+1).tmod M.out:=Int.tmod_nonneg _ (by omega)
   have hv1:(x+1).tmod M.out < M.out:=Int.tmod_lt_of_pos _ (by omega)
   have hws:=HWS.out ((x+1).tmod M.out)
   have hsl:((wdC r).set k (.lit (.int .i64 ((x+1).tmod M.out)))).length=r.length:=by rw [List.length_set]; exact hwl
   iterate 12 (all_goals try (first | with_reducible refine splitI (fun h=>?_) (fun h=>?_) | with_reducible refine splitBI (fun h=>?_) (fun h=>?_) | simp (config:={ maxSteps:=1000000 }) (disch:=first | assumption | omega | (simp; done) | fail) [Tryz.results22, *]))
   refine LX.roundP (noO_ok _ _) hG pl22 (by decide +kernel) ?_
   iterate 8 (all_goals try (first | with_reducible refine splitI (fun h=>?_) (fun h=>?_) | with_reducible refine splitBI (fun h=>?_) (fun h=>?_) | simp (config:={ maxSteps:=1000000 }) (disch:=first | assumption | omega | (simp; done) | fail) [Tryz.results22, *]))
   refine ⟨_,_,_,⟨rfl,rfl,rfl⟩,by omega,fun b hb=>?_,B,HF.out _ _ 0 (fun b h1 h2 h3=>?_) ?_ ?_ (by omega)⟩
   ·simp (disch:=omega) only [gput_lt]; exact HG1.out b hb
   ·simp (disch:=omega) only [gput_lt,gput_ne]
   ·simp (disch:=omega) only [gput_lt,gput_ne,gput_eq]
   ·simp (disch:=omega) only [gput_lt,gput_ne,gput_eq]
 ·have hq3:q=3:=by omega
  subst hq3
  rw [if_neg c4] at HCH
  have HF:=Hide.mk fun gF m c h3 h4 h5 h6=>HFIN.out gF m c (noneC r k r.length) (noneC_len (by omega) (Nat.le_refl _)) (by rw [HL.out,HCH.out,noneC_end (by omega)]) h3 h4 h5 h6
  iterate 12 (all_goals try (first | with_reducible refine splitI (fun h=>?_) (fun h=>?_) | with_reducible refine splitBI (fun h=>?_) (fun h=>?_) | simp (config:={ maxSteps:=1000000 }) (disch:=first | assumption | omega | (simp; done) | fail) [Tryz.results22, *]))
  obtain ⟨gA,hgA⟩ : ∃ gA,gA=gput (gput g1 n1 (some (.cells [.lit (.int .i64 M.inp),.lit (.int .i64 M.out),.slq B 0 ts.length 0] true 0))) (n1+1) (some (.cells [] true 0)):=⟨_,rfl⟩
  have HGA:=Hide.mk hgA
  rw [← hgA]
  clear hgA
  refine LX.ind (fun m gf H'=>∃ (j:Nat) (gL:Nat→Option Blk),k≤j∧j≤r.length∧m=r.length - j∧H'=⟨.fn gL,n1+1+1+1⟩∧Hide (∀ b,b < n1+1+1→gL b=gA b)∧gL (n1+1+1)=some (.cells (wdC (noneC r k j)) true 1) ∧
   gf 1=some (.ptr n 0)∧gf 2=some (.ptr (n+1) 0)∧gf 3=some (.ptr n1 0)∧gf 4=some (.lit (.int .i64 i))∧gf 5=some (.slq (n1+1+1) 0 r.length 0)∧gf 7=some (.lit (.int .i64 j))) (m0:=r.length - k) ?_ ?_
  ·refine ⟨k,_,Nat.le_refl _,by omega,rfl,rfl,⟨fun b hb=>gput_lt hb⟩,?_,by simp,by simp,by simp,by simp,by simp,by simp⟩
   rw [gput_eq]
   unfold noneC
   rw [Nat.sub_self,List.replicate_zero,List.nil_append,List.take_append_drop]
  rintro m gf H' ⟨j,gL,hkj,hj,rfl,rfl,HG,hgr,w1,w2,w3,w4,w5,w7⟩ ih
  have hgn:=(HG.out n (by omega)).trans ((congrFun HGA.out n).trans (by simp (disch:=omega) only [gput_lt]; exact hgn1))
  have hgo:=(HG.out (n+1) (by omega)).trans ((congrFun HGA.out (n+1)).trans (by simp (disch:=omega) only [gput_lt]; exact hgo1))
  have hgm:gL n1=some (.cells [.lit (.int .i64 M.inp),.lit (.int .i64 M.out),.slq B 0 ts.length 0] true 0):=(HG.out n1 (by omega)).trans ((congrFun HGA.out n1).trans (by simp (disch:=omega) only [gput_lt,gput_eq]))
  have hgB:=(HG.out B (by omega)).trans ((congrFun HGA.out B).trans (by simp (disch:=omega) only [gput_lt]; exact hB3))
  have hrem43:(ic:Int).tmod 4=3:=hrem4
  have hncl:(wdC (noneC r k j)).length=r.length:=by rw [wdC_len,noneC_len hkj hj]
  clear hB3 hgo1 hgn1 hrem4
  refine LX.roundP (noO_ok _ _) hG pl22 (by decide +kernel) ?_
  by_cases hlt:j < r.length
  ·have hltI:(j:Int) < (r.length:Int):=by omega
   have HST:=Hide.mk (noneC_step hkj hlt)
   have HWN:=Hide.mk (wdC_set (noneC r k j) j (-1))
   iterate 8 (all_goals try (first | with_reducible refine splitI (fun h=>?_) (fun h=>?_) | with_reducible refine splitBI (fun h=>?_) (fun h=>?_) | simp (config:={ maxSteps:=1000000 }) (disch:=first | assumption | omega | (simp; done) | fail) [Tryz.results22, *]))
   rw [HWN.out,HST.out]
   refine ih.out (r.length - (j+1)) _ _ (by omega) ⟨j+1,_,by omega,by omega,rfl,rfl,⟨fun b hb=>?_⟩,gput_eq,by simp [*],by simp [*],by simp [*],by simp [*],by simp [*],by simp⟩
   exact (gput_lt hb).trans (HG.out b hb)
  ·have hltI:¬(j:Int) < (r.length:Int):=by omega
   have hjr:j=r.length:=by omega
   have HJR:=Hide.mk hjr
   clear hjr
   iterate 8 (all_goals try (first | with_reducible refine splitI (fun h=>?_) (fun h=>?_) | with_reducible refine splitBI (fun h=>?_) (fun h=>?_) | simp (config:={ maxSteps:=1000000 }) (disch:=first | assumption | omega | (simp; done) | fail) [Tryz.results22, *]))
   refine ⟨_,_,_,⟨rfl,rfl,rfl⟩,by omega,fun b hb=>?_,B,HF.out _ _ 0 (fun b h1 h2 h3=>?_) ?_ ?_ (by omega)⟩
   ·simp (disch:=omega) only [gput_lt]; rw [HG.out b (by omega),HGA.out]; simp (disch:=omega) only [gput_lt]; exact HG1.out b hb
   ·simp (disch:=omega) only [gput_lt,gput_ne]; rw [HG.out b (by omega),HGA.out]; simp (disch:=omega) only [gput_lt,gput_ne]
   ·simp (disch:=omega) only [gput_lt,gput_ne,gput_eq]
   ·simp (disch:=omega) only [gput_lt,gput_ne,gput_eq]; rw [hgr,HJR.out]
end Go.Ai
end
section
namespace Go.Ai
open Go.Proofs
set_option maxRecDepth 10000
set_option maxHeartbeats 40000000
end Go.Ai
end
section
namespace Go.Ai
open Go.Proofs
set_option maxRecDepth 10000
set_option maxHeartbeats 40000000
end Go.Ai
end
section
namespace Go.Ai
open Go.Proofs
set_option maxRecDepth 10000
set_option maxHeartbeats 40000000
theorem rContradiction_w {I O:Int} {ts:List (List Int×List Int)} (hL:LogOK I O ts) (g:Nat→Option Blk) (n:Nat) (sv:AV) (hT:LogR g n ts sv) :
  WC 3 Tryz.prog 24 [.agg [.lit (.int .i64 I),.lit (.int .i64 O),sv]] ⟨.fn g,n⟩ fun r=>∃ gX n',r=.ret (.tup [conC (conB ts ts 0),.lit (.bool (conB ts ts 0).isSome)]) ⟨.fn gX,n'⟩∧n≤n'∧∀ b,b < n→gX b=g b:=by
 have hlen:=@lenV Tryz.prog _ _ _ _ _ hT.choose_spec.1
 have h1s:=hT.choose_spec.1.one
 have hone:allOne [.lit (.int .i64 I),.lit (.int .i64 O),sv]=true:=by simp [h1s]
 have HT:=Hide.mk hT
 have HL:=Hide.mk hL
 have htl:=hL.len
 clear hT hL
 obtain ⟨D,hD⟩ : ∃ D,D=conB ts ts 0:=⟨_,rfl⟩
 rw [← hD]
 have HD:=Hide.mk hD
 clear hD
 refine WC.enterP (noO_ok _ _) hG pl24 Tryz.func24 rfl (by decide +kernel) (Nat.le_of_ble_eq_true (by kernel_rfl)) ?_
 iterate 8 (all_goals try (first | with_reducible refine splitI (fun h=>?_) (fun h=>?_) | with_reducible refine splitBI (fun h=>?_) (fun h=>?_) | simp (config:={ maxSteps:=1000000 }) (disch:=first | assumption | omega | (simp; done) | fail) [Tryz.results24, *]))
 obtain ⟨gA,hgA⟩ : ∃ gA,gA=gput (gput g n (some (.cells [.lit (.int .i64 I),.lit (.int .i64 O),sv] true 0))) (n+1) (some (.cells [.lit (.int .i64 0),.lit (.int .i64 0),.lit (.int .i64 0)] true 0)):=⟨_,rfl⟩
 rw [← hgA]
 have HGA:Hide (∀ b,b < n→gA b=g b):=⟨fun b hb=>by rw [hgA]; simp (disch:=omega) only [gput_lt]⟩
 have hgn:gA n=some (.cells [.lit (.int .i64 I),.lit (.int .i64 O),sv] true 0):=by rw [hgA]; simp (disch:=omega) only [gput_lt,gput_eq]
 have hgp:gA (n+1)=some (.cells [.lit (.int .i64 0),.lit (.int .i64 0),.lit (.int .i64 0)] true 0):=by rw [hgA]; simp (disch:=omega) only [gput_lt,gput_eq]
 clear hgA
 have HT2:=Hide.mk (HT.out.mono (show n≤n+1+1 by omega) HGA.out)
 refine LX.ind (fun m gf H'=>∃ (k:Nat),k≤ts.length∧m=ts.length - k∧H'=⟨.fn gA,n+1+1⟩∧Hide (D=conB ts (ts.drop k) k)∧gf 1=some (.ptr n 0)∧gf 2=some (.ptr (n+1) 0)∧gf 4=some (.lit (.int .i64 k))) (m0:=ts.length) ?_ ?_
 ·exact ⟨0,Nat.zero_le _,rfl,rfl,⟨HD.out⟩,by simp,by simp,by simp⟩
 rintro m gf H' ⟨k,hk,rfl,rfl,HP,w1,w2,w4⟩ ih
 refine LX.roundP (noO_ok _ _) hG pl24 (by decide +kernel) ?_
 by_cases hlt:k < ts.length
 ·have hltI:(k:Int) < (ts.length:Int):=by omega
  obtain ⟨a2,off,r1,r2,HAT0⟩:=HT2.out.at hlt
  have HAT:=Hide.mk HAT0
  clear HAT0
  have hia:∀ {H:Mem} {ev:Ev} {o:Oper} {ty:TypeId},iaS Tryz.prog H ev o ty (some (none,2)) (some sv) (some (.lit (.int .i64 (k:Int))))=.val (.ptr a2 (off+k * 2)) H:=fun {H ev o ty}=>HAT.out.ia
  have han:a2 < n+1+1:=HAT.out.an
  have hagg:=HAT.out.agg
  have h1r1:oneC r1=true:=HAT.out.r1.one
  have h1r2:oneC r2=true:=HAT.out.r2.one
  have honeR:allOne [r1,r2]=true:=by simp [h1r1,h1r2]
  have HDE:=Hide.mk (HP.out.trans (conB_at hlt))
  have HLT:=Hide.mk (HL.out.lens (List.getElem_mem hlt))
  have HWT:=Hide.mk (HL.out.wl _ (List.getElem_mem hlt))
  have HR1:=Hide.mk HAT.out.r1
  have HR2:=Hide.mk HAT.out.r2
  clear HAT
  generalize ts[k]=t at *
  iterate 8 (all_goals try (first | with_reducible refine splitI (fun h=>?_) (fun h=>?_) | with_reducible refine splitBI (fun h=>?_) (fun h=>?_) | simp (config:={ maxSteps:=1000000 }) (disch:=first | assumption | omega | (simp; done) | fail) [Tryz.results24, *]))
  refine LX.ind (fun m gf H'=>∃ (j:Nat),j≤k∧m=k - j∧H'=⟨.fn gA,n+1+1⟩∧Hide (conA t (ts.take k) 0=conA t ((ts.take k).drop j) j) ∧
   gf 1=some (.ptr n 0)∧gf 2=some (.ptr (n+1) 0)∧gf 4=some (.lit (.int .i64 k))∧gf 5=some (.lit (.int .i64 j))) (m0:=k) ?_ ?_
  ·exact ⟨0,Nat.zero_le _,rfl,rfl,⟨rfl⟩,by simp [*],by simp [*],by simp [*],by simp⟩
  clear w1 w2 w4
  rintro m gf H' ⟨j,hj,rfl,rfl,HNE,w1,w2,w4,w5⟩ ih2
  refine LX.roundP (noO_ok _ _) hG pl24 (by decide +kernel) ?_
  by_cases hltj:j < k
  ·have hltjI:(j:Int) < (k:Int):=by omega
   have hjl:j < (ts.take k).length:=by rw [List.length_take]; omega
   obtain ⟨a3,o3,s1,s2,HAU0⟩:=HT2.out.at (show j < ts.length by omega)
   have HAU:=Hide.mk HAU0
   clear HAU0
   have hia3:∀ {H:Mem} {ev:Ev} {o:Oper} {ty:TypeId},iaS Tryz.prog H ev o ty (some (none,2)) (some sv) (some (.lit (.int .i64 (j:Int))))=.val (.ptr a3 (o3+j * 2)) H:=fun {H ev o ty}=>HAU.out.ia
   have han3:a3 < n+1+1:=HAU.out.an
   have hagg3:=HAU.out.agg
   have h1s1:oneC s1=true:=HAU.out.r1.one
   have h1s2:oneC s2=true:=HAU.out.r2.one
   have honeS:allOne [s1,s2]=true:=by simp [h1s1,h1s2]
   have HMU:Hide (ts[j]∈ts):=⟨List.getElem_mem _⟩
   have HLU:=Hide.mk (HL.out.lens HMU.out)
   have HWU:=Hide.mk (HL.out.wl _ HMU.out)
   have hna:=HNE.out.trans (conA_at hjl)
   rw [List.getElem_take] at hna
   have HNA:=Hide.mk hna
   have HS1:=Hide.mk HAU.out.r1
   have HS2:=Hide.mk HAU.out.r2
   clear HAU hna
   generalize ts[j]=u at *
   have HST:=Hide.mk (rStep_w (I:=I) (O:=O) HLU.out.1 HLT.out.1 HWU.out HWT.out gA (n+1+1) s1 s2 r1 r2 HS1.out HS2.out HR1.out HR2.out)
   have HSI:Hide (stepI u t=optI (stepL u.1 u.2 t.1 t.2 0)):=⟨rfl⟩
   generalize stepI u t=z at *
   iterate 8 (all_goals try (first | with_reducible refine splitI (fun h=>?_) (fun h=>?_) | with_reducible refine splitBI (fun h=>?_) (fun h=>?_) | simp (config:={ maxSteps:=1000000 }) (disch:=first | assumption | omega | (simp; done) | fail) [Tryz.results24, *]))
   refine WC.mono HST.out ?_
   rintro _ rfl
   cases hq:stepL u.1 u.2 t.1 t.2 0 with
   | none =>
    have hz:z = -1:=by rw [HSI.out,hq]; rfl
    rw [hq] at HNA
    have HNB:Hide (conA t (ts.take k) 0=conA t ((ts.take k).drop (j+1)) (j+1)):=⟨HNA.out⟩
    clear HNA hq HSI
    subst hz
    iterate 8 (all_goals try (first | with_reducible refine splitI (fun h=>?_) (fun h=>?_) | with_reducible refine splitBI (fun h=>?_) (fun h=>?_) | simp (config:={ maxSteps:=1000000 }) (disch:=first | assumption | omega | (simp; done) | fail) [Tryz.results24, *]))
    exact ih2.out (k - (j+1)) _ _ (by omega) ⟨j+1,by omega,rfl,rfl,HNB,by simp [*],by simp [*],by simp [*],by simp⟩
   | some v =>
    have hz:z=v:=by rw [HSI.out,hq]; rfl
    rw [hq] at HNA
    have hDE:=HDE.out
    rw [HNA.out] at hDE
    have hDE2:D=some (j,k,v):=hDE
    clear HNA hq HSI hDE HDE HD HP
    subst hz hDE2
    iterate 8 (all_goals try (first | with_reducible refine splitI (fun h=>?_) (fun h=>?_) | with_reducible refine splitBI (fun h=>?_) (fun h=>?_) | simp (config:={ maxSteps:=1000000 }) (disch:=first | assumption | omega | (simp; done) | fail) [Tryz.results24, *]))
    refine ⟨_,_,⟨rfl,rfl,rfl⟩,by omega,fun b hb=>?_⟩
    simp (disch:=omega) only [gput_lt]
    exact HGA.out b hb
  ·have hltjI:¬(j:Int) < (k:Int):=by omega
   have hNN:=HNE.out.trans (by rw [List.drop_eq_nil_of_le (by rw [List.length_take]; omega)]; rfl:_=none)
   have hDE:=HDE.out
   rw [hNN] at hDE
   have HDN:Hide (D=conB ts (ts.drop (k+1)) (k+1)):=⟨hDE⟩
   clear hDE hNN
   iterate 8 (all_goals try (first | with_reducible refine splitI (fun h=>?_) (fun h=>?_) | with_reducible refine splitBI (fun h=>?_) (fun h=>?_) | simp (config:={ maxSteps:=1000000 }) (disch:=first | assumption | omega | (simp; done) | fail) [Tryz.results24, *]))
   exact ih.out (ts.length - (k+1)) _ _ (by omega) ⟨k+1,by omega,rfl,rfl,HDN,by simp [*],by simp [*],by simp⟩
 ·have hltI:¬(k:Int) < (ts.length:Int):=by omega
  have hDE:D=none:=by rw [HP.out,List.drop_eq_nil_of_le (by omega)]; rfl
  clear HP HD
  subst hDE
  iterate 8 (all_goals try (first | with_reducible refine splitI (fun h=>?_) (fun h=>?_) | with_reducible refine splitBI (fun h=>?_) (fun h=>?_) | simp (config:={ maxSteps:=1000000 }) (disch:=first | assumption | omega | (simp; done) | fail) [Tryz.results24, *]))
  refine ⟨_,_,⟨rfl,rfl,rfl⟩,by omega,fun b hb=>?_⟩
  simp (disch:=omega) only [gput_lt]
  exact HGA.out b hb
end Go.Ai
end
section
namespace Go.Ai
open Go.Proofs
set_option maxRecDepth 10000
set_option maxHeartbeats 40000000
end Go.Ai
end
section
namespace Go.Ai
open Go.Proofs
set_option maxRecDepth 10000
set_option maxHeartbeats 40000000
end Go.Ai
end
