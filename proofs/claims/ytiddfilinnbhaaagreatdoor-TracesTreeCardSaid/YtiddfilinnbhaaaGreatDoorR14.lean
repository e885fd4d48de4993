/- A small verified interpreter over names, its proofs, and what was proved with it. No condition. -/
import Derived.Test.YtiddfilinnbhaaaGreatDoorR13
import Derived.Test.YtiddfilinnbhaaaGreatDoorR12
set_option linter.all false
set_option linter.deprecated false
section
namespace Go.Ai
open Go.Proofs
set_option maxRecDepth 10000
set_option maxHeartbeats 40000000
theorem nodW_len:∀ (w r:List Int) (L:List (List Int)) (p:List Int),(nodW L p w r).length≤L.length+w.length
 | [],r,L,p=>by cases r <;> exact Nat.le_refl _
 | _ :: _,[],L,p=>Nat.le_add_right _ _
 | i :: w,o :: r,L,p=>by
  have h1:=nodW_len w r (insW (p++[i]) L) (p++[i])
  have h2:=@insW_len (p++[i]) L
  unfold nodW
  rw [List.length_cons]
  split <;> omega
theorem nodesM_len {ts:List (List Int×List Int)} (h:∀ t∈ts,t.1.length≤256) : (nodesM ts).length≤1+256 * ts.length:=by
 have key:∀ (us:List (List Int×List Int)) (out:List (List Int)),(∀ t∈us,t.1.length≤256)→(us.foldl (fun out t=>nodW out [] t.1 t.2) out).length≤out.length+256 * us.length:=by
  intro us
  induction us with
  | nil=>intro out _; exact Nat.le_refl _
  | cons t us ih =>
   intro out hu
   have h1:=ih (nodW out [] t.1 t.2) fun t ht=>hu t (by simp [ht])
   have h2:=nodW_len t.1 t.2 out []
   have h3:=hu t (by simp)
   rw [List.foldl_cons,List.length_cons]
   omega
 exact key ts [[]] h
theorem tracesTree_w {st inp out:Nat} {part:Bool} {es:List Nat} {ev:AV} {ws:List (List Nat)} {wv:AV} (ia ib ic:Nat) (hia:ia < 256) (hib:ib < 256) (hic:ic < 256) (m:Int) (g:Nat→Option Blk) (n:Nat) (hI:InG g n st inp out es ev ws wv) (h0:g 0=some (.cells [.lit (.int .i64 m)] false 0)) (hn0:3≤n) :
  WC 3 Tryz.prog 6 [.agg [.lit (.int .u8 st),.lit (.int .u8 inp),.lit (.int .u8 out),.lit (.bool part),ev,wv,.lit (.int .u8 ia),.lit (.int .u8 ib),.lit (.int .u8 ic)]] ⟨.fn g,n⟩ fun r=>r=.ret (.lit (.bool true)) ⟨.fn g,n⟩:=by
 refine WC.drop1 rfl ?_
 have h1e:=hI.se.one
 have h1w:=hI.sw.choose_spec.1.one
 have hone:allOne [.lit (.int .u8 st),.lit (.int .u8 inp),.lit (.int .u8 out),.lit (.bool part),ev,wv,.lit (.int .u8 ia),.lit (.int .u8 ib),.lit (.int .u8 ic)]=true:=by simp [h1e,h1w]
 have HLV:=Hide.mk fun (gX:Nat→Option Blk) (n2:Nat) (hX:∀ b,b < n→gX b=g b)=>lives_w ⟨.fn gX,n2⟩ m ((hX 0 (by omega)).trans h0)
 have HGO:=Hide.mk fun (gX:Nat→Option Blk) (n2:Nat) (hn:n≤n2) (hX:∀ b,b < n→gX b=g b)=>GOf_c (part:=part) ia ib ic hia hib hic gX n2 (hI.mono hn hX)
 have HK1:=Hide.mk (machOf_ok st inp out part es)
 clear hI h0
 generalize machOf st inp out part es=M at *
 have HL:=Hide.mk (ofG_ok HK1.out ws ia ib ic)
 generalize ofG M ws ia ib ic=ts at *
 generalize M.inp=Iz at *
 generalize M.out=O at *
 clear HK1
 obtain ⟨I,rfl⟩ : ∃ I:Nat,Iz=I:=⟨Iz.toNat,by have:=HL.out.i1; omega⟩
 have hI1:=HL.out.i1
 have hI2:=HL.out.i2
 have hI1' : 1≤I:=by omega
 have hI2' : I≤16:=by omega
 have hO1:=HL.out.o1
 have hO2:=HL.out.o2
 have htl:=HL.out.len
 refine WC.enterP (noO_ok _ _) hG pl6 Tryz.func6 rfl (by decide +kernel) (Nat.le_of_ble_eq_true (by kernel_rfl)) ?_
 iterate 8 (all_goals try (first | with_reducible refine splitI (fun h=>?_) (fun h=>?_) | with_reducible refine splitBI (fun h=>?_) (fun h=>?_) | simp (config:={ maxSteps:=1000000 }) (disch:=first | assumption | omega | (simp; done) | fail) [Tryz.results6, *]))
 refine WC.mono (HGO.out _ _ (by omega) fun b (hb:b < n)=>by simp (disch:=omega) only [gput_lt]) ?_
 rintro _ ⟨sv,g1,n1,B,rfl,hn1,hg1,hlf⟩
 have HG1:Hide (∀ b,b < n→g1 b=g b):=⟨fun b hb=>(hg1 b (by omega)).trans (by simp (disch:=omega) only [gput_lt])⟩
 have hx1:=hg1 n (by omega)
 simp (disch:=omega) only [gput_lt,gput_eq] at hx1
 have HT:=Hide.mk hlf.logX
 have HCP:Hide (CapV sv):=⟨capV_grow hlf.choose_spec.1⟩
 have h1sv:=hlf.one
 have honeL:allOne [.lit (.int .i64 I),.lit (.int .i64 O),sv]=true:=by simp [h1sv]
 clear hg1 hlf HGO
 have HRC:=Hide.mk fun (gX:Nat→Option Blk) (n3:Nat) (hn:n1≤n3) (hX:∀ b,b < n1→gX b=g1 b)=>rContradiction_w HL.out gX n3 sv (HT.out.mono hn hX).log
 cases hD:conB ts ts 0 with
 | some D =>
  have HTB:=Hide.mk fun (gX:Nat→Option Blk) (n3:Nat) (hn:n1≤n3) (hX:∀ b,b < n1→gX b=g1 b)=>TreeOf_bad HL.out hD gX n3 sv (HT.out.mono hn hX).log HCP.out
  rw [hD] at HRC
  clear hD
  iterate 8 (all_goals try (first | with_reducible refine splitI (fun h=>?_) (fun h=>?_) | with_reducible refine splitBI (fun h=>?_) (fun h=>?_) | simp (config:={ maxSteps:=1000000 }) (disch:=first | assumption | omega | (simp; done) | fail) [Tryz.results6, *]))
  refine WC.mono (HTB.out _ _ (by omega) fun b hb=>gput_lt hb) ?_
  rintro _ ⟨g2,n2,rfl,hn2,hg2⟩
  have HG2:Hide (∀ b,b < n1→g2 b=g1 b):=⟨fun b hb=>(hg2 b (by omega)).trans (gput_lt hb)⟩
  have hl2:=(hg2 n1 (by omega)).trans gput_eq
  clear hg2 HTB
  iterate 8 (all_goals try (first | with_reducible refine splitI (fun h=>?_) (fun h=>?_) | with_reducible refine splitBI (fun h=>?_) (fun h=>?_) | simp (config:={ maxSteps:=1000000 }) (disch:=first | assumption | omega | (simp; done) | fail) [Tryz.results6, *]))
  refine WC.mono (HRC.out _ _ (by omega) fun b hb=>by simp (disch:=omega) only [gput_lt]; exact HG2.out b hb) ?_
  rintro _ ⟨g3,n3,rfl,hn3,hg3⟩
  have HG3:Hide (∀ b,b < n2→g3 b=g2 b):=⟨fun b hb=>(hg3 b (by omega)).trans (gput_lt hb)⟩
  have hl3:=(hg3 n2 (by omega)).trans gput_eq
  clear hg3 HRC
  obtain ⟨d1,d2,d3⟩:=D
  simp only [conC,Option.isSome]
  iterate 8 (all_goals try (first | with_reducible refine splitI (fun h=>?_) (fun h=>?_) | with_reducible refine splitBI (fun h=>?_) (fun h=>?_) | simp (config:={ maxSteps:=1000000 }) (disch:=first | assumption | omega | (simp; done) | fail) [Tryz.results6, *]))
  refine WC.mono (HLV.out _ _ fun b hb=>?_) ?_
  ·rw [gput_lt (by omega),HG3.out b (by omega),HG2.out b (by omega)]; exact HG1.out b hb
  rintro _ rfl
  iterate 8 (all_goals try (first | with_reducible refine splitI (fun h=>?_) (fun h=>?_) | with_reducible refine splitBI (fun h=>?_) (fun h=>?_) | simp (config:={ maxSteps:=1000000 }) (disch:=first | assumption | omega | (simp; done) | fail) [Tryz.results6, *]))
  exact ⟨show n≤n3+1 by omega,fun b (hb:b < n)=>(gput_lt (show b < n3 by omega)).trans (by rw [HG3.out b (by omega),HG2.out b (by omega)]; exact HG1.out b hb)⟩
 | none =>
  have HTB:=Hide.mk fun (gX:Nat→Option Blk) (n3:Nat) (hn:n1≤n3) (hX:∀ b,b < n1→gX b=g1 b)=>TreeOf_good HL.out hD gX n3 sv (HT.out.mono hn hX).log HCP.out
  have hCC:=Hide.mk ((cons_iff fun t ht=>(HL.out.lens ht).1).1 hD)
  rw [hD] at HRC
  clear hD
  iterate 8 (all_goals try (first | with_reducible refine splitI (fun h=>?_) (fun h=>?_) | with_reducible refine splitBI (fun h=>?_) (fun h=>?_) | simp (config:={ maxSteps:=1000000 }) (disch:=first | assumption | omega | (simp; done) | fail) [Tryz.results6, *]))
  refine WC.mono (HTB.out _ _ (by omega) fun b hb=>gput_lt hb) ?_
  rintro _ ⟨g2,n2,bs,B2,rfl,hn2,hg2,hB1,hB2,hrc,hgB,hgo⟩
  have HG2:Hide (∀ b,b < n1→g2 b=g1 b):=⟨fun b hb=>(hg2 b (by omega)).trans (gput_lt hb)⟩
  have hl2:=(hg2 n1 (by omega)).trans gput_eq
  have HTV:=Hide.mk (hrc.tree hB2 hgB)
  have HGO:=Hide.mk hgo
  clear hg2 HTB hrc hgB hgo
  iterate 8 (all_goals try (first | with_reducible refine splitI (fun h=>?_) (fun h=>?_) | with_reducible refine splitBI (fun h=>?_) (fun h=>?_) | simp (config:={ maxSteps:=1000000 }) (disch:=first | assumption | omega | (simp; done) | fail) [Tryz.results6, *]))
  refine WC.mono (HRC.out _ _ (by omega) fun b hb=>by simp (disch:=omega) only [gput_lt]; exact HG2.out b hb) ?_
  rintro _ ⟨g3,n3,rfl,hn3,hg3⟩
  have HG3:Hide (∀ b,b < n2→g3 b=g2 b):=⟨fun b hb=>(hg3 b (by omega)).trans (gput_lt hb)⟩
  have hl3:=(hg3 n2 (by omega)).trans gput_eq
  have hl3b:=(HG3.out n1 (by omega)).trans hl2
  clear hg3 HRC
  simp only [conC,Option.isSome]
  iterate 8 (all_goals try (first | with_reducible refine splitI (fun h=>?_) (fun h=>?_) | with_reducible refine splitBI (fun h=>?_) (fun h=>?_) | simp (config:={ maxSteps:=1000000 }) (disch:=first | assumption | omega | (simp; done) | fail) [Tryz.results6, *]))
  have HRL:Hide ((rowsL I ts).length≤20000∧0 < (rowsL I ts).length∧∀ r∈rowsL I ts,r.length≤1000):=⟨by
   have h1:=nodesM_len HL.out.wl
   refine ⟨by rw [rowsL_len]; omega,by rw [rowsL_len]; exact List.length_pos_of_mem ((nodesM_val HL.out.ok hCC.out []).2 (.inl rfl)),fun r hr=>?_⟩
   obtain ⟨w,_,rfl⟩:=List.mem_map.1 hr
   rw [rowW_len]; omega⟩
  have HRT:=Hide.mk fun (gX:Nat→Option Blk) (n3:Nat) (hn:n1≤n3) (hX:∀ b,b < n1→gX b=g1 b)=>rTree_w HL.out hCC.out gX n3 sv (HT.out.mono hn hX)
  generalize rowsL I ts=rows at *
  refine WC.mono (HRT.out _ _ (by omega) fun b hb=>?_) ?_
  ·rw [gput_lt (by omega),HG3.out b (by omega)]; exact HG2.out b hb
  rintro _ ⟨rv,g4,n4,rfl,hn4,hg4,hTV4⟩
  have HG4:Hide (∀ b,b < n3→g4 b=g3 b):=⟨fun b hb=>(hg4 b (by omega)).trans (gput_lt hb)⟩
  have hl4:=(HG4.out n2 (by omega)).trans hl3
  have hl4b:=(HG4.out n1 (by omega)).trans hl3b
  have HSA:=Hide.mk (TSame_w (I:=I) (O:=O) (by have:=HRL.out.1; omega) HRL.out.2.2 g4 n4 _ rv (HTV.out.mono (by omega) fun b hb=>(HG4.out b (by omega)).trans (HG3.out b hb)) hTV4)
  clear hg4 hTV4 HRT
  iterate 8 (all_goals try (first | with_reducible refine splitI (fun h=>?_) (fun h=>?_) | with_reducible refine splitBI (fun h=>?_) (fun h=>?_) | simp (config:={ maxSteps:=1000000 }) (disch:=first | assumption | omega | (simp; done) | fail) [Tryz.results6, *]))
  refine WC.mono HSA.out ?_
  rintro _ ⟨g5,rfl,hg5⟩
  have HG5:=Hide.mk hg5
  have hl5:=(hg5 n2 (by omega)).trans hl4
  clear hg5 HSA
  have HCK:=Hide.mk (check_tree hI1' hI2' hO1 hO2 HRL.out.2.1 (by have:=HRL.out.1; omega) HGO.out (fun r hr=>by have:=HRL.out.2.2 r hr; omega) g5 (n4+1+1+1+1) _ (HTV.out.mono (by omega) fun b hb=>(HG5.out b (by omega)).trans ((HG4.out b (by omega)).trans (HG3.out b hb))))
  iterate 8 (all_goals try (first | with_reducible refine splitI (fun h=>?_) (fun h=>?_) | with_reducible refine splitBI (fun h=>?_) (fun h=>?_) | simp (config:={ maxSteps:=1000000 }) (disch:=first | assumption | omega | (simp; done) | fail) [Tryz.results6, *]))
  refine WC.mono HCK.out ?_
  rintro _ rfl
  iterate 8 (all_goals try (first | with_reducible refine splitI (fun h=>?_) (fun h=>?_) | with_reducible refine splitBI (fun h=>?_) (fun h=>?_) | simp (config:={ maxSteps:=1000000 }) (disch:=first | assumption | omega | (simp; done) | fail) [Tryz.results6, *]))
  refine WC.mono (HLV.out _ _ fun b hb=>?_) ?_
  ·rw [HG5.out b (by omega),HG4.out b (by omega),HG3.out b (by omega),HG2.out b (by omega)]; exact HG1.out b hb
  rintro _ rfl
  iterate 8 (all_goals try (first | with_reducible refine splitI (fun h=>?_) (fun h=>?_) | with_reducible refine splitBI (fun h=>?_) (fun h=>?_) | simp (config:={ maxSteps:=1000000 }) (disch:=first | assumption | omega | (simp; done) | fail) [Tryz.results6, *]))
  exact ⟨show n≤n4+1+1+1+1 by omega,fun b (hb:b < n)=>show g5 b=g b by rw [HG5.out b (by omega),HG4.out b (by omega),HG3.out b (by omega),HG2.out b (by omega)]; exact HG1.out b hb⟩
end Go.Ai
end
