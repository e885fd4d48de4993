/- A small verified interpreter over names, its proofs, and what was proved with it. No condition. -/
import Derived.Test.YtiddfilinnbhaaaGreatDoorW13
set_option linter.all false
set_option linter.deprecated false
section
namespace Go.Ai
open Go.Proofs
set_option maxRecDepth 10000
set_option maxHeartbeats 40000000
theorem AnsV.rep {g:Nat→Option Blk} {lo n:Nat} {r:Option (List Int)} {rv:AV} (h:AnsV g lo n r rv) : RepW g n (r.getD []) rv:=by
 cases r with
 | none=>have h:rv=_:=h; subst h; exact .inl ⟨rfl,rfl,.inl rfl⟩
 | some r =>
  obtain ⟨B,h1,h2,h3,h4⟩:=h
  subst h3
  exact RepW.of h4 h2
theorem tracesAnswer_w {st inp out:Nat} {part:Bool} {es:List Nat} {ev:AV} {ws:List (List Nat)} {wv:AV} (ia ib ic:Nat) (hia:ia < 256) (hib:ib < 256) (hic:ic < 256) (bs:List Nat) (hbs:∀ b∈bs,b < 256) (bv:AV) (m:Int) (g:Nat→Option Blk) (n:Nat) (hI:InG g n st inp out es ev ws wv) (hbv:RepB g n bs bv) (h0:g 0=some (.cells [.lit (.int .i64 m)] false 0)) (hn0:3≤n) :
  WC 3 Tryz.prog 7 [.agg [.lit (.int .u8 st),.lit (.int .u8 inp),.lit (.int .u8 out),.lit (.bool part),ev,wv,.lit (.int .u8 ia),.lit (.int .u8 ib),.lit (.int .u8 ic)],bv] ⟨.fn g,n⟩ fun r=>r=.ret (.lit (.bool true)) ⟨.fn g,n⟩:=by
 refine WC.drop1 rfl ?_
 have h1e:=hI.se.one
 have h1w:=hI.sw.choose_spec.1.one
 have hone:allOne [.lit (.int .u8 st),.lit (.int .u8 inp),.lit (.int .u8 out),.lit (.bool part),ev,wv,.lit (.int .u8 ia),.lit (.int .u8 ib),.lit (.int .u8 ic)]=true:=by simp [h1e,h1w]
 have HLV:=Hide.mk fun (gX:Nat→Option Blk) (n2:Nat) (hX:∀ b,b < n→gX b=g b)=>lives_w ⟨.fn gX,n2⟩ m ((hX 0 (by omega)).trans h0)
 have HGO:=Hide.mk fun (gX:Nat→Option Blk) (n2:Nat) (hn:n≤n2) (hX:∀ b,b < n→gX b=g b)=>GOf_c (part:=part) ia ib ic hia hib hic gX n2 (hI.mono hn hX)
 have HM1:=Hide.mk fun (gX:Nat→Option Blk) (n2:Nat) (hn:n≤n2) (hX:∀ b,b < n→gX b=g b)=>MOf_w st inp out part es ev gX n2 hI.b0 hI.b1 hI.b2 (hI.se.mono hn hX) hI.eb
 have HK1:=Hide.mk (machOf_ok st inp out part es)
 clear hI h0
 generalize machOf st inp out part es=M at *
 have HL:=Hide.mk (ofG_ok HK1.out ws ia ib ic)
 generalize ofG M ws ia ib ic=ts at *
 have HRA:=Hide.mk fun (gX:Nat→Option Blk) (n2:Nat) (ms:List AV) (sv:AV) (hr:RepM gX n2 M ms) (hT:LogR gX n2 ts sv)=>rAgainst_w HK1.out HL.out gX n2 ms sv hr hT
 have HRR:=Hide.mk fun (w:List Int) (hwl:w.length≤300) (hw:inW w M.inp=true) (gX:Nat→Option Blk) (n2:Nat) (ms:List AV) (uv:AV) (hr:RepM gX n2 M ms) (hv:RepW gX n2 w uv)=>rRun_w HK1.out w hwl hw gX n2 ms uv hr hv
 have HDV:=Hide.mk fun (h:devF M ts 0=none)=>dev_none ts 0 h fun t ht=>(HL.out.lens ht).1
 have HKR:=Hide.mk fun (h:∀ t∈ts,t.2=runM M 0 t.1) (w r:List Int) (hw:inW w M.inp=true) (hk:knM (valT ts) false [] w=some r)=>(kn_run HK1.out h w [] r false (.inr ⟨0,rfl,by have:=HK1.out.2.2.2.2.1; show 0 < M.rows.length; omega⟩) hw (fun h=>by cases h) hk:r=runM M 0 w)
 have HRL0:=Hide.mk fun (gX:Nat→Option Blk) (n2:Nat) (ms:List AV) (h:RepM gX n2 M ms)=>h.one
 generalize M.inp=Iz at *
 generalize M.out=O at *
 obtain ⟨I,rfl⟩ : ∃ I:Nat,Iz=I:=⟨Iz.toNat,by have:=HL.out.i1; omega⟩
 have hI1:=HL.out.i1
 have hI2:=HL.out.i2
 have hI1' : 1≤I:=by omega
 have hI2' : I≤16:=by omega
 have hO1:=HL.out.o1
 have hO2:=HL.out.o2
 have htl:=HL.out.len
 have HBV:=Hide.mk hbv
 have HBS:=Hide.mk hbs
 clear hbv hbs
 refine WC.enterP (noO_ok _ _) hG pl7 Tryz.func7 rfl (by decide +kernel) (Nat.le_of_ble_eq_true (by kernel_rfl)) ?_
 iterate 8 (all_goals try (first | with_reducible refine splitI (fun h=>?_) (fun h=>?_) | with_reducible refine splitBI (fun h=>?_) (fun h=>?_) | simp (config:={ maxSteps:=1000000 }) (disch:=first | assumption | omega | (simp; done) | fail) [Tryz.results7, *]))
 refine WC.mono (HGO.out _ _ (by omega) fun b (hb:b < n)=>by simp (disch:=omega) only [gput_lt]) ?_
 rintro _ ⟨sv,g1,n1,B,rfl,hn1,hg1,hlf⟩
 have HG1:Hide (∀ b,b < n→g1 b=g b):=⟨fun b hb=>(hg1 b (by omega)).trans (by simp (disch:=omega) only [gput_lt])⟩
 have hx1:=hg1 n (by omega)
 simp (disch:=omega) only [gput_lt,gput_eq] at hx1
 have HT:=Hide.mk hlf.logX
 have HCP:Hide (CapV sv):=⟨capV_grow hlf.choose_spec.1⟩
 have h1sv:=hlf.one
 have honeL:allOne [.lit (.int .i64 I),.lit (.int .i64 O),sv]=true:=by simp [h1sv]
 clear hg1 hlf HGO
 cases hD:conB ts ts 0 with
 | some D =>
  have HRC:=Hide.mk fun (gX:Nat→Option Blk) (n3:Nat) (hn:n1≤n3) (hX:∀ b,b < n1→gX b=g1 b)=>rContradiction_w HL.out gX n3 sv (HT.out.mono hn hX).log
  have HTB:=Hide.mk fun (gX:Nat→Option Blk) (n3:Nat) (hn:n1≤n3) (hX:∀ b,b < n1→gX b=g1 b)=>TreeOf_bad HL.out hD gX n3 sv (HT.out.mono hn hX).log HCP.out
  rw [hD] at HRC
  clear hD
  iterate 8 (all_goals try (first | with_reducible refine splitI (fun h=>?_) (fun h=>?_) | with_reducible refine splitBI (fun h=>?_) (fun h=>?_) | simp (config:={ maxSteps:=1000000 }) (disch:=first | assumption | omega | (simp; done) | fail) [Tryz.results7, *]))
  refine WC.mono (HTB.out _ _ (by omega) fun b hb=>gput_lt hb) ?_
  rintro _ ⟨g2,n2,rfl,hn2,hg2⟩
  have HG2:Hide (∀ b,b < n1→g2 b=g1 b):=⟨fun b hb=>(hg2 b (by omega)).trans (gput_lt hb)⟩
  have hl2:=(hg2 n1 (by omega)).trans gput_eq
  clear hg2 HTB
  iterate 8 (all_goals try (first | with_reducible refine splitI (fun h=>?_) (fun h=>?_) | with_reducible refine splitBI (fun h=>?_) (fun h=>?_) | simp (config:={ maxSteps:=1000000 }) (disch:=first | assumption | omega | (simp; done) | fail) [Tryz.results7, *]))
  refine WC.mono (HRC.out _ _ (by omega) fun b hb=>by simp (disch:=omega) only [gput_lt]; exact HG2.out b hb) ?_
  rintro _ ⟨g3,n3,rfl,hn3,hg3⟩
  have HG3:Hide (∀ b,b < n2→g3 b=g2 b):=⟨fun b hb=>(hg3 b (by omega)).trans (gput_lt hb)⟩
  clear hg3 HRC
  obtain ⟨d1,d2,d3⟩:=D
  simp only [conC,Option.isSome]
  iterate 8 (all_goals try (first | with_reducible refine splitI (fun h=>?_) (fun h=>?_) | with_reducible refine splitBI (fun h=>?_) (fun h=>?_) | simp (config:={ maxSteps:=1000000 }) (disch:=first | assumption | omega | (simp; done) | fail) [Tryz.results7, *]))
  refine WC.mono (HLV.out _ _ fun b hb=>?_) ?_
  ·rw [gput_lt (by omega),HG3.out b (by omega),HG2.out b (by omega)]; exact HG1.out b hb
  rintro _ rfl
  iterate 8 (all_goals try (first | with_reducible refine splitI (fun h=>?_) (fun h=>?_) | with_reducible refine splitBI (fun h=>?_) (fun h=>?_) | simp (config:={ maxSteps:=1000000 }) (disch:=first | assumption | omega | (simp; done) | fail) [Tryz.results7, *]))
  exact ⟨show n≤n3+1 by omega,fun b (hb:b < n)=>(gput_lt (show b < n3 by omega)).trans (by rw [HG3.out b (by omega),HG2.out b (by omega)]; exact HG1.out b hb)⟩
 | none =>
  have HTB:=Hide.mk fun (gX:Nat→Option Blk) (n3:Nat) (hn:n1≤n3) (hX:∀ b,b < n1→gX b=g1 b)=>TreeOf_good HL.out hD gX n3 sv (HT.out.mono hn hX).log HCP.out
  have hCC:=Hide.mk ((cons_iff fun t ht=>(HL.out.lens ht).1).1 hD)
  clear hD
  iterate 8 (all_goals try (first | with_reducible refine splitI (fun h=>?_) (fun h=>?_) | with_reducible refine splitBI (fun h=>?_) (fun h=>?_) | simp (config:={ maxSteps:=1000000 }) (disch:=first | assumption | omega | (simp; done) | fail) [Tryz.results7, *]))
  refine WC.mono (HTB.out _ _ (by omega) fun b hb=>gput_lt hb) ?_
  rintro _ ⟨g2,n2,bs2,B2,rfl,hn2,hg2,hB1,hB2,hrc,hgB,hgo⟩
  have HG2:Hide (∀ b,b < n1→g2 b=g1 b):=⟨fun b hb=>(hg2 b (by omega)).trans (gput_lt hb)⟩
  have hl2:=(hg2 n1 (by omega)).trans gput_eq
  have HTV:=Hide.mk (hrc.tree hB2 hgB)
  clear hg2 HTB hrc hgB
  have HLR:Hide ((rowsL I ts).length≤20000∧0 < (rowsL I ts).length):=⟨by
   have h1:=nodesM_len HL.out.wl
   exact ⟨by rw [rowsL_len]; omega,by rw [rowsL_len]; exact List.length_pos_of_mem ((nodesM_val HL.out.ok hCC.out []).2 (.inl rfl))⟩⟩
  have HAN:=Hide.mk fun (w:List Int) (hw:inW w I=true) (hwl:w.length≤256) (gX:Nat→Option Blk) (n3:Nat) (wv:AV) (hn:n2≤n3) (hX:∀ b,b < n2→gX b=g2 b) (hW:RepW gX n3 w wv)=>Answer_w hI1' hI2' hO1 hO2 HLR.out.2 (by have:=HLR.out.1; omega) hgo hw hwl gX n3 _ wv (HTV.out.mono hn hX) hW
  have HAE:=Hide.mk fun (w:List Int) (hw:inW w I=true)=>ans_log (I:=I) HL.out.ok hCC.out hw
  have HKO:=Hide.mk fun (t:List Int×List Int) (ht:t∈ts)=>kn_own' hCC.out ht (HL.out.ok t ht)
  have HKN:=Hide.mk fun (w:List Int) (hwl:w.length≤256) (gX:Nat→Option Blk) (n3:Nat) (wv:AV) (hn:n1≤n3) (hX:∀ b,b < n1→gX b=g1 b) (hW:RepW gX n3 w wv) (hc:CapV wv)=>rKnown_w (I:=I) (O:=O) HL.out.small (fun t ht=>(HL.out.lens ht).1) hwl gX n3 sv wv (HT.out.mono hn hX) hW hc
  clear hgo
  generalize rowsL I ts=rows at *
  clear HTV
  iterate 8 (all_goals try (first | with_reducible refine splitI (fun h=>?_) (fun h=>?_) | with_reducible refine splitBI (fun h=>?_) (fun h=>?_) | simp (config:={ maxSteps:=1000000 }) (disch:=first | assumption | omega | (simp; done) | fail) [Tryz.results7, *]))
  refine WC.mono (Word_c bs HBS.out I 12 (by omega) hI2' (by decide) _ _ bv (SliceV.mono (show n≤n2+1 by omega) (fun b hb=>?_) HBV.out)) ?_
  ·rw [gput_lt (by omega),HG2.out b (by omega)]; exact HG1.out b hb
  rintro _ ⟨uv,g3,n3,rfl,hn3,hg3,hfw⟩
  have HG3:Hide (∀ b,b < n2→g3 b=g2 b):=⟨fun b hb=>(hg3 b (by omega)).trans (gput_lt hb)⟩
  have hl3:=(HG3.out n1 (by omega)).trans hl2
  have hl3b:=(hg3 n2 (by omega)).trans gput_eq
  have HFW:=Hide.mk hfw
  have hone4:oneC uv=true:=hfw.1.rep.one
  clear hg3 hfw
  have HWI:Hide (inW (wordG bs I 12) I=true∧(wordG bs I 12).length≤12):=⟨wordG_in (I:=(I:Int)) (by omega),wordG_len⟩
  generalize wordG bs I 12=w at *
  have hwl12:=HWI.out.2
  iterate 8 (all_goals try (first | with_reducible refine splitI (fun h=>?_) (fun h=>?_) | with_reducible refine splitBI (fun h=>?_) (fun h=>?_) | simp (config:={ maxSteps:=1000000 }) (disch:=first | assumption | omega | (simp; done) | fail) [Tryz.results7, *]))
  refine WC.mono (HAN.out w HWI.out.1 (by omega) _ _ uv (by omega) (fun b hb=>HG3.out b hb) HFW.out.1.rep) ?_
  rintro _ ⟨g4,n4,rv,rfl,hn4,hg4,hav⟩
  have HG4:=Hide.mk hg4
  have hl4:=(hg4 n1 (by omega)).trans hl3
  have hl4b:=(hg4 n2 (by omega)).trans hl3b
  rw [HAE.out w HWI.out.1] at hav ⊢
  have HAV:=Hide.mk hav
  clear hg4 hav
  have HLS:=@lenV Tryz.prog _ _ _ _ _ HT.out.choose_spec.1
  generalize hK:knM (valT ts) false [] w=K at *
  have HKK:=Hide.mk hK
  clear hK
  cases K with
  | none =>
   have hrv:rv=.lit (.slice none 0 0):=HAV.out
   subst hrv
   simp only [Option.isSome]
   iterate 8 (all_goals try (first | with_reducible refine splitI (fun h=>?_) (fun h=>?_) | with_reducible refine splitBI (fun h=>?_) (fun h=>?_) | simp (config:={ maxSteps:=1000000 }) (disch:=first | assumption | omega | (simp; done) | fail) [Tryz.results7, *]))
   refine WC.mono (HKN.out w (by omega) _ _ uv (by omega) (fun b hb=>(HG4.out b (by omega)).trans ((HG3.out b (by omega)).trans (HG2.out b hb))) (SliceV.mono hn4 HG4.out HFW.out.1.rep) HFW.out.2) ?_
   rintro _ ⟨g5,n5,rv5,rfl,hn5,hg5,hr5⟩
   rw [HKK.out] at hr5 ⊢
   have HG5:=Hide.mk hg5
   have hl5:=(hg5 n1 (by omega)).trans hl4
   have hl5b:=(hg5 n2 (by omega)).trans hl4b
   have hl5c:=(hg5 n (by omega)).trans ((HG4.out n (by omega)).trans ((HG3.out n (by omega)).trans ((HG2.out n (by omega)).trans hx1)))
   have HSM:=Hide.mk (rsame_w [] [] (by first | omega | simp) (by first | omega | simp) g5 n5 (.lit (.slice none 0 0)) rv5 (.inl ⟨rfl,rfl,.inl rfl⟩) hr5)
   rw [decide_eq_true rfl] at HSM
   clear hg5 hr5
   simp only [Option.isSome]
   iterate 8 (all_goals try (first | with_reducible refine splitI (fun h=>?_) (fun h=>?_) | with_reducible refine splitBI (fun h=>?_) (fun h=>?_) | simp (config:={ maxSteps:=1000000 }) (disch:=first | assumption | omega | (simp; done) | fail) [Tryz.results7, *]))
   refine WC.mono HSM.out ?_
   rintro _ rfl
   iterate 8 (all_goals try (first | with_reducible refine splitI (fun h=>?_) (fun h=>?_) | with_reducible refine splitBI (fun h=>?_) (fun h=>?_) | simp (config:={ maxSteps:=1000000 }) (disch:=first | assumption | omega | (simp; done) | fail) [Tryz.results7, *]))
   refine WC.mono (HM1.out _ _ (by omega) fun b hb=>?_) ?_
   ·rw [HG5.out b (by omega),HG4.out b (by omega),HG3.out b (by omega),HG2.out b (by omega)]; exact HG1.out b hb
   rintro _ ⟨ms,g6,n6,rfl,hn6,hg6,hfm⟩
   have HG6:=Hide.mk hg6
   have hl6:=(hg6 n1 (by omega)).trans hl5
   have hl6b:=(hg6 n2 (by omega)).trans hl5b
   obtain ⟨mv,hms,h1mv⟩:=HRL0.out _ _ _ hfm.rep
   subst hms
   have HRM:=Hide.mk hfm.rep
   have honeM:allOne [.lit (.int .i64 I),.lit (.int .i64 O),mv]=true:=by simp [h1mv]
   have HRA2:=Hide.mk fun (gX:Nat→Option Blk) (n3:Nat) (hn:n6≤n3) (hX:∀ b,b < n6→gX b=g6 b)=>HRA.out gX n3 _ sv (HRM.out.mono hn hX) (HT.out.mono (show n1≤n3 by omega) fun b hb=>(hX b (by omega)).trans ((HG6.out b (by omega)).trans ((HG5.out b (by omega)).trans ((HG4.out b (by omega)).trans ((HG3.out b (by omega)).trans (HG2.out b hb)))))).log
   clear hg6 hfm
   iterate 8 (all_goals try (first | with_reducible refine splitI (fun h=>?_) (fun h=>?_) | with_reducible refine splitBI (fun h=>?_) (fun h=>?_) | simp (config:={ maxSteps:=1000000 }) (disch:=first | assumption | omega | (simp; done) | fail) [Tryz.results7, *]))
   refine WC.mono (HRA2.out _ _ (by omega) fun b hb=>gput_lt hb) ?_
   rintro _ ⟨g7,n7,rfl,hn7,hg7⟩
   have HG7:Hide (∀ b,b < n6→g7 b=g6 b):=⟨fun b hb=>(hg7 b (by omega)).trans (gput_lt hb)⟩
   have hl7:=(hg7 n6 (by omega)).trans gput_eq
   clear hg7 HRA2
   cases hdv:devF M ts 0 with
   | some dd =>
    have HDV:=Hide.mk hdv
    clear hdv
    obtain ⟨d1,d2⟩:=dd
    simp only [devP,Option.isSome]
    iterate 8 (all_goals try (first | with_reducible refine splitI (fun h=>?_) (fun h=>?_) | with_reducible refine splitBI (fun h=>?_) (fun h=>?_) | simp (config:={ maxSteps:=1000000 }) (disch:=first | assumption | omega | (simp; done) | fail) [Tryz.results7, *]))
    refine LX.ind (fun m gf H'=>∃ (k nL:Nat) (gL:Nat→Option Blk),k≤ts.length∧m=ts.length - k∧H'=⟨.fn gL,nL⟩∧n4≤nL∧Hide (∀ b,b < n4→gL b=g4 b)∧gf 5=some (.ptr n1 0)∧gf 6=some (.ptr n2 0)∧gf 19=some (.lit (.int .i64 k))) (m0:=ts.length) ?_ ?_
    ·exact ⟨0,_,_,Nat.zero_le _,rfl,rfl,by omega,⟨fun b hb=>by simp (disch:=omega) only [gput_lt]; rw [HG7.out b (by omega),HG6.out b (by omega),HG5.out b (by omega)]⟩,by simp,by simp,by simp⟩
    rintro m gf H' ⟨k,nL,gL,hk,rfl,rfl,hnL,HGL,w5,w6,w19⟩ ih
    have hgl:=(HGL.out n1 (by omega)).trans hl4
    have hgt:=(HGL.out n2 (by omega)).trans hl4b
    refine LX.roundP (noO_ok _ _) hG pl7 (by decide +kernel) ?_
    by_cases hlt:k < ts.length
    ·have hltI:(k:Int) < (ts.length:Int):=by omega
     obtain ⟨a2,off,s1,s2,HAT0⟩:=(HT.out.log.mono (show n1≤nL by omega) fun b hb=>(HGL.out b (by omega)).trans ((HG4.out b (by omega)).trans ((HG3.out b (by omega)).trans (HG2.out b hb)))).at hlt
     have HAT:=Hide.mk HAT0
     clear HAT0
     have hia:∀ {H:Mem} {ev:Ev} {o:Oper} {ty:TypeId},iaS Tryz.prog H ev o ty (some (none,2)) (some sv) (some (.lit (.int .i64 (k:Int))))=.val (.ptr a2 (off+k * 2)) H:=fun {H ev o ty}=>HAT.out.ia
     have han:a2 < nL:=HAT.out.an
     have hcc0:=HAT.out.c0
     have hcc1:=HAT.out.c1
     have HLN:=Hide.mk (HL.out.lens (List.getElem_mem hlt))
     have hw12:=HL.out.wl _ (List.getElem_mem hlt)
     have HOWN:=Hide.mk (HKO.out _ (List.getElem_mem hlt))
     have HR1:=Hide.mk HAT.out.r1
     have HR2:=Hide.mk HAT.out.r2
     clear HAT
     generalize ts[k]=t at *
     iterate 8 (all_goals try (first | with_reducible refine splitI (fun h=>?_) (fun h=>?_) | with_reducible refine splitBI (fun h=>?_) (fun h=>?_) | simp (config:={ maxSteps:=1000000 }) (disch:=first | assumption | omega | (simp; done) | fail) [Tryz.results7, *]))
     refine WC.mono (HAN.out t.1 HLN.out.2.1 hw12 _ _ s1 (by omega) (fun b hb=>(HGL.out b (by omega)).trans ((HG4.out b (by omega)).trans (HG3.out b hb))) HR1.out) ?_
     rintro _ ⟨g8,n8,rv8,rfl,hn8,hg8,hav8⟩
     rw [HAE.out t.1 HLN.out.2.1,HOWN.out] at hav8 ⊢
     obtain ⟨B8,hb1,hb2,hb3,hb4⟩:=hav8
     subst hb3
     have HG8:=Hide.mk hg8
     have hgl8:=(hg8 n1 (by omega)).trans hgl
     have hgt8:=(hg8 n2 (by omega)).trans hgt
     have hcc08:loadB (some (false,1)) (g8 a2) (off+k * 2)=some s1:=by rw [hg8 a2 han]; exact hcc0
     have hcc18:loadB (some (false,1)) (g8 a2) (off+k * 2+1)=some s2:=by rw [hg8 a2 han]; exact hcc1
     have hlt2:t.2.length≤256:=by have:=HLN.out.1; omega
     have HSM:=Hide.mk (rsame_w t.2 t.2 (by omega) (by omega) g8 n8 _ s2 (RepW.of (c:=t.2.length) hb4 hb2) (SliceV.mono hn8 hg8 HR2.out))
     rw [decide_eq_true rfl] at HSM
     clear hg8 hb4
     simp only [Option.isSome]
     iterate 8 (all_goals try (first | with_reducible refine splitI (fun h=>?_) (fun h=>?_) | with_reducible refine splitBI (fun h=>?_) (fun h=>?_) | simp (config:={ maxSteps:=1000000 }) (disch:=first | assumption | omega | (simp; done) | fail) [Tryz.results7, *]))
     refine WC.mono HSM.out ?_
     rintro _ rfl
     iterate 8 (all_goals try (first | with_reducible refine splitI (fun h=>?_) (fun h=>?_) | with_reducible refine splitBI (fun h=>?_) (fun h=>?_) | simp (config:={ maxSteps:=1000000 }) (disch:=first | assumption | omega | (simp; done) | fail) [Tryz.results7, *]))
     exact ih.out (ts.length - (k+1)) _ _ (by omega) ⟨k+1,_,_,by omega,rfl,rfl,by omega,⟨fun b hb=>(HG8.out b (by omega)).trans (HGL.out b hb)⟩,by simp [*],by simp [*],by simp⟩
    ·have hltI:¬(k:Int) < (ts.length:Int):=by omega
     iterate 8 (all_goals try (first | with_reducible refine splitI (fun h=>?_) (fun h=>?_) | with_reducible refine splitBI (fun h=>?_) (fun h=>?_) | simp (config:={ maxSteps:=1000000 }) (disch:=first | assumption | omega | (simp; done) | fail) [Tryz.results7, *]))
     refine WC.mono (HLV.out _ _ fun b hb=>?_) ?_
     ·rw [HGL.out b (by omega),HG4.out b (by omega),HG3.out b (by omega),HG2.out b (by omega)]; exact HG1.out b hb
     rintro _ rfl
     iterate 8 (all_goals try (first | with_reducible refine splitI (fun h=>?_) (fun h=>?_) | with_reducible refine splitBI (fun h=>?_) (fun h=>?_) | simp (config:={ maxSteps:=1000000 }) (disch:=first | assumption | omega | (simp; done) | fail) [Tryz.results7, *]))
     exact ⟨show n≤nL by omega,fun b (hb:b < n)=>show gL b=g b by rw [HGL.out b (by omega),HG4.out b (by omega),HG3.out b (by omega),HG2.out b (by omega)]; exact HG1.out b hb⟩
   | none =>
    have HDN:=Hide.mk (HDV.out hdv)
    clear hdv
    simp only [devP,Option.isSome]
    iterate 8 (all_goals try (first | with_reducible refine splitI (fun h=>?_) (fun h=>?_) | with_reducible refine splitBI (fun h=>?_) (fun h=>?_) | simp (config:={ maxSteps:=1000000 }) (disch:=first | assumption | omega | (simp; done) | fail) [Tryz.results7, *]))
    refine LX.ind (fun m gf H'=>∃ (k nL:Nat) (gL:Nat→Option Blk),k≤ts.length∧m=ts.length - k∧H'=⟨.fn gL,nL⟩∧n4≤nL∧Hide (∀ b,b < n4→gL b=g4 b)∧gf 5=some (.ptr n1 0)∧gf 6=some (.ptr n2 0)∧gf 19=some (.lit (.int .i64 k))) (m0:=ts.length) ?_ ?_
    ·exact ⟨0,_,_,Nat.zero_le _,rfl,rfl,by omega,⟨fun b hb=>by simp (disch:=omega) only [gput_lt]; rw [HG7.out b (by omega),HG6.out b (by omega),HG5.out b (by omega)]⟩,by simp,by simp,by simp⟩
    rintro m gf H' ⟨k,nL,gL,hk,rfl,rfl,hnL,HGL,w5,w6,w19⟩ ih
    have hgl:=(HGL.out n1 (by omega)).trans hl4
    have hgt:=(HGL.out n2 (by omega)).trans hl4b
    refine LX.roundP (noO_ok _ _) hG pl7 (by decide +kernel) ?_
    by_cases hlt:k < ts.length
    ·have hltI:(k:Int) < (ts.length:Int):=by omega
     obtain ⟨a2,off,s1,s2,HAT0⟩:=(HT.out.log.mono (show n1≤nL by omega) fun b hb=>(HGL.out b (by omega)).trans ((HG4.out b (by omega)).trans ((HG3.out b (by omega)).trans (HG2.out b hb)))).at hlt
     have HAT:=Hide.mk HAT0
     clear HAT0
     have hia:∀ {H:Mem} {ev:Ev} {o:Oper} {ty:TypeId},iaS Tryz.prog H ev o ty (some (none,2)) (some sv) (some (.lit (.int .i64 (k:Int))))=.val (.ptr a2 (off+k * 2)) H:=fun {H ev o ty}=>HAT.out.ia
     have han:a2 < nL:=HAT.out.an
     have hcc0:=HAT.out.c0
     have hcc1:=HAT.out.c1
     have HLN:=Hide.mk (HL.out.lens (List.getElem_mem hlt))
     have hw12:=HL.out.wl _ (List.getElem_mem hlt)
     have HOWN:=Hide.mk (HKO.out _ (List.getElem_mem hlt))
     have HR1:=Hide.mk HAT.out.r1
     have HR2:=Hide.mk HAT.out.r2
     clear HAT
     generalize ts[k]=t at *
     iterate 8 (all_goals try (first | with_reducible refine splitI (fun h=>?_) (fun h=>?_) | with_reducible refine splitBI (fun h=>?_) (fun h=>?_) | simp (config:={ maxSteps:=1000000 }) (disch:=first | assumption | omega | (simp; done) | fail) [Tryz.results7, *]))
     refine WC.mono (HAN.out t.1 HLN.out.2.1 hw12 _ _ s1 (by omega) (fun b hb=>(HGL.out b (by omega)).trans ((HG4.out b (by omega)).trans (HG3.out b hb))) HR1.out) ?_
     rintro _ ⟨g8,n8,rv8,rfl,hn8,hg8,hav8⟩
     rw [HAE.out t.1 HLN.out.2.1,HOWN.out] at hav8 ⊢
     obtain ⟨B8,hb1,hb2,hb3,hb4⟩:=hav8
     subst hb3
     have HG8:=Hide.mk hg8
     have hgl8:=(hg8 n1 (by omega)).trans hgl
     have hgt8:=(hg8 n2 (by omega)).trans hgt
     have hcc08:loadB (some (false,1)) (g8 a2) (off+k * 2)=some s1:=by rw [hg8 a2 han]; exact hcc0
     have hcc18:loadB (some (false,1)) (g8 a2) (off+k * 2+1)=some s2:=by rw [hg8 a2 han]; exact hcc1
     have hlt2:t.2.length≤256:=by have:=HLN.out.1; omega
     have HSM:=Hide.mk (rsame_w t.2 t.2 (by omega) (by omega) g8 n8 _ s2 (RepW.of (c:=t.2.length) hb4 hb2) (SliceV.mono hn8 hg8 HR2.out))
     rw [decide_eq_true rfl] at HSM
     clear hg8 hb4
     simp only [Option.isSome]
     iterate 8 (all_goals try (first | with_reducible refine splitI (fun h=>?_) (fun h=>?_) | with_reducible refine splitBI (fun h=>?_) (fun h=>?_) | simp (config:={ maxSteps:=1000000 }) (disch:=first | assumption | omega | (simp; done) | fail) [Tryz.results7, *]))
     refine WC.mono HSM.out ?_
     rintro _ rfl
     iterate 8 (all_goals try (first | with_reducible refine splitI (fun h=>?_) (fun h=>?_) | with_reducible refine splitBI (fun h=>?_) (fun h=>?_) | simp (config:={ maxSteps:=1000000 }) (disch:=first | assumption | omega | (simp; done) | fail) [Tryz.results7, *]))
     exact ih.out (ts.length - (k+1)) _ _ (by omega) ⟨k+1,_,_,by omega,rfl,rfl,by omega,⟨fun b hb=>(HG8.out b (by omega)).trans (HGL.out b hb)⟩,by simp [*],by simp [*],by simp⟩
    ·have hltI:¬(k:Int) < (ts.length:Int):=by omega
     iterate 8 (all_goals try (first | with_reducible refine splitI (fun h=>?_) (fun h=>?_) | with_reducible refine splitBI (fun h=>?_) (fun h=>?_) | simp (config:={ maxSteps:=1000000 }) (disch:=first | assumption | omega | (simp; done) | fail) [Tryz.results7, *]))
     refine WC.mono (HLV.out _ _ fun b hb=>?_) ?_
     ·rw [HGL.out b (by omega),HG4.out b (by omega),HG3.out b (by omega),HG2.out b (by omega)]; exact HG1.out b hb
     rintro _ rfl
     iterate 8 (all_goals try (first | with_reducible refine splitI (fun h=>?_) (fun h=>?_) | with_reducible refine splitBI (fun h=>?_) (fun h=>?_) | simp (config:={ maxSteps:=1000000 }) (disch:=first | assumption | omega | (simp; done) | fail) [Tryz.results7, *]))
     exact ⟨show n≤nL by omega,fun b (hb:b < n)=>show gL b=g b by rw [HGL.out b (by omega),HG4.out b (by omega),HG3.out b (by omega),HG2.out b (by omega)]; exact HG1.out b hb⟩
  | some r =>
   obtain ⟨B9,hb1,hb2,hrv,hb4⟩:=HAV.out
   subst hrv
   have HRLW:Hide (r.length=w.length):=⟨knM_len w [] false r HKK.out⟩
   have hrl2:r.length≤256:=by have:=HRLW.out; omega
   simp only [Option.isSome]
   iterate 8 (all_goals try (first | with_reducible refine splitI (fun h=>?_) (fun h=>?_) | with_reducible refine splitBI (fun h=>?_) (fun h=>?_) | simp (config:={ maxSteps:=1000000 }) (disch:=first | assumption | omega | (simp; done) | fail) [Tryz.results7, *]))
   refine WC.mono (HKN.out w (by omega) _ _ uv (by omega) (fun b hb=>(HG4.out b (by omega)).trans ((HG3.out b (by omega)).trans (HG2.out b hb))) (SliceV.mono hn4 HG4.out HFW.out.1.rep) HFW.out.2) ?_
   rintro _ ⟨g5,n5,rv5,rfl,hn5,hg5,hr5⟩
   rw [HKK.out] at hr5 ⊢
   have HG5:=Hide.mk hg5
   have hl5:=(hg5 n1 (by omega)).trans hl4
   have hl5b:=(hg5 n2 (by omega)).trans hl4b
   have hl5c:=(hg5 n (by omega)).trans ((HG4.out n (by omega)).trans ((HG3.out n (by omega)).trans ((HG2.out n (by omega)).trans hx1)))
   have HSM:=Hide.mk (rsame_w r r (by first | omega | simp) (by first | omega | simp) g5 n5 _ rv5 (RepW.of (c:=r.length) ((hg5 B9 (by omega)).trans hb4) (by omega)) hr5)
   rw [decide_eq_true rfl] at HSM
   clear hg5 hr5
   simp only [Option.isSome]
   iterate 8 (all_goals try (first | with_reducible refine splitI (fun h=>?_) (fun h=>?_) | with_reducible refine splitBI (fun h=>?_) (fun h=>?_) | simp (config:={ maxSteps:=1000000 }) (disch:=first | assumption | omega | (simp; done) | fail) [Tryz.results7, *]))
   refine WC.mono HSM.out ?_
   rintro _ rfl
   iterate 8 (all_goals try (first | with_reducible refine splitI (fun h=>?_) (fun h=>?_) | with_reducible refine splitBI (fun h=>?_) (fun h=>?_) | simp (config:={ maxSteps:=1000000 }) (disch:=first | assumption | omega | (simp; done) | fail) [Tryz.results7, *]))
   refine WC.mono (HM1.out _ _ (by omega) fun b hb=>?_) ?_
   ·rw [HG5.out b (by omega),HG4.out b (by omega),HG3.out b (by omega),HG2.out b (by omega)]; exact HG1.out b hb
   rintro _ ⟨ms,g6,n6,rfl,hn6,hg6,hfm⟩
   have HG6:=Hide.mk hg6
   have hl6:=(hg6 n1 (by omega)).trans hl5
   have hl6b:=(hg6 n2 (by omega)).trans hl5b
   obtain ⟨mv,hms,h1mv⟩:=HRL0.out _ _ _ hfm.rep
   subst hms
   have HRM:=Hide.mk hfm.rep
   have honeM:allOne [.lit (.int .i64 I),.lit (.int .i64 O),mv]=true:=by simp [h1mv]
   have HRA2:=Hide.mk fun (gX:Nat→Option Blk) (n3:Nat) (hn:n6≤n3) (hX:∀ b,b < n6→gX b=g6 b)=>HRA.out gX n3 _ sv (HRM.out.mono hn hX) (HT.out.mono (show n1≤n3 by omega) fun b hb=>(hX b (by omega)).trans ((HG6.out b (by omega)).trans ((HG5.out b (by omega)).trans ((HG4.out b (by omega)).trans ((HG3.out b (by omega)).trans (HG2.out b hb)))))).log
   clear hg6 hfm
   iterate 8 (all_goals try (first | with_reducible refine splitI (fun h=>?_) (fun h=>?_) | with_reducible refine splitBI (fun h=>?_) (fun h=>?_) | simp (config:={ maxSteps:=1000000 }) (disch:=first | assumption | omega | (simp; done) | fail) [Tryz.results7, *]))
   refine WC.mono (HRA2.out _ _ (by omega) fun b hb=>gput_lt hb) ?_
   rintro _ ⟨g7,n7,rfl,hn7,hg7⟩
   have HG7:Hide (∀ b,b < n6→g7 b=g6 b):=⟨fun b hb=>(hg7 b (by omega)).trans (gput_lt hb)⟩
   have hl7:=(hg7 n6 (by omega)).trans gput_eq
   clear hg7 HRA2
   cases hdv:devF M ts 0 with
   | some dd =>
    have HDV:=Hide.mk hdv
    clear hdv
    obtain ⟨d1,d2⟩:=dd
    simp only [devP,Option.isSome]
    iterate 8 (all_goals try (first | with_reducible refine splitI (fun h=>?_) (fun h=>?_) | with_reducible refine splitBI (fun h=>?_) (fun h=>?_) | simp (config:={ maxSteps:=1000000 }) (disch:=first | assumption | omega | (simp; done) | fail) [Tryz.results7, *]))
    refine LX.ind (fun m gf H'=>∃ (k nL:Nat) (gL:Nat→Option Blk),k≤ts.length∧m=ts.length - k∧H'=⟨.fn gL,nL⟩∧n4≤nL∧Hide (∀ b,b < n4→gL b=g4 b)∧gf 5=some (.ptr n1 0)∧gf 6=some (.ptr n2 0)∧gf 19=some (.lit (.int .i64 k))) (m0:=ts.length) ?_ ?_
    ·exact ⟨0,_,_,Nat.zero_le _,rfl,rfl,by omega,⟨fun b hb=>by simp (disch:=omega) only [gput_lt]; rw [HG7.out b (by omega),HG6.out b (by omega),HG5.out b (by omega)]⟩,by simp,by simp,by simp⟩
    rintro m gf H' ⟨k,nL,gL,hk,rfl,rfl,hnL,HGL,w5,w6,w19⟩ ih
    have hgl:=(HGL.out n1 (by omega)).trans hl4
    have hgt:=(HGL.out n2 (by omega)).trans hl4b
    refine LX.roundP (noO_ok _ _) hG pl7 (by decide +kernel) ?_
    by_cases hlt:k < ts.length
    ·have hltI:(k:Int) < (ts.length:Int):=by omega
     obtain ⟨a2,off,s1,s2,HAT0⟩:=(HT.out.log.mono (show n1≤nL by omega) fun b hb=>(HGL.out b (by omega)).trans ((HG4.out b (by omega)).trans ((HG3.out b (by omega)).trans (HG2.out b hb)))).at hlt
     have HAT:=Hide.mk HAT0
     clear HAT0
     have hia:∀ {H:Mem} {ev:Ev} {o:Oper} {ty:TypeId},iaS Tryz.prog H ev o ty (some (none,2)) (some sv) (some (.lit (.int .i64 (k:Int))))=.val (.ptr a2 (off+k * 2)) H:=fun {H ev o ty}=>HAT.out.ia
     have han:a2 < nL:=HAT.out.an
     have hcc0:=HAT.out.c0
     have hcc1:=HAT.out.c1
     have HLN:=Hide.mk (HL.out.lens (List.getElem_mem hlt))
     have hw12:=HL.out.wl _ (List.getElem_mem hlt)
     have HOWN:=Hide.mk (HKO.out _ (List.getElem_mem hlt))
     have HR1:=Hide.mk HAT.out.r1
     have HR2:=Hide.mk HAT.out.r2
     clear HAT
     generalize ts[k]=t at *
     iterate 8 (all_goals try (first | with_reducible refine splitI (fun h=>?_) (fun h=>?_) | with_reducible refine splitBI (fun h=>?_) (fun h=>?_) | simp (config:={ maxSteps:=1000000 }) (disch:=first | assumption | omega | (simp; done) | fail) [Tryz.results7, *]))
     refine WC.mono (HAN.out t.1 HLN.out.2.1 hw12 _ _ s1 (by omega) (fun b hb=>(HGL.out b (by omega)).trans ((HG4.out b (by omega)).trans (HG3.out b hb))) HR1.out) ?_
     rintro _ ⟨g8,n8,rv8,rfl,hn8,hg8,hav8⟩
     rw [HAE.out t.1 HLN.out.2.1,HOWN.out] at hav8 ⊢
     obtain ⟨B8,hb1,hb2,hb3,hb4⟩:=hav8
     subst hb3
     have HG8:=Hide.mk hg8
     have hgl8:=(hg8 n1 (by omega)).trans hgl
     have hgt8:=(hg8 n2 (by omega)).trans hgt
     have hcc08:loadB (some (false,1)) (g8 a2) (off+k * 2)=some s1:=by rw [hg8 a2 han]; exact hcc0
     have hcc18:loadB (some (false,1)) (g8 a2) (off+k * 2+1)=some s2:=by rw [hg8 a2 han]; exact hcc1
     have hlt2:t.2.length≤256:=by have:=HLN.out.1; omega
     have HSM:=Hide.mk (rsame_w t.2 t.2 (by omega) (by omega) g8 n8 _ s2 (RepW.of (c:=t.2.length) hb4 hb2) (SliceV.mono hn8 hg8 HR2.out))
     rw [decide_eq_true rfl] at HSM
     clear hg8 hb4
     simp only [Option.isSome]
     iterate 8 (all_goals try (first | with_reducible refine splitI (fun h=>?_) (fun h=>?_) | with_reducible refine splitBI (fun h=>?_) (fun h=>?_) | simp (config:={ maxSteps:=1000000 }) (disch:=first | assumption | omega | (simp; done) | fail) [Tryz.results7, *]))
     refine WC.mono HSM.out ?_
     rintro _ rfl
     iterate 8 (all_goals try (first | with_reducible refine splitI (fun h=>?_) (fun h=>?_) | with_reducible refine splitBI (fun h=>?_) (fun h=>?_) | simp (config:={ maxSteps:=1000000 }) (disch:=first | assumption | omega | (simp; done) | fail) [Tryz.results7, *]))
     exact ih.out (ts.length - (k+1)) _ _ (by omega) ⟨k+1,_,_,by omega,rfl,rfl,by omega,⟨fun b hb=>(HG8.out b (by omega)).trans (HGL.out b hb)⟩,by simp [*],by simp [*],by simp⟩
    ·have hltI:¬(k:Int) < (ts.length:Int):=by omega
     iterate 8 (all_goals try (first | with_reducible refine splitI (fun h=>?_) (fun h=>?_) | with_reducible refine splitBI (fun h=>?_) (fun h=>?_) | simp (config:={ maxSteps:=1000000 }) (disch:=first | assumption | omega | (simp; done) | fail) [Tryz.results7, *]))
     refine WC.mono (HLV.out _ _ fun b hb=>?_) ?_
     ·rw [HGL.out b (by omega),HG4.out b (by omega),HG3.out b (by omega),HG2.out b (by omega)]; exact HG1.out b hb
     rintro _ rfl
     iterate 8 (all_goals try (first | with_reducible refine splitI (fun h=>?_) (fun h=>?_) | with_reducible refine splitBI (fun h=>?_) (fun h=>?_) | simp (config:={ maxSteps:=1000000 }) (disch:=first | assumption | omega | (simp; done) | fail) [Tryz.results7, *]))
     exact ⟨show n≤nL by omega,fun b (hb:b < n)=>show gL b=g b by rw [HGL.out b (by omega),HG4.out b (by omega),HG3.out b (by omega),HG2.out b (by omega)]; exact HG1.out b hb⟩
   | none =>
    have HDN:=Hide.mk (HDV.out hdv)
    clear hdv
    simp only [devP,Option.isSome]
    iterate 8 (all_goals try (first | with_reducible refine splitI (fun h=>?_) (fun h=>?_) | with_reducible refine splitBI (fun h=>?_) (fun h=>?_) | simp (config:={ maxSteps:=1000000 }) (disch:=first | assumption | omega | (simp; done) | fail) [Tryz.results7, *]))
    have HEQ:Hide (r=runM M 0 w):=⟨HKR.out HDN.out w r HWI.out.1 HKK.out⟩
    refine WC.mono (HRR.out w (by omega) HWI.out.1 _ _ _ uv (HRM.out.mono (by omega) fun b hb=>by simp (disch:=omega) only [gput_lt]; exact HG7.out b hb) (SliceV.mono (by omega) (fun b hb=>by simp (disch:=omega) only [gput_lt]; rw [HG7.out b (by omega),HG6.out b (by omega),HG5.out b (by omega)]; exact HG4.out b hb) HFW.out.1.rep)) ?_
    rintro _ ⟨zv,g9,n9,rfl,hn9,hg9,hfz⟩
    rw [← HEQ.out] at hfz
    have HG9:Hide (∀ b,b < n7→g9 b=g7 b):=⟨fun b hb=>(hg9 b (by omega)).trans (by simp (disch:=omega) only [gput_lt])⟩
    have HSM2:=Hide.mk (rsame_w r r (by omega) (by omega) g9 n9 _ zv (RepW.of (c:=r.length) ((HG9.out B9 (by omega)).trans ((HG7.out B9 (by omega)).trans ((HG6.out B9 (by omega)).trans ((HG5.out B9 (by omega)).trans hb4)))) (by omega)) hfz.rep)
    rw [decide_eq_true rfl] at HSM2
    clear hg9 hfz
    iterate 8 (all_goals try (first | with_reducible refine splitI (fun h=>?_) (fun h=>?_) | with_reducible refine splitBI (fun h=>?_) (fun h=>?_) | simp (config:={ maxSteps:=1000000 }) (disch:=first | assumption | omega | (simp; done) | fail) [Tryz.results7, *]))
    refine WC.mono HSM2.out ?_
    rintro _ rfl
    iterate 8 (all_goals try (first | with_reducible refine splitI (fun h=>?_) (fun h=>?_) | with_reducible refine splitBI (fun h=>?_) (fun h=>?_) | simp (config:={ maxSteps:=1000000 }) (disch:=first | assumption | omega | (simp; done) | fail) [Tryz.results7, *]))
    refine LX.ind (fun m gf H'=>∃ (k nL:Nat) (gL:Nat→Option Blk),k≤ts.length∧m=ts.length - k∧H'=⟨.fn gL,nL⟩∧n4≤nL∧Hide (∀ b,b < n4→gL b=g4 b)∧gf 5=some (.ptr n1 0)∧gf 6=some (.ptr n2 0)∧gf 19=some (.lit (.int .i64 k))) (m0:=ts.length) ?_ ?_
    ·exact ⟨0,_,_,Nat.zero_le _,rfl,rfl,by omega,⟨fun b hb=>by rw [HG9.out b (by omega),HG7.out b (by omega),HG6.out b (by omega),HG5.out b (by omega)]⟩,by simp,by simp,by simp⟩
    rintro m gf H' ⟨k,nL,gL,hk,rfl,rfl,hnL,HGL,w5,w6,w19⟩ ih
    have hgl:=(HGL.out n1 (by omega)).trans hl4
    have hgt:=(HGL.out n2 (by omega)).trans hl4b
    refine LX.roundP (noO_ok _ _) hG pl7 (by decide +kernel) ?_
    by_cases hlt:k < ts.length
    ·have hltI:(k:Int) < (ts.length:Int):=by omega
     obtain ⟨a2,off,s1,s2,HAT0⟩:=(HT.out.log.mono (show n1≤nL by omega) fun b hb=>(HGL.out b (by omega)).trans ((HG4.out b (by omega)).trans ((HG3.out b (by omega)).trans (HG2.out b hb)))).at hlt
     have HAT:=Hide.mk HAT0
     clear HAT0
     have hia:∀ {H:Mem} {ev:Ev} {o:Oper} {ty:TypeId},iaS Tryz.prog H ev o ty (some (none,2)) (some sv) (some (.lit (.int .i64 (k:Int))))=.val (.ptr a2 (off+k * 2)) H:=fun {H ev o ty}=>HAT.out.ia
     have han:a2 < nL:=HAT.out.an
     have hcc0:=HAT.out.c0
     have hcc1:=HAT.out.c1
     have HLN:=Hide.mk (HL.out.lens (List.getElem_mem hlt))
     have hw12:=HL.out.wl _ (List.getElem_mem hlt)
     have HOWN:=Hide.mk (HKO.out _ (List.getElem_mem hlt))
     have HR1:=Hide.mk HAT.out.r1
     have HR2:=Hide.mk HAT.out.r2
     clear HAT
     generalize ts[k]=t at *
     iterate 8 (all_goals try (first | with_reducible refine splitI (fun h=>?_) (fun h=>?_) | with_reducible refine splitBI (fun h=>?_) (fun h=>?_) | simp (config:={ maxSteps:=1000000 }) (disch:=first | assumption | omega | (simp; done) | fail) [Tryz.results7, *]))
     refine WC.mono (HAN.out t.1 HLN.out.2.1 hw12 _ _ s1 (by omega) (fun b hb=>(HGL.out b (by omega)).trans ((HG4.out b (by omega)).trans (HG3.out b hb))) HR1.out) ?_
     rintro _ ⟨g8,n8,rv8,rfl,hn8,hg8,hav8⟩
     rw [HAE.out t.1 HLN.out.2.1,HOWN.out] at hav8 ⊢
     obtain ⟨B8,hb1,hb2,hb3,hb4⟩:=hav8
     subst hb3
     have HG8:=Hide.mk hg8
     have hgl8:=(hg8 n1 (by omega)).trans hgl
     have hgt8:=(hg8 n2 (by omega)).trans hgt
     have hcc08:loadB (some (false,1)) (g8 a2) (off+k * 2)=some s1:=by rw [hg8 a2 han]; exact hcc0
     have hcc18:loadB (some (false,1)) (g8 a2) (off+k * 2+1)=some s2:=by rw [hg8 a2 han]; exact hcc1
     have hlt2:t.2.length≤256:=by have:=HLN.out.1; omega
     have HSM:=Hide.mk (rsame_w t.2 t.2 (by omega) (by omega) g8 n8 _ s2 (RepW.of (c:=t.2.length) hb4 hb2) (SliceV.mono hn8 hg8 HR2.out))
     rw [decide_eq_true rfl] at HSM
     clear hg8 hb4
     simp only [Option.isSome]
     iterate 8 (all_goals try (first | with_reducible refine splitI (fun h=>?_) (fun h=>?_) | with_reducible refine splitBI (fun h=>?_) (fun h=>?_) | simp (config:={ maxSteps:=1000000 }) (disch:=first | assumption | omega | (simp; done) | fail) [Tryz.results7, *]))
     refine WC.mono HSM.out ?_
     rintro _ rfl
     iterate 8 (all_goals try (first | with_reducible refine splitI (fun h=>?_) (fun h=>?_) | with_reducible refine splitBI (fun h=>?_) (fun h=>?_) | simp (config:={ maxSteps:=1000000 }) (disch:=first | assumption | omega | (simp; done) | fail) [Tryz.results7, *]))
     exact ih.out (ts.length - (k+1)) _ _ (by omega) ⟨k+1,_,_,by omega,rfl,rfl,by omega,⟨fun b hb=>(HG8.out b (by omega)).trans (HGL.out b hb)⟩,by simp [*],by simp [*],by simp⟩
    ·have hltI:¬(k:Int) < (ts.length:Int):=by omega
     iterate 8 (all_goals try (first | with_reducible refine splitI (fun h=>?_) (fun h=>?_) | with_reducible refine splitBI (fun h=>?_) (fun h=>?_) | simp (config:={ maxSteps:=1000000 }) (disch:=first | assumption | omega | (simp; done) | fail) [Tryz.results7, *]))
     refine WC.mono (HLV.out _ _ fun b hb=>?_) ?_
     ·rw [HGL.out b (by omega),HG4.out b (by omega),HG3.out b (by omega),HG2.out b (by omega)]; exact HG1.out b hb
     rintro _ rfl
     iterate 8 (all_goals try (first | with_reducible refine splitI (fun h=>?_) (fun h=>?_) | with_reducible refine splitBI (fun h=>?_) (fun h=>?_) | simp (config:={ maxSteps:=1000000 }) (disch:=first | assumption | omega | (simp; done) | fail) [Tryz.results7, *]))
     exact ⟨show n≤nL by omega,fun b (hb:b < n)=>show gL b=g b by rw [HGL.out b (by omega),HG4.out b (by omega),HG3.out b (by omega),HG2.out b (by omega)]; exact HG1.out b hb⟩
end Go.Ai
end
