/- Parts of an interpreter and of a proof. No condition. -/
import Derived.Test.YtpimmmnkcgnjjaaGreatA10
set_option linter.all false
set_option maxHeartbeats 40000000
set_option maxRecDepth 10000
open Go.Proofs Go.Proofs.Tryz
namespace Go.Ai
def B9(x:Nat)(g:Gb):Gb:=λa=>if a<x then none else g a
theorem De{x a:Nat}{g:Gb}(h:x<=a):B9 x g a=g a:=if_neg (by omega)
theorem Gy{x a:Nat}{g:Gb}{u:Blk}(h:B9 x g a=some u):x<=a/\g a=some u:=by
 unfold B9 at h;split at h
 .cases h
 .exact⟨by omega,h⟩
theorem e0w {I:Nat} {O:Int} {ts:Lq} (hL:Cg I O ts) (hC:Eb ts) (g:Gb) (n:Nat) (sv:AV) (hT:F6 g n ts sv) :
  WC 0 prog 25 [.agg [.li I,.li O,sv]] ⟨.fn g,n⟩ fun r=>∃ rv g' n',r=.ret (.agg [.li I,.li O,rv]) ⟨.fn g',n'⟩/\n<=n'/\(∀ b,b<n->g' b=g b)/\Dv (B9 n g') n' (Aj I ts) rv:=by
 have h1s:=hT.choose_spec.1.one
 have hone:allOne [.li I,.li O,sv]=true:=by simp[h1s]
 have hI1:=hL.i1
 have hI2:=hL.i2
 have htl:=hL.len
 have HNO:=Aa.mk fun (gX:Gb) (n2:Nat) (hn:n<=n2) (hX:∀ b,b<n->gX b=g b)=>e0v (I:=I) (O:=O) hL.small (fun t ht=>(hL.lens ht).1) gX n2 sv (hT.mono hn hX)
 have HLA:=Aa.mk fun (w:Wd) (h0:0<w.length) (hw:w.length<=1000) (gX:Gb) (n2:Nat) (wv:AV) (hn:n<=n2) (hX:∀ b,b<n->gX b=g b) (hW:Al gX n2 w wv)=>e0q (I:=I) (O:=O) hL.small (fun t ht=>(hL.lens ht).1) h0 hw gX n2 sv wv (hT.mono hn hX) hW
 have HMV:=Aa.mk fun (x:Wd)=>J2 hL.ok hC x
 have HRL:Aa (Aj I ts=(Bi ts).map (A2 (valT ts) (Bi ts) I)):=⟨rfl⟩
 have hpos:Aa (0<(Bi ts).length):=⟨List.length_pos_of_mem ((J2 hL.ok hC []).2 (.inl rfl))⟩
 clear hL hC hT
 refine ent [] func25 ?_
 iterate 8 all_goals try first|refine spl (fun h=>?_) fun h=>?_|simp (maxSteps:=999999) (disch:=first|assumption|omega|(simp;done)|fail) [*]
 refine WC.mono (HNO.out _ _ (by omega) fun b hb=>by simp (disch:=omega) only[Ad]) ?_
 rintro _ ⟨ov,gX,n',rfl,hn',hX,hLV,hnl,hwl⟩
 have HX:Aa (∀ b,b<n->gX b=g b):=⟨fun b hb=>(hX b (by omega)).trans (by simp (disch:=omega) only[Ad])⟩
 have hb0:=hX n (by omega)
 have hb1:=hX (n+1) (by omega)
 simp (disch:=omega) only[Ad,Ag] at hb0 hb1
 have hlen:=@Ap prog _ _ _ _ _ hLV.choose_spec.1
 have HLV:=Aa.mk hLV
 have HWL:=Aa.mk hwl
 clear hX hLV hwl HNO
 rw[HRL.out]
 clear HRL
 generalize Bi ts=ws at *
 generalize valT ts=V at *
 have hnl2:ws.length<=100000:=by omega
 iterate 8 all_goals try first|refine spl (fun h=>?_) fun h=>?_|simp (maxSteps:=999999) (disch:=first|assumption|omega|(simp;done)|fail) [*]
 refine LX.ind (fun m gf H'=>∃ (q n2 B:Nat) (gL:Gb) (rv:AV) (svs:List AV),q<=ws.length/\m=ws.length-q/\H'=⟨.fn gL,n2⟩/\n'+1<=n2/\B<n2/\Aa (∀ b,b<n'->gL b=gX b)/\gL n'=some (.cells [.li I,.li O,rv] true 0)/\Aa (A6 gL (n'+1) n2 B rv q 1 svs)/\Aa (RowsG (B9 (n+2) (Dc n' (Dc B gL))) n2 ((ws.take q).map (A2 V ws I)) svs) /\
  gf 1=some (.ptr n 0)/\gf 2=some (.ptr (n+1) 0)/\gf 3=some ov/\gf 4=some (.ptr n' 0)/\gf 5=some (.li q)) (m0:=ws.length) ?_ ?_
 ·exact⟨0,n'+1,0,_,_,[],Nat.zero_le _,rfl,rfl,Nat.le_refl _,Nat.succ_pos _,⟨fun b hb=>Ad hb⟩,Ag,⟨.inl ⟨rfl,rfl,rfl⟩⟩,⟨⟨by simp,fun k hk=>by simp at hk⟩⟩,by simp,by simp,by simp,by simp,by simp⟩
 rintro m gf H' ⟨q,n2,B,gL,rv,svs,hq,rfl,rfl,hn2,hBn,HG,hgr,HGR,HRG,w1,w2,w3,w4,w5⟩ ih
 have hg0:=(HG.out n (by omega)).trans hb0
 have hg1:=(HG.out (n+1) (by omega)).trans hb1
 refine rnd [] ?_
 by_cases hlt:q<ws.length
 ·have hltI:(q:Int)<(ws.length:Int):=by omega
  obtain⟨a1,o1,qv,ha1,hia1,hc1,hqv⟩:=HLV.out.at hlt
  have HMQ:Aa (ws[q]∈ws):=⟨List.getElem_mem hlt⟩
  have hwq:=HWL.out _ HMQ.out
  have HQV:=Aa.mk hqv
  have HTK:Aa ((ws.take (q+1)).map (A2 V ws I)=(ws.take q).map (A2 V ws I)++[A2 V ws I ws[q]]):=⟨by rw[Bv hlt,List.map_append];rfl⟩
  clear hqv
  generalize ws[q]=node at *
  iterate 8 all_goals try first|refine spl (fun h=>?_) fun h=>?_|simp (maxSteps:=999999) (disch:=first|assumption|omega|(simp;done)|fail) [*]
  refine LX.ind (fun m gf H'=>∃ (i n3 B6:Nat) (gI:Gb) (tv:AV),i<=I/\m=I-i/\H'=⟨.fn gI,n3⟩/\n2<=n3/\Aa (∀ b,b<n2->gI b=gL b)/\Aa (A6 gI n2 n3 B6 tv i 2 (Au ((A2 V ws I node).take i))) /\
   gf 1=some (.ptr n 0)/\gf 2=some (.ptr (n+1) 0)/\gf 3=some ov/\gf 4=some (.ptr n' 0)/\gf 5=some (.li q)/\gf 6=some tv/\gf 7=some (.li i)) (m0:=I) ?_ ?_
  ·exact⟨0,n2,0,gL,_,Nat.zero_le _,rfl,rfl,Nat.le_refl _,⟨fun _ _=>rfl⟩,⟨.inl ⟨rfl,rfl,rfl⟩⟩,by simp[*],by simp[*],by simp[*],by simp[*],by simp[*],by simp,by simp⟩
  clear w1 w2 w3 w4 w5
  rintro m gf H' ⟨i,n3,B6,gI,tv,hi,rfl,rfl,hn3,HGI,HG6,w1,w2,w3,w4,w5,w6,w7⟩ ih2
  have hi0:=(HGI.out n (by omega)).trans hg0
  have hi1:=(HGI.out (n+1) (by omega)).trans hg1
  have hir:=(HGI.out n' (by omega)).trans hgr
  refine rnd [] ?_
  by_cases hli:i<I
  ·have hliI:(i:Int)<(I:Int):=by omega
   have HGX:Aa (∀ b,b<n'->gI b=gX b):=⟨fun b hb=>(HGI.out b (by omega)).trans (HG.out b hb)⟩
   have hc1' : A5 (some (false,1)) (gI a1) (o1+q)=some qv:=(congrArg (fun z=>A5 (some (false,1)) z (o1+q)) (HGX.out a1 ha1)).trans hc1
   have hv:Af gI n3 qv node.length (wdC node):=Af.mono (by omega) HGX.out HQV.out
   have hcr:(Au ((A2 V ws I node).take i)).length=i*2:=by rw[rowC_len,List.length_take,K3];omega
   have HNX:Aa ((A2 V ws I node).take (i+1)=(A2 V ws I node).take i++[Ax V ws node i]):=⟨by
    have h1:i<(A2 V ws I node).length:=by rw[K3];exact hli
    rw[Bv h1]
    have h2:=Oa (V:=V) (ws:=ws) (I:=I) (w:=node) hli
    rw[(List.getElem?_eq_some_iff.1 h2).2]⟩
   have hcsn:∀ e:Int×Int,Au ((A2 V ws I node).take i++[e])=Au ((A2 V ws I node).take i)++[.li e.1,.li e.2]:=fun e=>a2w _ _
   have HSN:=Aa.mk hcsn
   clear hcsn hc1
   by_cases hne:node.length=0
   ·have hnn:node=[]:=List.length_eq_zero_iff.1 hne
    rw[hne] at hv
    have hap:=fun {H:Mem} {ev:Ev} {d:Option Tmp} {ty:TypeId} {p:String} {af:Array Edge} {gd:Option (Nat×Bool)} {x y:Operand} {s t:TypeId} {a off:Nat} {hx:ev x=some (.sl a off 0 0)} {hy:ev y=some qv} (hp:(apI prog s t).isSome=true)=>Af.ap00 (P:=prog) hv (H:=H) (ev:=ev) (d:=d) (ty:=ty) (p:=p) (af:=af) (gd:=gd) (x:=x) (y:=y) (a:=a) (off:=off) (hx:=hx) (hy:=hy) hp
    have HNN:=Aa.mk hnn
    clear hv hne hnn
    iterate 8 all_goals try first|refine spl (fun h=>?_) fun h=>?_|simp (maxSteps:=999999) (disch:=first|assumption|omega|(simp;done)|fail) [*]
    have HREP:=Aa.mk fun (g9:Gb) (n9:Nat) (h1:g9 (n3+1+1)=some (.cells [.li i] true 1)) (h2:n3+1+1<n9)=>show Al g9 n9 (node++[(i:Int)]) (.slq (n3+1+1) 0 1 0) from by
     exact .inr ⟨n3+1+1,0,h2,.inr ⟨0,by rw[HNN.out];rfl⟩,_,true,1,h1,by simp[HNN.out,wdC],by rw[HNN.out];simp[wdC]⟩
    clear hap
    refine WC.mono (HLA.out (node++[(i:Int)]) (by simp) (by simp;omega) _ _ _ (by omega) (fun b hb=>?_) (HREP.out _ _ Ag (by omega))) ?_
    ·simp (disch:=omega) only[Ad,Ae];exact(HGX.out b (by omega)).trans (HX.out b hb)
    rintro _ ⟨g5,rfl,hg5⟩
    have H5:Aa (∀ b,b<n3->g5 b=gI b):=⟨fun b hb=>(hg5 b (by omega)).trans (by simp (disch:=omega) only[Ad,Ae])⟩
    have HR5:=Aa.mk (HREP.out g5 (n3+1+1+1+1) ((hg5 (n3+1+1) (by omega)).trans Ag) (by omega))
    clear hg5
    cases hVo:V (node++[(i:Int)]) with
    | none =>
     have HE:Aa (Ax V ws node i=(-1,-1)):=⟨by unfold Ax;rw[hVo]⟩
     simp only[lastV]
     rcases HG6.out with⟨h6,hc6,hs6⟩|⟨h6,hs6,hC1,hC2,hC3,hC4⟩
     ·subst hs6
      have HZ:=Aa.mk (And.intro h6 hc6)
      clear h6 hc6
      iterate 8 all_goals try first|refine spl (fun h=>?_) fun h=>?_|simp (maxSteps:=999999) (disch:=first|assumption|omega|(simp;done)|fail) [*]
      refine ih2.out (I-(i+1)) _ _ (by omega) ⟨i+1,n3+1+1+1+1+1+1,n3+1+1+1+1+1,_,.slq (n3+1+1+1+1+1) 0 (i+1) 0,by omega,rfl,rfl,by omega,⟨fun b hb=>?_⟩,⟨?_⟩,by simp[*],by simp[*],by simp[*],by simp[*],by simp[*],by simp[HZ.out.1, *],by simp⟩
      ·simp (disch:=omega) only[Ad,Ae];exact(H5.out b (by omega)).trans (HGI.out b hb)
      ·rw[HNX.out,HE.out,HSN.out]
       refine .mk ?_ (by omega) (by omega) (by simp;omega)
       rw[HZ.out.2]
       simp (disch:=omega) only[Ad,Ae,Ag];rfl
     ·subst hs6
      have hC5:=(H5.out B6 (by omega)).trans hC3
      clear hC3
      iterate 8 all_goals try first|refine spl (fun h=>?_) fun h=>?_|simp (maxSteps:=999999) (disch:=first|assumption|omega|(simp;done)|fail) [*]
      refine ih2.out (I-(i+1)) _ _ (by omega) ⟨i+1,n3+1+1+1+1+1+1,n3+1+1+1+1+1,_,.slq (n3+1+1+1+1+1) 0 (i+1) 0,by omega,rfl,rfl,by omega,⟨fun b hb=>?_⟩,⟨?_⟩,by simp[*],by simp[*],by simp[*],by simp[*],by simp[*],by simp[*],by simp⟩
      ·simp (disch:=omega) only[Ad,Ae];exact(H5.out b (by omega)).trans (HGI.out b hb)
      ·rw[HNX.out,HE.out,HSN.out]
       refine .mk ?_ (by omega) (by omega) (by simp;omega)
       simp (disch:=omega) only[Ad,Ae,Ag]
    | some o =>
     by_cases ho:o = -1
     ·have HE:Aa (Ax V ws node i=(-1,-2)):=⟨by unfold Ax;rw[hVo];exact if_pos ho⟩
      clear hVo
      subst ho
      simp only[lastV]
      rcases HG6.out with⟨h6,hc6,hs6⟩|⟨h6,hs6,hC1,hC2,hC3,hC4⟩
      ·subst hs6
       have HZ:=Aa.mk (And.intro h6 hc6)
       clear h6 hc6
       iterate 8 all_goals try first|refine spl (fun h=>?_) fun h=>?_|simp (maxSteps:=999999) (disch:=first|assumption|omega|(simp;done)|fail) [*]
       refine ih2.out (I-(i+1)) _ _ (by omega) ⟨i+1,n3+1+1+1+1+1+1,n3+1+1+1+1+1,_,.slq (n3+1+1+1+1+1) 0 (i+1) 0,by omega,rfl,rfl,by omega,⟨fun b hb=>?_⟩,⟨?_⟩,by simp[*],by simp[*],by simp[*],by simp[*],by simp[*],by simp[HZ.out.1, *],by simp⟩
       ·simp (disch:=omega) only[Ad,Ae];exact(H5.out b (by omega)).trans (HGI.out b hb)
       ·rw[HNX.out,HE.out,HSN.out]
        refine .mk ?_ (by omega) (by omega) (by simp;omega)
        rw[HZ.out.2]
        simp (disch:=omega) only[Ad,Ae,Ag];rfl
      ·subst hs6
       have hC5:=(H5.out B6 (by omega)).trans hC3
       clear hC3
       iterate 8 all_goals try first|refine spl (fun h=>?_) fun h=>?_|simp (maxSteps:=999999) (disch:=first|assumption|omega|(simp;done)|fail) [*]
       refine ih2.out (I-(i+1)) _ _ (by omega) ⟨i+1,n3+1+1+1+1+1+1,n3+1+1+1+1+1,_,.slq (n3+1+1+1+1+1) 0 (i+1) 0,by omega,rfl,rfl,by omega,⟨fun b hb=>?_⟩,⟨?_⟩,by simp[*],by simp[*],by simp[*],by simp[*],by simp[*],by simp[*],by simp⟩
       ·simp (disch:=omega) only[Ad,Ae];exact(H5.out b (by omega)).trans (HGI.out b hb)
       ·rw[HNX.out,HE.out,HSN.out]
        refine .mk ?_ (by omega) (by omega) (by simp;omega)
        simp (disch:=omega) only[Ad,Ae,Ag]
     ·have HE:Aa (Ax V ws node i=(((ws.idxOf (node++[(i:Int)]) : Nat) : Int),o)):=⟨by unfold Ax;rw[hVo];exact if_neg ho⟩
      have HFI:=Aa.mk (b4l (l:=ws) (by omega) (w:=node++[(i:Int)]) (by simp;omega) ((HMV.out _).2 (.inr ⟨o,hVo,ho⟩)) (fun x hx=>by have:=HWL.out x hx;omega) g5 (n3+1+1+1+1) ov _ (HLV.out.mono (by omega) fun b hb=>(H5.out b (by omega)).trans (HGX.out b hb)) HR5.out)
      clear hVo
      generalize ws.idxOf (node++[(i:Int)])=ix at *
      simp only[lastV]
      rcases HG6.out with⟨h6,hc6,hs6⟩|⟨h6,hs6,hC1,hC2,hC3,hC4⟩
      ·subst hs6
       have HZ:=Aa.mk (And.intro h6 hc6)
       clear h6 hc6
       iterate 8 all_goals try first|refine spl (fun h=>?_) fun h=>?_|simp (maxSteps:=999999) (disch:=first|assumption|omega|(simp;done)|fail) [*]
       refine WC.mono HFI.out ?_
       rintro _ rfl
       iterate 8 all_goals try first|refine spl (fun h=>?_) fun h=>?_|simp (maxSteps:=999999) (disch:=first|assumption|omega|(simp;done)|fail) [*]
       refine ih2.out (I-(i+1)) _ _ (by omega) ⟨i+1,n3+1+1+1+1+1+1,n3+1+1+1+1+1,_,.slq (n3+1+1+1+1+1) 0 (i+1) 0,by omega,rfl,rfl,by omega,⟨fun b hb=>?_⟩,⟨?_⟩,by simp[*],by simp[*],by simp[*],by simp[*],by simp[*],by simp[HZ.out.1, *],by simp⟩
       ·simp (disch:=omega) only[Ad,Ae];exact(H5.out b (by omega)).trans (HGI.out b hb)
       ·rw[HNX.out,HE.out,HSN.out]
        refine .mk ?_ (by omega) (by omega) (by simp;omega)
        rw[HZ.out.2]
        simp (disch:=omega) only[Ad,Ae,Ag];rfl
      ·subst hs6
       have hC5:=(H5.out B6 (by omega)).trans hC3
       clear hC3
       iterate 8 all_goals try first|refine spl (fun h=>?_) fun h=>?_|simp (maxSteps:=999999) (disch:=first|assumption|omega|(simp;done)|fail) [*]
       refine WC.mono HFI.out ?_
       rintro _ rfl
       iterate 8 all_goals try first|refine spl (fun h=>?_) fun h=>?_|simp (maxSteps:=999999) (disch:=first|assumption|omega|(simp;done)|fail) [*]
       refine ih2.out (I-(i+1)) _ _ (by omega) ⟨i+1,n3+1+1+1+1+1+1,n3+1+1+1+1+1,_,.slq (n3+1+1+1+1+1) 0 (i+1) 0,by omega,rfl,rfl,by omega,⟨fun b hb=>?_⟩,⟨?_⟩,by simp[*],by simp[*],by simp[*],by simp[*],by simp[*],by simp[*],by simp⟩
       ·simp (disch:=omega) only[Ad,Ae];exact(H5.out b (by omega)).trans (HGI.out b hb)
       ·rw[HNX.out,HE.out,HSN.out]
        refine .mk ?_ (by omega) (by omega) (by simp;omega)
        simp (disch:=omega) only[Ad,Ae,Ag]
   ·have hnp:0<node.length:=by omega
    obtain⟨a2,blk,ha2,hga2,hap⟩:=Af.ap0 (P:=prog) (sz:=1) hv hnp (by omega) (by rw[A9,Nat.mul_one])
    have hwl1:(wdC node).length=node.length*1:=by rw[A9,Nat.mul_one]
    have hnl3:node.length<=1000000:=by omega
    clear hv hne
    iterate 8 all_goals try first|refine spl (fun h=>?_) fun h=>?_|simp (maxSteps:=999999) (disch:=first|assumption|omega|(simp;done)|fail) [*]
    have HREP:=Aa.mk fun (g9:Gb) (n9:Nat) (h1:g9 (n3+1+1+1)=some (.cells (wdC node++[.li i]) true 1)) (h2:n3+1+1+1<n9)=>show Al g9 n9 (node++[(i:Int)]) (.slq (n3+1+1+1) 0 (node.length+1) 0) from by
     exact .inr ⟨n3+1+1+1,0,h2,.inr ⟨0,by simp⟩,_,true,1,h1,by simp[wdC],by rw[Gv,List.drop_zero];exact List.take_of_length_le (by simp[wdC])⟩
    clear hap hga2 hwl1
    refine WC.mono (HLA.out (node++[(i:Int)]) (by simp) (by simp;omega) _ _ _ (by omega) (fun b hb=>?_) (HREP.out _ _ Ag (by omega))) ?_
    ·simp (disch:=omega) only[Ad,Ae];exact(HGX.out b (by omega)).trans (HX.out b hb)
    rintro _ ⟨g5,rfl,hg5⟩
    have H5:Aa (∀ b,b<n3->g5 b=gI b):=⟨fun b hb=>(hg5 b (by omega)).trans (by simp (disch:=omega) only[Ad,Ae])⟩
    have HR5:=Aa.mk (HREP.out g5 (n3+1+1+1+1+1) ((hg5 (n3+1+1+1) (by omega)).trans Ag) (by omega))
    clear hg5
    cases hVo:V (node++[(i:Int)]) with
    | none =>
     have HE:Aa (Ax V ws node i=(-1,-1)):=⟨by unfold Ax;rw[hVo]⟩
     simp only[lastV]
     rcases HG6.out with⟨h6,hc6,hs6⟩|⟨h6,hs6,hC1,hC2,hC3,hC4⟩
     ·subst hs6
      have HZ:=Aa.mk (And.intro h6 hc6)
      clear h6 hc6
      iterate 8 all_goals try first|refine spl (fun h=>?_) fun h=>?_|simp (maxSteps:=999999) (disch:=first|assumption|omega|(simp;done)|fail) [*]
      refine ih2.out (I-(i+1)) _ _ (by omega) ⟨i+1,n3+1+1+1+1+1+1+1,n3+1+1+1+1+1+1,_,.slq (n3+1+1+1+1+1+1) 0 (i+1) 0,by omega,rfl,rfl,by omega,⟨fun b hb=>?_⟩,⟨?_⟩,by simp[*],by simp[*],by simp[*],by simp[*],by simp[*],by simp[HZ.out.1, *],by simp⟩
      ·simp (disch:=omega) only[Ad,Ae];exact(H5.out b (by omega)).trans (HGI.out b hb)
      ·rw[HNX.out,HE.out,HSN.out]
       refine .mk ?_ (by omega) (by omega) (by simp;omega)
       rw[HZ.out.2]
       simp (disch:=omega) only[Ad,Ae,Ag];rfl
     ·subst hs6
      have hC5:=(H5.out B6 (by omega)).trans hC3
      clear hC3
      iterate 8 all_goals try first|refine spl (fun h=>?_) fun h=>?_|simp (maxSteps:=999999) (disch:=first|assumption|omega|(simp;done)|fail) [*]
      refine ih2.out (I-(i+1)) _ _ (by omega) ⟨i+1,n3+1+1+1+1+1+1+1,n3+1+1+1+1+1+1,_,.slq (n3+1+1+1+1+1+1) 0 (i+1) 0,by omega,rfl,rfl,by omega,⟨fun b hb=>?_⟩,⟨?_⟩,by simp[*],by simp[*],by simp[*],by simp[*],by simp[*],by simp[*],by simp⟩
      ·simp (disch:=omega) only[Ad,Ae];exact(H5.out b (by omega)).trans (HGI.out b hb)
      ·rw[HNX.out,HE.out,HSN.out]
       refine .mk ?_ (by omega) (by omega) (by simp;omega)
       simp (disch:=omega) only[Ad,Ae,Ag]
    | some o =>
     by_cases ho:o = -1
     ·have HE:Aa (Ax V ws node i=(-1,-2)):=⟨by unfold Ax;rw[hVo];exact if_pos ho⟩
      clear hVo
      subst ho
      simp only[lastV]
      rcases HG6.out with⟨h6,hc6,hs6⟩|⟨h6,hs6,hC1,hC2,hC3,hC4⟩
      ·subst hs6
       have HZ:=Aa.mk (And.intro h6 hc6)
       clear h6 hc6
       iterate 8 all_goals try first|refine spl (fun h=>?_) fun h=>?_|simp (maxSteps:=999999) (disch:=first|assumption|omega|(simp;done)|fail) [*]
       refine ih2.out (I-(i+1)) _ _ (by omega) ⟨i+1,n3+1+1+1+1+1+1+1,n3+1+1+1+1+1+1,_,.slq (n3+1+1+1+1+1+1) 0 (i+1) 0,by omega,rfl,rfl,by omega,⟨fun b hb=>?_⟩,⟨?_⟩,by simp[*],by simp[*],by simp[*],by simp[*],by simp[*],by simp[HZ.out.1, *],by simp⟩
       ·simp (disch:=omega) only[Ad,Ae];exact(H5.out b (by omega)).trans (HGI.out b hb)
       ·rw[HNX.out,HE.out,HSN.out]
        refine .mk ?_ (by omega) (by omega) (by simp;omega)
        rw[HZ.out.2]
        simp (disch:=omega) only[Ad,Ae,Ag];rfl
      ·subst hs6
       have hC5:=(H5.out B6 (by omega)).trans hC3
       clear hC3
       iterate 8 all_goals try first|refine spl (fun h=>?_) fun h=>?_|simp (maxSteps:=999999) (disch:=first|assumption|omega|(simp;done)|fail) [*]
       refine ih2.out (I-(i+1)) _ _ (by omega) ⟨i+1,n3+1+1+1+1+1+1+1,n3+1+1+1+1+1+1,_,.slq (n3+1+1+1+1+1+1) 0 (i+1) 0,by omega,rfl,rfl,by omega,⟨fun b hb=>?_⟩,⟨?_⟩,by simp[*],by simp[*],by simp[*],by simp[*],by simp[*],by simp[*],by simp⟩
       ·simp (disch:=omega) only[Ad,Ae];exact(H5.out b (by omega)).trans (HGI.out b hb)
       ·rw[HNX.out,HE.out,HSN.out]
        refine .mk ?_ (by omega) (by omega) (by simp;omega)
        simp (disch:=omega) only[Ad,Ae,Ag]
     ·have HE:Aa (Ax V ws node i=(((ws.idxOf (node++[(i:Int)]) : Nat) : Int),o)):=⟨by unfold Ax;rw[hVo];exact if_neg ho⟩
      have HFI:=Aa.mk (b4l (l:=ws) (by omega) (w:=node++[(i:Int)]) (by simp;omega) ((HMV.out _).2 (.inr ⟨o,hVo,ho⟩)) (fun x hx=>by have:=HWL.out x hx;omega) g5 (n3+1+1+1+1+1) ov _ (HLV.out.mono (by omega) fun b hb=>(H5.out b (by omega)).trans (HGX.out b hb)) HR5.out)
      clear hVo
      generalize ws.idxOf (node++[(i:Int)])=ix at *
      simp only[lastV]
      rcases HG6.out with⟨h6,hc6,hs6⟩|⟨h6,hs6,hC1,hC2,hC3,hC4⟩
      ·subst hs6
       have HZ:=Aa.mk (And.intro h6 hc6)
       clear h6 hc6
       iterate 8 all_goals try first|refine spl (fun h=>?_) fun h=>?_|simp (maxSteps:=999999) (disch:=first|assumption|omega|(simp;done)|fail) [*]
       refine WC.mono HFI.out ?_
       rintro _ rfl
       iterate 8 all_goals try first|refine spl (fun h=>?_) fun h=>?_|simp (maxSteps:=999999) (disch:=first|assumption|omega|(simp;done)|fail) [*]
       refine ih2.out (I-(i+1)) _ _ (by omega) ⟨i+1,n3+1+1+1+1+1+1+1,n3+1+1+1+1+1+1,_,.slq (n3+1+1+1+1+1+1) 0 (i+1) 0,by omega,rfl,rfl,by omega,⟨fun b hb=>?_⟩,⟨?_⟩,by simp[*],by simp[*],by simp[*],by simp[*],by simp[*],by simp[HZ.out.1, *],by simp⟩
       ·simp (disch:=omega) only[Ad,Ae];exact(H5.out b (by omega)).trans (HGI.out b hb)
       ·rw[HNX.out,HE.out,HSN.out]
        refine .mk ?_ (by omega) (by omega) (by simp;omega)
        rw[HZ.out.2]
        simp (disch:=omega) only[Ad,Ae,Ag];rfl
      ·subst hs6
       have hC5:=(H5.out B6 (by omega)).trans hC3
       clear hC3
       iterate 8 all_goals try first|refine spl (fun h=>?_) fun h=>?_|simp (maxSteps:=999999) (disch:=first|assumption|omega|(simp;done)|fail) [*]
       refine WC.mono HFI.out ?_
       rintro _ rfl
       iterate 8 all_goals try first|refine spl (fun h=>?_) fun h=>?_|simp (maxSteps:=999999) (disch:=first|assumption|omega|(simp;done)|fail) [*]
       refine ih2.out (I-(i+1)) _ _ (by omega) ⟨i+1,n3+1+1+1+1+1+1+1,n3+1+1+1+1+1+1,_,.slq (n3+1+1+1+1+1+1) 0 (i+1) 0,by omega,rfl,rfl,by omega,⟨fun b hb=>?_⟩,⟨?_⟩,by simp[*],by simp[*],by simp[*],by simp[*],by simp[*],by simp[*],by simp⟩
       ·simp (disch:=omega) only[Ad,Ae];exact(H5.out b (by omega)).trans (HGI.out b hb)
       ·rw[HNX.out,HE.out,HSN.out]
        refine .mk ?_ (by omega) (by omega) (by simp;omega)
        simp (disch:=omega) only[Ad,Ae,Ag]
  ·have hliI:¬(i:Int)<(I:Int):=by omega
   have hiI:i=I:=by omega
   have hRF:(A2 V ws I node).take i=A2 V ws I node:=List.take_of_length_le (by rw[K3];omega)
   rw[hRF] at HG6
   rcases HG6.out with⟨h6,_⟩|⟨h6,hs6,hC1,hC2,hC3,hC4⟩
   ·omega
   subst hs6
   have hcl:=HRG.out.1
   rw[List.length_map,List.length_take,Nat.min_eq_left hq] at hcl
   have hq2:q<=1000000:=by omega
   have HRW:Aa ((A2 V ws I node).length=i):=⟨by rw[K3];omega⟩
   have HEX:=Aa.mk fun (g2:Gb) (h1:∀ a,a<n3->a≠n'->a≠B->g2 a=gI a)=>show RowsG (B9 (n+2) (Dc n' (Dc (n3+1) g2))) (n3+1+1) ((ws.take (q+1)).map (A2 V ws I)) (svs++[.slq B6 0 i 0]) from by
    rw[HTK.out]
    refine RowsG.snoc (HRG.out.ext (by omega) fun a x ha hx=>?_) ?_
    ·obtain⟨e0,hx0⟩:=Gy hx
     have hx1:=Js hx0
     have hx2:=Js hx1
     have e1:a≠n':=fun h=>by rw[h] at hx0;simp[Dc] at hx0
     have e2:a≠B:=fun h=>by rw[h] at hx1;simp[Dc] at hx1
     rw[De e0,Ew e1,Ew (by omega),h1 a (by omega) e1 e2,HGI.out a ha]
     exact hx2
    ·rw[HRW.out]
     refine .inr ⟨B6,0,by omega,.inr ⟨0,rfl⟩,Au (A2 V ws I node),true,2,?_,by simp,by simp⟩
     rw[De (by omega),Ew (by omega),Ew (by omega)]
     by_cases hb6:B6=B
     ·exact absurd hb6 (by omega)
     ·rw[h1 B6 hC2 (by omega) hb6];exact hC3
   clear hiI hRF
   rcases HGR.out with⟨h0,hc0,hs0⟩|⟨h0,hs0,hB1,hB2,hB3,hB4⟩
   ·subst hs0
    have HZ:=Aa.mk (And.intro h0 hc0)
    clear h0 hc0
    iterate 8 all_goals try first|refine spl (fun h=>?_) fun h=>?_|simp (maxSteps:=999999) (disch:=first|assumption|omega|(simp;done)|fail) [*]
    refine ih.out (ws.length-(q+1)) _ _ (by omega) ⟨q+1,n3+1+1,n3+1,_,.slq (n3+1) 0 (q+1) 0,svs++[.slq B6 0 i 0],by omega,rfl,rfl,by omega,by omega,⟨fun b hb=>?_⟩,?_,⟨.mk ?_ (by omega) (by omega) (by simp;omega)⟩,⟨HEX.out _ fun a k1 k2 k3=>?_⟩,by simp[*],by simp[*],by simp[*],by simp[*],by simp⟩
    ·simp (disch:=omega) only[Ad,Ae];exact(HGI.out b (by omega)).trans (HG.out b hb)
    ·rw[HZ.out.1];exact Ag
    ·rw[HZ.out.2];simp (disch:=omega) only[Ad,Ae,Ag];rfl
    ·simp (disch:=omega) only[Ad,Ae]
   ·subst hs0
    have hB3':=(HGI.out B (by omega)).trans hB3
    have hxn:∀ (G:Gb) (x:Option Blk),Ak G B x n'=G n':=fun G x=>Ae (by omega)
    iterate 8 all_goals try first|refine spl (fun h=>?_) fun h=>?_|simp (maxSteps:=999999) (disch:=first|assumption|omega|(simp;done)|fail) [*]
    refine ih.out (ws.length-(q+1)) _ _ (by omega) ⟨q+1,n3+1+1,n3+1,_,.slq (n3+1) 0 (q+1) 0,svs++[.slq B6 0 i 0],by omega,rfl,rfl,by omega,by omega,⟨fun b hb=>?_⟩,?_,⟨.mk ?_ (by omega) (by omega) (by simp;omega)⟩,⟨HEX.out _ fun a k1 k2 k3=>?_⟩,by simp[*],by simp[*],by simp[*],by simp[*],by simp⟩
    ·simp (disch:=omega) only[Ad,Ae];exact(HGI.out b (by omega)).trans (HG.out b hb)
    ·exact Ag
    ·simp (disch:=omega) only[Ad,Ae,Ag]
    ·simp (disch:=omega) only[Ad,Ae]
 ·have hltI:¬(q:Int)<(ws.length:Int):=by omega
  rw[List.take_of_length_le (by omega)] at HRG
  have h1r:oneC rv=true:=HGR.out.one
  have hone3:allOne [.li I,.li O,rv]=true:=by simp[h1r]
  have hqw:q=ws.length:=by omega
  have HTV:Aa (Dv (B9 n (Ak gL (n+1) (some (.cells [.li I,.li O,rv] true 0)))) n2 (ws.map (A2 V ws I)) rv):=⟨by
   refine⟨svs,?_,HRG.out.ext (Nat.le_refl _) fun a x ha hx=>?_⟩
   ·rw[List.length_map,<- hqw]
    refine Af.ext (Nat.le_refl _) (fun a x _ hx=>?_) HGR.out.slice
    split at hx
    ·rw[De (by omega),Ae (by omega)];exact hx
    ·cases hx
   ·obtain⟨e0,hx0⟩:=Gy hx
    rw[De (by omega),Ae (by omega)]
    exact Js (Js hx0)⟩
  iterate 8 all_goals try first|refine spl (fun h=>?_) fun h=>?_|simp (maxSteps:=999999) (disch:=first|assumption|omega|(simp;done)|fail) [*]
  exact⟨_,_,_,⟨rfl,rfl,rfl⟩,by omega,fun b hb=>by rw[Ad (by omega),HG.out b (by omega)];exact HX.out b hb,HTV.out⟩
end Go.Ai
