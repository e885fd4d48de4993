/- Parts of an interpreter and of a proof. No condition. -/
import Derived.Test.YtpimmmnkcgnjjaaGreatA09
import Derived.Test.YtpimmmnkcgnjjaaGreatA10
import Derived.Test.YtpimmmnkcgnjjaaGreatA16
set_option linter.all false
set_option maxHeartbeats 40000000
set_option maxRecDepth 10000
open Go.Proofs Go.Proofs.Tryz
namespace Go.Ai
theorem e2r {M:Aw} (hM:M.ok) (l:Wq) (hl:l.length<=200) (hw:∀ w∈l,w.length<=300) (g:Gb) (n:Nat) (ms:List AV) (lv:AV) (hr:Cy g n M ms) (hV:Bs g n l lv) (hcap:Ay lv) :
  WC 0 prog 47 [.agg ms,lv] ⟨.fn g,n⟩ fun r=>∃ cs g' n',r=.ret (.tup [.agg cs,.li (K2 M.inp l)]) ⟨.fn g',n'⟩/\n<=n'/\(∀ b,b<n->g' b=g b) /\
   ((¬K2 M.inp l=0/\cs=[.li 0,.li 0,.nl])\/(K2 M.inp l=0/\∃ B,cs=[.li M.inp,.li M.out,.sl B 0 l.length l.length]/\F6 g' n' (l.map fun w=>(w,Bc M 0 w)) (.sl B 0 l.length l.length))):=by
 have hlen:=@Ap prog _ _ _ _ _ hV.choose_spec.1
 have hm0:D2 M=0:=b3n.2 hM
 have HMC:=Aa.mk fun (gX:Gb) (n2:Nat) (hn:n<=n2) (hX:∀ b,b<n->gX b=g b)=>b3o (M:=M) (fun r hr=>by have:=(hM.2.2.2.2.2.2 r hr).1;have:=hM.2.1;omega) gX n2 ms (hr.mono hn hX)
 rw[hm0] at HMC
 obtain⟨rv,rfl,h1v⟩:=hr.one
 have honem:allOne [.li M.inp,.li M.out,rv]=true:=by simp[h1v]
 have HR:=Aa.mk hr
 have HV:=Aa.mk hV
 have HM:=Aa.mk hM
 have HW:=Aa.mk hw
 have hcapE:¬(1025:Int)<(l.length:Int):=by omega
 have hl2:(l.length:Int)<=1048576:=by omega
 obtain⟨cut,hcut,hcv⟩:=hV.cut hcap
 have hlenC:=@Ap prog _ _ _ _ _ hcv.choose_spec.1
 have HCV:=Aa.mk hcv
 clear hr hV hM hw hcv hm0
 refine ent pl47 func47 ?_
 iterate 8 all_goals try first|refine spl (fun h=>?_) fun h=>?_|simp (maxSteps:=999999) (disch:=first|assumption|omega|(simp;done)|fail) [*]
 refine WC.mono (HMC.out _ _ (by omega) fun b (hb:b<n)=>by simp (disch:=omega) only[Ad]) ?_
 rintro _ rfl
 iterate 8 all_goals try first|refine spl (fun h=>?_) fun h=>?_|simp (maxSteps:=999999) (disch:=first|assumption|omega|(simp;done)|fail) [*]
 have hwi:Jy M.inp M.out (l.map fun w=>(w,([] : Wd)))=l.all fun w=>decide (w.length<=256):=by
  unfold Jy
  rw[decide_eq_true HM.out.2.1,decide_eq_true HM.out.2.2.2.1,Bool.and_true,Bool.and_true,List.all_map]
  rfl
 refine LX.ind (fun m gf H'=>∃ (k n' : Nat) (gL:Gb) (R:List AV),k<=l.length/\m=l.length-k/\H'=⟨.fn gL,n'⟩/\n+1+1+1+1<=n'/\Aa (∀ b,b<n->gL b=g b)/\gL n=some (.cells [.li M.inp,.li M.out,rv] true 0)/\gL (n+1)=some (.cells [.li 0,.li 0,.nl] true 0) /\
  gL (n+1+1+1)=some (.cells [.li M.inp,.li M.out,.sl (n+1+1) 0 k l.length] true 0)/\gL (n+1+1)=some (.cells R true 0)/\R.length=l.length*2/\Aa (RowsF g 0 n (n+1+1) ((l.take k).map fun w=>(w,[])) (R.take (k*2))) /\
  gf 2=some (.ptr n 0)/\gf 4=some (.ptr (n+1) 0)/\gf 7=some (.ptr (n+1+1+1) 0)/\gf 33=some cut/\gf 34=some (.li l.length)/\gf 35=some (.li k)) (m0:=l.length) ?_ ?_
 ·refine⟨0,_,_,rep [.nl,.nl] l.length,Nat.zero_le _,rfl,rfl,Nat.le_refl _,⟨fun b hb=>?_⟩,?_,?_,?_,?_,?_,⟨?_⟩,by simp,by simp,by simp,by simp,by simp,by simp⟩
  ·simp (disch:=omega) only[Ad]
  ·simp (disch:=omega) only[Ad,Ag]
  ·simp (disch:=omega) only[Ad,Ag]
  ·simp (disch:=omega) only[Ad,Ag]
  ·simp (disch:=omega) only[Ad,Ag]
  ·simp[Gn]
  ·simp;exact RowsF.nil
 rintro m gf H' ⟨k,n',gL,R,hk,rfl,rfl,hn',HG,hgn,hgz,hgo,hgR,hRl,HRF,w2,w4,w7,w33,w34,w35⟩ ih
 refine rnd pl47 ?_
 by_cases hlt:k<l.length
 ·have hltI:(k:Int)<(l.length:Int):=by omega
  obtain⟨a2,off,q,ha2,hia,hcell0,hrw⟩:=HCV.out.at hlt
  have h1q:oneC q=true:=hrw.one
  have hcq:cellsOf q=[q]:=hrw.cell
  have hcell:A5 (some (false,1)) (gL a2) (off+k)=some q:=(congrArg (fun z=>A5 (some (false,1)) z (off+k)) (HG.out a2 ha2)).trans hcell0
  have HTK:Aa ((l.take (k+1)).map (fun w=>(w,([] : Wd)))=(l.take k).map (fun w=>(w,[]))++[(l[k],[])]):=⟨by rw[Bv hlt,List.map_append];rfl⟩
  have HQ:=Aa.mk hrw
  have hone2:allOne [q,.nl]=true:=by simp[h1q]
  have HPT:Aa ((Aq R (k*2) [q,.nl]).take ((k+1)*2)=R.take (k*2)++[q,.nl]):=⟨by
   have h1:=Fq (l:=R) (off:=k*2) (new:=[q,.nl]) (by simp;omega)
   rw[<- h1];congr 1;simp;omega⟩
  have hpl:(Aq R (k*2) [q,.nl]).length=l.length*2:=by rw[D1 (by simp;omega)];exact hRl
  clear hcell0 hrw
  iterate 8 all_goals try first|refine spl (fun h=>?_) fun h=>?_|simp (maxSteps:=999999) (disch:=first|assumption|omega|(simp;done)|fail) [*]
  refine ih.out (l.length-(k+1)) _ _ (by omega) ⟨k+1,_,_,Aq R (k*2) [q,.nl],by omega,rfl,rfl,?_,⟨fun b hb=>?_⟩,?_,?_,?_,?_,hpl,⟨?_⟩,by simp[*],by simp[*],by simp[*],by simp[*],by simp[*],by simp⟩
  ·omega
  ·simp (disch:=omega) only[Ad];exact HG.out b hb
  ·simp (disch:=omega) only[Ad];exact hgn
  ·simp (disch:=omega) only[Ad];exact hgz
  ·simp (disch:=omega) only[Ad,Ag]
  ·simp (disch:=omega) only[Ad,Ag]
  ·rw[HPT.out,HTK.out]
   exact RowsF.snoc HRF.out (HQ.out.safe (Nat.le_refl _) (by omega) fun a ha=>rfl) Ba.nil
 ·have hltI:¬(k:Int)<(l.length:Int):=by omega
  have hkl:k=l.length:=by omega
  subst hkl
  have HROOM:Aa (∀ (gX:Gb) (n2:Nat),n'<=n2->(∀ b,b<n'->gX b=gL b)->a4n gX n2 (n+1+1) l.length l.length (Gw M l 0) R):=⟨fun gX n2 h1 h2=>by
   refine⟨(h2 _ (by omega)).trans hgR,hRl,Nat.le_refl _,?_,a4p⟩
   rw[a4o]
   have h3:=HRF.out
   rw[List.take_length] at h3
   exact h3.keep (Nat.le_refl _) (by omega) (.inr (.inl rfl)) fun a h4 h5 h6=>(h2 a (by omega)).trans (HG.out a h5)⟩
  have HWI:=Aa.mk fun (gX:Gb) (n2:Nat) (h1:n'<=n2) (h2:∀ b,b<n'->gX b=gL b)=>b3l M.inp M.out (l.map fun w=>(w,([] : Wd))) (by rw[List.length_map];omega) (fun t ht=>by obtain⟨w,hw,rfl⟩:=List.mem_map.1 ht;exact HW.out w hw) gX n2 (.sl (n+1+1) 0 l.length l.length) (by
   have:=(HROOM.out gX n2 h1 h2).log (by omega)
   rwa [a4o] at this)
  rw[hwi] at HWI
  clear hwi ih
  obtain⟨ER,hER⟩ : ∃ e,e=K2 M.inp l:=⟨_,rfl⟩
  rw[<- hER]
  have HER:=Aa.mk hER
  clear hER
  have hallb:l.all (fun w=>decide (w.length<=256))=true\/l.all (fun w=>decide (w.length<=256))=false:=by cases l.all fun w=>decide (w.length<=256)<;>simp
  rcases hallb with hb|hb
  ·rw[hb] at HWI
   have HB:=Aa.mk hb
   clear hb
   iterate 8 all_goals try first|refine spl (fun h=>?_) fun h=>?_|simp (maxSteps:=999999) (disch:=first|assumption|omega|(simp;done)|fail) [*]
   refine WC.mono (HWI.out _ _ (by omega) fun b hb=>by first|rfl|simp (disch:=omega) only[Ad]) ?_
   rintro _ rfl
   iterate 8 all_goals try first|refine spl (fun h=>?_) fun h=>?_|simp (maxSteps:=999999) (disch:=first|assumption|omega|(simp;done)|fail) [*]
   refine LX.ind (fun m gf H'=>∃ (i n2:Nat) (gM:Gb) (R:List AV),i<=l.length/\m=l.length-i/\H'=⟨.fn gM,n2⟩/\n'<=n2/\Aa (∀ b,b<n->gM b=g b)/\gM n=some (.cells [.li M.inp,.li M.out,rv] true 0)/\gM (n+1)=some (.cells [.li 0,.li 0,.nl] true 0) /\
    gM (n+1+1+1)=some (.cells [.li M.inp,.li M.out,.sl (n+1+1) 0 l.length l.length] true 0)/\gM (n+1+1)=some (.cells R true 0)/\R.length=l.length*2/\Aa (RowsF (Dc (n+1) gM) 0 n2 (n+1+1) (Gw M l i) R)/\Aa (∀ w∈l.take i,inW w M.inp=true)/\Aa (∀ j v,j<i*2->R[j]?=some v->Ay v) /\
    gf 2=some (.ptr n 0)/\gf 4=some (.ptr (n+1) 0)/\gf 7=some (.ptr (n+1+1+1) 0)/\gf 52=some (.sl (n+1+1) 0 l.length l.length)/\gf 53=some (.li l.length)/\gf 54=some (.li i)) (m0:=l.length) ?_ ?_
   ·refine⟨0,_,_,R,Nat.zero_le _,rfl,rfl,Nat.le_refl _,HG,hgn,hgz,hgo,hgR,hRl,⟨?_⟩,⟨by simp⟩,⟨fun j v h=>by omega⟩,by simp[*],by simp[*],by simp[*],by simp,by simp,by simp⟩
    rw[a4o]
    have h3:=HRF.out
    rw[List.take_length,<- hRl,List.take_length] at h3
    exact h3.keep (Nat.le_refl _) (by omega) (.inr (.inl rfl)) fun a h4 h5 h6=>(Ew (by omega)).trans (HG.out a h5)
   clear HROOM HWI HRF w2 w4 w7 w33 w34 w35 hgn hgz hgo hgR hRl
   clear R
   rintro m gf H' ⟨i,n2,gM,R,hi,rfl,rfl,hn2,HGM,hgn,hgz,hgo,hgR,hRl,HRF,HIN,HCP,w2,w4,w7,w52,w53,w54⟩ ih
   refine rnd pl47 ?_
   by_cases hlt:i<l.length
   ·have hltI2:(i:Int)<(l.length:Int):=by omega
    obtain⟨s1,s2,e1,e2,r1,r2⟩:=HRF.out.2 i (by rw[a4p];exact hlt)
    rw[d9t hlt] at r1 r2
    have h1s1:oneC s1=true:=r1.rep.one
    have h1s2:oneC s2=true:=r2.rep.one
    have hone2:allOne [s1,s2]=true:=by simp[h1s1,h1s2]
    have hd2:=a4i e1 e2
    have HR1:Aa (Al gM n2 l[i] s1):=⟨Af.ext (Nat.le_refl _) (fun a x _ h=>Js h) r1.rep⟩
    have hwl:=HW.out _ (List.getElem_mem hlt)
    have hwl2:=of_decide_eq_true (List.all_eq_true.1 HB.out _ (List.getElem_mem hlt))
    have HTK:Aa (l.take (i+1)=l.take i++[l[i]]):=⟨Bv hlt⟩
    have HSTEP:Aa (Gw M l (i+1)=(Gw M l i).set i (l[i],Bc M 0 l[i])):=⟨d9u hlt⟩
    have HMEM:=Aa.mk (List.getElem_mem hlt)
    clear e1 e2 r1 r2
    generalize l[i]=w at *
    have HTI:=Aa.mk fun (gX:Gb) (n3:Nat) (h1:n2<=n3) (h2:∀ b,b<n2->gX b=gM b)=>b3k w (by omega) M.inp s1 gX n3 (Af.mono h1 h2 HR1.out)
    have hin:inW w M.inp=true\/inW w M.inp=false:=by cases inW w M.inp<;>simp
    rcases hin with hq|hq
    ·have HRN:=Aa.mk fun (gX:Gb) (n3:Nat) (h1:n2<=n3) (h2:∀ b,b<n2->gX b=gM b)=>d9i HM.out w hwl2 hq gX n3 [.li M.inp,.li M.out,rv] s1 (HR.out.mono (by omega) fun b hb=>(h2 b (by omega)).trans (HGM.out b hb)) (Af.mono h1 h2 HR1.out)
     have HCL:=Aa.mk fun (gX:Gb) (n3:Nat) (h1:n2<=n3) (h2:∀ b,b<n2->gX b=gM b)=>a4m w (by omega) gX n3 s1 (Af.mono h1 h2 HR1.out)
     rw[hq] at HTI
     have HQ:=Aa.mk hq
     clear hq
     iterate 8 all_goals try first|refine spl (fun h=>?_) fun h=>?_|simp (maxSteps:=999999) (disch:=first|assumption|omega|(simp;done)|fail) [*]
     refine WC.mono (HTI.out _ _ (by omega) fun b hb=>by simp (disch:=omega) only[Ad]) ?_
     rintro _ rfl
     iterate 8 all_goals try first|refine spl (fun h=>?_) fun h=>?_|simp (maxSteps:=999999) (disch:=first|assumption|omega|(simp;done)|fail) [*]
     refine WC.mono (HRN.out _ _ (by omega) fun b hb=>by simp (disch:=omega) only[Ad]) ?_
     rintro _ ⟨Bq,g3,n3,rfl,hBq1,hBq2,hg3,hgBq⟩
     have HG3:Aa (∀ b,b<n2->g3 b=gM b):=⟨fun b hb=>(hg3 b (by omega)).trans (Ad hb)⟩
     have HBQ:=Aa.mk hgBq
     have ht3:g3 n2=some (.cells [s1,s2] true 0):=(hg3 n2 (by omega)).trans Ag
     have hgn3:=(HG3.out n (by omega)).trans hgn
     have hgz3:=(HG3.out (n+1) (by omega)).trans hgz
     have hgR3:=(HG3.out (n+1+1) (by omega)).trans hgR
     have hgo3:=(HG3.out (n+1+1+1) (by omega)).trans hgo
     clear hg3 hgBq hgn hgz hgR hgo
     iterate 8 all_goals try first|refine spl (fun h=>?_) fun h=>?_|simp (maxSteps:=999999) (disch:=first|assumption|omega|(simp;done)|fail) [*]
     refine WC.mono (HCL.out _ _ (by omega) fun b hb=>by first|exact HG3.out b hb|(simp (disch:=omega) only[Ad];exact HG3.out b hb)) ?_
     rintro _ ⟨cv,g4,n4,rfl,hn4,hg4,hcv⟩
     have HG4:=Aa.mk hg4
     have h1cv:=hcv.one.1
     have hccv:=hcv.one.2
     have HCVV:=Aa.mk hcv
     have ht4:=(hg4 n2 (by omega)).trans ht3
     have hgn4:=(hg4 n (by omega)).trans hgn3
     have hgz4:=(hg4 (n+1) (by omega)).trans hgz3
     have hgR4:=(hg4 (n+1+1) (by omega)).trans hgR3
     have hgo4:=(hg4 (n+1+1+1) (by omega)).trans hgo3
     clear hg4 hcv hgn3 hgz3 hgR3 hgo3 ht3
     have hR2:i*2+2<=R.length:=by omega
     have hpl:(Aq R (i*2) [cv,.sl Bq 0 w.length w.length]).length=l.length*2:=by rw[D1 (by simp;omega)];exact hRl
     have hpa:=a3a (u:=cv) (v:=.sl Bq 0 w.length w.length) hR2
     have HPB:=Aa.mk (a3b (u:=cv) (v:=.sl Bq 0 w.length w.length) hR2)
     have hpi:i*2<(Aq R (i*2) [cv,.sl Bq 0 w.length w.length]).length:=by omega
     have hpe:(Aq R (i*2) [cv,.sl Bq 0 w.length w.length])[i*2]'hpi=cv:=(List.getElem?_eq_some_iff.1 hpa).2
     clear hpa
     iterate 8 all_goals try first|refine spl (fun h=>?_) fun h=>?_|simp (maxSteps:=999999) (disch:=first|assumption|omega|(simp;done)|fail) [*]
     refine WC.mono (a5j w _ n3 n4 cv (HCVV.out.keep fun a h1 h2=>Ae (by omega))) ?_
     rintro _ ⟨fv,rfl,hfw,htv⟩
     have HTV:=Aa.mk htv
     have h1fv:oneC fv=true:=hfw.rep.one
     have hcfv:cellsOf fv=[fv]:=hfw.rep.cell
     have HFW:=Aa.mk hfw
     clear hfw htv
     iterate 8 all_goals try first|refine spl (fun h=>?_) fun h=>?_|simp (maxSteps:=999999) (disch:=first|assumption|omega|(simp;done)|fail) [*]
     have HCE:Aa (((Aq R (i*2) [cv,.sl Bq 0 w.length w.length]).set (i*2) fv).length=l.length*2):=⟨by rw[List.length_set];exact hpl⟩
     refine ih.out (l.length-(i+1)) _ _ (by omega) ⟨i+1,_,_,(Aq R (i*2) [cv,.sl Bq 0 w.length w.length]).set (i*2) fv,by omega,rfl,rfl,?_,⟨fun b hb=>?_⟩,?_,?_,?_,?_,HCE.out,⟨?_⟩,⟨?_⟩,⟨?_⟩,by simp[*],by simp[*],by simp[*],by simp[*],by simp[*],by simp⟩
     ·omega
     ·simp (disch:=omega) only[Ad];rw[HG4.out b (by omega),HG3.out b (by omega)];exact HGM.out b hb
     ·simp (disch:=omega) only[Ad];exact hgn4
     ·simp (disch:=omega) only[Ad];exact hgz4
     ·simp (disch:=omega) only[Ae];exact hgo4
     ·simp (disch:=omega) only[Ag]
     ·rw[HSTEP.out]
      have hR3:i*2+([cv,.sl Bq 0 w.length w.length] : List AV).length<=R.length:=hR2
      refine RowsF.upd (cs:=R) (HRF.out.keep (Nat.le_refl _) (by omega) (.inr (.inl rfl)) fun a h1 h2 h3=>d4n fun h4=>?_) (s1:=fv) (s2:=.sl Bq 0 w.length w.length) (by rw[HCE.out,hRl]) ?_ ?_ (fun j h1 h2=>?_) (HFW.out.safe (Nat.zero_le _) (Nat.le_refl _) (.inr (by omega)) fun a h1 h2=>?_) (Ba.sl (own:=true) (z:=0) ?_ (K1 _ _).symm (Nat.zero_le _) (by omega) (by omega))
      ·simp (disch:=omega) only[Ae];rw[HG4.out a (by omega),HG3.out a (by omega)]
      ·rw[List.getElem?_set_self hpi]
      ·rw[List.getElem?_set_ne (by omega)];exact HPB.out
      ·rw[List.getElem?_set_ne (by omega)]
       exact Pe hR3 (by simp;omega)
      ·rw[Ew (by omega)];simp (disch:=omega) only[Ae]
      ·rw[Ew (by omega)];simp (disch:=omega) only[Ae];rw[HG4.out Bq (by omega)];exact HBQ.out
     ·intro v hv
      rw[HTK.out] at hv
      rcases List.mem_append.1 hv with h|h
      ·exact HIN.out v h
      ·rw[List.mem_singleton.1 h];exact HQ.out
     ·intro j v hj hv
      have hR3:i*2+([cv,.sl Bq 0 w.length w.length] : List AV).length<=R.length:=hR2
      by_cases h1:j=i*2
      ·subst h1
       rw[List.getElem?_set_self hpi] at hv
       cases hv;exact HTV.out.cap
      ·rw[List.getElem?_set_ne (by omega)] at hv
       by_cases h2:j=i*2+1
       ·subst h2
        rw[HPB.out] at hv
        cases hv
        intro a o m c e;cases e;exact Nat.le_refl _
       ·rw[Pe hR3 (by simp;omega)] at hv
        exact HCP.out j v (by omega) hv
    ·rw[hq] at HTI
     have hE1:ER=1:=by
      rw[HER.out];unfold K2
      rw[HB.out,if_pos rfl,if_neg]
      intro h
      have:=List.all_eq_true.1 h w HMEM.out
      rw[hq] at this;cases this
     clear hq HER
     subst hE1
     iterate 8 all_goals try first|refine spl (fun h=>?_) fun h=>?_|simp (maxSteps:=999999) (disch:=first|assumption|omega|(simp;done)|fail) [*]
     refine WC.mono (HTI.out _ _ (by omega) fun b hb=>by simp (disch:=omega) only[Ad]) ?_
     rintro _ rfl
     iterate 8 all_goals try first|refine spl (fun h=>?_) fun h=>?_|simp (maxSteps:=999999) (disch:=first|assumption|omega|(simp;done)|fail) [*]
     refine⟨_,_,_,⟨rfl,rfl,rfl⟩,by omega,fun b hb=>?_,rfl⟩
     simp (disch:=omega) only[Ad]
     exact HGM.out b hb
   ·have hltI2:¬(i:Int)<(l.length:Int):=by omega
    have hil:i=l.length:=by omega
    subst hil
    have hE0:ER=0:=by
     rw[HER.out];unfold K2
     rw[HB.out,if_pos rfl,if_pos]
     rw[List.all_eq_true]
     intro w hw
     exact HIN.out w (by rw[List.take_length];exact hw)
    clear HER
    subst hE0
    iterate 8 all_goals try first|refine spl (fun h=>?_) fun h=>?_|simp (maxSteps:=999999) (disch:=first|assumption|omega|(simp;done)|fail) [*]
    refine⟨_,_,_,⟨rfl,rfl,rfl⟩,by omega,fun b hb=>?_,n+1+1,rfl,?_⟩
    ·simp (disch:=omega) only[Ad];exact HGM.out b hb
    ·have h3:=HRF.out
     rw[d9s (Nat.le_refl _)] at h3
     have h4:=h3.extG (g':=Ak gM (n+1) (some (.cells [.li M.inp,.li M.out,.sl (n+1+1) 0 l.length l.length] true 0))) fun a x h=>d4m h
     exact⟨R,.inr ⟨n+1+1,0,by omega,.inl ⟨l.length,by rw[List.length_map]⟩,R,true,0,(Ae (by omega)).trans hgR,by simp,by simp⟩,h4.rows,fun v hv=>by
      obtain⟨j,hj,rfl⟩:=List.getElem_of_mem hv
      exact HCP.out j _ (by omega) (List.getElem?_eq_getElem hj)⟩
  ·rw[hb] at HWI
   have hE3:ER=3:=by rw[HER.out];unfold K2;rw[hb];rfl
   clear hb HER
   subst hE3
   iterate 8 all_goals try first|refine spl (fun h=>?_) fun h=>?_|simp (maxSteps:=999999) (disch:=first|assumption|omega|(simp;done)|fail) [*]
   refine WC.mono (HWI.out _ _ (by omega) fun b hb=>by first|rfl|simp (disch:=omega) only[Ad]) ?_
   rintro _ rfl
   iterate 8 all_goals try first|refine spl (fun h=>?_) fun h=>?_|simp (maxSteps:=999999) (disch:=first|assumption|omega|(simp;done)|fail) [*]
   refine⟨_,_,_,⟨rfl,rfl,rfl⟩,by omega,fun b hb=>?_,rfl⟩
   simp (disch:=omega) only[Ad]
   exact HG.out b hb
end Go.Ai
