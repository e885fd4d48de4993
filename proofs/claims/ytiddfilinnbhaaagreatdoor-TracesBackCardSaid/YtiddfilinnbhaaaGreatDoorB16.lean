/- A small verified interpreter over names, its proofs, and what was proved with it. No condition. -/
import Derived.Test.YtiddfilinnbhaaaGreatDoorB15
import Derived.Test.YtiddfilinnbhaaaGreatDoorB12
import Derived.Test.YtiddfilinnbhaaaGreatDoorB13
import Derived.Test.YtiddfilinnbhaaaGreatDoorB14
set_option linter.all false
set_option linter.deprecated false
section
namespace Go.Ai
open Go.Proofs
set_option maxRecDepth 10000
set_option maxHeartbeats 40000000
theorem TreeW.keep {g g' : Nat→Option Blk} {n n' : Nat} {T:List (List (Int×Int))} {sv:AV} (h:TreeW g n T sv) (hn:n≤n') (hg:∀ b,b < n→g' b=g b) : TreeW g' n' T sv:=h.mono hn hg
theorem capV_grow {g:Nat→Option Blk} {lo n B len sz:Nat} {sv:AV} {cs:List AV} (h:GrowV g lo n B sv len sz cs) : CapV sv:=by
 intro a o k c e
 rcases h with ⟨_,_,h3⟩ | ⟨_,h3,_⟩
 ·rw [h3] at e; cases e
 ·rw [h3] at e; cases e
def FreshC (g:Nat→Option Blk) (lo n:Nat) (w:List Int) (sv:AV) : Prop:=FreshW g lo n w sv∧CapV sv
def LogC (g:Nat→Option Blk) (lo n B:Nat) (ts:List (List Int×List Int)) (sv:AV) : Prop:=∃ cs,GrowV g lo n B sv ts.length 2 cs∧RowsF g lo n B ts cs∧∀ v∈cs,CapV v
theorem LogC.logF {g:Nat→Option Blk} {lo n B:Nat} {ts:List (List Int×List Int)} {sv:AV} (h:LogC g lo n B ts sv) : LogF g lo n B ts sv:=let ⟨cs,h1,h2,_⟩:=h; ⟨cs,h1,h2⟩
theorem LogC.one {g:Nat→Option Blk} {lo n B:Nat} {ts:List (List Int×List Int)} {sv:AV} (h:LogC g lo n B ts sv) : oneC sv=true:=h.logF.one
theorem LogC.logX {g:Nat→Option Blk} {lo n B:Nat} {ts:List (List Int×List Int)} {sv:AV} (h:LogC g lo n B ts sv) : LogX g n ts sv:=by
 obtain ⟨cs,h1,h2,h3⟩:=h
 refine ⟨cs,SliceV.ext (Nat.le_refl _) (fun a x _ hx=>?_) h1.slice,h2.rows,h3⟩
 split at hx
 ·exact hx
 ·cases hx
theorem LogC.keep {g g' : Nat→Option Blk} {lo lo' n n' B:Nat} {ts:List (List Int×List Int)} {sv:AV} (h:LogC g lo n B ts sv) (h0:lo'≤lo) (h2:n≤n') (hg:∀ a,lo≤a→a < n→g' a=g a) : LogC g' lo' n' B ts sv:=by
 obtain ⟨cs,h1,h3,h4⟩:=h
 refine ⟨cs,?_,h3.keep h0 h2 (.inr (.inl rfl)) fun a h4 h5 _=>hg a h4 h5,h4⟩
 rcases h1 with h1 | ⟨k1,k2,k3,k4,k5,k6⟩
 ·exact .inl h1
 ·exact .inr ⟨k1,k2,by omega,by omega,(hg B k3 k4).trans k5,k6⟩
theorem rRun_c {M:MachM} (hM:M.ok) (w:List Int) (hwl:w.length≤300) (hw:inW w M.inp=true) (g:Nat→Option Blk) (n:Nat) (ms:List AV) (wv:AV) (hr:RepM g n M ms) (hv:RepW g n w wv) :
  WC 3 Tryz.prog 33 [.agg ms,.lit (.int .i64 0),wv] ⟨.fn g,n⟩ fun r=>∃ sv g' n',r=.ret sv ⟨.fn g',n'⟩∧n≤n'∧(∀ b,b < n→g' b=g b)∧FreshC g' n n' (runM M 0 w) sv:=by
 obtain ⟨rv,rfl,h1r⟩:=hr.one
 have h1a:allOne [.lit (.int .i64 M.inp),.lit (.int .i64 M.out),rv]=true:=by simp [h1r]
 have hlen:=@lenV Tryz.prog _ _ _ _ _ hv
 have HR:=Hide.mk hr
 have HV:=Hide.mk hv
 have HM:=Hide.mk hM
 have HW:=Hide.mk hw
 have hr0:=hM.2.2.2.2.1
 clear hr hv hM hw
 refine WC.enterP (noO_ok _ _) hG pl33 Tryz.func33 rfl (by decide +kernel) (Nat.le_of_ble_eq_true (by kernel_rfl)) ?_
 iterate 8 all_goals try first|with_reducible refine spI (fun h=>?_) fun h=>?_|with_reducible refine spB (fun h=>?_) fun h=>?_|simp (maxSteps:=999999) (disch:=first|assumption|omega|(simp;done)|fail) [Tryz.results33, *]
 refine LX.ind (fun m gf H'=>∃ (k n' : Nat) (gL:Nat→Option Blk) (B:Nat) (sv:AV) (cs:List AV) (s:Int),k≤w.length∧m=w.length - k∧H'=⟨.fn gL,n'⟩∧n+1≤n'∧Hide (∀ b,b < n→gL b=g b)∧gL n=some (.cells [.lit (.int .i64 M.inp),.lit (.int .i64 M.out),rv] true 0) ∧
  Hide (GrowV gL (n+1) n' B sv k 1 cs)∧Hide (cs=wdC (runM M 0 (w.take k)))∧Hide (s=aftM M 0 (w.take k)∧stOK M s)∧gf 1=some (.lit (.int .i64 s))∧gf 2=some wv∧gf 3=some (.ptr n 0)∧gf 7=some sv∧gf 8=some (.lit (.int .i64 k))) (m0:=w.length) ?_ ?_
 ·exact ⟨0,_,_,0,_,[],0,Nat.zero_le _,rfl,rfl,Nat.le_refl _,⟨fun b hb=>gpl hb⟩,gpe,⟨.inl ⟨rfl,rfl,rfl⟩⟩,⟨rfl⟩,⟨rfl,.inr ⟨0,rfl,by omega⟩⟩,by simp,by simp,by simp,by simp,by simp⟩
 rintro m gf H' ⟨k,n',gL,B,sv,cs,s,hk,rfl,rfl,hn',HG,hgn,HGR,HC,HST,w1,w2,w3,w7,w8⟩ ih
 refine LX.roundP (noO_ok _ _) hG pl33 (by decide +kernel) ?_
 by_cases hlt:k < w.length
 ·have hltI:(k:Int) < (w.length:Int):=by omega
  obtain ⟨a2,off,ha2,hia,hcell⟩:=SliceV.mono (Nat.le_of_lt hn') HG.out HV.out |> fun h=>RepW.at (w:=w) h hlt
  have htk:=take_snoc hlt
  have hx:=of_decide_eq_true (List.all_eq_true.1 HW.out _ (List.getElem_mem hlt))
  have HN:=Hide.mk (fun (gX:Nat→Option Blk) (n2:Nat) (hn2:n≤n2) (hX:∀ b,b < n→gX b=g b)=>rNext_w HM.out s w[k] HST.out.2 hx.1 hx.2 gX n2 _ (HR.out.mono hn2 hX))
  have HA:Hide (aftM M 0 (w.take (k+1))=(nextM M s w[k]).1):=⟨by rw [htk,aftM_app,← HST.out.1]; rfl⟩
  have HRN:Hide (runM M 0 (w.take (k+1))=runM M 0 (w.take k)++[(nextM M s w[k]).2]):=⟨by rw [htk,runM_app,← HST.out.1]; rfl⟩
  have HOK:=Hide.mk (edgeOK_st (nextM_ok HM.out HST.out.2 hx.1 hx.2)).1
  clear hx htk
  generalize w[k]=x at *
  generalize nextM M s x=e at *
  obtain ⟨to,eo⟩:=e
  dsimp only at *
  iterate 8 all_goals try first|with_reducible refine spI (fun h=>?_) fun h=>?_|with_reducible refine spB (fun h=>?_) fun h=>?_|simp (maxSteps:=999999) (disch:=first|assumption|omega|(simp;done)|fail) [Tryz.results33, *]
  refine WC.mono (HN.out _ _ (by omega) fun b (hb:b < n)=>(gpl (by omega)).trans (HG.out b hb)) ?_
  rintro _ ⟨g2,n2,rfl,hn2,hX⟩
  have HG2:Hide (∀ b,b < n→g2 b=g b):=⟨fun b hb=>(hX b (by omega)).trans ((gpl (by omega)).trans (HG.out b hb))⟩
  have hnn2:n'+1≤n2:=hn2
  have hg2n:g2 n=some (.cells [.lit (.int .i64 M.inp),.lit (.int .i64 M.out),rv] true 0):=(hX n (by omega)).trans ((gpl (by omega)).trans hgn)
  have hg2e:g2 n'=some (.cells [.lit (.int .i64 0),.lit (.int .i64 0)] true 0):=(hX n' (by omega)).trans gpe
  have HX:=Hide.mk hX
  have HEND:Hide (∀ cs',cs'=cs++[.lit (.int .i64 eo)]→cs'=wdC (runM M 0 (w.take (k+1)))∧cs'.length=(k+1) * 1):=⟨fun cs' h=>by
   rw [HRN.out,wdC_snoc,← HC.out]
   refine ⟨h,?_⟩
   rw [h,HC.out,List.length_append,wdC_len,runM_len,List.length_take]
   simp; omega⟩
  clear hX hn2 HN hia hcell ha2
  rcases HGR.out with ⟨hk0,hc0,hs0⟩ | ⟨hk0,hs0,hB1,hB2,hB3,hB4⟩
  ·subst hs0
   have HZ:=Hide.mk (And.intro hk0 hc0)
   clear hk0 hc0
   iterate 8 all_goals try first|with_reducible refine spI (fun h=>?_) fun h=>?_|with_reducible refine spB (fun h=>?_) fun h=>?_|simp (maxSteps:=999999) (disch:=first|assumption|omega|(simp;done)|fail) [Tryz.results33, *]
   have HQ:=HEND.out [.lit (.int .i64 eo)] (by rw [HZ.out.2]; rfl)
   refine ih.out (w.length - (k+1)) _ _ (by omega) ⟨k+1,n2+1+1,_,n2+1,.slq (n2+1) 0 (k+1) 0,_,to,by omega,rfl,rfl,by omega,⟨fun b hb=>?_⟩,?_,⟨.mk gpe (by omega) (by omega) HQ.2⟩,⟨HQ.1⟩,⟨HA.out.symm,HOK.out⟩,by simp,by simp [*],by simp [*],by rw [HZ.out.1]; simp,by simp⟩
   ·simp (disch:=omega) only [gpl]; exact HG2.out b hb
   ·simp (disch:=omega) only [gpl]; exact hg2n
  ·subst hs0
   have hB5:g2 B=some (.cells cs true 1):=(HX.out B (by omega)).trans ((gpl hB2).trans hB3)
   clear hB3
   iterate 8 all_goals try first|with_reducible refine spI (fun h=>?_) fun h=>?_|with_reducible refine spB (fun h=>?_) fun h=>?_|simp (maxSteps:=999999) (disch:=first|assumption|omega|(simp;done)|fail) [Tryz.results33, *]
   have HQ:=HEND.out _ rfl
   refine ih.out (w.length - (k+1)) _ _ (by omega) ⟨k+1,n2+1+1,_,n2+1,.slq (n2+1) 0 (k+1) 0,_,to,by omega,rfl,rfl,by omega,⟨fun b hb=>?_⟩,?_,⟨.mk gpe (by omega) (by omega) HQ.2⟩,⟨HQ.1⟩,⟨HA.out.symm,HOK.out⟩,by simp,by simp [*],by simp [*],by simp,by simp⟩
   ·simp (disch:=omega) only [gpl,gpn]; exact HG2.out b hb
   ·simp (disch:=omega) only [gpl,gpn]; exact hg2n
 ·have hltI:¬(k:Int) < (w.length:Int):=by omega
  have hkw:k=w.length:=by omega
  have HREP:Hide (FreshC gL n n' (runM M 0 w) sv):=⟨by
   have h1:=HGR.out
   rw [HC.out,hkw,List.take_length] at h1
   exact ⟨(h1.fresh (runM_len w 0).symm).keep (Nat.le_succ n) (Nat.le_refl _) fun _ _ _=>rfl,capV_grow h1⟩⟩
  clear hkw
  iterate 8 all_goals try first|with_reducible refine spI (fun h=>?_) fun h=>?_|with_reducible refine spB (fun h=>?_) fun h=>?_|simp (maxSteps:=999999) (disch:=first|assumption|omega|(simp;done)|fail) [Tryz.results33, *]
  exact ⟨_,_,_,⟨rfl,rfl,rfl⟩,by omega,HG.out,HREP.out⟩
theorem Word_c (bs:List Nat) (hb:∀ b∈bs,b < 256) (I most:Nat) (hI0:0 < I) (hI:I≤16) (hm:most≤12) (g:Nat→Option Blk) (n:Nat) (bv:AV) (hv:RepB g n bs bv) :
  WC 3 Tryz.prog 29 [bv,.lit (.int .i64 I),.lit (.int .i64 most)] ⟨.fn g,n⟩ fun r=>∃ sv g' n',r=.ret sv ⟨.fn g',n'⟩∧n≤n'∧(∀ b,b < n→g' b=g b)∧FreshC g' n n' (wordG bs I most) sv:=by
 have hlen:=@lenV Tryz.prog _ _ _ _ _ hv
 have HV:=Hide.mk hv
 have HBS:=Hide.mk hb
 clear hv hb
 refine WC.enterP (noO_ok _ _) hG [] Tryz.func29 rfl (by decide +kernel) (Nat.le_of_ble_eq_true (by kernel_rfl)) ?_
 iterate 8 all_goals try first|with_reducible refine spI (fun h=>?_) fun h=>?_|with_reducible refine spB (fun h=>?_) fun h=>?_|simp (maxSteps:=999999) (disch:=first|assumption|omega|(simp;done)|fail) [Tryz.results29, *]
 refine LX.ind (fun m gf H'=>∃ (k n' : Nat) (gL:Nat→Option Blk) (B:Nat) (sv:AV) (cs:List AV),k≤bs.length∧k≤most∧m=most - k∧H'=⟨.fn gL,n'⟩∧n≤n'∧Hide (∀ b,b < n→gL b=g b) ∧
  Hide (GrowV gL n n' B sv k 1 cs)∧Hide (cs=wdC ((bs.take k).map fun b=>((b % I:Nat) : Int)))∧gf 0=some bv∧gf 1=some (.lit (.int .i64 I))∧gf 2=some (.lit (.int .i64 most))∧gf 7=some sv∧gf 8=some (.lit (.int .i64 k))) (m0:=most) ?_ ?_
 ·exact ⟨0,_,_,0,_,[],Nat.zero_le _,Nat.zero_le _,rfl,rfl,Nat.le_refl _,⟨fun b hb=>rfl⟩,⟨.inl ⟨rfl,rfl,rfl⟩⟩,⟨rfl⟩,by simp,by simp,by simp,by simp,by simp⟩
 rintro m gf H' ⟨k,n',gL,B,sv,cs,hk,hkm,rfl,rfl,hn',HG,HGR,HC,w0,w1,w2,w7,w8⟩ ih
 refine LX.roundP (noO_ok _ _) hG [] (by decide +kernel) ?_
 have fin:¬(k < bs.length∧k < most)→Hide (FreshC gL n n' (wordG bs I most) sv):=fun h=>⟨by
  have h1:=HGR.out
  have e:bs.take k=bs.take most:=by
   by_cases h2:k < most
   ·rw [List.take_of_length_le (by omega),List.take_of_length_le (by omega)]
   ·rw [show k=most by omega]
  rw [HC.out,e] at h1
  exact ⟨h1.fresh (by rw [List.length_map,← e,List.length_take]; omega),capV_grow h1⟩⟩
 have FIN:=Hide.mk fin
 clear fin
 by_cases hlt:k < bs.length
 ·have hltI:(k:Int) < (bs.length:Int):=by omega
  by_cases hlm:k < most
  ·have hlmI:(k:Int) < (most:Int):=by omega
   obtain ⟨a2,off,ha2,hia,hcell⟩:=RepB.at (n:=n') (w:=bs) (SliceV.mono hn' HG.out HV.out) hlt
   have hx:=HBS.out _ (List.getElem_mem hlt)
   have HEND:Hide (∀ cs',cs'=cs++[.lit (.int .i64 ((bs[k] % I:Nat) : Int))]→cs'=wdC ((bs.take (k+1)).map fun b=>((b % I:Nat) : Int))∧cs'.length=(k+1) * 1):=⟨fun cs' h=>by
    rw [take_snoc hlt,List.map_append,List.map_singleton,wdC_snoc,← HC.out]
    refine ⟨h,?_⟩
    rw [h,HC.out,List.length_append,wdC_len,List.length_map,List.length_take]
    simp; omega⟩
   generalize bs[k]=x at *
   have hrem:(x:Int).tmod (I:Int)=((x % I:Nat) : Int):=(Int.ofNat_tmod x I).symm
   have hxi:x % I < 256:=Nat.lt_of_le_of_lt (Nat.mod_le x I) hx
   generalize x % I=y at *
   have hI1:¬(I:Int)=0:=by omega
   have hI2:¬I=0:=by omega
   rcases HGR.out with ⟨hk0,hc0,hs0⟩ | ⟨hk0,hs0,hB1,hB2,hB3,hB4⟩
   ·subst hs0
    have HZ:=Hide.mk (And.intro hk0 hc0)
    clear hk0 hc0
    iterate 8 all_goals try first|with_reducible refine spI (fun h=>?_) fun h=>?_|with_reducible refine spB (fun h=>?_) fun h=>?_|simp (maxSteps:=999999) (disch:=first|assumption|omega|(simp;done)|fail) [Tryz.results29, *]
    have HQ:=HEND.out [.lit (.int .i64 (y:Int))] (by rw [HZ.out.2]; rfl)
    refine ih.out (most - (k+1)) _ _ (by omega) ⟨k+1,n'+1+1,_,n'+1,.slq (n'+1) 0 (k+1) 0,_,by omega,by omega,rfl,rfl,by omega,⟨fun b hb=>?_⟩,⟨.mk gpe (by omega) (by omega) HQ.2⟩,⟨HQ.1⟩,by simp [*],by simp [*],by simp [*],by rw [HZ.out.1]; simp,by simp⟩
    simp (disch:=omega) only [gpl]; exact HG.out b hb
   ·subst hs0
    iterate 8 all_goals try first|with_reducible refine spI (fun h=>?_) fun h=>?_|with_reducible refine spB (fun h=>?_) fun h=>?_|simp (maxSteps:=999999) (disch:=first|assumption|omega|(simp;done)|fail) [Tryz.results29, *]
    have HQ:=HEND.out _ rfl
    refine ih.out (most - (k+1)) _ _ (by omega) ⟨k+1,n'+1+1,_,n'+1,.slq (n'+1) 0 (k+1) 0,_,by omega,by omega,rfl,rfl,by omega,⟨fun b hb=>?_⟩,⟨.mk gpe (by omega) (by omega) HQ.2⟩,⟨HQ.1⟩,by simp [*],by simp [*],by simp [*],by simp,by simp⟩
    simp (disch:=omega) only [gpl,gpn]; exact HG.out b hb
  ·have hlmI:¬(k:Int) < (most:Int):=by omega
   have HF:=FIN.out (by omega)
   iterate 8 all_goals try first|with_reducible refine spI (fun h=>?_) fun h=>?_|with_reducible refine spB (fun h=>?_) fun h=>?_|simp (maxSteps:=999999) (disch:=first|assumption|omega|(simp;done)|fail) [Tryz.results29, *]
   exact ⟨_,_,_,⟨rfl,rfl,rfl⟩,by omega,HG.out,HF.out⟩
 ·have hltI:¬(k:Int) < (bs.length:Int):=by omega
  have HF:=FIN.out (by omega)
  iterate 8 all_goals try first|with_reducible refine spI (fun h=>?_) fun h=>?_|with_reducible refine spB (fun h=>?_) fun h=>?_|simp (maxSteps:=999999) (disch:=first|assumption|omega|(simp;done)|fail) [Tryz.results29, *]
  exact ⟨_,_,_,⟨rfl,rfl,rfl⟩,by omega,HG.out,HF.out⟩
theorem Word2_c (bs:List Nat) (hb:∀ b∈bs,b < 256) (I:Int) (most:Nat) (hI0:1≤I) (hI:I≤16) (hm:most≤12) (mm:Int) (hmm:mm=most) (g:Nat→Option Blk) (n:Nat) (bv:AV) (hv:RepB g n bs bv) :
  WC 3 Tryz.prog 29 [bv,.lit (.int .i64 I),.lit (.int .i64 mm)] ⟨.fn g,n⟩ fun r=>∃ sv g' n',r=.ret sv ⟨.fn g',n'⟩∧n≤n'∧(∀ b,b < n→g' b=g b)∧FreshC g' n n' (wordG bs I.toNat most) sv:=by
 obtain ⟨k,rfl⟩ : ∃ k:Nat,I=k:=⟨I.toNat,by omega⟩
 subst hmm
 exact Word_c bs hb k most (by omega) (by omega) hm g n bv hv
theorem Runs_c {st inp out:Nat} {part:Bool} {es:List Nat} {ev:AV} {ws:List (List Nat)} {wv:AV} (ia ib ic:Int) (g:Nat→Option Blk) (n:Nat) (hI:InG g n st inp out es ev ws wv) :
  WC 3 Tryz.prog 25 [.agg [.lit (.int .u8 st),.lit (.int .u8 inp),.lit (.int .u8 out),.lit (.bool part),ev,wv,.lit (.int .u8 ia),.lit (.int .u8 ib),.lit (.int .u8 ic)]] ⟨.fn g,n⟩ fun r=>∃ sv g' n' B,r=.ret (.agg [.lit (.int .i64 (machOf st inp out part es).inp),.lit (.int .i64 (machOf st inp out part es).out),sv]) ⟨.fn g',n'⟩∧n≤n'∧(∀ b,b < n→g' b=g b)∧LogC g' n n' B (runsM (machOf st inp out part es) ws) sv:=by
 have hlen:=@lenV Tryz.prog _ _ _ _ _ hI.sw.choose_spec.1
 have h1e:=hI.se.one
 have h1w:=hI.sw.choose_spec.1.one
 have hone:allOne [.lit (.int .u8 st),.lit (.int .u8 inp),.lit (.int .u8 out),.lit (.bool part),ev,wv,.lit (.int .u8 ia),.lit (.int .u8 ib),.lit (.int .u8 ic)]=true:=by simp [h1e,h1w]
 have HMO:=Hide.mk fun (gX:Nat→Option Blk) (n2:Nat) (hn:n≤n2) (hX:∀ b,b < n→gX b=g b)=>MOf_w st inp out part es ev gX n2 hI.b0 hI.b1 hI.b2 (hI.se.mono hn hX) hI.eb
 have HI:=Hide.mk hI
 have HM:=Hide.mk (machOf_ok st inp out part es)
 clear hI
 generalize machOf st inp out part es=M at *
 refine WC.enterP (noO_ok _ _) hG pl25 Tryz.func25 rfl (by decide +kernel) (Nat.le_of_ble_eq_true (by kernel_rfl)) ?_
 iterate 8 all_goals try first|with_reducible refine spI (fun h=>?_) fun h=>?_|with_reducible refine spB (fun h=>?_) fun h=>?_|simp (maxSteps:=999999) (disch:=first|assumption|omega|(simp;done)|fail) [Tryz.results25, *]
 refine WC.mono (HMO.out _ _ (by omega) fun b (hb:b < n)=>by simp (disch:=omega) only [gpl]) ?_
 rintro _ ⟨ms,g1,n1,rfl,hn1,hg1,hfr⟩
 obtain ⟨rv,hms,h1r⟩:=hfr.rep.one
 subst hms
 have hone2:allOne [.lit (.int .i64 M.inp),.lit (.int .i64 M.out),rv]=true:=by simp [h1r]
 have HR:=Hide.mk hfr.rep
 have HG1:Hide (∀ b,b < n→g1 b=g b):=⟨fun b hb=>(hg1 b (by omega)).trans (by simp (disch:=omega) only [gpl])⟩
 have HX1:=Hide.mk hg1
 clear hg1 hfr HMO
 iterate 8 all_goals try first|with_reducible refine spI (fun h=>?_) fun h=>?_|with_reducible refine spB (fun h=>?_) fun h=>?_|simp (maxSteps:=999999) (disch:=first|assumption|omega|(simp;done)|fail) [Tryz.results25, *]
 have hgn1:g1 n=some (.cells [.lit (.int .u8 st),.lit (.int .u8 inp),.lit (.int .u8 out),.lit (.bool part),ev,wv,.lit (.int .u8 ia),.lit (.int .u8 ib),.lit (.int .u8 ic)] true 0):=(HX1.out n (by omega)).trans (by simp (disch:=omega) only [gpl,gpe])
 have hgo1:g1 (n+1)=some (.cells [.lit (.int .i64 0),.lit (.int .i64 0),.lit (.slice none 0 0)] true 0):=(HX1.out (n+1) (by omega)).trans (by simp (disch:=omega) only [gpl,gpe])
 clear HX1
 refine LX.ind (fun m gf H'=>∃ (k n' : Nat) (gL:Nat→Option Blk) (B:Nat) (sv:AV),k≤ws.length∧k≤12∧m=12 - k∧H'=⟨.fn gL,n'⟩∧n1+1+1≤n'∧B < n'∧Hide (∀ b,b < n1→gL b=g1 b)∧gL n1=some (.cells [.lit (.int .i64 M.inp),.lit (.int .i64 M.out),rv] true 0) ∧
  gL (n1+1)=some (.cells [.lit (.int .i64 M.inp),.lit (.int .i64 M.out),sv] true 0)∧Hide (LogC gL (n1+1+1) n' B ((ws.take k).map (oneM M)) sv)∧gf 1=some (.ptr n 0)∧gf 2=some (.ptr (n+1) 0)∧gf 3=some (.ptr n1 0)∧gf 4=some (.ptr (n1+1) 0)∧gf 5=some (.lit (.int .i64 k))) (m0:=12) ?_ ?_
 ·refine ⟨0,_,_,0,_,Nat.zero_le _,Nat.zero_le _,rfl,rfl,Nat.le_refl _,by omega,⟨fun b hb=>?_⟩,?_,gpe,⟨[],.inl ⟨rfl,rfl,rfl⟩,.nil,fun v hv=>by cases hv⟩,by simp,by simp,by simp,by simp,by simp⟩
  ·exact (gpl (by omega)).trans (gpl hb)
  ·exact (gpl (by omega)).trans gpe
 rintro m gf H' ⟨k,n',gL,B,sv,hk,hk12,rfl,rfl,hn',hBn,HG,hgm,hgl,HL,w1,w2,w3,w4,w5⟩ ih
 have hgn:=(HG.out n (by omega)).trans hgn1
 have hgo:=(HG.out (n+1) (by omega)).trans hgo1
 have h1sv:=HL.out.one
 have hone3:allOne [.lit (.int .i64 M.inp),.lit (.int .i64 M.out),sv]=true:=by simp [h1sv]
 have FIN:Hide (¬(k < ws.length∧k < 12)→LogC gL (n1+1+1) n' B (runsM M ws) sv):=⟨fun h=>by
  have e:ws.take k=ws.take 12:=by
   by_cases h2:k < 12
   ·rw [List.take_of_length_le (by omega),List.take_of_length_le (by omega)]
   ·rw [show k=12 by omega]
  have h1:=HL.out
  rw [e] at h1
  exact h1⟩
 refine LX.roundP (noO_ok _ _) hG pl25 (by decide +kernel) ?_
 by_cases hlt:k < ws.length
 ·have hltI:(k:Int) < (ws.length:Int):=by omega
  by_cases hlm:k < 12
  ·have hlmI:(k:Int) < 12:=by omega
   obtain ⟨a2,off,q,ha2,hia,hcell,hrb⟩:=HI.out.sw.at hlt
   have hcell2:loadB (some (false,1)) (gL a2) (off+k)=some q:=(congrArg (fun z=>loadB (some (false,1)) z (off+k)) ((HG.out a2 (by omega)).trans (HG1.out a2 ha2))).trans hcell
   have hM:=HM.out
   have HWD:=Hide.mk (fun (gX:Nat→Option Blk) (n2:Nat) (hn2:n≤n2) (hX:∀ b,b < n→gX b=g b)=>Word2_c ws[k] (HI.out.wb _ (List.getElem_mem hlt)) M.inp 10 hM.1 hM.2.1 (by decide) 10 rfl gX n2 q (SliceV.mono hn2 hX hrb))
   have HTK:Hide ((ws.take (k+1)).map (oneM M)=(ws.take k).map (oneM M)++[oneM M ws[k]]):=⟨by rw [take_snoc hlt,List.map_append,List.map_singleton]⟩
   have HW:Hide (oneM M ws[k]=(wordG ws[k] M.inp.toNat 10,runM M 0 (wordG ws[k] M.inp.toNat 10))∧(wordG ws[k] M.inp.toNat 10).length≤10∧inW (wordG ws[k] M.inp.toNat 10) M.inp=true):=⟨rfl,wordG_len,wordG_in hM.1⟩
   clear hcell hrb hM
   generalize wordG ws[k] M.inp.toNat 10=w at *
   generalize oneM M ws[k]=t at *
   iterate 8 all_goals try first|with_reducible refine spI (fun h=>?_) fun h=>?_|with_reducible refine spB (fun h=>?_) fun h=>?_|simp (maxSteps:=999999) (disch:=first|assumption|omega|(simp;done)|fail) [Tryz.results25, *]
   refine WC.mono (HWD.out _ _ (by omega) fun b (hb:b < n)=>(HG.out b (by omega)).trans (HG1.out b hb)) ?_
   rintro _ ⟨uv,g2,n2,rfl,hn2,hX2,hfw⟩
   have HX2:=Hide.mk hX2
   have HFW:=Hide.mk hfw
   have hgm2:=(hX2 n1 (by omega)).trans hgm
   have hgl2:=(hX2 (n1+1) (by omega)).trans hgl
   have hone4:oneC uv=true:=hfw.1.rep.one
   have hcu:cellsOf uv=[uv]:=hfw.1.rep.cell
   have HRU:=Hide.mk (fun (gX:Nat→Option Blk) (n3:Nat) (hn3:n2≤n3) (hX:∀ b,b < n2→gX b=g2 b)=>rRun_c HM.out w (by have:=HW.out.2.1; omega) HW.out.2.2 gX n3 [.lit (.int .i64 M.inp),.lit (.int .i64 M.out),rv] uv (HR.out.mono (by omega) fun b hb=>(hX b (by omega)).trans ((HX2.out b (by omega)).trans (HG.out b (by omega)))) (SliceV.mono hn3 hX HFW.out.1.rep))
   clear hX2 hfw HWD hcell2 hia
   iterate 8 all_goals try first|with_reducible refine spI (fun h=>?_) fun h=>?_|with_reducible refine spB (fun h=>?_) fun h=>?_|simp (maxSteps:=999999) (disch:=first|assumption|omega|(simp;done)|fail) [Tryz.results25, *]
   refine WC.mono (HRU.out _ _ (by omega) fun b hb=>rfl) ?_
   rintro _ ⟨zv,g3,n3,rfl,hn3,hX3,hfz⟩
   have HX3:=Hide.mk hX3
   have HFZ:=Hide.mk hfz
   have hgm3:=(hX3 n1 (by omega)).trans hgm2
   have hgl3:=(hX3 (n1+1) (by omega)).trans hgl2
   have hone5:oneC zv=true:=hfz.1.rep.one
   have hcz:cellsOf zv=[zv]:=hfz.1.rep.cell
   have hone6:allOne [uv,zv]=true:=by simp [hone4,hone5]
   clear hX3 hfz HRU
   obtain ⟨cs,hgr,hrf,hcc⟩:=HL.out
   have HCC:=Hide.mk hcc
   clear hcc
   have HRF:=Hide.mk hrf
   have hcl:=hrf.1
   rw [List.length_map,List.length_take,Nat.min_eq_left hk] at hgr
   rw [List.length_map,List.length_take,Nat.min_eq_left hk] at hcl
   clear hrf
   have HNB:Hide (∀ a,n'≤a→a≠B):=⟨fun a h=>by omega⟩
   have HLOG:Hide (∀ gF:Nat→Option Blk,(∀ b,n1+1+1≤b→b < n3→b≠B→gF b=g3 b)→gF (n3+1)=some (.cells (cs++[uv,zv]) true 2)→LogC gF (n1+1+1) (n3+1+1) (n3+1) ((ws.take (k+1)).map (oneM M)) (.slq (n3+1) 0 (k+1) 0)):=⟨fun gF h1 h2=>by
    refine ⟨cs++[uv,zv],?_,?_,?_⟩
    ·rw [HTK.out,List.length_append,List.length_map,List.length_take,Nat.min_eq_left hk]
     exact .mk h2 (by omega) (by omega) (by rw [List.length_append,hcl]; simp; omega)
    ·rw [HTK.out,HW.out.1]
     exact (HRF.out.keep (Nat.le_refl _) (by omega) (.inl (by omega)) fun a h3 h4 h5=>(h1 a h3 (by omega) h5).trans ((HX3.out a (by omega)).trans (HX2.out a h4))).snoc (HFW.out.1.safe (by omega) (by omega) (.inl (by omega)) fun a h3 h4=>(h1 a (by omega) (by omega) (HNB.out a (by omega))).trans (HX3.out a h4)) (HFZ.out.1.safe (by omega) (by omega) (.inl (by omega)) fun a h3 h4=>h1 a (by omega) h4 (HNB.out a (by omega)))
    ·intro v hv
     rcases List.mem_append.1 hv with h | h
     ·exact HCC.out v h
     ·rcases List.mem_cons.1 h with rfl | h
      ·exact HFW.out.2
      ·rw [List.mem_singleton.1 h]; exact HFZ.out.2⟩
   rcases hgr with ⟨hk0,hc0,hs0⟩ | ⟨hk0,hs0,hB1,hB2,hB3,hB4⟩
   ·subst hs0
    have HZ:=Hide.mk (And.intro hk0 hc0)
    clear hk0 hc0
    iterate 8 all_goals try first|with_reducible refine spI (fun h=>?_) fun h=>?_|with_reducible refine spB (fun h=>?_) fun h=>?_|simp (maxSteps:=999999) (disch:=first|assumption|omega|(simp;done)|fail) [Tryz.results25, *]
    refine ih.out (12 - (k+1)) _ _ (by omega) ⟨k+1,n3+1+1,_,n3+1,.slq (n3+1) 0 (k+1) 0,by omega,by omega,rfl,rfl,by omega,by omega,⟨fun b hb=>?_⟩,?_,?_,⟨HLOG.out _ (fun b h1 h2 h3=>?_) ?_⟩,by simp [*],by simp [*],by simp [*],by simp [*],by simp⟩
    ·simp (disch:=omega) only [gpl,gpn]; exact (HX3.out b (by omega)).trans ((HX2.out b (by omega)).trans (HG.out b hb))
    ·simp (disch:=omega) only [gpl,gpn]; exact hgm3
    ·rw [HZ.out.1]; simp (disch:=omega) only [gpl,gpn,gpe]
    ·simp (disch:=omega) only [gpl,gpn]
    ·rw [HZ.out.2]; simp (disch:=omega) only [gpl,gpn,gpe]; rfl
   ·subst hs0
    have hB5:g3 B=some (.cells cs true 2):=(HX3.out B (by omega)).trans ((HX2.out B hB2).trans hB3)
    clear hB3
    iterate 8 all_goals try first|with_reducible refine spI (fun h=>?_) fun h=>?_|with_reducible refine spB (fun h=>?_) fun h=>?_|simp (maxSteps:=999999) (disch:=first|assumption|omega|(simp;done)|fail) [Tryz.results25, *]
    refine ih.out (12 - (k+1)) _ _ (by omega) ⟨k+1,n3+1+1,_,n3+1,.slq (n3+1) 0 (k+1) 0,by omega,by omega,rfl,rfl,by omega,by omega,⟨fun b hb=>?_⟩,?_,?_,⟨HLOG.out _ (fun b h1 h2 h3=>?_) ?_⟩,by simp [*],by simp [*],by simp [*],by simp [*],by simp⟩
    ·simp (disch:=omega) only [gpl,gpn]; exact (HX3.out b (by omega)).trans ((HX2.out b (by omega)).trans (HG.out b hb))
    ·simp (disch:=omega) only [gpl,gpn]; exact hgm3
    ·simp (disch:=omega) only [gpl,gpn,gpe]
    ·simp (disch:=omega) only [gpl,gpn]
    ·simp (disch:=omega) only [gpl,gpn,gpe]
  ·have hlmI:¬(k:Int) < 12:=by omega
   have HF:=Hide.mk (FIN.out (by omega))
   iterate 8 all_goals try first|with_reducible refine spI (fun h=>?_) fun h=>?_|with_reducible refine spB (fun h=>?_) fun h=>?_|simp (maxSteps:=999999) (disch:=first|assumption|omega|(simp;done)|fail) [Tryz.results25, *]
   exact ⟨_,_,_,⟨rfl,rfl,rfl⟩,by omega,fun b hb=>(gpl (by omega)).trans ((HG.out b (by omega)).trans (HG1.out b hb)),B,HF.out.keep (by omega) (Nat.le_refl _) fun a h1 h2=>gpn (by omega)⟩
 ·have hltI:¬(k:Int) < (ws.length:Int):=by omega
  have HF:=Hide.mk (FIN.out (by omega))
  iterate 8 all_goals try first|with_reducible refine spI (fun h=>?_) fun h=>?_|with_reducible refine spB (fun h=>?_) fun h=>?_|simp (maxSteps:=999999) (disch:=first|assumption|omega|(simp;done)|fail) [Tryz.results25, *]
  exact ⟨_,_,_,⟨rfl,rfl,rfl⟩,by omega,fun b hb=>(gpl (by omega)).trans ((HG.out b (by omega)).trans (HG1.out b hb)),B,HF.out.keep (by omega) (Nat.le_refl _) fun a h1 h2=>gpn (by omega)⟩
theorem GOf_c {st inp out:Nat} {part:Bool} {es:List Nat} {ev:AV} {ws:List (List Nat)} {wv:AV} (ia ib ic:Nat) (hia:ia < 256) (hib:ib < 256) (hic:ic < 256) (g:Nat→Option Blk) (n:Nat) (hI:InG g n st inp out es ev ws wv) :
  WC 3 Tryz.prog 22 [.agg [.lit (.int .u8 st),.lit (.int .u8 inp),.lit (.int .u8 out),.lit (.bool part),ev,wv,.lit (.int .u8 ia),.lit (.int .u8 ib),.lit (.int .u8 ic)]] ⟨.fn g,n⟩ fun r=>∃ sv g' n' B,r=.ret (.agg [.lit (.int .i64 (machOf st inp out part es).inp),.lit (.int .i64 (machOf st inp out part es).out),sv]) ⟨.fn g',n'⟩∧n≤n'∧(∀ b,b < n→g' b=g b)∧LogC g' n n' B (ofG (machOf st inp out part es) ws ia ib ic) sv:=by
 have h1e:=hI.se.one
 have h1w:=hI.sw.choose_spec.1.one
 have hone:allOne [.lit (.int .u8 st),.lit (.int .u8 inp),.lit (.int .u8 out),.lit (.bool part),ev,wv,.lit (.int .u8 ia),.lit (.int .u8 ib),.lit (.int .u8 ic)]=true:=by simp [h1e,h1w]
 have HRU:=Hide.mk fun (gX:Nat→Option Blk) (n2:Nat) (hn:n≤n2) (hX:∀ b,b < n→gX b=g b)=>Runs_c (part:=part) ia ib ic gX n2 (hI.mono hn hX)
 have HM:=Hide.mk (machOf_ok st inp out part es)
 clear hI
 generalize machOf st inp out part es=M at *
 have HOF:=Hide.mk (rfl:ofG M ws ia ib ic=ofG M ws ia ib ic)
 have hOK:=runsM_ok HM.out ws
 have HOK:=Hide.mk hOK
 have hO1:=hOK.o1
 have hO2:=hOK.o2
 obtain ⟨L,hL⟩ : ∃ L,L=ofG M ws ia ib ic:=⟨_,rfl⟩
 rw [← hL]
 unfold ofG at hL
 have HL:=Hide.mk hL
 clear hL HOF hOK
 generalize runsM M ws=ts at *
 have hrem4:(ic:Int).tmod 4=((ic % 4:Nat) : Int):=(Int.ofNat_tmod ic 4).symm
 have hq4:ic % 4 < 4:=Nat.mod_lt _ (by decide)
 generalize ic % 4=q at *
 refine WC.enterP (noO_ok _ _) hG pl22 Tryz.func22 rfl (by decide +kernel) (Nat.le_of_ble_eq_true (by kernel_rfl)) ?_
 iterate 8 all_goals try first|with_reducible refine spI (fun h=>?_) fun h=>?_|with_reducible refine spB (fun h=>?_) fun h=>?_|simp (maxSteps:=999999) (disch:=first|assumption|omega|(simp;done)|fail) [Tryz.results22, *]
 refine WC.mono (HRU.out _ _ (by omega) fun b (hb:b < n)=>by simp (disch:=omega) only [gpl]) ?_
 rintro _ ⟨sv,g1,n1,B,rfl,hn1,hg1,hlf⟩
 have HG1:Hide (∀ b,b < n→g1 b=g b):=⟨fun b hb=>(hg1 b (by omega)).trans (by simp (disch:=omega) only [gpl])⟩
 have hgn1:g1 n=some (.cells [.lit (.int .u8 st),.lit (.int .u8 inp),.lit (.int .u8 out),.lit (.bool part),ev,wv,.lit (.int .u8 ia),.lit (.int .u8 ib),.lit (.int .u8 ic)] true 0):=(hg1 n (by omega)).trans (by simp (disch:=omega) only [gpl,gpe])
 have hgo1:g1 (n+1)=some (.cells [.lit (.int .i64 0),.lit (.int .i64 0),.lit (.slice none 0 0)] true 0):=(hg1 (n+1) (by omega)).trans (by simp (disch:=omega) only [gpl,gpe])
 clear hg1 HRU
 have h1sv:=hlf.one
 have hone3:allOne [.lit (.int .i64 M.inp),.lit (.int .i64 M.out),sv]=true:=by simp [h1sv]
 have hlenS:=@lenV Tryz.prog _ _ _ _ _ hlf.logF.log.choose_spec.1
 have HLF:=Hide.mk hlf
 have htl:=HOK.out.len
 clear hlf
 have FIN0:Hide (L=ts→∀ gF:Nat→Option Blk,∀ m,n1≤m→(∀ b,n+1+1≤b→b < n1→gF b=g1 b)→LogC gF n m B L sv):=⟨fun h gF m hm hgF=>by
  rw [h]; exact HLF.out.keep (by omega) hm fun a h1 h2=>hgF a (by omega) h2⟩
 by_cases c1:ts.length=0
 ·have hLt:L=ts:=by rw [HL.out,if_pos (.inl c1)]
  have HF:=Hide.mk (FIN0.out hLt)
  have c1I:(ts.length:Int)=0:=by omega
  clear hLt
  iterate 8 all_goals try first|with_reducible refine spI (fun h=>?_) fun h=>?_|with_reducible refine spB (fun h=>?_) fun h=>?_|simp (maxSteps:=999999) (disch:=first|assumption|omega|(simp;done)|fail) [Tryz.results22, *]
  refine ⟨_,_,_,⟨rfl,rfl,rfl⟩,by omega,fun b hb=>?_,B,HF.out _ _ (by omega) fun b h1 h2=>?_⟩
  ·simp (disch:=omega) only [gpl]; exact HG1.out b hb
  ·simp (disch:=omega) only [gpl,gpn]
 have c1I:¬(ts.length:Int)=0:=by omega
 have c1N:¬ts=[]:=fun h=>c1 (by rw [h]; rfl)
 have hremI:(ia:Int).tmod (ts.length:Int)=((ia % ts.length:Nat) : Int):=(Int.ofNat_tmod ia _).symm
 by_cases c2:q < 2
 ·have hLt:L=ts:=by rw [HL.out,if_pos (.inr c2)]
  have HF:=Hide.mk (FIN0.out hLt)
  have c2I:(q:Int) < 2:=by omega
  clear hLt
  iterate 8 all_goals try first|with_reducible refine spI (fun h=>?_) fun h=>?_|with_reducible refine spB (fun h=>?_) fun h=>?_|simp (maxSteps:=999999) (disch:=first|assumption|omega|(simp;done)|fail) [Tryz.results22, *]
  refine ⟨_,_,_,⟨rfl,rfl,rfl⟩,by omega,fun b hb=>?_,B,HF.out _ _ (by omega) fun b h1 h2=>?_⟩
  ·simp (disch:=omega) only [gpl]; exact HG1.out b hb
  ·simp (disch:=omega) only [gpl,gpn]
 have c2I:¬(q:Int) < 2:=by omega
 have hi:ia % ts.length < ts.length:=Nat.mod_lt _ (by omega)
 rw [if_neg (by omega),(getD_mem hi).2] at HL
 generalize ia % ts.length=i at *
 have hiI:(i:Int) < (ts.length:Int):=by omega
 have HTI:=Hide.mk (HOK.out.lens (List.getElem_mem hi))
 have hrl:(ts[i]).2.length≤256:=by rw [HTI.out.1]; exact HOK.out.wl _ (List.getElem_mem hi)
 obtain ⟨cs,hgr,hrf,hcc⟩:=HLF.out
 have HCC:=Hide.mk hcc
 clear hcc
 rcases hgr with ⟨hk0,_,_⟩ | ⟨hk0,hs0,hB1,hB2,hB3,hB4⟩
 ·omega
 subst hs0
 obtain ⟨s1,s2,hc1,hc2,hw1,hw2⟩:=hrf.2 i hi
 obtain ⟨hil,hc2⟩:=List.getElem?_eq_some_iff.1 hc2
 have h1s2:oneC s2=true:=hw2.rep.one
 have hcs2:cellsOf s2=[s2]:=hw2.rep.cell
 have hlenR:=@lenV Tryz.prog _ _ _ _ _ hw2.rep
 have HRF:=Hide.mk hrf
 have HW2:=Hide.mk hw2.rep
 have HW1:=Hide.mk hw1
 clear hw1 hw2 hrf hc1
 by_cases c3:(ts[i]).2.length=0
 ·have hLt:L=ts:=by rw [HL.out,if_pos c3]
  have HF:=Hide.mk (FIN0.out hLt)
  have H30:Hide (SliceV g1 n1 s2 0 (wdC (ts[i]).2)):=⟨by have h:=HW2.out; unfold RepW at h; rw [c3] at h; exact h⟩
  have hap:=fun {H:Mem} {ev:Ev} {d:Option Tmp} {ty:TypeId} {p:String} {af:Array Edge} {gd:Option (Nat×Bool)} {x y:Operand} {s t:TypeId} {a off:Nat} {hx:ev x=some (.sl a off 0 0)} {hy:ev y=some s2} (hp:(apI Tryz.prog s t).isSome=true)=>SliceV.ap00 (P:=Tryz.prog) (H30.out) (H:=H) (ev:=ev) (d:=d) (ty:=ty) (p:=p) (af:=af) (gd:=gd) (x:=x) (y:=y) (a:=a) (off:=off) (hx:=hx) (hy:=hy) hp
  have c3I:((ts[i]).2.length:Int)=0:=by omega
  clear hLt
  iterate 8 all_goals try first|with_reducible refine spI (fun h=>?_) fun h=>?_|with_reducible refine spB (fun h=>?_) fun h=>?_|simp (maxSteps:=999999) (disch:=first|assumption|omega|(simp;done)|fail) [Tryz.results22, *]
  refine ⟨_,_,_,⟨rfl,rfl,rfl⟩,by omega,fun b hb=>?_,B,HF.out _ _ (by omega) fun b h1 h2=>?_⟩
  ·simp (disch:=omega) only [gpl]; exact HG1.out b hb
  ·simp (disch:=omega) only [gpl,gpn]
 have c3I:¬((ts[i]).2.length:Int)=0:=by omega
 rw [if_neg c3] at HL
 obtain ⟨a2,blk,ha2,hga2,hap⟩:=SliceV.ap0 (P:=Tryz.prog) (sz:=1) HW2.out (by omega) (by omega) (by rw [wdC_len]; omega)
 have hremR:(ib:Int).tmod ((ts[i]).2.length:Int)=((ib % (ts[i]).2.length:Nat) : Int):=(Int.ofNat_tmod ib _).symm
 have hk:ib % (ts[i]).2.length < (ts[i]).2.length:=Nat.mod_lt _ (by omega)
 have HAT:=Hide.mk (okR_at (ts[i]).2 (ib % (ts[i]).2.length) false HTI.out.2.2 hk)
 have HGD:=Hide.mk (getD_mem (d:=(0:Int)) hk)
 have HFIN:Hide (∀ (gF:Nat→Option Blk) (m c:Nat) (r' : List Int),r'.length=(ts[i]).2.length→L=ts.set i ((ts[i]).1,r')→(∀ b,n+1+1≤b→b < n1→b≠B→gF b=g1 b)→gF B=some (.cells (cs.set (i * 2+1) (.slq (n1+1+1) 0 (ts[i]).2.length c)) true 2)→gF (n1+1+1)=some (.cells (wdC r') true 1)→n1+1+1 < m→LogC gF n m B L (.slq B 0 ts.length 0)):=⟨fun gF m c r' h1 h2 h3 h4 h5 h6=>by
  refine ⟨cs.set (i * 2+1) (.slq (n1+1+1) 0 (ts[i]).2.length c),.inr ⟨?_,?_,by omega,by omega,h4,?_⟩,?_,?_⟩
  ·rw [h2,List.length_set]; exact hk0
  ·rw [h2,List.length_set]
  ·rw [h2,List.length_set,List.length_set]; exact hB4
  ·rw [h2]
   refine (HRF.out.keep (by omega) (by omega) (.inr (.inl rfl)) h3).set2 hi ?_
   rw [← h1]
   exact .mk h5 (by omega) h6 (by omega)
  ·intro v hv
   rcases List.mem_or_eq_of_mem_set hv with h | rfl
   ·exact HCC.out v h
   ·intro a o n c e; cases e⟩
 generalize ib % (ts[i]).2.length=k at *
 have hkI:(k:Int) < ((ts[i]).2.length:Int):=by omega
 have hwk:(wdC (ts[i]).2)[k]'(by rw [wdC_len]; exact hk)=.lit (.int .i64 ((ts[i]).2[k])):=(List.getElem?_eq_some_iff.1 (wdC_at _ k hk)).2
 have hwl:(wdC (ts[i]).2).length=(ts[i]).2.length:=wdC_len _
 rw [HGD.out.2] at HAT
 have HCH:Hide (changeR M.out q k (ts[i]).2=if q=2 then (if (ts[i]).2[k] = -1 then (ts[i]).2 else (ts[i]).2.set k (((ts[i]).2[k]+1).tmod M.out)) else (ts[i]).2.take k++List.replicate ((ts[i]).2.length - k) (-1)):=⟨by unfold changeR; rw [HGD.out.2]⟩
 have HWS:Hide (∀ v,(wdC (ts[i]).2).set k (.lit (.int .i64 v))=wdC ((ts[i]).2.set k v)):=⟨fun v=>wdC_set _ _ _⟩
 have ha2n:¬a2=n1:=by omega
 clear HLF FIN0
 generalize (ts[i]).2=r at *
 have hrkO : -1≤r[k]∧r[k] < M.out:=HAT.out
 generalize hxx:r[k]=x at *
 have HXX:=Hide.mk hxx
 clear hxx
 have hx1:=hrkO.1
 have hx2:=hrkO.2
 have hOI:¬M.out=0:=by omega
 by_cases c4:q=2
 ·subst c4
  rw [if_pos rfl] at HCH
  by_cases c5:x = -1
  ·rw [if_pos c5] at HCH
   have HF:=Hide.mk fun gF m c h3 h4 h5 h6=>HFIN.out gF m c r rfl (by rw [HL.out,HCH.out]) h3 h4 h5 h6
   iterate 12 all_goals try first|with_reducible refine spI (fun h=>?_) fun h=>?_|with_reducible refine spB (fun h=>?_) fun h=>?_|simp (maxSteps:=999999) (disch:=first|assumption|omega|(simp;done)|fail) [Tryz.results22, *]
   refine LX.roundP (noO_ok _ _) hG pl22 (by decide +kernel) ?_
   iterate 8 all_goals try first|with_reducible refine spI (fun h=>?_) fun h=>?_|with_reducible refine spB (fun h=>?_) fun h=>?_|simp (maxSteps:=999999) (disch:=first|assumption|omega|(simp;done)|fail) [Tryz.results22, *]
   refine ⟨_,_,_,⟨rfl,rfl,rfl⟩,by omega,fun b hb=>?_,B,HF.out _ _ 0 (fun b h1 h2 h3=>?_) ?_ ?_ (by omega)⟩
   ·simp (disch:=omega) only [gpl]; exact HG1.out b hb
   ·simp (disch:=omega) only [gpl,gpn]
   ·simp (disch:=omega) only [gpl,gpn,gpe]
   ·simp (disch:=omega) only [gpl,gpn,gpe]
  ·rw [if_neg c5] at HCH
   have HF:=Hide.mk fun gF m c h3 h4 h5 h6=>HFIN.out gF m c (r.set k ((x+1).tmod M.out)) List.length_set (by rw [HL.out,HCH.out]) h3 h4 h5 h6
   have hv0:0≤(x+1).tmod M.out:=Int.tmod_nonneg _ (by omega)
   have hv1:(x+1).tmod M.out < M.out:=Int.tmod_lt_of_pos _ (by omega)
   have hws:=HWS.out ((x+1).tmod M.out)
   have hsl:((wdC r).set k (.lit (.int .i64 ((x+1).tmod M.out)))).length=r.length:=by rw [List.length_set]; exact hwl
   iterate 12 all_goals try first|with_reducible refine spI (fun h=>?_) fun h=>?_|with_reducible refine spB (fun h=>?_) fun h=>?_|simp (maxSteps:=999999) (disch:=first|assumption|omega|(simp;done)|fail) [Tryz.results22, *]
   refine LX.roundP (noO_ok _ _) hG pl22 (by decide +kernel) ?_
   iterate 8 all_goals try first|with_reducible refine spI (fun h=>?_) fun h=>?_|with_reducible refine spB (fun h=>?_) fun h=>?_|simp (maxSteps:=999999) (disch:=first|assumption|omega|(simp;done)|fail) [Tryz.results22, *]
   refine ⟨_,_,_,⟨rfl,rfl,rfl⟩,by omega,fun b hb=>?_,B,HF.out _ _ 0 (fun b h1 h2 h3=>?_) ?_ ?_ (by omega)⟩
   ·simp (disch:=omega) only [gpl]; exact HG1.out b hb
   ·simp (disch:=omega) only [gpl,gpn]
   ·simp (disch:=omega) only [gpl,gpn,gpe]
   ·simp (disch:=omega) only [gpl,gpn,gpe]
 ·have hq3:q=3:=by omega
  subst hq3
  rw [if_neg c4] at HCH
  have HF:=Hide.mk fun gF m c h3 h4 h5 h6=>HFIN.out gF m c (noneC r k r.length) (noneC_len (by omega) (Nat.le_refl _)) (by rw [HL.out,HCH.out,noneC_end (by omega)]) h3 h4 h5 h6
  iterate 12 all_goals try first|with_reducible refine spI (fun h=>?_) fun h=>?_|with_reducible refine spB (fun h=>?_) fun h=>?_|simp (maxSteps:=999999) (disch:=first|assumption|omega|(simp;done)|fail) [Tryz.results22, *]
  obtain ⟨gA,hgA⟩ : ∃ gA,gA=gput (gput g1 n1 (some (.cells [.lit (.int .i64 M.inp),.lit (.int .i64 M.out),.slq B 0 ts.length 0] true 0))) (n1+1) (some (.cells [] true 0)):=⟨_,rfl⟩
  have HGA:=Hide.mk hgA
  rw [← hgA]
  clear hgA
  refine LX.ind (fun m gf H'=>∃ (j:Nat) (gL:Nat→Option Blk),k≤j∧j≤r.length∧m=r.length - j∧H'=⟨.fn gL,n1+1+1+1⟩∧Hide (∀ b,b < n1+1+1→gL b=gA b)∧gL (n1+1+1)=some (.cells (wdC (noneC r k j)) true 1) ∧
   gf 1=some (.ptr n 0)∧gf 2=some (.ptr (n+1) 0)∧gf 3=some (.ptr n1 0)∧gf 4=some (.lit (.int .i64 i))∧gf 5=some (.slq (n1+1+1) 0 r.length 0)∧gf 7=some (.lit (.int .i64 j))) (m0:=r.length - k) ?_ ?_
  ·refine ⟨k,_,Nat.le_refl _,by omega,rfl,rfl,⟨fun b hb=>gpl hb⟩,?_,by simp,by simp,by simp,by simp,by simp,by simp⟩
   rw [gpe]
   unfold noneC
   rw [Nat.sub_self,List.replicate_zero,List.nil_append,List.take_append_drop]
  rintro m gf H' ⟨j,gL,hkj,hj,rfl,rfl,HG,hgr,w1,w2,w3,w4,w5,w7⟩ ih
  have hgn:=(HG.out n (by omega)).trans ((congrFun HGA.out n).trans (by simp (disch:=omega) only [gpl]; exact hgn1))
  have hgo:=(HG.out (n+1) (by omega)).trans ((congrFun HGA.out (n+1)).trans (by simp (disch:=omega) only [gpl]; exact hgo1))
  have hgm:gL n1=some (.cells [.lit (.int .i64 M.inp),.lit (.int .i64 M.out),.slq B 0 ts.length 0] true 0):=(HG.out n1 (by omega)).trans ((congrFun HGA.out n1).trans (by simp (disch:=omega) only [gpl,gpe]))
  have hgB:=(HG.out B (by omega)).trans ((congrFun HGA.out B).trans (by simp (disch:=omega) only [gpl]; exact hB3))
  have hrem43:(ic:Int).tmod 4=3:=hrem4
  have hncl:(wdC (noneC r k j)).length=r.length:=by rw [wdC_len,noneC_len hkj hj]
  clear hB3 hgo1 hgn1 hrem4
  refine LX.roundP (noO_ok _ _) hG pl22 (by decide +kernel) ?_
  by_cases hlt:j < r.length
  ·have hltI:(j:Int) < (r.length:Int):=by omega
   have HST:=Hide.mk (noneC_step hkj hlt)
   have HWN:=Hide.mk (wdC_set (noneC r k j) j (-1))
   iterate 8 all_goals try first|with_reducible refine spI (fun h=>?_) fun h=>?_|with_reducible refine spB (fun h=>?_) fun h=>?_|simp (maxSteps:=999999) (disch:=first|assumption|omega|(simp;done)|fail) [Tryz.results22, *]
   rw [HWN.out,HST.out]
   refine ih.out (r.length - (j+1)) _ _ (by omega) ⟨j+1,_,by omega,by omega,rfl,rfl,⟨fun b hb=>?_⟩,gpe,by simp [*],by simp [*],by simp [*],by simp [*],by simp [*],by simp⟩
   exact (gpl hb).trans (HG.out b hb)
  ·have hltI:¬(j:Int) < (r.length:Int):=by omega
   have hjr:j=r.length:=by omega
   have HJR:=Hide.mk hjr
   clear hjr
   iterate 8 all_goals try first|with_reducible refine spI (fun h=>?_) fun h=>?_|with_reducible refine spB (fun h=>?_) fun h=>?_|simp (maxSteps:=999999) (disch:=first|assumption|omega|(simp;done)|fail) [Tryz.results22, *]
   refine ⟨_,_,_,⟨rfl,rfl,rfl⟩,by omega,fun b hb=>?_,B,HF.out _ _ 0 (fun b h1 h2 h3=>?_) ?_ ?_ (by omega)⟩
   ·simp (disch:=omega) only [gpl]; rw [HG.out b (by omega),HGA.out]; simp (disch:=omega) only [gpl]; exact HG1.out b hb
   ·simp (disch:=omega) only [gpl,gpn]; rw [HG.out b (by omega),HGA.out]; simp (disch:=omega) only [gpl,gpn]
   ·simp (disch:=omega) only [gpl,gpn,gpe]
   ·simp (disch:=omega) only [gpl,gpn,gpe]; rw [hgr,HJR.out]
theorem nodW_len:∀ (w r:List Int) (L:List (List Int)) (p:List Int),(nodW L p w r).length≤L.length+w.length
 | [],r,L,p=>by cases r <;> exact Nat.le_refl _
 | _ :: _,[],L,p=>Nat.le_add_right _ _
 | i :: w,o :: r,L,p=>by
  have h1:=nodW_len w r (insW (p++[i]) L) (p++[i])
  have h2:=@insW_len (p++[i]) L
  unfold nodW
  rw [List.length_cons]
  split <;> omega
theorem nodesM_len {ts:List (List Int×List Int)} (h:∀ t∈ts,t.1.length≤256) : (nodesM ts).length≤1+256 * ts.length:=by
 have key:∀ (us:List (List Int×List Int)) (out:List (List Int)),(∀ t∈us,t.1.length≤256)→(us.foldl (fun out t=>nodW out [] t.1 t.2) out).length≤out.length+256 * us.length:=by
  intro us
  induction us with
  | nil=>intro out _; exact Nat.le_refl _
  | cons t us ih =>
   intro out hu
   have h1:=ih (nodW out [] t.1 t.2) fun t ht=>hu t (by simp [ht])
   have h2:=nodW_len t.1 t.2 out []
   have h3:=hu t (by simp)
   rw [List.foldl_cons,List.length_cons]
   omega
 exact key ts [[]] h
end Go.Ai
end
section
namespace Go.Ai
set_option maxRecDepth 10000
structure TL (I:Nat) (O:Int) (V:List Int→Option Int) (ws:List (List Int)) (T:List (List (Int×Int))) (W:List (List Int)) : Prop where
 nod:Nod V ws
 srt:Srt2 ws
 rows:T=rowsT V ws I
 lab:Lab T W
 vin:∀ x i o,V (x++[i])=some o→(0≤i∧i < (I:Int))∧(o ≠ -1→0≤o∧o < O)
variable {I:Nat} {O:Int} {V:List Int→Option Int} {ws:List (List Int)} {T:List (List (Int×Int))} {W:List (List Int)}
theorem TL.len (h:TL I O V ws T W) : T.length=ws.length:=by rw [h.rows,rowsT_len]
theorem TL.nil (h:TL I O V ws T W) : []∈ws:=(h.nod.mem []).2 (.inl rfl)
theorem TL.row (h:TL I O V ws T W) {k:Nat} (hk:k < ws.length) (hk2:k < T.length) : T[k]=rowW V ws I ws[k]:=by
 have e:T.getD k []=rowW V ws I ws[k]:=by rw [h.rows]; exact rowsT_at hk
 rw [List.getD_eq_getElem?_getD,List.getElem?_eq_getElem hk2] at e
 exact e
theorem TL.ent (h:TL I O V ws T W) {k i:Nat} (hk:k < ws.length) (hk2:k < T.length) (hi:i < (T[k]).length) : i < I∧T[k][i]=entT V ws ws[k] i:=by
 have e:=h.row hk hk2
 have hi2:i < I:=by rw [e,rowW_len] at hi; exact hi
 refine ⟨hi2,?_⟩
 have e2:(T[k])[i]?=some (entT V ws ws[k] i):=by rw [e]; exact rowW_at hi2
 rw [List.getElem?_eq_getElem hi] at e2
 exact Option.some.inj e2
theorem TL.rlen (h:TL I O V ws T W) {k:Nat} (hk2:k < T.length) : (T[k]).length=I:=by
 have hk:k < ws.length:=by rw [← h.len]; exact hk2
 rw [h.row hk hk2,rowW_len]
theorem TL.edo (h:TL I O V ws T W) {p j t:Nat} {o:Int} (hE:EdO T p j t o) : ∃ (hp:p < ws.length) (ht:t < ws.length),V ws[t]=some o∧o ≠ -1∧ws[t]=ws[p]++[(j:Int)]:=by
 obtain ⟨hp2,hj,e⟩:=hE
 have hp:p < ws.length:=by rw [← h.len]; exact hp2
 obtain ⟨hj2,e2⟩:=h.ent hp hp2 hj
 rw [e2] at e
 unfold entT at e
 cases hv:V (ws[p]++[(j:Int)]) with
 | none=>rw [hv] at e; injection e with e1 e2; omega
 | some o' =>
  rw [hv] at e
  dsimp only at e
  by_cases ho:o' = -1
  ·rw [if_pos ho] at e; injection e with e1 e2; omega
  ·rw [if_neg ho] at e
   injection e with e1 e2
   obtain ⟨hl,hat⟩:=idx_at ((h.nod.mem _).2 (.inr ⟨o',hv,ho⟩))
   have ht:ws.idxOf (ws[p]++[(j:Int)])=t:=by omega
   subst ht
   exact ⟨hp,hl,by rw [hat,hv,e2],by rw [← e2]; exact ho,hat⟩
theorem TL.weq (h:TL I O V ws T W) : ∀ (n t:Nat),t≤n→∀ ht:t < ws.length,W.getD t []=ws[t]
 | n,0,_,ht=>by
  obtain ⟨hl,hat⟩:=idx_at h.nil
  rw [h.lab.nil]
  have e:=idx_nil h.srt h.nil
  have:ws[ws.idxOf []]?=some []:=by rw [List.getElem?_eq_getElem hl,hat]
  rw [e,List.getElem?_eq_getElem ht] at this
  exact (Option.some.inj this).symm
 | 0,t+1,hn,_=>by omega
 | n+1,t+1,hn,ht=>by
  obtain ⟨p,j,hE⟩:=h.lab.src (t+1) (by omega) (by rw [h.len]; exact ht)
  obtain ⟨_,_,h3,h4⟩:=h.lab.ed p j _ hE
  obtain ⟨o,hO⟩:=hE.out
  obtain ⟨hp,ht2,_,_,e⟩:=h.edo hO
  rw [h4,h.weq n p (by omega) hp,e]
theorem TL.resp (h:TL I O V ws T W) : ∀ (n t:Nat),t≤n→∀ ht:t < ws.length,(respM T 0 ws[t]).length=(ws[t]).length∧(∀ k,k < (ws[t]).length→V ((ws[t]).take (k+1))=some ((respM T 0 ws[t]).getD k 0))∧∀ o∈respM T 0 ws[t],0≤o∧o < O
 | n,0,_,ht=>by
  have e:ws[0]=[]:=by rw [← h.weq 0 0 (Nat.le_refl _) ht]; exact h.lab.nil
  rw [e]
  exact ⟨rfl,⟨fun k hk=>(by cases hk),fun o ho=>(by cases ho)⟩⟩
 | 0,t+1,hn,_=>by omega
 | n+1,t+1,hn,ht=>by
  obtain ⟨p,j,hE⟩:=h.lab.src (t+1) (by omega) (by rw [h.len]; exact ht)
  obtain ⟨_,_,h3,_⟩:=h.lab.ed p j _ hE
  obtain ⟨o,hO⟩:=hE.out
  obtain ⟨hp,ht2,hv,hne,e⟩:=h.edo hO
  obtain ⟨i1,i2,i3⟩:=h.resp n p (by omega) hp
  have er:=resp_ed h.lab hO
  rw [h.weq (t+1) (t+1) (Nat.le_refl _) ht,h.weq p p (Nat.le_refl _) hp] at er
  refine ⟨by rw [er,e,List.length_append,List.length_append,i1]; rfl,fun k hk=>?_,fun x hx=>?_⟩
  ·by_cases hkp:k < (ws[p]).length
   ·have e2:(ws[t+1]).take (k+1)=(ws[p]).take (k+1):=by rw [e,List.take_append_of_le_length (by omega)]
    rw [e2,i2 k hkp,er,List.getD_eq_getElem?_getD,List.getD_eq_getElem?_getD,List.getElem?_append_left (by omega)]
   ·have hk2:k=(ws[p]).length:=by rw [e,List.length_append,List.length_singleton] at hk; omega
    have e2:(ws[t+1]).take (k+1)=ws[t+1]:=List.take_of_length_le (by rw [e,List.length_append,List.length_singleton]; omega)
    rw [e2,hv,er,List.getD_eq_getElem?_getD,List.getElem?_append_right (by omega),show k - (respM T 0 ws[p]).length=0 by omega]
    rfl
  ·rw [er] at hx
   rcases List.mem_append.1 hx with h5 | h5
   ·exact i3 x h5
   ·rw [List.mem_singleton.1 h5]
    have h6:=(h.vin ws[p] (j:Int) o (by rw [← e]; exact hv)).2 hne
    exact h6
def EW (T:List (List (Int×Int))) (W:List (List Int)) (x:List Int) : Prop:=∃ s∈endsM T 0,x=eW W s
theorem TL.ew (h:TL I O V ws T W) {x:List Int} : EW T W x↔(∃ p∈ws,∃ i:Nat,i < I∧V (p++[(i:Int)])=some (-1)∧x=p++[(i:Int)])∨(x∈ws∧∀ i:Nat,i < I→V (x++[(i:Int)])=none):=by
 constructor
 ·rintro ⟨s,hs,rfl⟩
  rcases end_iff.1 hs with ⟨k,hk,i,hi,he,rfl⟩ | ⟨k,hk,hb,rfl⟩
  ·have hk2:k < ws.length:=by rw [← h.len]; exact hk
   obtain ⟨hi2,e⟩:=h.ent hk2 hk hi
   rw [he] at e
   refine .inl ⟨ws[k],List.getElem_mem hk2,i,hi2,?_,?_⟩
   ·unfold entT at e
    cases hv:V (ws[k]++[(i:Int)]) with
    | none=>rw [hv] at e; injection e with e1 e2; cases e2
    | some o =>
     rw [hv] at e
     dsimp only at e
     by_cases ho:o = -1
     ·rw [ho]
     ·rw [if_neg ho] at e; injection e with e1 e2; omega
   ·unfold eW
    dsimp only
    rw [if_neg (by omega),h.weq k k (Nat.le_refl _) hk2]
  ·have hk2:k < ws.length:=by rw [← h.len]; exact hk
   have e0:eW W (k,-1)=ws[k]:=by unfold eW; dsimp only; rw [if_pos rfl,List.append_nil,h.weq k k (Nat.le_refl _) hk2]
   rw [e0]
   refine .inr ⟨List.getElem_mem hk2,fun i hi=>?_⟩
   have hi2:i < (T[k]).length:=by rw [h.rlen hk]; exact hi
   obtain ⟨_,e⟩:=h.ent hk2 hk hi2
   unfold lastB at hb
   have hb2:=of_decide_eq_true (List.all_eq_true.1 hb _ (List.getElem_mem hi2))
   rw [e] at hb2
   unfold entT at hb2
   cases hv:V (ws[k]++[(i:Int)]) with
   | none=>rfl
   | some o =>
    rw [hv] at hb2
    dsimp only at hb2
    by_cases ho:o = -1
    ·rw [if_pos ho] at hb2; exact absurd rfl hb2.2
    ·rw [if_neg ho] at hb2; have:=hb2.1; dsimp only at this; omega
 ·rintro (⟨p,hp,i,hi,hv,rfl⟩ | ⟨hx,hn⟩)
  ·obtain ⟨k,hk2,rfl⟩:=List.getElem_of_mem hp
   have hk:k < T.length:=by rw [h.len]; exact hk2
   have hi2:i < (T[k]).length:=by rw [h.rlen hk]; exact hi
   obtain ⟨_,e⟩:=h.ent hk2 hk hi2
   refine ⟨(k,(i:Int)),end_iff.2 (.inl ⟨k,hk,i,hi2,?_,rfl⟩),?_⟩
   ·rw [e]; unfold entT; rw [hv]; rfl
   ·unfold eW; dsimp only; rw [if_neg (by omega),h.weq k k (Nat.le_refl _) hk2]
  ·obtain ⟨k,hk2,rfl⟩:=List.getElem_of_mem hx
   have hk:k < T.length:=by rw [h.len]; exact hk2
   refine ⟨(k,-1),end_iff.2 (.inr ⟨k,hk,?_,rfl⟩),?_⟩
   ·unfold lastB
    rw [List.all_eq_true]
    intro e he
    obtain ⟨i,hi,rfl⟩:=List.getElem_of_mem he
    obtain ⟨hi2,e⟩:=h.ent hk2 hk hi
    rw [e]
    unfold entT
    rw [hn i hi2]
    rfl
   ·unfold eW; dsimp only; rw [if_pos rfl,List.append_nil,h.weq k k (Nat.le_refl _) hk2]
theorem okR_pos {O:Int} : ∀ (r:List Int),(∀ o∈r,0≤o∧o < O)→1≤O→okR O false r=true∧okR O false (r++[-1])=true
 | [],_,hO=>⟨rfl,okR_cons (by omega) (by omega) (fun h=>by cases h) rfl⟩
 | o :: r,h,hO=>by
  have h1:=h o (by simp)
  obtain ⟨i1,i2⟩:=okR_pos r (fun x hx=>h x (by simp [hx])) hO
  refine ⟨okR_cons (by omega) h1.2 (fun h=>by cases h) ?_,okR_cons (by omega) h1.2 (fun h=>by cases h) ?_⟩
  ·rw [decide_eq_false (by omega)]; exact i1
  ·rw [decide_eq_false (by omega)]; exact i2
theorem TL.endr (h:TL I O V ws T W) (hO:1≤O) {x:List Int} (hx:EW T W x) : (respM T 0 x).length=x.length∧(∀ k,k < x.length→V (x.take (k+1))=some ((respM T 0 x).getD k 0))∧okR O false (respM T 0 x)=true∧inW x I=true:=by
 have hin:∀ (n:Nat) (y:List Int),y.length=n→y∈ws→inW y I=true:=by
  intro n
  induction n with
  | zero=>intro y hy _; rw [List.eq_nil_of_length_eq_zero hy]; rfl
  | succ n ih =>
   intro y hy hm
   have hne:y≠[]:=fun e=>by rw [e] at hy; cases hy
   have e:=List.dropLast_concat_getLast hne
   rw [← e] at hm ⊢
   rcases (h.nod.mem _).1 hm with h1 | ⟨o,h1,h2⟩
   ·simp at h1
   ·have h3:=ih y.dropLast (by rw [List.length_dropLast]; omega) (h.nod.up hm)
    have h4:=(h.vin _ _ _ h1).1
    unfold inW at h3 ⊢
    rw [List.all_append,h3]
    simp [h4]
 rcases h.ew.1 hx with ⟨p,hp,i,hi,hv,rfl⟩ | ⟨hm,_⟩
 ·obtain ⟨k,hk2,rfl⟩:=List.getElem_of_mem hp
  have hk:k < T.length:=by rw [h.len]; exact hk2
  have hi2:i < (T[k]).length:=by rw [h.rlen hk]; exact hi
  obtain ⟨_,e⟩:=h.ent hk2 hk hi2
  have he:T[k][i]=(-1,-2):=by rw [e]; unfold entT; rw [hv]; rfl
  have er:=resp_end h.lab hk hi2 he
  have e0:eW W (k,(i:Int))=ws[k]++[(i:Int)]:=by unfold eW; dsimp only; rw [if_neg (by omega),h.weq k k (Nat.le_refl _) hk2]
  rw [e0,h.weq k k (Nat.le_refl _) hk2] at er
  obtain ⟨i1,i2,i3⟩:=h.resp k k (Nat.le_refl _) hk2
  rw [er]
  refine ⟨by rw [List.length_append,List.length_append,i1]; rfl,fun m hm=>?_,(okR_pos _ i3 hO).2,?_⟩
  ·by_cases hkp:m < (ws[k]).length
   ·rw [List.take_append_of_le_length (by omega),i2 m hkp,List.getD_eq_getElem?_getD,List.getD_eq_getElem?_getD,List.getElem?_append_left (by omega)]
   ·have hm2:m=(ws[k]).length:=by rw [List.length_append,List.length_singleton] at hm; omega
    rw [List.take_of_length_le (by rw [List.length_append,List.length_singleton]; omega),hv,List.getD_eq_getElem?_getD,List.getElem?_append_right (by omega),show m - (respM T 0 ws[k]).length=0 by omega]
    rfl
  ·have h3:=hin _ _ rfl hp
   unfold inW at h3 ⊢
   rw [List.all_append,h3]
   simp
   omega
 ·obtain ⟨k,hk2,rfl⟩:=List.getElem_of_mem hm
  obtain ⟨i1,i2,i3⟩:=h.resp k k (Nat.le_refl _) hk2
  exact ⟨i1,i2,(okR_pos _ i3 hO).1,hin _ _ rfl hm⟩
theorem TL.ext (h:TL I O V ws T W) : ∀ (n t:Nat) (ht:t < ws.length),ws.length - t≤n→∃ x,EW T W x∧(ws[t]).length≤x.length∧x.take (ws[t]).length=ws[t]
 | 0,t,ht,hn=>by omega
 | n+1,t,ht,hn=>by
  by_cases hl:∀ i:Nat,i < I→V (ws[t]++[(i:Int)])=none
  ·exact ⟨ws[t],h.ew.2 (.inr ⟨List.getElem_mem ht,hl⟩),Nat.le_refl _,by rw [List.take_length]⟩
  ·have hex:∃ i:Nat,i < I∧V (ws[t]++[(i:Int)])≠none:=by
    refine Classical.byContradiction fun hc=>hl fun i hi=>Classical.byContradiction fun h2=>hc ⟨i,hi,h2⟩
   obtain ⟨i,hi,hv⟩:=hex
   cases hv2:V (ws[t]++[(i:Int)]) with
   | none=>exact absurd hv2 hv
   | some o =>
    by_cases ho:o = -1
    ·refine ⟨ws[t]++[(i:Int)],h.ew.2 (.inl ⟨ws[t],List.getElem_mem ht,i,hi,by rw [hv2,ho],rfl⟩),by rw [List.length_append]; omega,?_⟩
     rw [List.take_append_of_le_length (Nat.le_refl _),List.take_length]
    ·obtain ⟨hu,hat⟩:=idx_at ((h.nod.mem _).2 (.inr ⟨o,hv2,ho⟩))
     have hlt:t < ws.idxOf (ws[t]++[(i:Int)]):=by
      rcases Nat.lt_trichotomy t (ws.idxOf (ws[t]++[(i:Int)])) with h1 | h1 | h1
      ·exact h1
      ·have:ws[t]=ws[t]++[(i:Int)]:=by
        have e2:ws[ws.idxOf (ws[t]++[(i:Int)])]?=some (ws[t]++[(i:Int)]):=by rw [List.getElem?_eq_getElem hu,hat]
        rw [← h1,List.getElem?_eq_getElem ht] at e2
        exact Option.some.inj e2
       have:=congrArg List.length this
       simp at this
      ·have h2:=h.srt _ _ hu ht h1
       rw [hat] at h2
       have h3:=h2.le
       rw [List.length_append,List.length_singleton] at h3
       omega
     obtain ⟨x,x1,x2,x3⟩:=h.ext n _ hu (by omega)
     rw [hat] at x2 x3
     refine ⟨x,x1,by rw [List.length_append] at x2; omega,?_⟩
     have h4:=congrArg (List.take (ws[t]).length) x3
     rw [List.take_take,List.take_append_of_le_length (Nat.le_refl _),List.take_length,List.length_append,Nat.min_eq_left (by omega)] at h4
     exact h4
end Go.Ai
end
section
namespace Go.Ai
set_option maxRecDepth 10000
variable {I:Nat} {O:Int} {V:List Int→Option Int} {ws:List (List Int)} {T:List (List (Int×Int))} {W:List (List Int)}
def LogOf (T:List (List (Int×Int))) (W:List (List Int)) (U:List (List Int×List Int)) : Prop:=∀ u,u∈U↔EW T W u.1∧u.2=respM T 0 u.1
theorem bkM_of:LogOf T W (bkM T W):=fun u=>by
 unfold bkM
 rw [List.mem_map]
 constructor
 ·rintro ⟨s,hs,rfl⟩; exact ⟨⟨s,hs,rfl⟩,rfl⟩
 ·rintro ⟨⟨s,hs,e⟩,e2⟩; exact ⟨s,hs,Prod.ext e.symm (by rw [e2,e])⟩
theorem LogOf.perm {U U' : List (List Int×List Int)} (h:LogOf T W U) (hp:U'.Perm U) : LogOf T W U':=fun u=>(hp.mem_iff).trans (h u)
theorem TL.valid (h:TL I O V ws T W) (hO:1≤O) {U:List (List Int×List Int)} (hU:LogOf T W U) : ∀ u∈U,validB I O u=true:=by
 intro u hu
 obtain ⟨h1,h2⟩:=(hU u).1 hu
 obtain ⟨i1,_,i3,i4⟩:=h.endr hO h1
 exact validB_of (by rw [h2]; exact i1) i4 (by rw [h2]; exact i3)
theorem TL.get (h:TL I O V ws T W) (hO:1≤O) {U:List (List Int×List Int)} (hU:LogOf T W U) {u:List Int×List Int} (hu:u∈U) {k:Nat} (hk:k < u.1.length) : V (u.1.take (k+1))=some (u.2.getD k 0):=by
 obtain ⟨h1,h2⟩:=(hU u).1 hu
 rw [h2]
 exact (h.endr hO h1).2.1 k hk
theorem TL.cons (h:TL I O V ws T W) (hO:1≤O) {U:List (List Int×List Int)} (hU:LogOf T W U) : Cons U:=by
 intro u hu t ht k hk hk2 he
 have h1:=h.get hO hU hu hk
 have h2:=h.get hO hU ht hk2
 rw [he,h2] at h1
 exact (Option.some.inj h1).symm
theorem TL.of (h:TL I O V ws T W) (hO:1≤O) {U:List (List Int×List Int)} (hU:LogOf T W U) {y:List Int} {o:Int} (hy:valT U y=some o) : V y=some o:=by
 obtain ⟨u,g1,g2,g3,g4,g5⟩:=valT_of hy
 have hpos:0 < y.length:=List.length_pos_iff.2 g2
 have h1:=h.get hO hU g1 (k:=y.length - 1) (by omega)
 rw [show y.length - 1+1=y.length by omega,g4,← g5] at h1
 exact h1
theorem TL.valU (h:TL I O V ws T W) (hO:1≤O) {U:List (List Int×List Int)} (hU:LogOf T W U) {p:List Int} (hp:p∈ws) {i:Nat} (hi:i < I) : valT U (p++[(i:Int)])=V (p++[(i:Int)]):=by
 have hC:=h.cons hO hU
 have key:∀ x,EW T W x→(p++[(i:Int)]).length≤x.length→x.take (p++[(i:Int)]).length=p++[(i:Int)]→valT U (p++[(i:Int)])=V (p++[(i:Int)]):=by
  intro x hx hl ht
  have hu:(x,respM T 0 x)∈U:=(hU _).2 ⟨hx,rfl⟩
  rw [List.length_append,List.length_singleton] at hl ht
  have h1:=valT_mem hC hu (k:=p.length) (by show p.length < x.length; omega)
  have h2:=h.get hO hU hu (k:=p.length) (by show p.length < x.length; omega)
  dsimp only at h1 h2
  rw [ht] at h1 h2
  rw [h1,h2]
 cases hv:V (p++[(i:Int)]) with
 | none =>
  cases hu:valT U (p++[(i:Int)]) with
  | none=>rfl
  | some o=>rw [h.of hO hU hu] at hv; cases hv
 | some o =>
  rw [← hv]
  by_cases ho:o = -1
  ·exact key _ (h.ew.2 (.inl ⟨p,hp,i,hi,by rw [hv,ho],rfl⟩)) (Nat.le_refl _) (List.take_length)
  ·obtain ⟨hl,hat⟩:=idx_at ((h.nod.mem _).2 (.inr ⟨o,hv,ho⟩))
   obtain ⟨x,x1,x2,x3⟩:=h.ext _ _ hl (Nat.le_refl _)
   rw [hat] at x2 x3
   exact key x x1 x2 x3
theorem TL.nodU (h:TL I O V ws T W) (hO:1≤O) {U:List (List Int×List Int)} (hU:LogOf T W U) : nodesM U=ws:=by
 have hv:=h.valid hO hU
 have hC:=h.cons hO hU
 refine srt_eq (nodesM_ok hv).1 h.srt fun x=>?_
 rw [nodesM_val hv hC x]
 constructor
 ·rintro (rfl | ⟨o,h1,h2⟩)
  ·exact h.nil
  ·exact (h.nod.mem x).2 (.inr ⟨o,h.of hO hU h1,h2⟩)
 ·intro hx
  rcases (h.nod.mem x).1 hx with rfl | ⟨o,h1,h2⟩
  ·exact .inl rfl
  ·by_cases hne:x=[]
   ·exact .inl hne
   ·refine .inr ⟨o,?_,h2⟩
    have e:=List.dropLast_concat_getLast hne
    rw [← e] at hx h1 ⊢
    have h3:=(h.vin _ _ _ h1).1
    obtain ⟨i,hi⟩ : ∃ i:Nat,x.getLast hne=(i:Int):=⟨(x.getLast hne).toNat,by omega⟩
    rw [hi] at hx h1 h3 ⊢
    rw [h.valU hO hU (h.nod.up hx) (by omega),h1]
theorem TL.rowsU (h:TL I O V ws T W) (hO:1≤O) {U:List (List Int×List Int)} (hU:LogOf T W U) : rowsL I U=T:=by
 unfold rowsL
 rw [h.nodU hO hU,h.rows]
 unfold rowsT
 apply List.map_congr_left
 intro p hp
 unfold rowW
 apply List.map_congr_left
 intro i hi
 unfold entT
 rw [h.valU hO hU hp (List.mem_range.1 hi)]
theorem TL.anti (h:TL I O V ws T W) (hO:1≤O) {x y:List Int} (hx:EW T W x) (hy:EW T W y) (hl:x.length≤y.length) (he:y.take x.length=x) : x=y:=by
 by_cases hlt:x.length=y.length
 ·rw [← he,hlt,List.take_length]
 ·have hl2:x.length < y.length:=by omega
  have hxw:x∈ws:=by
   rcases h.ew.1 hy with ⟨p,hp,i,hi,hv,rfl⟩ | ⟨hm,_⟩
   ·rw [List.length_append,List.length_singleton] at hl2
    rw [List.take_append_of_le_length (by omega)] at he
    have:=h.nod.pre _ (p.drop x.length) rfl (x:=x) (by rw [← he,List.length_take,Nat.min_eq_left (by omega),List.take_append_drop]; exact hp)
    exact this
   ·exact h.nod.pre _ (y.drop x.length) rfl (x:=x) (by
     have e:x++y.drop x.length=y:=by
      have:=List.take_append_drop x.length y
      rw [he] at this; exact this
     rw [e]; exact hm)
  have hk:=(h.endr hO hy).2.1 x.length hl2
  have hin:=(h.endr hO hy).2.2.2
  have ht:y.take (x.length+1)=x++[y[x.length]]:=by rw [take_snoc hl2,he]
  rw [ht] at hk
  have hr:0≤y[x.length]∧y[x.length] < (I:Int):=by
   unfold inW at hin
   rw [List.all_eq_true] at hin
   exact of_decide_eq_true (hin _ (List.getElem_mem hl2))
  rcases h.ew.1 hx with ⟨p,hp,i,hi,hv,rfl⟩ | ⟨_,hn⟩
  ·rcases (h.nod.mem _).1 hxw with h1 | ⟨o,h1,h2⟩
   ·simp at h1
   ·rw [hv] at h1; injection h1 with h1; exact absurd h1.symm h2
  ·obtain ⟨j,hj⟩ : ∃ j:Nat,y[x.length]=(j:Int):=⟨(y[x.length]).toNat,by omega⟩
   rw [hj] at hk hr
   rw [hn j (by omega)] at hk
   cases hk
theorem TL.count (hO:1≤O) {ts:List (List Int×List Int)} (h:TL I O (valT ts) ws T W) {X:List (List Int)} (hX:∀ x∈X,EW T W x) (hnd:X.Nodup) : X.length≤max 1 ts.length:=by
 by_cases h0:[]∈X
 ·have hall:∀ x∈X,x∈[([] : List Int)]:=fun x hx=>by
   have:=h.anti hO (hX _ h0) (hX x hx) (Nat.zero_le _) rfl
   rw [← this]; simp
  have:=nodup_len hnd hall
  simp at this
  omega
 ·have hex:∀ x∈X,∃ i:Nat,i < ts.length∧∃ hi:i < ts.length,x.length≤(ts[i]).1.length∧(ts[i]).1.take x.length=x:=by
   intro x hx
   have hne:x≠[]:=fun e=>h0 (e ▸ hx)
   have hpos:0 < x.length:=List.length_pos_iff.2 hne
   have h1:=(h.endr hO (hX x hx)).2.1 (x.length - 1) (by omega)
   rw [show x.length - 1+1=x.length by omega,List.take_length] at h1
   obtain ⟨u,g1,g2,g3,g4,g5⟩:=valT_of h1
   obtain ⟨i,hi,rfl⟩:=List.getElem_of_mem g1
   exact ⟨i,hi,hi,g3,g4⟩
  classical
  let f:List Int→List Int:=fun x=>if hx:x∈X then [((Classical.choose (hex x hx) : Nat) : Int)] else []
  have hf:∀ x (hx:x∈X),f x=[((Classical.choose (hex x hx) : Nat) : Int)]:=fun x hx=>by simp [f,hx]
  have hinj:∀ x (hx:x∈X) y (hy:y∈X),f x=f y→x=y:=by
   intro x hx y hy he
   rw [hf x hx,hf y hy] at he
   have e1:Classical.choose (hex x hx)=Classical.choose (hex y hy):=by
    have:=List.cons.inj he
    omega
   obtain ⟨_,a2,a3,a4⟩:=Classical.choose_spec (hex x hx)
   obtain ⟨_,b2,b3,b4⟩:=Classical.choose_spec (hex y hy)
   have e2:(ts[Classical.choose (hex x hx)]'a2).1=(ts[Classical.choose (hex y hy)]'b2).1:=by
    congr 1
    exact getElem_congr_idx e1
   rw [e2] at a3 a4
   generalize (ts[Classical.choose (hex y hy)]'b2).1=w at *
   rcases Nat.le_total x.length y.length with hl | hl
   ·exact h.anti hO (hX x hx) (hX y hy) hl (by rw [← b4,List.take_take,Nat.min_eq_left hl]; exact a4)
   ·exact (h.anti hO (hX y hy) (hX x hx) hl (by rw [← a4,List.take_take,Nat.min_eq_left hl]; exact b4)).symm
  have hn2:(X.map f).Nodup:=by
   have:∀ (l:List (List Int)),(∀ x∈l,x∈X)→l.Nodup→(l.map f).Nodup:=by
    intro l
    induction l with
    | nil=>intro _ _; exact List.nodup_nil
    | cons a l ih =>
     intro hs hn
     rw [List.map_cons,List.nodup_cons]
     rw [List.nodup_cons] at hn
     refine ⟨fun hm=>?_,ih (fun x hx=>hs x (by simp [hx])) hn.2⟩
     obtain ⟨b,hb,e⟩:=List.mem_map.1 hm
     have:=hinj b (hs b (by simp [hb])) a (hs a (by simp)) e
     exact hn.1 (this ▸ hb)
   exact this X (fun _ h=>h) hnd
  have hsub:∀ z∈X.map f,z∈(List.range ts.length).map fun i:Nat=>[(i:Int)]:=by
   intro z hz
   obtain ⟨x,hx,rfl⟩:=List.mem_map.1 hz
   rw [hf x hx]
   exact List.mem_map.2 ⟨_,List.mem_range.2 (Classical.choose_spec (hex x hx)).1,rfl⟩
  have:=nodup_len hn2 hsub
  simp at this
  omega
theorem TL.short (hO:1≤O) {ts:List (List Int×List Int)} (h:TL I O (valT ts) ws T W) {k:Nat} (hk:∀ t∈ts,t.1.length≤k) {x:List Int} (hx:EW T W x) : x.length≤k:=by
 by_cases hne:x=[]
 ·rw [hne]; exact Nat.zero_le _
 ·have hpos:0 < x.length:=List.length_pos_iff.2 hne
  have h1:=(h.endr hO hx).2.1 (x.length - 1) (by omega)
  rw [show x.length - 1+1=x.length by omega,List.take_length] at h1
  obtain ⟨u,g1,g2,g3,g4,g5⟩:=valT_of h1
  exact Nat.le_trans g3 (hk u g1)
end Go.Ai
end
section
namespace Go.Ai
set_option maxRecDepth 10000
def EdLt (s t:Nat×Int) : Prop:=s.1 < t.1∨(s.1=t.1∧s.2 < t.2)
theorem refL_pw (n:Nat) : ∀ (row:List (Int×Int)) (i:Nat),(refL n row i).Pairwise EdLt∧∀ s∈refL n row i,s.1=n∧(i:Int)≤s.2
 | [],i=>⟨List.Pairwise.nil,fun s hs=>by cases hs⟩
 | e :: row,i=>by
  obtain ⟨h1,h2⟩:=refL_pw n row (i+1)
  have e0:refL n (e :: row) i=(if e.1 = -1∧e.2 = -2 then [(n,(i:Int))] else [])++refL n row (i+1):=rfl
  rw [e0]
  split
  ·refine ⟨?_,fun s hs=>?_⟩
   ·rw [List.singleton_append,List.pairwise_cons]
    refine ⟨fun s hs=>?_,h1⟩
    have:=h2 s hs
    exact .inr ⟨this.1.symm,by have:=this.2; show (i:Int) < s.2; omega⟩
   ·rcases List.mem_append.1 hs with h | h
    ·rw [List.mem_singleton.1 h]; exact ⟨rfl,Int.le_refl _⟩
    ·have:=h2 s h; exact ⟨this.1,by omega⟩
  ·refine ⟨h1,fun s hs=>?_⟩
   have:=h2 s hs; exact ⟨this.1,by omega⟩
theorem refL_none {n:Nat} {row:List (Int×Int)} (h:lastB row=true) (i:Nat) : refL n row i=[]:=by
 apply List.eq_nil_iff_forall_not_mem.2
 intro s hs
 obtain ⟨k,hk,h1,h2,_⟩:=refL_mem.1 hs
 unfold lastB at h
 have:=of_decide_eq_true (List.all_eq_true.1 h _ (List.getElem_mem hk))
 exact this.2 h2
theorem endsM_pw:∀ (T:List (List (Int×Int))) (n:Nat),(endsM T n).Pairwise EdLt∧∀ s∈endsM T n,n≤s.1
 | [],n=>⟨List.Pairwise.nil,fun s hs=>by cases hs⟩
 | r :: T,n=>by
  obtain ⟨h1,h2⟩:=endsM_pw T (n+1)
  obtain ⟨h3,h4⟩:=refL_pw n r 0
  have e0:endsM (r :: T) n=endR n r++endsM T (n+1):=rfl
  have hR:(endR n r).Pairwise EdLt∧∀ s∈endR n r,s.1=n:=by
   unfold endR
   by_cases hl:lastB r=true
   ·rw [if_pos hl,refL_none hl,List.nil_append]
    exact ⟨List.pairwise_singleton _ _,fun s hs=>by rw [List.mem_singleton.1 hs]⟩
   ·rw [if_neg hl,List.append_nil]
    exact ⟨h3,fun s hs=>(h4 s hs).1⟩
  rw [e0]
  refine ⟨List.pairwise_append.2 ⟨hR.1,h1,fun s hs t ht=>.inl ?_⟩,fun s hs=>?_⟩
  ·rw [hR.2 s hs]; have:=h2 t ht; omega
  ·rcases List.mem_append.1 hs with h | h
   ·rw [hR.2 s h]; exact Nat.le_refl _
   ·have:=h2 s h; omega
theorem Lab.eW_inj {T:List (List (Int×Int))} {W:List (List Int)} (hL:Lab T W) {s t:Nat×Int} (hs:s∈endsM T 0) (ht:t∈endsM T 0) (h:eW W s=eW W t) : s=t:=by
 have key:∀ (k:Nat) (hk:k < T.length) (i:Nat) (hi:i < (T[k]).length) (_:T[k][i]=(-1,-2)) (k' : Nat) (_:k' < T.length),W.getD k' []=W.getD k []++[(i:Int)]→False:=by
  intro k hk i hi he k' hk' hw
  have h0:k'≠0:=fun e=>by rw [e,hL.nil] at hw; simp at hw
  obtain ⟨p,j,hE⟩:=hL.src k' (by omega) hk'
  obtain ⟨_,_,_,h4⟩:=hL.ed p j k' hE
  rw [h4] at hw
  obtain ⟨e1,e2⟩:=snoc_inj hw
  have e3:=hL.inj hE.lt hk e1
  have e4:j=i:=by omega
  subst e3 e4
  obtain ⟨o,hp,hj,e⟩:=hE.out
  rw [he] at e
  injection e with e5 e6
  omega
 rcases end_iff.1 hs with ⟨k,hk,i,hi,he,rfl⟩ | ⟨k,hk,hb,rfl⟩ <;> rcases end_iff.1 ht with ⟨k',hk',i',hi',he',rfl⟩ | ⟨k',hk',hb',rfl⟩
 ·unfold eW at h
  dsimp only at h
  rw [if_neg (by omega),if_neg (by omega)] at h
  obtain ⟨e1,e2⟩:=snoc_inj h
  have:=hL.inj hk hk' e1
  rw [this,e2]
 ·unfold eW at h
  dsimp only at h
  rw [if_neg (by omega),if_pos rfl,List.append_nil] at h
  exact (key k hk i hi he k' hk' h.symm).elim
 ·unfold eW at h
  dsimp only at h
  rw [if_pos rfl,if_neg (by omega),List.append_nil] at h
  exact (key k' hk' i' hi' he' k hk h).elim
 ·unfold eW at h
  dsimp only at h
  simp only [if_true,List.append_nil] at h
  rw [hL.inj hk hk' h]
theorem Lab.nodup {T:List (List (Int×Int))} {W:List (List Int)} (hL:Lab T W) : ((bkM T W).map fun u=>u.1).Nodup:=by
 unfold bkM
 rw [List.map_map]
 refine List.pairwise_map.2 ?_
 refine List.Pairwise.imp_of_mem (fun {a b} ha hb hR he=>?_) (endsM_pw T 0).1
 have:=hL.eW_inj ha hb he
 subst this
 rcases hR with h | ⟨_,h⟩ <;> omega
theorem Lab.srtU {T:List (List (Int×Int))} {W:List (List Int)} (hL:Lab T W) {U:List (List Int×List Int)} (hp:U.Perm (bkM T W)) (hs:∀ (i j:Nat) (_:i < j) (hj:j < U.length),¬ cmpM U[j].1 (U[i]'(by omega)).1 < 0) : Srt2 (U.map fun u=>u.1)∧(U.map fun u=>u.1).Nodup:=by
 have hnd:(U.map fun u=>u.1).Nodup:=((hp.map fun u=>u.1).nodup_iff).2 hL.nodup
 refine ⟨fun a b ha hb hab=>?_,hnd⟩
 rw [List.length_map] at ha hb
 rw [List.getElem_map,List.getElem_map]
 have h1:=hs a b hab hb
 have hne:(U[a]).1≠(U[b]).1:=by
  intro e
  have:=(List.getElem_inj (h₀:=by rw [List.length_map]; exact ha) (h₁:=by rw [List.length_map]; exact hb) hnd).1 (show (U.map fun u=>u.1)[a]'(by rw [List.length_map]; exact ha)=(U.map fun u=>u.1)[b]'(by rw [List.length_map]; exact hb) by rw [List.getElem_map,List.getElem_map]; exact e)
  omega
 rcases Int.lt_trichotomy (cmpM (U[b]).1 (U[a]).1) 0 with h | h | h
 ·exact absurd h h1
 ·exact absurd (cmpM_zero h).symm hne
 ·exact cmpM_pos h
def rbk (W:List (List Int)) (l:List (List Int)) (E:List (Nat×Int)) : List (List Int):=E.foldl (fun l s=>insW (eW W s) l) l
theorem rbk_app {W l:List (List Int)} {a b:List (Nat×Int)} : rbk W l (a++b)=rbk W (rbk W l a) b:=List.foldl_append
theorem rbk_srt {W:List (List Int)} : ∀ (E:List (Nat×Int)) (l:List (List Int)),Srt2 l→Srt2 (rbk W l E)
 | [],l,h=>h
 | s :: E,l,h=>rbk_srt E _ (insW_srt h)
theorem rbk_mem {W:List (List Int)} {x:List Int} : ∀ (E:List (Nat×Int)) (l:List (List Int)),x∈rbk W l E↔x∈l∨∃ s∈E,x=eW W s
 | [],l=>by simp [rbk]
 | s :: E,l=>by
  show x∈rbk W (insW (eW W s) l) E↔_
  rw [rbk_mem E,insW_mem]
  constructor
  ·rintro ((h | h) | ⟨t,ht,h⟩)
   ·exact .inr ⟨s,by simp,h⟩
   ·exact .inl h
   ·exact .inr ⟨t,by simp [ht],h⟩
  ·rintro (h | ⟨t,ht,h⟩)
   ·exact .inl (.inr h)
   ·rcases List.mem_cons.1 ht with rfl | ht
    ·exact .inl (.inl h)
    ·exact .inr ⟨t,ht,h⟩
theorem insW_len2 {w:List Int} : ∀ {l:List (List Int)},(insW w l).length≤l.length+1
 | []=>by simp [insW]
 | x :: l=>by
  have:=insW_len2 (w:=w) (l:=l)
  unfold insW
  split
  ·simp
  ·split <;> simp <;> omega
theorem rbk_len {W:List (List Int)} : ∀ (E:List (Nat×Int)) (l:List (List Int)),(rbk W l E).length≤l.length+E.length
 | [],l=>Nat.le_refl _
 | s :: E,l=>by
  have h1:=rbk_len (W:=W) E (insW (eW W s) l)
  have h2:=insW_len2 (w:=eW W s) (l:=l)
  show (rbk W (insW (eW W s) l) E).length≤l.length+(E.length+1)
  omega
theorem rbk_eq {T:List (List (Int×Int))} {W:List (List Int)} {U:List (List Int×List Int)} (hU:LogOf T W U) (hs:Srt2 (U.map fun u=>u.1)) : (rbk W [] (endsM T 0)).map (fun w=>(w,respM T 0 w))=U:=by
 have e:rbk W [] (endsM T 0)=U.map fun u=>u.1:=by
  refine srt_eq (rbk_srt _ [] (fun a b ha=>by cases ha)) hs fun x=>?_
  rw [rbk_mem,List.mem_map]
  constructor
  ·rintro (h | ⟨s,hs,h⟩)
   ·cases h
   ·exact ⟨(x,respM T 0 x),(hU _).2 ⟨⟨s,hs,h⟩,rfl⟩,rfl⟩
  ·rintro ⟨u,hu,rfl⟩
   exact .inr ((hU u).1 hu).1
 rw [e,List.map_map]
 have:∀ u∈U,((fun w=>(w,respM T 0 w)) ∘ fun u:List Int×List Int=>u.1) u=u:=fun u hu=>Prod.ext rfl ((hU u).1 hu).2.symm
 rw [List.map_congr_left this]
 simp
def PathM (T:List (List (Int×Int))) : Int→List Int→Prop
 | _,[]=>True
 | x,i :: y=>∃ (a j:Nat) (ha:a < T.length) (hj:j < (T[a]).length),x=(a:Int)∧i=(j:Int)∧((T[a][j]).1 = -1∨PathM T (T[a][j]).1 y)
theorem path_app {T:List (List (Int×Int))} {W:List (List Int)} (hL:Lab T W) : ∀ (n t:Nat),t≤n→t < T.length→∀ y,PathM T ((t:Nat) : Int) y→PathM T 0 (W.getD t []++y)
 | n,0,_,_,y,h=>by rw [hL.nil]; exact h
 | 0,t+1,h,_,_,_=>by omega
 | n+1,t+1,h,hl,y,hy=>by
  obtain ⟨p,j,hE⟩:=hL.src (t+1) (by omega) hl
  obtain ⟨_,_,h3,h4⟩:=hL.ed p j _ hE
  obtain ⟨o,hp,hj,e⟩:=hE.out
  rw [h4,List.append_assoc]
  refine path_app hL n p (by omega) hE.lt _ ⟨p,j,hp,hj,rfl,rfl,.inr ?_⟩
  rw [e]; exact hy
theorem path_rbk {T:List (List (Int×Int))} {W:List (List Int)} (hL:Lab T W) {w:List Int} (hw:w∈rbk W [] (endsM T 0)) : PathM T 0 w:=by
 rcases (rbk_mem _ _).1 hw with h | ⟨s,hs,rfl⟩
 ·cases h
 ·unfold eW
  rcases end_iff.1 hs with ⟨k,hk,i,hi,he,rfl⟩ | ⟨k,hk,_,rfl⟩
  ·dsimp only
   rw [if_neg (by omega)]
   exact path_app hL k k (Nat.le_refl _) hk _ ⟨k,i,hk,hi,rfl,rfl,.inl (by rw [he])⟩
  ·dsimp only
   rw [if_pos rfl]
   exact path_app hL k k (Nat.le_refl _) hk _ trivial
end Go.Ai
end
section
namespace Go.Ai
open Go.Proofs
set_option maxRecDepth 10000
set_option maxHeartbeats 40000000
def keepG (c d:Nat) (g:Nat→Option Blk) : Nat→Option Blk:=fun a=>if c < a∧a≠d then g a else none
theorem keepG_out {c d:Nat} {g:Nat→Option Blk} : ∀ a x,keepG c d g a=some x→g a=some x:=by
 intro a x h
 unfold keepG at h
 split at h
 ·exact h
 ·cases h
theorem keepG_to {c d:Nat} {g g' : Nat→Option Blk} {n:Nat} (hg:∀ a,a < n→c < a→a≠d→g' a=g a) : ∀ a x,a < n→keepG c d g a=some x→keepG c d g' a=some x:=by
 intro a x hn h
 unfold keepG at h ⊢
 split at h
 ·rename_i h1
  rw [if_pos h1,hg a hn h1.1 h1.2]; exact h
 ·cases h
theorem SliceV.keepTo {c d:Nat} {g g' : Nat→Option Blk} {n n' len:Nat} {v:AV} {cs:List AV} (h:SliceV (keepG c d g) n v len cs) (hn:n≤n') (hg:∀ a,a < n→c < a→a≠d→g' a=g a) : SliceV (keepG c d g') n' v len cs:=SliceV.ext hn (keepG_to hg) h
theorem SliceV.keepOut {c d:Nat} {g g' : Nat→Option Blk} {n n' len:Nat} {v:AV} {cs:List AV} (h:SliceV (keepG c d g) n v len cs) (hn:n≤n') (hg:∀ a,a < n→c < a→a≠d→g' a=g a) : SliceV g' n' v len cs:=SliceV.ext (Nat.le_refl _) (fun a x _ hx=>keepG_out a x hx) (h.keepTo hn hg)
theorem ListV.two {c d:Nat} {g:Nat→Option Blk} {n:Nat} {l:List (List Int)} {v:AV} (h:ListV (keepG c d g) n l v) : ∃ svs,SliceV g n v l.length svs∧RowsW (keepG c d g) n l svs :=
 let ⟨svs,h1,h2⟩:=h; ⟨svs,SliceV.ext (Nat.le_refl _) (fun a x _ hx=>keepG_out a x hx) h1,h2⟩
theorem ListV.keepTo {c d:Nat} {g g' : Nat→Option Blk} {n n' : Nat} {l:List (List Int)} {v:AV} (h:ListV (keepG c d g) n l v) (hn:n≤n') (hg:∀ a,a < n→c < a→a≠d→g' a=g a) : ListV (keepG c d g') n' l v :=
 let ⟨svs,h1,h2⟩:=h; ⟨svs,h1.keepTo hn hg,h2.ext hn (keepG_to hg)⟩
theorem ListV.ext {g g' : Nat→Option Blk} {n n' : Nat} {l:List (List Int)} {v:AV} (h:ListV g n l v) (hn:n≤n') (hg:∀ a x,a < n→g a=some x→g' a=some x) : ListV g' n' l v :=
 let ⟨svs,h1,h2⟩:=h; ⟨svs,SliceV.ext hn hg h1,h2.ext hn hg⟩
theorem ListV.keepOut {c d:Nat} {g g' : Nat→Option Blk} {n n' : Nat} {l:List (List Int)} {v:AV} (h:ListV (keepG c d g) n l v) (hn:n≤n') (hg:∀ a,a < n→c < a→a≠d→g' a=g a) : ListV g' n' l v :=
 (h.keepTo hn hg).ext (Nat.le_refl _) fun a x _ hx=>keepG_out a x hx
theorem GrowV.keepL {c d:Nat} {g g0:Nat→Option Blk} {lo n B:Nat} {l:List (List Int)} {sv:AV} {cs:List AV} (h:GrowV g lo n B sv l.length 1 cs) (hn:lo≤n) (hc:c < lo) (hd:d < lo) (hg:∀ b,b < lo→g b=g0 b) (hr:RowsW (keepG c d g0) lo l cs) : ListV (keepG c d g) n l sv :=
 ⟨cs,SliceV.ext (Nat.le_refl _) (fun a x _ hx=>by
  split at hx
  ·rename_i h1
   unfold keepG
   rw [if_pos ⟨by omega,by omega⟩]; exact hx
  ·cases hx) h.slice,hr.ext hn (keepG_to fun a h1 _ _=>hg a h1)⟩
theorem list_at2 {g gk:Nat→Option Blk} {n:Nat} {l:List (List Int)} {lv:AV} (h:∃ svs,SliceV g n lv l.length svs∧RowsW gk n l svs) {k:Nat} (hk:k < l.length) : ∃ a off q,a < n∧(∀ {H:Mem} {ev:Ev} {o:Oper} {t:TypeId},iaS Tryz.prog H ev o t (some (none,1)) (some lv) (some (.lit (.int .i64 (k:Int))))=.val (.ptr a (off+k)) H)∧loadB (some (false,1)) (g a) (off+k)=some q∧RepW gk n l[k] q:=by
 obtain ⟨svs,h1,h2,h3⟩:=h
 obtain ⟨q,e1,e2⟩:=h3 k hk
 obtain ⟨a,off,ha,hrow,hia⟩:=h1.ia (P:=Tryz.prog) hk 1
 simp only [Nat.mul_one] at hia
 have hc:=hrow.one (k:=k) (s:=1) (by omega)
 rw [(List.getElem?_eq_some_iff.1 e1).2] at hc
 exact ⟨a,off,q,ha,hia,hc,e2⟩
theorem add3_w {l:List (List Int)} (hll:l.length≤100000) {w:List Int} (hwl:w.length≤1000) (hwls:∀ x∈l,x.length≤1000) (g gk:Nat→Option Blk) (hgk:∀ a z,gk a=some z→g a=some z) (n:Nat) (lv wv:AV) (h1:∃ svs,SliceV g n lv l.length svs∧RowsW gk n l svs) (hw:RepW gk n w wv) :
  WC 3 Tryz.prog 75 [lv,wv] ⟨.fn g,n⟩ fun r=>∃ ov g' n' B cs,r=.ret ov ⟨.fn g',n'⟩∧n≤n'∧(∀ b,b < n→g' b=g b)∧GrowV g' n n' B ov (insW w l).length 1 cs∧RowsW gk n (insW w l) cs:=by
 have hlen:=@lenV Tryz.prog _ _ _ _ _ h1.choose_spec.1
 have h1w:oneC wv=true:=hw.one
 have hcw:cellsOf wv=[wv]:=hw.cell
 have h2w:allOne [wv]=true:=by simp [h1w]
 have HL:=Hide.mk h1
 have HGK:Hide (∀ {w:List Int} {q:AV},RepW gk n w q→RepW g n w q):=⟨fun h=>SliceV.ext (Nat.le_refl _) (fun a z _ hz=>hgk a z hz) h⟩
 clear hgk
 have HW:=Hide.mk hw
 have HWL:=Hide.mk hwls
 have HIN:=Hide.mk (addM_f (w:=w) l)
 clear h1 hw hwls
 generalize insW w l=RES at *
 refine WC.enterP (noO_ok _ _) hG [] Tryz.func75 rfl (by decide +kernel) (Nat.le_of_ble_eq_true (by kernel_rfl)) ?_
 iterate 8 all_goals try first|with_reducible refine spI (fun h=>?_) fun h=>?_|with_reducible refine spB (fun h=>?_) fun h=>?_|simp (maxSteps:=999999) (disch:=first|assumption|omega|(simp;done)|fail) [*]
 refine LX.ind (fun m gf H'=>∃ (k n' B:Nat) (gL:Nat→Option Blk) (p:Bool) (out:List (List Int)) (ov:AV) (cs:List AV),k≤l.length∧m=l.length - k∧H'=⟨.fn gL,n'⟩∧n≤n'∧Hide (∀ b,b < n→gL b=g b)∧Hide (RES=out++addM w (l.drop k) p)∧out.length≤2 * k∧Hide (GrowV gL n n' B ov out.length 1 cs)∧Hide (RowsW gk n out cs) ∧
  gf 0=some lv∧gf 1=some wv∧gf 5=some ov∧gf 6=some (.lit (.bool p))∧gf 7=some (.lit (.int .i64 k))) (m0:=l.length) ?_ ?_
 ·exact ⟨0,n,0,g,false,[],.lit (.slice none 0 0),[],Nat.zero_le _,rfl,rfl,Nat.le_refl _,⟨fun _ _=>rfl⟩,⟨HIN.out.symm⟩,by simp,⟨.inl ⟨rfl,rfl,rfl⟩⟩,⟨⟨rfl,fun k h=>by cases h⟩⟩,by simp,by simp,by simp,by simp,by simp⟩
 clear HIN
 rintro m gf H' ⟨k,n',B,gL,p,out,ov,cs,hk,rfl,rfl,hn',HG,HRES,hol,HGR,HRW,w0,w1,w5,w6,w7⟩ ih
 refine LX.roundP (noO_ok _ _) hG [] (by decide +kernel) ?_
 by_cases hlt:k < l.length
 ·have hltI:(k:Int) < (l.length:Int):=by omega
  obtain ⟨a,off,q,ha,hia,hcell0,hq⟩:=list_at2 HL.out hlt
  have hcell:loadB (some (false,1)) (gL a) (off+k)=some q:=(congrArg (fun z=>loadB (some (false,1)) z (off+k)) (HG.out a ha)).trans hcell0
  have h1q:oneC q=true:=hq.one
  have hcq:cellsOf q=[q]:=hq.cell
  have h2q:allOne [q]=true:=by simp [h1q]
  have HC:=Hide.mk (rcmp2_w w l[k] (by omega) (by have:=HWL.out _ (List.getElem_mem hlt); omega) gL n' wv q (SliceV.mono hn' HG.out (HGK.out HW.out)) (SliceV.mono hn' HG.out (HGK.out hq)))
  have HST:=Hide.mk (HRES.out.trans (show out++addM w (l.drop k) p=out++((if cmpM w l[k] < 0∧p=false then [w] else [])++l[k] :: addM w (l.drop (k+1)) (p || decide (cmpM w l[k]≤0))) from by rw [List.drop_eq_getElem_cons hlt]; rfl))
  have HR1:=Hide.mk (HRW.out.snoc hq)
  have HR2:=Hide.mk ((HRW.out.snoc HW.out).snoc hq)
  have hcl:cs.length=out.length:=HRW.out.1
  have hol2:out.length≤200000:=by omega
  have hcl2:(cs++[wv]).length=(out.length+1) * 1:=by simp [hcl]
  clear hcell0 hq HRW HRES
  generalize cmpM w l[k]=c at *
  generalize l[k]=x at *
  iterate 8 all_goals try first|with_reducible refine spI (fun h=>?_) fun h=>?_|with_reducible refine spB (fun h=>?_) fun h=>?_|simp (maxSteps:=999999) (disch:=first|assumption|omega|(simp;done)|fail) [*]
  refine WC.mono HC.out ?_
  rintro _ rfl
  clear HC
  rcases Int.lt_trichotomy c 0 with hc | hc | hc
  ·have hc1:¬c=0:=by omega
   have hc2:c≤0:=by omega
   cases p with
   | true =>
    rw [if_neg (by simp),Bool.true_or] at HST
    rcases HGR.out with ⟨ho,hc0,hs0⟩ | ⟨ho,hs0,hB1,hB2,hB3,hB4⟩
    ·subst hs0
     have HZ:=Hide.mk (And.intro ho hc0)
     clear ho hc0
     iterate 8 all_goals try first|with_reducible refine spI (fun h=>?_) fun h=>?_|with_reducible refine spB (fun h=>?_) fun h=>?_|simp (maxSteps:=999999) (disch:=first|assumption|omega|(simp;done)|fail) [*]
     refine ih.out (l.length - (k+1)) _ _ (by omega) ⟨k+1,n'+1+1,n'+1,_,true,out++[x],.slq (n'+1) 0 (out++[x]).length 0,cs++[q],by omega,rfl,rfl,by omega,⟨fun b hb=>?_⟩,⟨by rw [HST.out]; simp⟩,by simp; omega,⟨.inr ⟨by simp,rfl,by omega,by omega,?_,by simp; omega⟩⟩,HR1,by simp [*],by simp [*],by simp [HZ.out.1, *],by simp [*],by simp⟩
     ·simp (disch:=omega) only [gpl,gpn]; exact HG.out b hb
     ·rw [HZ.out.2]; simp (disch:=omega) [gpl,gpn,gpe, *]
    ·subst hs0
     iterate 8 all_goals try first|with_reducible refine spI (fun h=>?_) fun h=>?_|with_reducible refine spB (fun h=>?_) fun h=>?_|simp (maxSteps:=999999) (disch:=first|assumption|omega|(simp;done)|fail) [*]
     refine ih.out (l.length - (k+1)) _ _ (by omega) ⟨k+1,n'+1+1,n'+1,_,true,out++[x],.slq (n'+1) 0 (out++[x]).length 0,cs++[q],by omega,rfl,rfl,by omega,⟨fun b hb=>?_⟩,⟨by rw [HST.out]; simp⟩,by simp; omega,⟨.inr ⟨by simp,rfl,by omega,by omega,?_,by simp; omega⟩⟩,HR1,by simp [*],by simp [*],by simp [*],by simp [*],by simp⟩
     ·simp (disch:=omega) only [gpl,gpn]; exact HG.out b hb
     ·simp (disch:=omega) [gpl,gpn,gpe, *]
   | false =>
    rw [if_pos ⟨hc,rfl⟩,Bool.false_or,decide_eq_true hc2] at HST
    rcases HGR.out with ⟨ho,hc0,hs0⟩ | ⟨ho,hs0,hB1,hB2,hB3,hB4⟩
    ·subst hs0
     have HZ:=Hide.mk (And.intro ho hc0)
     clear ho hc0
     iterate 8 all_goals try first|with_reducible refine spI (fun h=>?_) fun h=>?_|with_reducible refine spB (fun h=>?_) fun h=>?_|simp (maxSteps:=999999) (disch:=first|assumption|omega|(simp;done)|fail) [*]
     refine ih.out (l.length - (k+1)) _ _ (by omega) ⟨k+1,n'+1+1+1+1,n'+1+1+1,_,true,out++[w]++[x],.slq (n'+1+1+1) 0 (out++[w]++[x]).length 0,cs++[wv]++[q],by omega,rfl,rfl,by omega,⟨fun b hb=>?_⟩,⟨by rw [HST.out]; simp⟩,by simp; omega,⟨.inr ⟨by simp,rfl,by omega,by omega,?_,by simp; omega⟩⟩,HR2,by simp [*],by simp [*],by simp [HZ.out.1, *],by simp [*],by simp⟩
     ·simp (disch:=omega) only [gpl,gpn]; exact HG.out b hb
     ·rw [HZ.out.2]; simp (disch:=omega) [gpl,gpn,gpe, *]
    ·subst hs0
     iterate 8 all_goals try first|with_reducible refine spI (fun h=>?_) fun h=>?_|with_reducible refine spB (fun h=>?_) fun h=>?_|simp (maxSteps:=999999) (disch:=first|assumption|omega|(simp;done)|fail) [*]
     refine ih.out (l.length - (k+1)) _ _ (by omega) ⟨k+1,n'+1+1+1+1,n'+1+1+1,_,true,out++[w]++[x],.slq (n'+1+1+1) 0 (out++[w]++[x]).length 0,cs++[wv]++[q],by omega,rfl,rfl,by omega,⟨fun b hb=>?_⟩,⟨by rw [HST.out]; simp⟩,by simp; omega,⟨.inr ⟨by simp,rfl,by omega,by omega,?_,by simp; omega⟩⟩,HR2,by simp [*],by simp [*],by simp [*],by simp [*],by simp⟩
     ·simp (disch:=omega) only [gpl,gpn]; exact HG.out b hb
     ·simp (disch:=omega) [gpl,gpn,gpe, *]
  ·have hc1:¬c < 0:=by omega
   have hc2:c≤0:=by omega
   rw [if_neg (fun h=>hc1 h.1),decide_eq_true hc2,Bool.or_true] at HST
   subst hc
   cases p with
   | true =>
    rcases HGR.out with ⟨ho,hc0,hs0⟩ | ⟨ho,hs0,hB1,hB2,hB3,hB4⟩
    ·subst hs0
     have HZ:=Hide.mk (And.intro ho hc0)
     clear ho hc0
     iterate 8 all_goals try first|with_reducible refine spI (fun h=>?_) fun h=>?_|with_reducible refine spB (fun h=>?_) fun h=>?_|simp (maxSteps:=999999) (disch:=first|assumption|omega|(simp;done)|fail) [*]
     refine ih.out (l.length - (k+1)) _ _ (by omega) ⟨k+1,n'+1+1,n'+1,_,true,out++[x],.slq (n'+1) 0 (out++[x]).length 0,cs++[q],by omega,rfl,rfl,by omega,⟨fun b hb=>?_⟩,⟨by rw [HST.out]; simp⟩,by simp; omega,⟨.inr ⟨by simp,rfl,by omega,by omega,?_,by simp; omega⟩⟩,HR1,by simp [*],by simp [*],by simp [HZ.out.1, *],by simp [*],by simp⟩
     ·simp (disch:=omega) only [gpl,gpn]; exact HG.out b hb
     ·rw [HZ.out.2]; simp (disch:=omega) [gpl,gpn,gpe, *]
    ·subst hs0
     iterate 8 all_goals try first|with_reducible refine spI (fun h=>?_) fun h=>?_|with_reducible refine spB (fun h=>?_) fun h=>?_|simp (maxSteps:=999999) (disch:=first|assumption|omega|(simp;done)|fail) [*]
     refine ih.out (l.length - (k+1)) _ _ (by omega) ⟨k+1,n'+1+1,n'+1,_,true,out++[x],.slq (n'+1) 0 (out++[x]).length 0,cs++[q],by omega,rfl,rfl,by omega,⟨fun b hb=>?_⟩,⟨by rw [HST.out]; simp⟩,by simp; omega,⟨.inr ⟨by simp,rfl,by omega,by omega,?_,by simp; omega⟩⟩,HR1,by simp [*],by simp [*],by simp [*],by simp [*],by simp⟩
     ·simp (disch:=omega) only [gpl,gpn]; exact HG.out b hb
     ·simp (disch:=omega) [gpl,gpn,gpe, *]
   | false =>
    rcases HGR.out with ⟨ho,hc0,hs0⟩ | ⟨ho,hs0,hB1,hB2,hB3,hB4⟩
    ·subst hs0
     have HZ:=Hide.mk (And.intro ho hc0)
     clear ho hc0
     iterate 8 all_goals try first|with_reducible refine spI (fun h=>?_) fun h=>?_|with_reducible refine spB (fun h=>?_) fun h=>?_|simp (maxSteps:=999999) (disch:=first|assumption|omega|(simp;done)|fail) [*]
     refine ih.out (l.length - (k+1)) _ _ (by omega) ⟨k+1,n'+1+1,n'+1,_,true,out++[x],.slq (n'+1) 0 (out++[x]).length 0,cs++[q],by omega,rfl,rfl,by omega,⟨fun b hb=>?_⟩,⟨by rw [HST.out]; simp⟩,by simp; omega,⟨.inr ⟨by simp,rfl,by omega,by omega,?_,by simp; omega⟩⟩,HR1,by simp [*],by simp [*],by simp [HZ.out.1, *],by simp [*],by simp⟩
     ·simp (disch:=omega) only [gpl,gpn]; exact HG.out b hb
     ·rw [HZ.out.2]; simp (disch:=omega) [gpl,gpn,gpe, *]
    ·subst hs0
     iterate 8 all_goals try first|with_reducible refine spI (fun h=>?_) fun h=>?_|with_reducible refine spB (fun h=>?_) fun h=>?_|simp (maxSteps:=999999) (disch:=first|assumption|omega|(simp;done)|fail) [*]
     refine ih.out (l.length - (k+1)) _ _ (by omega) ⟨k+1,n'+1+1,n'+1,_,true,out++[x],.slq (n'+1) 0 (out++[x]).length 0,cs++[q],by omega,rfl,rfl,by omega,⟨fun b hb=>?_⟩,⟨by rw [HST.out]; simp⟩,by simp; omega,⟨.inr ⟨by simp,rfl,by omega,by omega,?_,by simp; omega⟩⟩,HR1,by simp [*],by simp [*],by simp [*],by simp [*],by simp⟩
     ·simp (disch:=omega) only [gpl,gpn]; exact HG.out b hb
     ·simp (disch:=omega) [gpl,gpn,gpe, *]
  ·have hc1:¬c < 0:=by omega
   have hc2:¬c≤0:=by omega
   have hc3:¬c=0:=by omega
   rw [if_neg (fun h=>hc1 h.1),decide_eq_false hc2,Bool.or_false] at HST
   cases p with
   | true =>
    rcases HGR.out with ⟨ho,hc0,hs0⟩ | ⟨ho,hs0,hB1,hB2,hB3,hB4⟩
    ·subst hs0
     have HZ:=Hide.mk (And.intro ho hc0)
     clear ho hc0
     iterate 8 all_goals try first|with_reducible refine spI (fun h=>?_) fun h=>?_|with_reducible refine spB (fun h=>?_) fun h=>?_|simp (maxSteps:=999999) (disch:=first|assumption|omega|(simp;done)|fail) [*]
     refine ih.out (l.length - (k+1)) _ _ (by omega) ⟨k+1,n'+1+1,n'+1,_,true,out++[x],.slq (n'+1) 0 (out++[x]).length 0,cs++[q],by omega,rfl,rfl,by omega,⟨fun b hb=>?_⟩,⟨by rw [HST.out]; simp⟩,by simp; omega,⟨.inr ⟨by simp,rfl,by omega,by omega,?_,by simp; omega⟩⟩,HR1,by simp [*],by simp [*],by simp [HZ.out.1, *],by simp [*],by simp⟩
     ·simp (disch:=omega) only [gpl,gpn]; exact HG.out b hb
     ·rw [HZ.out.2]; simp (disch:=omega) [gpl,gpn,gpe, *]
    ·subst hs0
     iterate 8 all_goals try first|with_reducible refine spI (fun h=>?_) fun h=>?_|with_reducible refine spB (fun h=>?_) fun h=>?_|simp (maxSteps:=999999) (disch:=first|assumption|omega|(simp;done)|fail) [*]
     refine ih.out (l.length - (k+1)) _ _ (by omega) ⟨k+1,n'+1+1,n'+1,_,true,out++[x],.slq (n'+1) 0 (out++[x]).length 0,cs++[q],by omega,rfl,rfl,by omega,⟨fun b hb=>?_⟩,⟨by rw [HST.out]; simp⟩,by simp; omega,⟨.inr ⟨by simp,rfl,by omega,by omega,?_,by simp; omega⟩⟩,HR1,by simp [*],by simp [*],by simp [*],by simp [*],by simp⟩
     ·simp (disch:=omega) only [gpl,gpn]; exact HG.out b hb
     ·simp (disch:=omega) [gpl,gpn,gpe, *]
   | false =>
    rcases HGR.out with ⟨ho,hc0,hs0⟩ | ⟨ho,hs0,hB1,hB2,hB3,hB4⟩
    ·subst hs0
     have HZ:=Hide.mk (And.intro ho hc0)
     clear ho hc0
     iterate 8 all_goals try first|with_reducible refine spI (fun h=>?_) fun h=>?_|with_reducible refine spB (fun h=>?_) fun h=>?_|simp (maxSteps:=999999) (disch:=first|assumption|omega|(simp;done)|fail) [*]
     refine ih.out (l.length - (k+1)) _ _ (by omega) ⟨k+1,n'+1+1,n'+1,_,false,out++[x],.slq (n'+1) 0 (out++[x]).length 0,cs++[q],by omega,rfl,rfl,by omega,⟨fun b hb=>?_⟩,⟨by rw [HST.out]; simp⟩,by simp; omega,⟨.inr ⟨by simp,rfl,by omega,by omega,?_,by simp; omega⟩⟩,HR1,by simp [*],by simp [*],by simp [HZ.out.1, *],by simp [*],by simp⟩
     ·simp (disch:=omega) only [gpl,gpn]; exact HG.out b hb
     ·rw [HZ.out.2]; simp (disch:=omega) [gpl,gpn,gpe, *]
    ·subst hs0
     iterate 8 all_goals try first|with_reducible refine spI (fun h=>?_) fun h=>?_|with_reducible refine spB (fun h=>?_) fun h=>?_|simp (maxSteps:=999999) (disch:=first|assumption|omega|(simp;done)|fail) [*]
     refine ih.out (l.length - (k+1)) _ _ (by omega) ⟨k+1,n'+1+1,n'+1,_,false,out++[x],.slq (n'+1) 0 (out++[x]).length 0,cs++[q],by omega,rfl,rfl,by omega,⟨fun b hb=>?_⟩,⟨by rw [HST.out]; simp⟩,by simp; omega,⟨.inr ⟨by simp,rfl,by omega,by omega,?_,by simp; omega⟩⟩,HR1,by simp [*],by simp [*],by simp [*],by simp [*],by simp⟩
     ·simp (disch:=omega) only [gpl,gpn]; exact HG.out b hb
     ·simp (disch:=omega) [gpl,gpn,gpe, *]
 ·have hltI:¬(k:Int) < (l.length:Int):=by omega
  have hcl:cs.length=out.length:=HRW.out.1
  have hol2:out.length≤200000:=by omega
  have HR1:=Hide.mk (HRW.out.snoc HW.out)
  rw [List.drop_eq_nil_of_le (by omega)] at HRES
  cases p with
  | true =>
   have hRE:RES=out:=by rw [HRES.out]; simp [addM]
   subst hRE
   iterate 8 all_goals try first|with_reducible refine spI (fun h=>?_) fun h=>?_|with_reducible refine spB (fun h=>?_) fun h=>?_|simp (maxSteps:=999999) (disch:=first|assumption|omega|(simp;done)|fail) [Tryz.results75, *]
   exact ⟨_,_,_,⟨rfl,rfl,rfl⟩,hn',HG.out,B,cs,HGR.out,HRW.out⟩
  | false =>
   have hRE:RES=out++[w]:=by rw [HRES.out]; simp [addM]
   subst hRE
   rcases HGR.out with ⟨ho,hc0,hs0⟩ | ⟨ho,hs0,hB1,hB2,hB3,hB4⟩
   ·subst hs0
    subst hc0
    iterate 8 all_goals try first|with_reducible refine spI (fun h=>?_) fun h=>?_|with_reducible refine spB (fun h=>?_) fun h=>?_|simp (maxSteps:=999999) (disch:=first|assumption|omega|(simp;done)|fail) [Tryz.results75, *]
    exact ⟨_,_,_,⟨rfl,rfl,rfl⟩,by omega,fun b hb=>by simp (disch:=omega) only [gpl]; exact HG.out b hb,n'+1,[wv],.inr ⟨by omega,rfl,by omega,by omega,gpe,rfl⟩,HR1.out⟩
   ·subst hs0
    iterate 8 all_goals try first|with_reducible refine spI (fun h=>?_) fun h=>?_|with_reducible refine spB (fun h=>?_) fun h=>?_|simp (maxSteps:=999999) (disch:=first|assumption|omega|(simp;done)|fail) [Tryz.results75, *]
    exact ⟨_,_,_,⟨rfl,rfl,rfl⟩,by omega,fun b hb=>by simp (disch:=omega) only [gpl,gpn]; exact HG.out b hb,n'+1,cs++[wv],.inr ⟨by omega,rfl,by omega,by omega,gpe,by simp; omega⟩,HR1.out⟩
end Go.Ai
end
