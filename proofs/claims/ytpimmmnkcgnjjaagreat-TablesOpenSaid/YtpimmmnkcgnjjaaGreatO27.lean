/- A small verified interpreter over names, its proofs, and what was proved with it. No condition. -/
import Derived.Test.YtpimmmnkcgnjjaaGreatO26
import Derived.Test.YtpimmmnkcgnjjaaGreatO13
import Derived.Test.YtpimmmnkcgnjjaaGreatO14
set_option linter.all false
set_option linter.deprecated false
section
namespace Go.Ai
open Go.Proofs Go.Proofs.Tryz
set_option maxRecDepth 10000
set_option maxHeartbeats 40000000
variable {k I:Nat} {T:Tq} {E S:Wq}
def a4d (p:Wd->Bool) (ws:Wq) (s k:Nat) : Prop:=∀ j w,s<=j->j<k->ws[j]?=some w->p w=false
theorem a4d.step {p:Wd->Bool} {ws:Wq} {s:Nat} {w:Wd} (h:a4d p ws s k) (hk:ws[k]?=some w) (hw:s<=k->p w=false) : a4d p ws s (k+1):=by
 intro j v h1 h2 h3;by_cases e:j=k
 ·subst e;rw[hk] at h3;cases h3;exact hw h1
 ·exact h j v h1 (by omega) h3
theorem a4d.none (h:a4d (a1n T E (Al T E S)) (Ak I S) S.length (Ak I S).length) : Cn T E I S=none:=by
 unfold Cn;rw[List.find?_eq_none];intro w hw;obtain⟨j,hj,rfl⟩:=g5u hw;have:=h (S.length+j) (a1m I S)[j] (by omega) (by unfold Ak;simp;omega) (by unfold Ak;rw[Em (by omega)];simp[hj]);simp[this]
theorem a4d.some {w:Wd} (h:a4d (a1n T E (Al T E S)) (Ak I S) S.length k) (hk:(Ak I S)[k]?=some w) (hs:S.length<=k) (hw:a1n T E (Al T E S) w=true) : Cn T E I S=some w:=by
 unfold Cn;rw[List.find?_eq_some_iff_getElem];unfold Ak at hk;rw[Em hs] at hk;obtain⟨h1,h2⟩:=Eb.1 hk;refine⟨hw,k-S.length,h1,h2,fun j hj=>?_⟩;have:=h (S.length+j) ((a1m I S)[j]'(by omega)) (by omega) (by omega) (by unfold Ak;rw[Em (by omega)];simp[show j<(a1m I S).length by omega]);simp[this]
def OpI (g:Gb) (n A:Nat) (cs:List AV) (P:Nat->Prop) (k:Nat) (gL:Gb) (n2:Nat) : Prop :=
 (∀ b,b<n->gL b=g b)/\n+5<=n2/\gL n=some (.cells cs true 0)/\gL (n+1)=some (.cells [.map A] true 0)/\gL (n+1+1)=some (.cells [.nl] true 0)/\gL (n+1+1+1)=some (.cells [.li k] true 0)/\gL (n+1+1+1+1)=some (.cells cs true 0)/\P k
theorem OpI.keep {g gP gL:Gb} {n A nP n2:Nat} {cs:List AV} {P:Nat->Prop} (h:OpI g n A cs P k gP nP) (hn:nP<=n2) (hg:∀ b,b<nP->gL b=gP b) : OpI g n A cs P k gL n2:=by
 obtain⟨h1,h2,h3,h4,h5,h6,h7,h8⟩:=h;exact⟨fun b hb=>(hg b (by omega)).trans (h1 b hb),by omega,(hg _ (by omega)).trans h3,(hg _ (by omega)).trans h4,(hg _ (by omega)).trans h5,(hg _ (by omega)).trans h6,(hg _ (by omega)).trans h7,h8⟩
theorem d8k {O:Int} (hp:a2a I O S E T) (hS9:∀ w∈S,w.length<=299) (c1 c4 c5:AV) (hc:allOne [c1,c4,c5]=true) (g:Gb) (n A:Nat) (sv ev tv:AV) (hS:Bj g n S sv) (hEV:Bj g n E ev) (hT:Bw g n T tv) (hA:A<n) (hst:StB g A (Al T E S)) :
  WC 0 prog 81 [.agg [.li I,c1,sv,ev,c4,c5,tv],.map A] ⟨.fn g,n⟩ fun r=>∃ rv g' n',r=.ret rv ⟨.fn g',n'⟩/\n<=n'/\(∀ b,b<n->g' b=g b)/\Aj g' n' ((Cn T E I S).getD []) rv:=by
 have h1s:=hS.choose_spec.1.one;have h1e:=hEV.choose_spec.1.one;have h1t:=hT.choose_spec.1.one;have hone:allOne [.li I,c1,sv,ev,c4,c5,tv]=true:=by
  simp only[a3j,Dq] at hc |-;simp[hc,h1s,h1e,h1t]
 have hc6:allOne [.li I,c1,sv,ev,c4,c5]=true:=by
  simp only[a3j,Dq] at hc |-;simp[hc,h1s,h1e]
 have hc5:allOne [.li I,c1,sv,c4,c5]=true:=by
  simp only[a3j,Dq] at hc |-;simp[hc,h1s]
 have hlen:=@Am prog _ _ _ _ _ hS.choose_spec.1;have HCN:=Aa.mk fun (w:Wd) (hwl:w.length<=300) (hin:inW w I=true) (gX:Gb) (n2:Nat) (wv:AV) (hn:n<=n2) (hX:∀ b,b<n->gX b=g b) (hw:Aj gX n2 w wv)=>c7p hp.t0 hp.ok (w:=w) (by omega) hin (.li I) c1 sv ev c4 c5 hc6 gX n2 tv wv (hT.mono hn hX) hw;have HRW:=Aa.mk fun (w:Wd) (hwl:w.length<=300) (hin:inW w I=true) (gX:Gb) (n2:Nat) (wv:AV) (hn:n<=n2) (hX:∀ b,b<n->gX b=g b) (hw:Aj gX n2 w wv)=>c7h hp.t0 hp.ok (w:=w) (E:=E) hwl (by have:=hp.el;omega) hin hp.ew (.li I) c1 sv c4 c5 hc5 gX n2 ev tv wv (hEV.mono hn hX) (hT.mono hn hX) hw;obtain⟨L,c,hgA,hL⟩:=hst;have HL:=Aa.mk hL;have HP:=Aa.mk hp;have hi2:=hp.i2;have hsl:=hp.sl;obtain⟨RS,hRS⟩ : ∃ x,x=(Cn T E I S).getD []:=⟨_,rfl⟩;rw[<- hRS];have HRS:=Aa.mk hRS;clear hL hRS hEV hT;refine WC.enterR (Ah _ _) hG pl81 func81 rfl (by decide +kernel) (Dp (by kernel_rfl)) ?_
 iterate 8 all_goals try first|apply spl<;>intro h|simp (disch:=first|assumption|omega|simp) [*]
 refine WC.mono (d7k _ _ _ _ _ _ _ hone _ _) ?_;rintro _ rfl
 iterate 8 all_goals try first|apply spl<;>intro h|simp (disch:=first|assumption|omega|simp) [*]
 refine d7j (I:=I) (by omega) (by omega) (fun w hw=>(hp.sw w hw).1) c1 ev c4 c5 tv g n (n+1+1+1+1) sv hS (by simp) (by decide +kernel) (OpI g n A [.li I,c1,sv,ev,c4,c5,tv] (a4d (a1n T E (Al T E S)) (Ak I S) S.length)) (fun g' n'=>n<=n'/\(∀ b,b<n->g' b=g b)/\∃ wv,g' (n+1+1)=some (.cells [wv] true 0)/\Aj g' n' RS wv) ?_ ?_ ?_ ?_ ?_
 ·rintro k gL n2 ⟨h1,h2,h3,h4,h5,h6,h7,h8⟩;exact⟨h1,by omega,by omega,h7⟩
 ·intro k w gP nP gL n2 gk wv K' hk HI hn2 hgP hgk hrw HK1 HK2;refine YB.enter rfl ?_;unfold WN;have HK:=Aa.mk HK1;have HKS:=Aa.mk HK2;have HWK:=Aa.mk hk;obtain⟨h1,h2,h3,h4,h5,h6,h7,h8⟩:=HI.keep hn2 hgP;have HG:=Aa.mk h1;have HN:=Aa.mk h8;obtain⟨hwl,hwi⟩:=b4x HP.out.sw hk;have hw3:w.length<=300:=by
   unfold Ak at hk;by_cases hks:k<S.length
   ·rw[g3t hks] at hk;have:=hS9 w (En hk);omega
   ·rw[Em (by omega)] at hk;obtain⟨s,hs,h⟩:=g4i.1 (En hk);obtain⟨i,_,rfl⟩:=Eg.1 h;have:=hS9 s hs;rw[Dr,Ef];omega
  have hk80:k<=80:=by
   have h9:=(Eb.1 hk).1;rw[b4w] at h9;have:=g3w hsl hi2;omega
  have HGK:Aa (∀ a z,gk a=some z->gL a=some z/\a≠n+1+1+1/\a<n2):=⟨fun a z hz=>by
   have:=hgk a z hz;have:=HI.2.1;exact⟨(hgk a z hz).1,by omega,by omega⟩⟩
  have HRG:=Aa.mk hrw;have HGN:Aa (∀ a z,gk a=some z->a≠n+1+1):=⟨fun a z hz=>by
   have:=hgk a z hz;have:=HI.2.1;omega⟩
  have hq:Aj gL n2 w wv:=Af.ext (Dm _) (fun a z _ hz=>(hgk a z hz).1) hrw;have h1w:=hq.one;have h2w:allOne [wv]=true:=by simp[h1w]
  have hcw:=hq.cell;have HQ:=Aa.mk hq;clear HK1 HK2 hk HI hgP hgk hrw h1 h8 hq;have hsym:a4q (Ax T E w):=c7o HP.out.o2 (c7q HP.out);have hlk:=HL.out.1 _ hsym;have hrl:(Ax T E w).length<=6000:=by
   have:=b5a (T:=T) (w:=w) fun e he=>(HP.out.ew e he).2.1;have:=HP.out.el;omega
  have HSY:=Aa.mk hsym;have HRD:Aa (Ax T E w=(Bk T w E).getD []):=⟨rfl⟩;have HLK:=Aa.mk hlk;have hgL:gL A=some (.map (a0z L) c):=(HG.out A hA).trans hgA;clear hsym hlk;have HKI:Aa (∀ (g3:Gb) (n3:Nat),n2<=n3->(∀ b,b<n2->b≠n+1+1+1->g3 b=gL b)->g3 (n+1+1+1)=some (.cells [.li ((k:Int)+1)] true 0)->(S.length<=k->a1n T E (Al T E S) w=false)->K' true none ⟨.fn g3,n3⟩):=⟨fun g3 n3 q1 q2 q3 q4=>HK.out _ _ ⟨fun b hb=>(q2 b (by omega) (by omega)).trans (HG.out b hb),by omega,(q2 _ (by omega) (by omega)).trans h3,(q2 _ (by omega) (by omega)).trans h4,(q2 _ (by omega) (by omega)).trans h5,q3,(q2 _ (by omega) (by omega)).trans h7,HN.out.step HWK.out q4⟩⟩;by_cases hks:k<S.length
  ·have hkI:(k:Int)+1<=(S.length:Int):=by omega
   iterate 8 all_goals try first|apply spl<;>intro h|simp (disch:=first|assumption|omega|simp) [*]
   refine HKI.out _ _ (by omega) (fun b _ hb=>?_) ?_ (by omega)
   ·simp (disch:=omega) only[Ae]
   ·exact Ag
  ·have hkI:¬(k:Int)+1<=(S.length:Int):=by omega
   iterate 8 all_goals try first|apply spl<;>intro h|simp (disch:=first|assumption|omega|simp) [*]
   refine WC.mono (HCN.out w hw3 hwi _ _ wv (by omega) (fun b hb=>?_) (Af.ext (Dm _) (fun a z _ hz=>?_) HRG.out)) ?_
   ·simp (disch:=omega) only[Ae];exact HG.out b hb
   ·have:=HGK.out a z hz;rw[Ae this.2.1];exact this.1
   rintro _ ⟨g3,n3,rfl,hn3,hg3⟩;have HG3:Aa (∀ b,b<n2->b≠n+1+1+1->g3 b=gL b):=⟨fun b hb h9=>(hg3 b hb).trans (Ae h9)⟩;have hc3:=(hg3 (n+1+1+1) (by omega)).trans Ag;clear hg3
   cases hcn:Ca T w with
   | false =>
    have hop:a1n T E (Al T E S) w=false:=by unfold a1n;rw[hcn];rfl
    have HOP:=Aa.mk hop;clear hcn hop
    iterate 8 all_goals try first|apply spl<;>intro h|simp (disch:=first|assumption|omega|simp) [*]
    exact HKI.out _ _ (by omega) (fun b h1 h2=>HG3.out b h1 h2) hc3 (fun _=>HOP.out)
   | true =>
    have hg31:=HG3.out n (by omega) (by omega);have hg32:=HG3.out (n+1) (by omega) (by omega);have hg33:=HG3.out (n+1+1) (by omega) (by omega);rw[h3] at hg31;rw[h4] at hg32;rw[h5] at hg33;clear h3 h4 h5 h6;have hw3q:Aj g3 n3 w wv:=Af.ext (by omega) (fun a z _ hz=>by
     have:=HGK.out a z hz;exact(HG3.out a this.2.2 this.2.1).trans this.1) HRG.out
    have HRO:=Aa.mk (HRW.out w hw3 hwi g3 n3 wv (by omega) (fun b hb=>(HG3.out b (by omega) (by omega)).trans (HG.out b hb)) hw3q);clear hw3q
    iterate 8 all_goals try first|apply spl<;>intro h|simp (disch:=first|assumption|omega|simp) [*]
    refine WC.mono HRO.out ?_;rintro _ ⟨rv,g4,n4,rfl,hn4,hg4,hrk⟩;have HG4:Aa (∀ b,b<n2->b≠n+1+1+1->g4 b=gL b):=⟨fun b h1 h2=>(hg4 b (by omega)).trans (HG3.out b h1 h2)⟩;have hg41:=(hg4 n (by omega)).trans hg31;have hg42:=(hg4 (n+1) (by omega)).trans hg32;have hg43:=(hg4 (n+1+1) (by omega)).trans hg33;have hc4':=(hg4 (n+1+1+1) (by omega)).trans hc3;have hgA4:=(HG4.out A (by omega) (by omega)).trans hgL;have hrep:=hrk.rep;rw[<- HRD.out] at hrep;have h1r:=hrep.one;have HREP:=Aa.mk hrep;have HOE:Aa (a1n T E (Al T E S) w=(Ch (Al T E S) (Ax T E w)).isNone):=⟨by unfold a1n;rw[hcn];rfl⟩;clear hg4 hrk hrep HRO hg31 hg32 hg33 hc3 hcn HRD HCN HRW hgL hgA;generalize Ax T E w=r at *;generalize Bk T w E=ru at *
    iterate 8 all_goals try first|apply spl<;>intro h|simp (disch:=first|assumption|omega|simp) [*]
    all_goals
     refine WC.mono (c2b r (by omega) HSY.out g4 n4 rv HREP.out) ?_;rintro _ rfl;have hlk:=HLK.out
     cases hst:Ch (Al T E S) r with
     | some j =>
      rw[hst] at hlk HOE;have HOP:Aa (a1n T E (Al T E S) w=false):=⟨HOE.out⟩;have hlk2:a0p (Bu r) L=some (j:Int):=hlk;clear hst hlk
      iterate 8 all_goals try first|apply spl<;>intro h|simp (disch:=first|assumption|omega|simp) [*]
      exact HKI.out _ _ (by omega) (fun b h1 h2=>HG4.out b h1 h2) hc4' (fun _=>HOP.out)
     | none =>
      rw[hst] at hlk HOE;have hr:=HRS.out.trans (congrArg (fun o=>o.getD []) (a4d.some HN.out HWK.out (by omega) HOE.out));have hlk2:a0p (Bu r) L=none:=hlk;have HW4:Aa (Aj (Ap g4 (n+1+1) (some (.cells [wv] true 0))) n4 w wv):=⟨Af.ext (by omega) (fun a z _ hz=>by
       have:=HGK.out a z hz;have h10:=HGN.out a z hz;rw[Ae h10];exact(HG4.out a this.2.2 this.2.1).trans this.1) HRG.out⟩
      have HRR:=Aa.mk hr;clear hst hlk hr
      iterate 8 all_goals try first|apply spl<;>intro h|simp (disch:=first|assumption|omega|simp) [*]
      refine HKS.out _ _ ⟨by omega,fun b hb=>?_,wv,Ag,?_⟩
      ·simp (disch:=omega) only[Ad,Ae];exact(HG4.out b (by omega) (by omega)).trans (HG.out b hb)
      ·rw[HRR.out];exact HW4.out
 ·refine⟨fun b hb=>?_,by omega,?_,?_,?_,?_,Ag,fun j w h1 h2=>by omega⟩
  all_goals first|(simp (disch:=omega) only[Ad,Ag];done)|(simp (disch:=omega) only[Ad,Ag];rfl)
 ·intro gL n2 HI;obtain⟨h1,h2,h3,h4,h5,h6,h7,h8⟩:=HI;have hr:RS=[]:=by rw[HRS.out,h8.none];rfl
  subst hr;have HG:=Aa.mk h1;clear h1 h8 HRS
  iterate 8 all_goals try first|apply spl<;>intro h|simp (disch:=first|assumption|omega|simp) [*]
  refine⟨_,_,_,⟨rfl,rfl,rfl⟩,by omega,fun b hb=>?_,.inl ⟨rfl,rfl,.inl rfl⟩⟩;rw[Ae (by omega)];exact HG.out b hb
 ·rintro g' n' ⟨h1,h2,wv,h3,h4⟩;have HG:=Aa.mk h2;have HQ:=Aa.mk h4;clear h2 h4
  iterate 8 all_goals try first|apply spl<;>intro h|simp (disch:=first|assumption|omega|simp) [*]
  exact⟨_,_,_,⟨rfl,rfl,rfl⟩,h1,HG.out,HQ.out⟩
end Go.Ai
end

