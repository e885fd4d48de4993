/- A small verified interpreter over names, its proofs, and what was proved with it. No condition. -/
import Derived.Test.YtpimmmnkcgnjjaaGreatO26
import Derived.Test.YtpimmmnkcgnjjaaGreatO27
import Derived.Test.YtpimmmnkcgnjjaaGreatO09
import Derived.Test.YtpimmmnkcgnjjaaGreatO21
set_option linter.all false
set_option linter.deprecated false
section
namespace Go.Ai
open Go.Proofs Go.Proofs.Tryz
set_option maxRecDepth 10000
set_option maxHeartbeats 40000000
variable {I:Nat} {T:Tq} {O:Int} {S E:Wq}
theorem d8l (h0:0<T.length) (hok:∀ r∈T,r.length=I/\∀ e∈r,e.1 = -1\/(0<=e.1/\e.1<T.length)) {w:Wd} (hwl:w.length<=1000) (hin:inW w I=true) (c0 c1 c2 c3:AV) (hc:allOne [c0,c1,c2,c3]=true) (g:Gb) (n:Nat) (tv wv:AV) (hT:Bw g n T tv) (hw:Aj g n w wv) :
  WC 0 prog 87 [.agg [c0,c1,c2,c3,.li I,.li O,tv],wv] ⟨.fn g,n⟩ fun r=>∃ g' n',r=.ret (.lit (.bool (Ca T w))) ⟨.fn g',n'⟩/\n<=n'/\∀ b,b<n->g' b=g b:=by
 have h1t:=hT.choose_spec.1.one;have hone:allOne [c0,c1,c2,c3,.li I,.li O,tv]=true:=by
  simp only[a3j,Dq] at hc |-;simp[hc,h1t]
 have hlen:=@Am prog _ _ _ _ _ hw;have HK:=Aa.mk fun (gX:Gb) (n2:Nat) (hn:n<=n2) (hX:∀ b,b<n->gX b=g b)=>c1u (O:=O) h0 hok hwl hin gX n2 tv wv (hT.mono hn hX) (Af.mono hn hX hw);obtain⟨ret,hret⟩ : ∃ c,c=Ca T w:=⟨_,rfl⟩;rw[<- hret];have HRET:=Aa.mk hret;have HAL:Aa (∀ u,Bf T 0 w=some u->u.length=w.length):=⟨fun u hu=>b1b _ _ _ hu⟩;clear hT hw hok hin hc hret;refine ent [] func87 rfl (by decide +kernel) (by kernel_rfl) ?_
 iterate 8 all_goals try first|apply spl<;>intro h|simp (disch:=first|assumption|omega|simp) [*]
 refine WC.mono (HK.out _ _ (by omega) fun b hb=>Ad hb) ?_;rintro _ ⟨rv,g1,n1,rfl,hn1,hg1,hans⟩;have HG1:Aa (∀ b,b<n->g1 b=g b):=⟨fun b hb=>(hg1 b (by omega)).trans (Ad hb)⟩;clear hg1 HK;by_cases hw0:w.length=0
 ·have hwn:w=[]:=g3r.1 hw0;subst hwn;have hr:ret=true:=by rw[HRET.out];rfl
  clear hans;generalize (Bf T 0 []).isSome=bb
  iterate 8 all_goals try first|apply spl<;>intro h|simp (disch:=first|assumption|omega|simp) [*]
  all_goals exact⟨_,_,⟨rfl,rfl⟩,by omega,HG1.out⟩
 have hw0I:¬((w.length:Int)=0):=by omega
 cases hA:Bf T 0 w with
 | none =>
  rw[hA] at hans;have hr:ret=false:=by rw[HRET.out];unfold Ca;rw[hA]
  have hrv:rv=.nl:=hans;subst hrv;clear hans hA;simp only[Option.isSome]
  iterate 8 all_goals try first|apply spl<;>intro h|simp (disch:=first|assumption|omega|simp) [*]
  exact⟨_,_,⟨rfl,rfl⟩,by omega,HG1.out⟩
 | some u =>
  rw[hA] at hans;have hrep:=hans.1.rep;have hlenu:=@Am prog _ _ _ _ _ hrep;have hul:=HAL.out u hA;simp only[g5a];obtain⟨m,hm⟩ : ∃ m,u.length=m+1:=⟨u.length-1,by omega⟩;obtain⟨a2,o2,ha2,hia2,hc2⟩:=Aj.at hrep (k:=m) (by omega);have hr:ret = !decide (u[m]'(by omega) = -1):=by rw[HRET.out];exact d8h hA hm
  have hmI:(m:Int)<=1000:=by omega
  rw[hm] at hlenu;clear hans hA hrep;generalize u[m]'(by omega)=x at *;clear hm hul
  iterate 8 all_goals try first|apply spl<;>intro h|simp (disch:=first|assumption|omega|simp) [*]
  all_goals exact⟨_,_,⟨rfl,rfl⟩,by omega,HG1.out⟩
theorem g2r {rows:Wq} {r:Wd} {k:Nat} (h:∀ j (hj:j<rows.length),j<k->rows[j]≠r) (hk:k<rows.length) (e:rows[k]=r) : Ch rows r=some k:=by
 unfold Ch;rw[List.findIdx?_eq_some_iff_getElem];exact⟨hk,by simp[e],fun j hj=>by simpa using h j (by omega) hj⟩
def stV (rows:Wq) (r:Wd) : Int:=match Ch rows r with|some k=>k|none=>-1
theorem d8m (hp:a2a I O S E T) {r:Wd} (hrl:r.length<=10000) (g:Gb) (n:Nat) (sv ev tv rv:AV) (hS:Bj g n S sv) (hEV:Bj g n E ev) (hT:Bw g n T tv) (hr:Aj g n r rv) :
  WC 0 prog 86 [.agg [.li I,.li O,sv,ev,.li I,.li O,tv],rv] ⟨.fn g,n⟩ fun ret=>∃ g' n',ret=.ret (.li (stV (Al T E S) r)) ⟨.fn g',n'⟩/\n<=n'/\∀ b,b<n->g' b=g b:=by
 have h1s:=hS.choose_spec.1.one;have h1e:=hEV.choose_spec.1.one;have h1t:=hT.choose_spec.1.one;have hone:allOne [.li I,.li O,sv,ev,.li I,.li O,tv]=true:=by simp[h1s,h1e,h1t]
 have hlenS:=@Am prog _ _ _ _ _ hS.choose_spec.1;have HS:=Aa.mk hS;have HR:=Aa.mk hr;have HP:=Aa.mk hp;have HRW:=Aa.mk fun (w:Wd) (hwl:w.length<=300) (hin:inW w I=true) (gX:Gb) (n2:Nat) (wv:AV) (hn:n<=n2) (hX:∀ b,b<n->gX b=g b) (hw:Aj gX n2 w wv)=>c7f (O:=O) hp.t0 hp.ok (w:=w) (E:=E) hwl (by have:=hp.el;omega) hin hp.ew sv h1s gX n2 ev tv wv (hEV.mono hn hX) (hT.mono hn hX) hw;have hsl:=hp.sl;obtain⟨RES,hRES⟩ : ∃ x,x=stV (Al T E S) r:=⟨_,rfl⟩;rw[<- hRES];have HE1:Aa (∀ k (h:k<S.length),(∀ j (hj:j<S.length),j<k->Ax T E S[j]≠r)->Ax T E S[k]=r->RES=k):=⟨fun k h h1 h2=>by
  rw[hRES];unfold stV;rw[g2r (k:=k) (fun j hj hjk=>by unfold Al at hj |-;rw[g4v];exact h1 j (by simpa using hj) hjk) (by rw[d8i];exact h) (by unfold Al;rw[g4v];exact h2)]⟩
 have HE2:Aa ((∀ j (hj:j<S.length),Ax T E S[j]≠r)->RES = -1):=⟨fun h=>by
  rw[hRES];unfold stV;rw[c1z.2 fun hm=>by
   obtain⟨w,hw,e⟩:=Eg.1 hm;obtain⟨j,hj,rfl⟩:=g5u hw;exact h j hj e]⟩
 clear hS hEV hT hr hp hRES;refine ent pl86 func86 rfl (by decide +kernel) (by kernel_rfl) ?_
 iterate 8 all_goals try first|apply spl<;>intro h|simp (disch:=first|assumption|omega|simp) [*]
 refine LX.ind (fun m gf H'=>∃ (k n2:Nat) (gL:Gb),k<=S.length/\m=S.length-k/\H'=⟨.fn gL,n2⟩/\n+1<=n2/\Aa (∀ b,b<n->gL b=g b)/\gL n=some (.cells [.li I,.li O,sv,ev,.li I,.li O,tv] true 0)/\Aa (∀ j (hj:j<S.length),j<k->Ax T E S[j]≠r) /\
  gf 1=some rv/\gf 2=some (.ptr n 0)/\gf 5=some (.li k)) (m0:=S.length) ?_ ?_
 ·exact⟨0,_,_,Dt _,rfl,rfl,Dm _,⟨fun b hb=>Ad hb⟩,Ag,⟨fun j hj h=>by omega⟩,by simp[*]⟩
 rintro m gf H' ⟨k,n2,gL,hk,rfl,rfl,hn2,HG,hgn,HN,w1,w2,w5⟩ ih;refine rnd pl86 (by decide +kernel) ?_;by_cases hlt:k<S.length
 ·have hltI:(k:Int)<(S.length:Int):=by omega
  obtain⟨a2,o2,qv,ha2,hia2,hc2,hq⟩:=HS.out.at hlt;rw[<- HG.out a2 ha2] at hc2;obtain⟨hwl,hwi⟩:=HP.out.sw _ (Ds hlt);have HRO:=Aa.mk (HRW.out S[k] hwl hwi gL n2 qv (by omega) HG.out (Af.mono (by omega) HG.out hq));have hdl:(Ax T E S[k]).length<=6000:=by
   have:=b5a (T:=T) (w:=S[k]) fun e he=>(HP.out.ew e he).2.1;have:=HP.out.el;omega
  have HE3:Aa (Ax T E S[k]=r->RES=k):=⟨HE1.out k hlt HN.out⟩;have HN2:Aa (Ax T E S[k]≠r->∀ j (hj:j<S.length),j<k+1->Ax T E S[j]≠r):=⟨fun h j hj h2=>by
   by_cases e:j=k
   ·subst e;exact h
   ·exact HN.out j hj (by omega)⟩
  have HRD:Aa (Ax T E S[k]=(Bk T S[k] E).getD []):=⟨rfl⟩;clear hq HN;generalize Ax T E S[k]=d at *;generalize Bk T S[k] E=du at *;generalize S[k]=w at *
  iterate 8 all_goals try first|apply spl<;>intro h|simp (disch:=first|assumption|omega|simp) [*]
  refine WC.mono HRO.out ?_;rintro _ ⟨dv,g3,n3,rfl,hn3,hg3,hdk⟩;have HG3:Aa (∀ b,b<n->g3 b=g b):=⟨fun b hb=>(hg3 b (by omega)).trans (HG.out b hb)⟩;have hgn3:=(hg3 n (by omega)).trans hgn;have hrep:=hdk.rep;rw[<- HRD.out] at hrep;have h1d:=hrep.one;have HSA:=Aa.mk (b4s d r (by omega) (by omega) g3 n3 dv rv hrep (Af.mono (by omega) HG3.out HR.out));clear hg3 hdk hrep HRO
  iterate 8 all_goals try first|apply spl<;>intro h|simp (disch:=first|assumption|omega|simp) [*]
  all_goals
   refine WC.mono HSA.out ?_;rintro _ rfl;by_cases hd:d=r
   ·have hr:RES=k:=HE3.out hd;subst hr;rw[decide_eq_true hd];clear hd HSA
    iterate 8 all_goals try first|apply spl<;>intro h|simp (disch:=first|assumption|omega|simp) [*]
    exact⟨_,_,⟨rfl,rfl⟩,by omega,HG3.out⟩
   ·have HN3:=Aa.mk (HN2.out hd);rw[decide_eq_false hd];clear hd HSA
    iterate 8 all_goals try first|apply spl<;>intro h|simp (disch:=first|assumption|omega|simp) [*]
    exact ih.out (S.length-(k+1)) _ _ (by omega) ⟨k+1,n3,g3,by omega,rfl,rfl,by omega,HG3,hgn3,HN3,by simp[*]⟩
 ·have hltI:¬(k:Int)<(S.length:Int):=by omega
  have hr:RES = -1:=HE2.out fun j hj=>HN.out j hj (by omega);subst hr;clear HN HE1 HE2
  iterate 8 all_goals try first|apply spl<;>intro h|simp (disch:=first|assumption|omega|simp) [*]
  exact⟨_,_,⟨rfl,rfl⟩,by omega,HG.out⟩
theorem g2s (hS9:∀ w∈S,w.length<=299) {k:Nat} {w:Wd} (hk:(Ak I S)[k]?=some w) : w.length<=300:=by
 unfold Ak at hk;by_cases hks:k<S.length
 ·rw[g3t hks] at hk;have:=hS9 w (En hk);omega
 ·rw[Em (by omega)] at hk;obtain⟨s,hs,h⟩:=g4i.1 (En hk);obtain⟨i,_,rfl⟩:=Eg.1 h;have:=hS9 s hs;rw[Dr,Ef];omega
theorem d8n {R:Wq} {w:Wd} : a1n T E R w=(Ca T w && decide (stV R (Ax T E w)<0)):=by
 unfold a1n stV
 cases Ch R (Ax T E w) with
 | none=>rfl
 | some k=>simp
theorem d8o (hp:a2a I O S E T) (hS9:∀ w∈S,w.length<=299) (g:Gb) (n:Nat) (sv ev tv:AV) (hS:Bj g n S sv) (hEV:Bj g n E ev) (hT:Bw g n T tv) :
  WC 0 prog 35 [.agg [.li I,.li O,sv,ev,.li I,.li O,tv]] ⟨.fn g,n⟩ fun r=>∃ rv g' n',r=.ret (.tup [rv,.lit (.bool (Cn T E I S).isSome)]) ⟨.fn g',n'⟩/\n<=n'/\(∀ b,b<n->g' b=g b)/\Aj g' n' ((Cn T E I S).getD []) rv:=by
 have h1s:=hS.choose_spec.1.one;have h1e:=hEV.choose_spec.1.one;have h1t:=hT.choose_spec.1.one;have hone:allOne [.li I,.li O,sv,ev,.li I,.li O,tv]=true:=by simp[h1s,h1e,h1t]
 have hc4:allOne [.li I,.li O,sv,ev]=true:=by simp[h1s,h1e]
 have hlenS:=@Am prog _ _ _ _ _ hS.choose_spec.1;have HWD:=Aa.mk (d7a (I:=I) (by have:=hp.i2;omega) (S:=S) (by have:=hp.sl;omega) hp.s0 (fun w hw=>(hp.sw w hw).1) (.li O) ev (.li I) (.li O) tv rfl h1e rfl rfl h1t (Ap g n (some (.cells [.li I,.li O,sv,ev,.li I,.li O,tv] true 0))) (n+1) sv (hS.mono (by omega) fun b hb=>Ad hb));have HP:=Aa.mk hp;have HS9:=Aa.mk hS9;have HRW:=Aa.mk fun (w:Wd) (hwl:w.length<=300) (hin:inW w I=true) (gX:Gb) (n2:Nat) (wv:AV) (hn:n<=n2) (hX:∀ b,b<n->gX b=g b) (hw:Aj gX n2 w wv)=>c7f (O:=O) hp.t0 hp.ok (w:=w) (E:=E) hwl (by have:=hp.el;omega) hin hp.ew sv h1s gX n2 ev tv wv (hEV.mono hn hX) (hT.mono hn hX) hw;have HCN:=Aa.mk fun (w:Wd) (hwl:w.length<=300) (hin:inW w I=true) (gX:Gb) (n2:Nat) (wv:AV) (hn:n<=n2) (hX:∀ b,b<n->gX b=g b) (hw:Aj gX n2 w wv)=>d8l (O:=O) hp.t0 hp.ok (w:=w) (by omega) hin (.li I) (.li O) sv ev hc4 gX n2 tv wv (hT.mono hn hX) hw;have HSV:=Aa.mk fun (r:Wd) (hrl:r.length<=6000) (gX:Gb) (n2:Nat) (rv:AV) (hn:n<=n2) (hX:∀ b,b<n->gX b=g b) (hr:Aj gX n2 r rv)=>d8m hp (r:=r) (by omega) gX n2 sv ev tv rv (hS.mono hn hX) (hEV.mono hn hX) (hT.mono hn hX) hr;have hwb:=d8f hp;obtain⟨RS,hRS⟩ : ∃ x,x=Cn T E I S:=⟨_,rfl⟩;rw[<- hRS];have HRS:=Aa.mk hRS;have HOS:=Aa.mk fun (k:Nat) (w:Wd) (h:a4d (a1n T E (Al T E S)) (Ak I S) S.length k) (hk:(Ak I S)[k]?=some w) (hs:S.length<=k) (hw:a1n T E (Al T E S) w=true)=>hRS.trans (a4d.some h hk hs hw);have HON:=Aa.mk fun (h:a4d (a1n T E (Al T E S)) (Ak I S) S.length (Ak I S).length)=>hRS.trans h.none;have hwl:=@b4w I S;clear hS hEV hT hp hRS hS9 hc4;refine ent pl35 func35 rfl (by decide +kernel) (by kernel_rfl) ?_
 iterate 8 all_goals try first|apply spl<;>intro h|simp (disch:=first|assumption|omega|simp) [*]
 refine WC.mono HWD.out ?_;rintro _ ⟨wv,g1,n1,rfl,hn1,hg1,BW,csW,hgrW,hrW⟩;have HG1:Aa (∀ b,b<n->g1 b=g b):=⟨fun b hb=>(hg1 b (by omega)).trans (Ad hb)⟩;have hgn1:=(hg1 n (by omega)).trans Ag;have hlw:Bj g1 n1 (Ak I S) wv:=⟨csW,Af.ext (Dm _) (fun a x _ hx=>by
  split at hx
  ·exact hx
  ·cases hx) hgrW.slice,hrW⟩
 have hlenW:=@Am prog _ _ _ _ _ hlw.choose_spec.1;have HLW:=Aa.mk hlw;have hsw:S.length<=(Ak I S).length:=by omega
 clear hg1 hlw hgrW hrW HWD hwl
 iterate 8 all_goals try first|apply spl<;>intro h|simp (disch:=first|assumption|omega|simp) [*]
 refine LX.ind (fun m gf H'=>∃ (k n2:Nat) (gL:Gb),S.length<=k/\k<=(Ak I S).length/\m=(Ak I S).length-k/\H'=⟨.fn gL,n2⟩/\n1<=n2/\Aa (∀ b,b<n1->gL b=g1 b)/\Aa (a4d (a1n T E (Al T E S)) (Ak I S) S.length k) /\
  gf 1=some (.ptr n 0)/\gf 4=some wv/\gf 5=some (.li k)) (m0:=(Ak I S).length-S.length) ?_ ?_
 ·exact⟨S.length,n1,g1,Dm _,hsw,rfl,rfl,Dm _,⟨fun _ _=>rfl⟩,⟨fun j w h1 h2=>by omega⟩,by simp[*]⟩
 rintro m gf H' ⟨k,n2,gL,hks,hk,rfl,rfl,hn2,HG,HN,w1,w4,w5⟩ ih;refine rnd pl35 (by decide +kernel) ?_;have hgn2:=(HG.out n (by omega)).trans hgn1;have HK0:Aa (∀ b,b<n->gL b=g b):=⟨fun b hb=>(HG.out b (by omega)).trans (HG1.out b hb)⟩;by_cases hlt:k<(Ak I S).length
 ·have hltI:(k:Int)<((Ak I S).length:Int):=by omega
  obtain⟨a2,o2,wq,ha2,hia2,hc2,hwq⟩:=HLW.out.at hlt;have hc1:=hc2;rw[<- HG.out a2 ha2] at hc2;have hkk:=Dy hlt;obtain⟨hwl,hwi⟩:=b4x HP.out.sw hkk;have hw3:=g2s HS9.out hkk;have HRO:=Aa.mk (HRW.out _ hw3 hwi gL n2 wq (by omega) HK0.out (Af.mono (by omega) HG.out hwq));have hdl:(Ax T E (Ak I S)[k]).length<=6000:=by
   have:=b5a (T:=T) (w:=(Ak I S)[k]) fun e he=>(HP.out.ew e he).2.1;have:=HP.out.el;omega
  have HRD:Aa (Ax T E (Ak I S)[k]=(Bk T (Ak I S)[k] E).getD []):=⟨rfl⟩;have HO1:Aa (Ca T (Ak I S)[k]=true->stV (Al T E S) (Ax T E (Ak I S)[k])<0->RS=some (Ak I S)[k]):=⟨fun h1 h2=>HOS.out k _ HN.out hkk hks (by rw[d8n,h1,decide_eq_true h2];rfl)⟩;have HO2:Aa (¬(Ca T (Ak I S)[k]=true/\stV (Al T E S) (Ax T E (Ak I S)[k])<0)->a4d (a1n T E (Al T E S)) (Ak I S) S.length (k+1)):=⟨fun h=>HN.out.step hkk fun _=>by
   rw[d8n]
   cases hc:Ca T (Ak I S)[k] with
   | false=>rfl
   | true=>rw[g5c,decide_eq_false fun h2=>h ⟨hc,h2⟩]⟩
  have HWQ:=Aa.mk hwq;have HCW:=Aa.mk fun gX n2 hn hX=>HCN.out _ hw3 hwi gX n2 wq hn hX;clear hwq hkk HN;obtain⟨sx,hsx0⟩ : ∃ x,x=stV (Al T E S) (Ax T E (Ak I S)[k]):=⟨_,rfl⟩;rw[<- hsx0] at HO1 HO2;generalize Ax T E (Ak I S)[k]=d at *;have HDD:Aa (stV (Al T E S) d=sx):=⟨hsx0.symm⟩;clear hsx0;generalize Bk T (Ak I S)[k] E=du at *;generalize Ca T (Ak I S)[k]=cb at *;generalize (Ak I S)[k]=w at *
  iterate 8 all_goals try first|apply spl<;>intro h|simp (disch:=first|assumption|omega|simp) [*]
  refine WC.mono HRO.out ?_;rintro _ ⟨dv,g3,n3,rfl,hn3,hg3,hdk⟩;have HG3:Aa (∀ b,b<n->g3 b=g b):=⟨fun b hb=>(hg3 b (by omega)).trans (HK0.out b hb)⟩;have HG31:Aa (∀ b,b<n1->g3 b=g1 b):=⟨fun b hb=>(hg3 b (by omega)).trans (HG.out b hb)⟩;have hgn3:=(hg3 n (by omega)).trans hgn2;have hc3:=hc1;rw[<- HG31.out a2 ha2] at hc3;have hrep:=hdk.rep;rw[<- HRD.out] at hrep;have h1d:=hrep.one;have HREP:=Aa.mk hrep;have h1q:=HWQ.out.one;clear hg3 hdk hrep HRO hc2 hc1 hgn2;generalize du.isSome=bb
  iterate 8 all_goals try first|apply spl<;>intro h|simp (disch:=first|assumption|omega|simp) [*]
  all_goals
   refine WC.mono (HCW.out _ _ (by omega) HG3.out (Af.mono (by omega) HG31.out HWQ.out)) ?_;rintro _ ⟨g4,n4,rfl,hn4,hg4⟩;have HG4:Aa (∀ b,b<n1->g4 b=g1 b):=⟨fun b hb=>(hg4 b (by omega)).trans (HG31.out b hb)⟩;have HK4:Aa (∀ b,b<n->g4 b=g b):=⟨fun b hb=>(hg4 b (by omega)).trans (HG3.out b hb)⟩;have hgn4:=(hg4 n (by omega)).trans hgn3;have hc4:=hc3;rw[HG31.out a2 ha2,<- HG4.out a2 ha2] at hc4;have HRE4:Aa (Aj g4 n4 d dv):=⟨Af.mono (by omega) hg4 HREP.out⟩;clear hg4
   cases cb with
   | false =>
    have HN2:=Aa.mk (HO2.out (fun h=>by cases h.1));clear HO1 HO2
    iterate 8 all_goals try first|apply spl<;>intro h|simp (disch:=first|assumption|omega|simp) [*]
    exact ih.out ((Ak I S).length-(k+1)) _ _ (by omega) ⟨k+1,n4,g4,by omega,by omega,rfl,rfl,by omega,HG4,HN2,by simp[*]⟩
   | true =>
    have HSW:=Aa.mk (HSV.out d hdl g4 n4 dv (by omega) HK4.out HRE4.out);rw[HDD.out] at HSW
    iterate 8 all_goals try first|apply spl<;>intro h|simp (disch:=first|assumption|omega|simp) [*]
    refine WC.mono HSW.out ?_;rintro _ ⟨g5,n5,rfl,hn5,hg5⟩;have HG5:Aa (∀ b,b<n1->g5 b=g1 b):=⟨fun b hb=>(hg5 b (by omega)).trans (HG4.out b hb)⟩;have hgn5:=(hg5 n (by omega)).trans hgn4;have hc5:=hc4;rw[HG4.out a2 ha2,<- HG5.out a2 ha2] at hc5;clear hg5 HSW;by_cases hsx:sx<0
    ·have hr:=HO1.out rfl hsx;subst hr;clear HO1 HO2 HRS HOS HON
     iterate 8 all_goals try first|apply spl<;>intro h|simp (disch:=first|assumption|omega|simp) [*]
     exact⟨_,_,_,⟨rfl,rfl,rfl⟩,by omega,fun b hb=>(HG5.out b (by omega)).trans (HG1.out b hb),Af.mono (by omega) HG5.out HWQ.out⟩
    ·have HN2:=Aa.mk (HO2.out (fun h=>hsx h.2));clear HO1 HO2
     iterate 8 all_goals try first|apply spl<;>intro h|simp (disch:=first|assumption|omega|simp) [*]
     exact ih.out ((Ak I S).length-(k+1)) _ _ (by omega) ⟨k+1,n5,g5,by omega,by omega,rfl,rfl,by omega,HG5,HN2,by simp[*]⟩
 ·have hltI:¬(k:Int)<((Ak I S).length:Int):=by omega
  have hke:k=(Ak I S).length:=by omega
  have hr:RS=none:=HON.out (by have:=HN.out;rwa [hke] at this);subst hr;clear HN ih
  iterate 8 all_goals try first|apply spl<;>intro h|simp (disch:=first|assumption|omega|simp) [*]
  exact⟨_,_,_,⟨rfl,rfl,rfl⟩,by omega,HK0.out,.inl ⟨rfl,rfl,.inl rfl⟩⟩
end Go.Ai
end
section
namespace Go.Ai
open Go.Proofs Go.Proofs.Tryz
set_option maxRecDepth 10000
set_option maxHeartbeats 40000000
theorem d8p {l l': Wq} (hp:l'.Perm l) : 0<(Bp l').length↔0<l.length:=by
 have h1:∀ x,x∈Bp l'↔x∈l:=fun x=>by rw[g1y];exact hp.mem_iff
 constructor
 ·intro h;exact g4m ((h1 _).1 (Ds h))
 ·intro h;exact g4m ((h1 _).2 (Ds h))
theorem b4y.len {g:Gb} {lo n:Nat} {l:Wq} {ov:AV} (h:b4y g lo n l ov) : Af g n ov l.length h.choose:=h.choose_spec.1
theorem d8q {T:Tq} {E:Wq} {I:Nat} {S:Wq} : decide (0<((Cn T E I S).getD []).length)=(Cn T E I S).isSome:=by
 cases h:Cn T E I S with
 | none=>rfl
 | some w =>
  have h1:=List.mem_of_find?_eq_some h;obtain⟨s,_,h⟩:=g4i.1 h1;obtain⟨i,_,rfl⟩:=Eg.1 h;simp
def b8d (g:Gb) (n:Nat) (full:Bool) (o:Option (Wd)) (r:Ar) : Prop:=∃ rv g' n',r=.ret (.tup [rv,.lit (.bool (full && o.isSome)),.li (if full=true then 0 else 6)]) ⟨.fn g',n'⟩/\n<=n'/\(∀ b,b<n->g' b=g b)/\Aj g' n' (if full=true then o.getD [] else []) rv
theorem g2t {I:Nat} {O:Int} {S E:Wq} {T:Tq} (hp:a2a I O S E T) (hS9:∀ w∈S,w.length<=299) (g:Gb) (n:Nat) (sv ev tv:AV) (h:b3a g n S E T sv ev tv) :
  WC 0 prog 30 [.agg [.li I,.li O,sv,ev,.li I,.li O,tv]] ⟨.fn g,n⟩ (b8d g n (Bb T E (Ak I S)).isEmpty (Cn T E I S)):=by
 have h1s:=h.s.one;have h1e:=h.e.one;have h1t:=h.t.choose_spec.1.one;have hone:allOne [.li I,.li O,sv,ev,.li I,.li O,tv]=true:=by simp[h1s,h1e,h1t]
 have HCK:=Aa.mk fun (gX:Gb) (n2:Nat) (hn:n<=n2) (hX:∀ b,b<n->gX b=g b)=>hp.check (h.mono hn hX);have HAS:=Aa.mk fun (gX:Gb) (n2:Nat) (hn:n<=n2) (hX:∀ b,b<n->gX b=g b)=>d7s hp.i1 (by have:=hp.i2;omega) hp.sl hp.sw hp.el hp.ew hp.t0 hp.ok (.li O) (.li I) (.li O) rfl gX n2 sv ev tv (h.mono hn hX).s.listV (h.mono hn hX).e.listV (h.mono hn hX).t;have HST:=Aa.mk fun (gX:Gb) (n2:Nat) (hn:n<=n2) (hX:∀ b,b<n->gX b=g b)=>d8j hp (.li I) (.li O) (.li I) (.li O) rfl gX n2 sv ev tv (h.mono hn hX).s.listV (h.mono hn hX).e.listV (h.mono hn hX).t;have HOP:=Aa.mk fun (gX:Gb) (n2 A:Nat) (hn:n<=n2) (hX:∀ b,b<n->gX b=g b) (hA:A<n2) (hst:StB gX A (Al T E S))=>d8k hp hS9 (.li O) (.li I) (.li O) rfl gX n2 A sv ev tv (h.mono hn hX).s.listV (h.mono hn hX).e.listV (h.mono hn hX).t hA hst;have HOL:=Aa.mk (d8q (T:=T) (E:=E) (I:=I) (S:=S));have HEM:Aa ((Bb T E (Ak I S)).isEmpty=decide ((Bb T E (Ak I S)).length=0)):=⟨by cases Bb T E (Ak I S)<;>rfl⟩;clear h hp hS9;generalize (Bb T E (Ak I S)).isEmpty=full at *;have HQ:Aa (∀ x,b8d g n full (Cn T E I S) x=b8d g n full (Cn T E I S) x):=⟨fun _=>rfl⟩;have HEND:=Aa.mk fun (rv:AV) (b:Bool) (e:Int) (g' : Gb) (n' : Nat) (h1:b=(full && (Cn T E I S).isSome)) (h2:e=if full=true then 0 else 6) (h3:n<=n') (h4:∀ b,b<n->g' b=g b) (h5:Aj g' n' (if full=true then (Cn T E I S).getD [] else []) rv)=>(show b8d g n full (Cn T E I S) (.ret (.tup [rv,.lit (.bool b),.li e]) ⟨.fn g',n'⟩) from ⟨rv,g',n',by rw[h1,h2],h3,h4,h5⟩);clear HQ;generalize b8d g n full (Cn T E I S)=K at *;refine ent pl30 func30 rfl (by decide +kernel) (by kernel_rfl) ?_
 iterate 8 all_goals try first|apply spl<;>intro h|simp (disch:=first|assumption|omega|simp) [*]
 refine WC.mono (HCK.out _ _ (by omega) fun b hb=>Ad hb) ?_;rintro _ rfl
 iterate 8 all_goals try first|apply spl<;>intro h|simp (disch:=first|assumption|omega|simp) [*]
 refine WC.mono (HAS.out _ _ (by omega) fun b hb=>Ad hb) ?_;rintro _ ⟨l',ov,g1,n1,rfl,hn1,hg1,hperm,_,hlf⟩;have hdp:=d8p hperm;have hlen:=@Am prog _ _ _ _ _ hlf.len;have HG1:Aa (∀ b,b<n->g1 b=g b):=⟨fun b hb=>(hg1 b (by omega)).trans (Ad hb)⟩;have hgn1:=(hg1 n (by omega)).trans Ag;clear hg1 hlf HCK HAS hperm;by_cases h0:0<(Bp l').length
 ·have h0I:(0:Int)<((Bp l').length:Int):=by omega
  have hf:full=false:=by rw[HEM.out,decide_eq_false];have:=hdp.1 h0;omega
  subst hf;clear hdp
  iterate 8 all_goals try first|apply spl<;>intro h|simp (disch:=first|assumption|omega|simp) [*]
  exact HEND.out _ _ _ _ _ rfl rfl (by omega) HG1.out (.inl ⟨rfl,rfl,.inl rfl⟩)
 ·have h0I:¬(0:Int)<((Bp l').length:Int):=by omega
  have hf:full=true:=by rw[HEM.out,decide_eq_true];have:=mt hdp.2 h0;omega
  subst hf;clear hdp
  iterate 8 all_goals try first|apply spl<;>intro h|simp (disch:=first|assumption|omega|simp) [*]
  refine WC.mono (HST.out _ _ (by omega) HG1.out) ?_;rintro _ ⟨A,g2,n2,rfl,hn2,hg2,hA1,hA2,hst⟩;have HG2:Aa (∀ b,b<n->g2 b=g b):=⟨fun b hb=>(hg2 b (by omega)).trans (HG1.out b hb)⟩;have hgn2:=(hg2 n (by omega)).trans hgn1;have HOW:=Aa.mk (HOP.out g2 n2 A (by omega) HG2.out hA2 hst);clear hg2 hst HST HOP
  iterate 8 all_goals try first|apply spl<;>intro h|simp (disch:=first|assumption|omega|simp) [*]
  refine WC.mono HOW.out ?_;rintro _ ⟨rv,g3,n3,rfl,hn3,hg3,hrep⟩;have HG3:Aa (∀ b,b<n->g3 b=g b):=⟨fun b hb=>(hg3 b (by omega)).trans (HG2.out b hb)⟩;have hlr:=@Am prog _ _ _ _ _ hrep;have h1r:=hrep.one;have HREP:=Aa.mk hrep;clear hg3 hrep HOW;have HOL2:=HOL;generalize Cn T E I S=o at *;generalize o.getD []=ow at *
  iterate 8 all_goals try first|apply spl<;>intro h|simp (disch:=first|assumption|omega|simp) [*]
  all_goals refine HEND.out _ _ _ _ _ ?_ rfl (by omega) HG3.out HREP.out
  all_goals rw[g5c,<- HOL2.out]
  ·exact(decide_eq_true (by omega)).symm
  ·exact(decide_eq_false (by omega)).symm
end Go.Ai
end

