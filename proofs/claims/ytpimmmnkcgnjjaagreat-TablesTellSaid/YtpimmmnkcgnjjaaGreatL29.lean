/- A small verified interpreter over names, its proofs, and what was proved with it. No condition. -/
import Derived.Test.YtpimmmnkcgnjjaaGreatL25
set_option linter.all false
set_option linter.deprecated false
section
namespace Go.Ai
open Go.Proofs Go.Proofs.Tryz
set_option maxRecDepth 10000
set_option maxHeartbeats 40000000
def RowsR (R:Wd->AV->Prop) (l:Wq) (svs:List AV) : Prop:=svs.length=l.length/\∀ (k:Nat) (h:k<l.length),∃ q,svs[k]?=some q/\R l[k] q
theorem RowsR.snoc {R:Wd->AV->Prop} {l:Wq} {svs:List AV} (h:RowsR R l svs) {x:Wd} {q:AV} (hq:R x q) : RowsR R (l++[x]) (svs++[q]):=by
 have hl:=h.1;refine⟨by simp[hl],fun k hk=>?_⟩;rw[Dr,Em] at hk;by_cases hlt:k<l.length
 ·obtain⟨q',e1,e2⟩:=h.2 k hlt;refine⟨q',?_,?_⟩
  ·rw[Ew (by omega)];exact e1
  ·rw[Ey hlt];exact e2
 ·have hk2:k=l.length:=by omega
  subst hk2;refine⟨q,?_,?_⟩
  ·rw[Eu (by omega),hl,g2o];rfl
  ·simpa using hq
theorem RowsR.mono {R R': Wd->AV->Prop} {l:Wq} {svs:List AV} (h:RowsR R l svs) (hr:∀ x q,R x q->R' x q) : RowsR R' l svs:=⟨h.1,fun k hk=>let ⟨q,e1,e2⟩:=h.2 k hk;⟨q,e1,hr _ _ e2⟩⟩
theorem c7o {g:Gb} {n:Nat} {R:Wd->AV->Prop} {l:Wq} {lv:AV} (h:∃ svs,Ag g n lv l.length svs/\RowsR R l svs) {k:Nat} (hk:k<l.length) : ∃ a off q,a<n/\(∀ {H:Mem} {ev:Ev} {o:Oper} {t:TypeId},iaS prog H ev o t (some (none,1)) (some lv) (some (.li (k:Int)))=.val (.ptr a (off+k)) H)/\Bd (some (false,1)) (g a) (off+k)=some q/\R l[k] q:=by
 obtain⟨svs,h1,h2,h3⟩:=h;obtain⟨q,e1,e2⟩:=h3 k hk;obtain⟨a,off,ha,hrow,hia⟩:=h1.ia (P:=prog) hk 1;simp only[El] at hia;have hc:=hrow.one (k:=k) (s:=1) (by omega);rw[(Ea.1 e1).2] at hc;exact⟨a,off,q,ha,hia,hc,e2⟩
theorem d8v {l:Wq} (hll:l.length<=100000) {w:Wd} (hwl:w.length<=1000) (hwls:∀ x∈l,x.length<=1000) (g:Gb) (n:Nat) {R:Wd->AV->Prop} (hR:∀ {w:Wd} {q:AV},R w q->Ak g n w q) (lv wv:AV) (h1:∃ svs,Ag g n lv l.length svs/\RowsR R l svs) (hw:R w wv) :
  WC 0 prog 71 [lv,wv] ⟨.fn g,n⟩ fun r=>∃ ov g' n' B cs,r=.ret ov ⟨.fn g',n'⟩/\n<=n'/\(∀ b,b<n->g' b=g b)/\Bh g' n n' B ov (Bk w l).length 1 cs/\RowsR R (Bk w l) cs:=by
 have hlen:=@Am prog _ _ _ _ _ h1.choose_spec.1;have h1w:oneC wv=true:=(hR hw).one;have hcw:cellsOf wv=[wv]:=(hR hw).cell;have h2w:allOne [wv]=true:=by simp[h1w]
 have HL:=Aa.mk h1;have HGK:Aa (∀ {w:Wd} {q:AV},R w q->Ak g n w q):=⟨fun h=>hR h⟩;have HW:=Aa.mk hw;have HWL:=Aa.mk hwls;have HIN:=Aa.mk (c6n (w:=w) l);clear h1 hw hwls hR;generalize Bk w l=RES at *;refine ent [] func71 rfl (by decide +kernel) (by kernel_rfl) ?_
 iterate 8 all_goals try first|apply spl<;>intro h|simp (disch:=first|assumption|omega|simp) [*]
 refine LX.ind (fun m gf H'=>∃ (k n' B:Nat) (gL:Gb) (p:Bool) (out:Wq) (ov:AV) (cs:List AV),k<=l.length/\m=l.length-k/\H'=⟨.fn gL,n'⟩/\n<=n'/\Aa (∀ b,b<n->gL b=g b)/\Aa (RES=out++a3c w (l.drop k) p)/\out.length<=2*k/\Aa (Bh gL n n' B ov out.length 1 cs)/\Aa (RowsR R out cs) /\
  gf 0=some lv/\gf 1=some wv/\gf 5=some ov/\gf 6=some (.lit (.bool p))/\gf 7=some (.li k)) (m0:=l.length) ?_ ?_
 ·exact⟨0,n,0,g,false,[],.nl,[],Du _,rfl,rfl,Dp _,⟨fun _ _=>rfl⟩,⟨HIN.out.symm⟩,by simp,⟨.inl ⟨rfl,rfl,rfl⟩⟩,⟨⟨rfl,fun k h=>by cases h⟩⟩,by simp[*]⟩
 clear HIN;rintro m gf H' ⟨k,n',B,gL,p,out,ov,cs,hk,rfl,rfl,hn',HG,HRES,hol,HGR,HRW,w0,w1,w5,w6,w7⟩ ih;refine rnd [] (by decide +kernel) ?_;by_cases hlt:k<l.length
 ·have hltI:(k:Int)<(l.length:Int):=by omega
  obtain⟨a,off,q,ha,hia,hcell0,hq⟩:=c7o HL.out hlt;have hcell:Bd (some (false,1)) (gL a) (off+k)=some q:=(congrArg (fun z=>Bd (some (false,1)) z (off+k)) (HG.out a ha)).trans hcell0;have h1q:oneC q=true:=(HGK.out hq).one;have hcq:cellsOf q=[q]:=(HGK.out hq).cell;have h2q:allOne [q]=true:=by simp[h1q]
  have HC:=Aa.mk (d6p w l[k] (by omega) (by have:=HWL.out _ (Dt hlt);omega) gL n' wv q (Ag.mono hn' HG.out (HGK.out HW.out)) (Ag.mono hn' HG.out (HGK.out hq)));have HST:=Aa.mk (HRES.out.trans (show out++a3c w (l.drop k) p=out++((if Bl w l[k] < 0/\p=false then [w] else [])++l[k] :: a3c w (l.drop (k+1)) (p || decide (Bl w l[k]<=0))) from by rw[Ef hlt];rfl));have HR1:=Aa.mk (HRW.out.snoc hq);have HR2:=Aa.mk ((HRW.out.snoc HW.out).snoc hq);have hcl:cs.length=out.length:=HRW.out.1;have hol2:out.length<=200000:=by omega
  have hcl2:(cs++[wv]).length=(out.length+1)*1:=by simp[hcl]
  clear hcell0 hq HRW HRES;generalize Bl w l[k]=c at *;generalize l[k]=x at *
  iterate 8 all_goals try first|apply spl<;>intro h|simp (disch:=first|assumption|omega|simp) [*]
  refine WC.mono HC.out ?_;rintro _ rfl;clear HC;rcases g5e c 0 with hc|hc|hc
  ·have hc1:¬c=0:=by omega
   have hc2:c<=0:=by omega
   cases p with
   | true =>
    rw[if_neg (by simp),g4a] at HST;rcases HGR.out with⟨ho,hc0,hs0⟩|⟨ho,hs0,hB1,hB2,hB3,hB4⟩
    ·subst hs0;have HZ:=Aa.mk (And.intro ho hc0);clear ho hc0
     iterate 8 all_goals try first|apply spl<;>intro h|simp (disch:=first|assumption|omega|simp) [*]
     refine ih.out (l.length-(k+1)) _ _ (by omega) ⟨k+1,n'+1+1,n'+1,_,true,out++[x],.slq (n'+1) 0 (out++[x]).length 0,cs++[q],by omega,rfl,rfl,by omega,⟨fun b hb=>?_⟩,⟨by rw[HST.out];simp⟩,by simp;omega,⟨.inr ⟨by simp,rfl,by omega,by omega,?_,by simp;omega⟩⟩,HR1,by simp[*],by simp[*],by simp[HZ.out.1, *],by simp[*]⟩
     ·simp (disch:=omega) only[Ab,Ae];exact HG.out b hb
     ·rw[HZ.out.2];simp (disch:=omega) [Ab,Ae,Af, *]
    ·subst hs0
     iterate 8 all_goals try first|apply spl<;>intro h|simp (disch:=first|assumption|omega|simp) [*]
     refine ih.out (l.length-(k+1)) _ _ (by omega) ⟨k+1,n'+1+1,n'+1,_,true,out++[x],.slq (n'+1) 0 (out++[x]).length 0,cs++[q],by omega,rfl,rfl,by omega,⟨fun b hb=>?_⟩,⟨by rw[HST.out];simp⟩,by simp;omega,⟨.inr ⟨by simp,rfl,by omega,by omega,?_,by simp;omega⟩⟩,HR1,by simp[*]⟩
     ·simp (disch:=omega) only[Ab,Ae];exact HG.out b hb
     ·simp (disch:=omega) [Ab,Ae,Af, *]
   | false =>
    rw[if_pos ⟨hc,rfl⟩,g4n,decide_eq_true hc2] at HST;rcases HGR.out with⟨ho,hc0,hs0⟩|⟨ho,hs0,hB1,hB2,hB3,hB4⟩
    ·subst hs0;have HZ:=Aa.mk (And.intro ho hc0);clear ho hc0
     iterate 8 all_goals try first|apply spl<;>intro h|simp (disch:=first|assumption|omega|simp) [*]
     refine ih.out (l.length-(k+1)) _ _ (by omega) ⟨k+1,n'+1+1+1+1,n'+1+1+1,_,true,out++[w]++[x],.slq (n'+1+1+1) 0 (out++[w]++[x]).length 0,cs++[wv]++[q],by omega,rfl,rfl,by omega,⟨fun b hb=>?_⟩,⟨by rw[HST.out];simp⟩,by simp;omega,⟨.inr ⟨by simp,rfl,by omega,by omega,?_,by simp;omega⟩⟩,HR2,by simp[*],by simp[*],by simp[HZ.out.1, *],by simp[*]⟩
     ·simp (disch:=omega) only[Ab,Ae];exact HG.out b hb
     ·rw[HZ.out.2];simp (disch:=omega) [Ab,Ae,Af, *]
    ·subst hs0
     iterate 8 all_goals try first|apply spl<;>intro h|simp (disch:=first|assumption|omega|simp) [*]
     refine ih.out (l.length-(k+1)) _ _ (by omega) ⟨k+1,n'+1+1+1+1,n'+1+1+1,_,true,out++[w]++[x],.slq (n'+1+1+1) 0 (out++[w]++[x]).length 0,cs++[wv]++[q],by omega,rfl,rfl,by omega,⟨fun b hb=>?_⟩,⟨by rw[HST.out];simp⟩,by simp;omega,⟨.inr ⟨by simp,rfl,by omega,by omega,?_,by simp;omega⟩⟩,HR2,by simp[*]⟩
     ·simp (disch:=omega) only[Ab,Ae];exact HG.out b hb
     ·simp (disch:=omega) [Ab,Ae,Af, *]
  ·have hc1:¬c<0:=by omega
   have hc2:c<=0:=by omega
   rw[if_neg (fun h=>hc1 h.1),decide_eq_true hc2,g4d] at HST;subst hc
   cases p with
   | true =>
    rcases HGR.out with⟨ho,hc0,hs0⟩|⟨ho,hs0,hB1,hB2,hB3,hB4⟩
    ·subst hs0;have HZ:=Aa.mk (And.intro ho hc0);clear ho hc0
     iterate 8 all_goals try first|apply spl<;>intro h|simp (disch:=first|assumption|omega|simp) [*]
     refine ih.out (l.length-(k+1)) _ _ (by omega) ⟨k+1,n'+1+1,n'+1,_,true,out++[x],.slq (n'+1) 0 (out++[x]).length 0,cs++[q],by omega,rfl,rfl,by omega,⟨fun b hb=>?_⟩,⟨by rw[HST.out];simp⟩,by simp;omega,⟨.inr ⟨by simp,rfl,by omega,by omega,?_,by simp;omega⟩⟩,HR1,by simp[*],by simp[*],by simp[HZ.out.1, *],by simp[*]⟩
     ·simp (disch:=omega) only[Ab,Ae];exact HG.out b hb
     ·rw[HZ.out.2];simp (disch:=omega) [Ab,Ae,Af, *]
    ·subst hs0
     iterate 8 all_goals try first|apply spl<;>intro h|simp (disch:=first|assumption|omega|simp) [*]
     refine ih.out (l.length-(k+1)) _ _ (by omega) ⟨k+1,n'+1+1,n'+1,_,true,out++[x],.slq (n'+1) 0 (out++[x]).length 0,cs++[q],by omega,rfl,rfl,by omega,⟨fun b hb=>?_⟩,⟨by rw[HST.out];simp⟩,by simp;omega,⟨.inr ⟨by simp,rfl,by omega,by omega,?_,by simp;omega⟩⟩,HR1,by simp[*]⟩
     ·simp (disch:=omega) only[Ab,Ae];exact HG.out b hb
     ·simp (disch:=omega) [Ab,Ae,Af, *]
   | false =>
    rcases HGR.out with⟨ho,hc0,hs0⟩|⟨ho,hs0,hB1,hB2,hB3,hB4⟩
    ·subst hs0;have HZ:=Aa.mk (And.intro ho hc0);clear ho hc0
     iterate 8 all_goals try first|apply spl<;>intro h|simp (disch:=first|assumption|omega|simp) [*]
     refine ih.out (l.length-(k+1)) _ _ (by omega) ⟨k+1,n'+1+1,n'+1,_,true,out++[x],.slq (n'+1) 0 (out++[x]).length 0,cs++[q],by omega,rfl,rfl,by omega,⟨fun b hb=>?_⟩,⟨by rw[HST.out];simp⟩,by simp;omega,⟨.inr ⟨by simp,rfl,by omega,by omega,?_,by simp;omega⟩⟩,HR1,by simp[*],by simp[*],by simp[HZ.out.1, *],by simp[*]⟩
     ·simp (disch:=omega) only[Ab,Ae];exact HG.out b hb
     ·rw[HZ.out.2];simp (disch:=omega) [Ab,Ae,Af, *]
    ·subst hs0
     iterate 8 all_goals try first|apply spl<;>intro h|simp (disch:=first|assumption|omega|simp) [*]
     refine ih.out (l.length-(k+1)) _ _ (by omega) ⟨k+1,n'+1+1,n'+1,_,true,out++[x],.slq (n'+1) 0 (out++[x]).length 0,cs++[q],by omega,rfl,rfl,by omega,⟨fun b hb=>?_⟩,⟨by rw[HST.out];simp⟩,by simp;omega,⟨.inr ⟨by simp,rfl,by omega,by omega,?_,by simp;omega⟩⟩,HR1,by simp[*]⟩
     ·simp (disch:=omega) only[Ab,Ae];exact HG.out b hb
     ·simp (disch:=omega) [Ab,Ae,Af, *]
  ·have hc1:¬c<0:=by omega
   have hc2:¬c<=0:=by omega
   have hc3:¬c=0:=by omega
   rw[if_neg (fun h=>hc1 h.1),decide_eq_false hc2,g3v] at HST
   cases p with
   | true =>
    rcases HGR.out with⟨ho,hc0,hs0⟩|⟨ho,hs0,hB1,hB2,hB3,hB4⟩
    ·subst hs0;have HZ:=Aa.mk (And.intro ho hc0);clear ho hc0
     iterate 8 all_goals try first|apply spl<;>intro h|simp (disch:=first|assumption|omega|simp) [*]
     refine ih.out (l.length-(k+1)) _ _ (by omega) ⟨k+1,n'+1+1,n'+1,_,true,out++[x],.slq (n'+1) 0 (out++[x]).length 0,cs++[q],by omega,rfl,rfl,by omega,⟨fun b hb=>?_⟩,⟨by rw[HST.out];simp⟩,by simp;omega,⟨.inr ⟨by simp,rfl,by omega,by omega,?_,by simp;omega⟩⟩,HR1,by simp[*],by simp[*],by simp[HZ.out.1, *],by simp[*]⟩
     ·simp (disch:=omega) only[Ab,Ae];exact HG.out b hb
     ·rw[HZ.out.2];simp (disch:=omega) [Ab,Ae,Af, *]
    ·subst hs0
     iterate 8 all_goals try first|apply spl<;>intro h|simp (disch:=first|assumption|omega|simp) [*]
     refine ih.out (l.length-(k+1)) _ _ (by omega) ⟨k+1,n'+1+1,n'+1,_,true,out++[x],.slq (n'+1) 0 (out++[x]).length 0,cs++[q],by omega,rfl,rfl,by omega,⟨fun b hb=>?_⟩,⟨by rw[HST.out];simp⟩,by simp;omega,⟨.inr ⟨by simp,rfl,by omega,by omega,?_,by simp;omega⟩⟩,HR1,by simp[*]⟩
     ·simp (disch:=omega) only[Ab,Ae];exact HG.out b hb
     ·simp (disch:=omega) [Ab,Ae,Af, *]
   | false =>
    rcases HGR.out with⟨ho,hc0,hs0⟩|⟨ho,hs0,hB1,hB2,hB3,hB4⟩
    ·subst hs0;have HZ:=Aa.mk (And.intro ho hc0);clear ho hc0
     iterate 8 all_goals try first|apply spl<;>intro h|simp (disch:=first|assumption|omega|simp) [*]
     refine ih.out (l.length-(k+1)) _ _ (by omega) ⟨k+1,n'+1+1,n'+1,_,false,out++[x],.slq (n'+1) 0 (out++[x]).length 0,cs++[q],by omega,rfl,rfl,by omega,⟨fun b hb=>?_⟩,⟨by rw[HST.out];simp⟩,by simp;omega,⟨.inr ⟨by simp,rfl,by omega,by omega,?_,by simp;omega⟩⟩,HR1,by simp[*],by simp[*],by simp[HZ.out.1, *],by simp[*]⟩
     ·simp (disch:=omega) only[Ab,Ae];exact HG.out b hb
     ·rw[HZ.out.2];simp (disch:=omega) [Ab,Ae,Af, *]
    ·subst hs0
     iterate 8 all_goals try first|apply spl<;>intro h|simp (disch:=first|assumption|omega|simp) [*]
     refine ih.out (l.length-(k+1)) _ _ (by omega) ⟨k+1,n'+1+1,n'+1,_,false,out++[x],.slq (n'+1) 0 (out++[x]).length 0,cs++[q],by omega,rfl,rfl,by omega,⟨fun b hb=>?_⟩,⟨by rw[HST.out];simp⟩,by simp;omega,⟨.inr ⟨by simp,rfl,by omega,by omega,?_,by simp;omega⟩⟩,HR1,by simp[*]⟩
     ·simp (disch:=omega) only[Ab,Ae];exact HG.out b hb
     ·simp (disch:=omega) [Ab,Ae,Af, *]
 ·have hltI:¬(k:Int)<(l.length:Int):=by omega
  have hcl:cs.length=out.length:=HRW.out.1;have hol2:out.length<=200000:=by omega
  have HR1:=Aa.mk (HRW.out.snoc HW.out);rw[Ex (by omega)] at HRES
  cases p with
  | true =>
   have hRE:RES=out:=by rw[HRES.out];simp[a3c]
   subst hRE
   iterate 8 all_goals try first|apply spl<;>intro h|simp (disch:=first|assumption|omega|simp) [*]
   exact⟨_,_,_,⟨rfl,rfl,rfl⟩,hn',HG.out,B,cs,HGR.out,HRW.out⟩
  | false =>
   have hRE:RES=out++[w]:=by rw[HRES.out];simp[a3c]
   subst hRE;rcases HGR.out with⟨ho,hc0,hs0⟩|⟨ho,hs0,hB1,hB2,hB3,hB4⟩
   ·subst hs0;subst hc0
    iterate 8 all_goals try first|apply spl<;>intro h|simp (disch:=first|assumption|omega|simp) [*]
    exact⟨_,_,_,⟨rfl,rfl,rfl⟩,by omega,fun b hb=>by simp (disch:=omega) only[Ab];exact HG.out b hb,n'+1,[wv],.inr ⟨by omega,rfl,by omega,by omega,Af,rfl⟩,HR1.out⟩
   ·subst hs0
    iterate 8 all_goals try first|apply spl<;>intro h|simp (disch:=first|assumption|omega|simp) [*]
    exact⟨_,_,_,⟨rfl,rfl,rfl⟩,by omega,fun b hb=>by simp (disch:=omega) only[Ab,Ae];exact HG.out b hb,n'+1,cs++[wv],.inr ⟨by omega,rfl,by omega,by omega,Af,by simp;omega⟩,HR1.out⟩
end Go.Ai
end

