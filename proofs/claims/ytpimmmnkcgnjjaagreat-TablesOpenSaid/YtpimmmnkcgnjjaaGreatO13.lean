/- A small verified interpreter over names, its proofs, and what was proved with it. No condition. -/
import Derived.Test.YtpimmmnkcgnjjaaGreatO12
import Derived.Test.YtpimmmnkcgnjjaaGreatO07
set_option linter.all false
set_option linter.deprecated false
section
namespace Go.Ai
open Go.Proofs Go.Proofs.Tryz
set_option maxRecDepth 10000
set_option maxHeartbeats 40000000
theorem g1n {q:Nat} {S:Wq} {k:Nat} (h:k<S.length) : (Ak q S)[k]?=some S[k]:=by
 unfold Ak;rw[g3t h,Dy h]
theorem d7i {q:Nat} {i:Nat} (hi:i<q) : ∀ {S:Wq} {k:Nat} (h:k<S.length),(a1m q S)[k*q+i]?=some (S[k]++[(i:Int)])
 | s :: S,0,h=>by
  unfold a1m;rw[g5e,g3t (by simp;omega)];simp[hi]
 | s :: S,k+1,h=>by
  have:=d7i hi (S:=S) (k:=k) (by simpa using h);unfold a1m at this |-;rw[g5e,Em (by simp[g4y];omega)];simp only[Ei,List.length_range];rw[show (k+1)*q+i-q=k*q+i by rw[g4y];omega,this];simp
theorem g1o {q:Nat} {i:Nat} (hi:i<q) {S:Wq} {k:Nat} (h:k<S.length) : (Ak q S)[S.length+(k*q+i)]?=some (S[k]++[(i:Int)]):=by
 unfold Ak;rw[Em (g5f _ _),Nat.add_sub_cancel_left,d7i hi h]
theorem b4w {q:Nat} {S:Wq} : (Ak q S).length=S.length+S.length*q:=by
 unfold Ak;rw[Dr,c1s]
abbrev WN:WF:=orW noO (WC 0 prog)
theorem d7j {I:Nat} (hI:I<=16) {S:Wq} (hSl:S.length<=100) (hwl:∀ w∈S,w.length<=300) (c1 c3 c4 c5 c6:AV) (g:Gb) (n nb:Nat) (sv:AV) (hS:Bj g n S sv)
  {fr:Fr} {o:Operand} {ps:Array Tmp} {asg body:Code} {m:Nat} {plan:List (Nat×List It)} {Q:QR} (hev:fr.ev o=some (.func (.func 136) [] [.ptr nb 0])) (h0:(ps.toList.all (fun t=>Nat.blt t m) && (Au m asg && Au m body && (a0o prog plan asg && a0o prog plan body)))=true)
  (Inv:Nat->(Gb)->Nat->Prop) (Stop:(Gb)->Nat->Prop)
  (hmem:∀ k gL n2,Inv k gL n2->(∀ b,b<n->gL b=g b)/\n<=n2/\nb<n2/\gL nb=some (.cells [.li I,c1,sv,c3,c4,c5,c6] true 0))
  (hstep:∀ k w gP nP gL n2 gk wv K,(Ak I S)[k]?=some w->Inv k gP nP->nP<=n2->(∀ b,b<nP->gL b=gP b)->(∀ a z,gk a=some z->gL a=some z/\(a<n\/(nP<=a/\a<n2)))->Aj gk n2 w wv->(∀ g' n',Inv (k+1) g' n'->K true none ⟨.fn g',n'⟩)->(∀ g' n',Stop g' n'->K false (some none) ⟨.fn g',n'⟩)->YB 0 prog WN m plan ps asg body fr [wv] ⟨.fn gL,n2⟩ K)
  {gL:Gb} {n2:Nat} (h:Inv 0 gL n2) (hQ:∀ g' n',Inv (Ak I S).length g' n'->Q none (.norm fr ⟨.fn g',n'⟩)) (hQs:∀ g' n',Stop g' n'->Q none (.ret fr ⟨.fn g',n'⟩)) :
  RG 0 prog WN m plan o ps asg body fr ⟨.fn gL,n2⟩ Q:=by
 refine RG.enter 136 _ _ _ [3,11] [] h0 hev func136 rfl (by kernel_rfl) (by decide +kernel) (Dp (by kernel_rfl)) ?_;intro l;have hlen:=@Am prog _ _ _ _ _ hS.choose_spec.1;have HS:=Aa.mk hS;have HM:=Aa.mk hmem;have HQ:=Aa.mk hQ;have HQS:=Aa.mk hQs;have HI:=Aa.mk h;have HWL:=Aa.mk hwl;obtain⟨_,hn0,hnb0,hgnb0⟩:=hmem _ _ _ h;have h1s:=hS.choose_spec.1.one;clear hmem hQ hQs h hS h0 hev hwl;generalize YB 0 prog WN m plan ps asg body fr=Y at hstep |-;have HST:=Aa.mk hstep;clear hstep;have HQ2:Aa ((∀ g' n' gf,Inv (Ak I S).length g' n'->itQ prog f136 (fun p H'=>a8r Q fr H' p) none (.norm (.f gf []) ⟨.fn g',n'⟩))/\(∀ g' n' gf,Stop g' n'->itQ prog f136 (fun p H'=>a8r Q fr H' p) (some none) (.ret (.f gf []) ⟨.fn g',n'⟩))):=by
  refine⟨fun g' n' gf hi=>?_,fun g' n' gf hs=>?_⟩
  ·simp[results136];exact HQ.out _ _ hi
  ·simp[results136];exact HQS.out _ _ hs
 clear HQ HQS;generalize itQ prog f136 (fun p H'=>a8r Q fr H' p)=Q2 at HQ2 |-
 iterate 8 all_goals try first|apply spl<;>intro h|simp (disch:=first|assumption|omega|simp) [*]
 refine LXR.ind (fun m gf H'=>∃ (k n2:Nat) (gL:Gb),k<=S.length/\m=S.length-k/\H'=⟨.fn gL,n2⟩/\Aa (Inv k gL n2) /\
  gf 0=some (.lit (.func (.yield l) #[] #[]))/\gf 1=some (.ptr nb 0)/\gf 9=some sv/\gf 10=some (.li S.length)/\gf 11=some (.li k)) (m0:=S.length) ?_ ?_
 ·exact⟨0,_,_,Dt _,rfl,rfl,HI,by simp[*]⟩
 clear HI hgnb0 hn0 hnb0;rintro m gf H' ⟨k,n2,gL,hk,rfl,rfl,HI,w0,w1,w9,w10,w11⟩ ih;refine LXR.round (Ah _ _) hG [3,11] [] (by decide +kernel) ?_;obtain⟨hG1,hn0,hnb0,hgnb0⟩:=HM.out _ _ _ HI.out;have HG:=Aa.mk hG1;clear hG1;by_cases hlt:k<S.length
 ·have hltI:(k:Int)<(S.length:Int):=by omega
  obtain⟨a2,o2,qv,ha2,hia2,hc2,hq⟩:=HS.out.at hlt;rw[<- HG.out a2 ha2] at hc2;have HY:=Aa.mk fun K=>HST.out k S[k] gL n2 gL n2 (fun a=>if a<n then g a else none) qv K (g1n hlt) HI.out (Dm _) (fun _ _=>rfl) (fun a z hz=>by
   by_cases h:a<n
   ·rw[if_pos h] at hz;exact⟨(HG.out a h).trans hz,.inl h⟩
   ·rw[if_neg h] at hz;cases hz) (Af.ext hn0 (fun a x ha hx=>by rw[if_pos ha];exact hx) hq)
  clear hq
  iterate 8 all_goals try first|apply spl<;>intro h|simp (disch:=first|assumption|omega|simp) [*]
  refine HY.out _ (fun g3 n3 hi3=>?_) (fun g3 n3 hs=>?_)
  ·have HI3:=Aa.mk hi3;clear hi3;simp only[c4c]
   iterate 8 all_goals try first|apply spl<;>intro h|simp (disch:=first|assumption|omega|simp) [*]
   exact ih.out (S.length-(k+1)) _ _ (by omega) ⟨k+1,n3,g3,by omega,rfl,rfl,HI3,by simp[*]⟩
  ·have HS3:=Aa.mk hs;clear hs;simp only[c4d]
   iterate 8 all_goals try first|apply spl<;>intro h|simp (disch:=first|assumption|omega|simp) [*]
   exact HQ2.out.2 _ _ _ HS3.out
 ·have hltI:¬(k:Int)<(S.length:Int):=by omega
  have hke:k=S.length:=by omega
  subst hke;have HI0:Aa (Inv (S.length+0*I) gL n2):=⟨by simpa using HI.out⟩;clear ih HI
  iterate 8 all_goals try first|apply spl<;>intro h|simp (disch:=first|assumption|omega|simp) [*]
  refine LXR.ind (fun m gf H'=>∃ (k n2:Nat) (gL:Gb),k<=S.length/\m=S.length-k/\H'=⟨.fn gL,n2⟩/\Aa (Inv (S.length+k*I) gL n2) /\
   gf 0=some (.lit (.func (.yield l) #[] #[]))/\gf 1=some (.ptr nb 0)/\gf 21=some sv/\gf 22=some (.li S.length)/\gf 23=some (.li k)) (m0:=S.length) ?_ ?_
  ·exact⟨0,_,_,Dt _,rfl,rfl,HI0,by simp[*]⟩
  clear HI0 hgnb0 hn0 hnb0 HG w0 w1 w9 w10 w11 hk hlt hltI;rintro m gf H' ⟨k,n2,gL,hk,rfl,rfl,HI,w0,w1,w21,w22,w23⟩ ih;refine LXR.round (Ah _ _) hG [3,11] [] (by decide +kernel) ?_;obtain⟨hG1,hn0,hnb0,hgnb0⟩:=HM.out _ _ _ HI.out;have HG:=Aa.mk hG1;clear hG1;by_cases hlt:k<S.length
  ·have hltI:(k:Int)<(S.length:Int):=by omega
   obtain⟨a2,o2,qv,ha2,hia2,hc2,hq⟩:=HS.out.at hlt;rw[<- HG.out a2 ha2] at hc2;have HQV:=Aa.mk hq;have HWK:=Aa.mk fun (i:Nat) (hi:i<I)=>g1o (q:=I) (i:=i) hi hlt;have HSL:=Aa.mk (HWL.out _ (Ds hlt));have HKI:Aa (Inv (S.length+(k*I+0)) gL n2):=⟨by simpa using HI.out⟩;clear hq HI;generalize S[k]=s at *
   iterate 8 all_goals try first|apply spl<;>intro h|simp (disch:=first|assumption|omega|simp) [*]
   refine LXR.ind (fun m gf H'=>∃ (i n2:Nat) (gL:Gb),i<=I/\m=I-i/\H'=⟨.fn gL,n2⟩/\Aa (Inv (S.length+(k*I+i)) gL n2) /\
    gf 0=some (.lit (.func (.yield l) #[] #[]))/\gf 1=some (.ptr nb 0)/\gf 6=some qv/\gf 21=some sv/\gf 22=some (.li S.length)/\gf 23=some (.li k)/\gf 28=some (.li I)/\gf 29=some (.li i)) (m0:=I) ?_ ?_
   ·exact⟨0,_,_,Dt _,rfl,rfl,HKI,by simp[*]⟩
   clear HKI hgnb0 hn0 hnb0 HG w0 w1 w21 w22 w23 hc2;rintro m2 gf2 H2 ⟨i,n3,g3,hi,rfl,rfl,HI,w0,w1,w6,w21,w22,w23,w28,w29⟩ ih2;refine LXR.round (Ah _ _) hG [3,11] [] (by decide +kernel) ?_;obtain⟨hG1,hn0,hnb0,hgnb0⟩:=HM.out _ _ _ HI.out;have HG:=Aa.mk hG1;clear hG1;by_cases hii:i<I
   ·have hiiI:(i:Int)<(I:Int):=by omega
    have h1q:=HQV.out.one
    iterate 8 all_goals try first|apply spl<;>intro h|simp (disch:=first|assumption|omega|simp) [*]
    refine WC.mono (c1t (a:=s) (b:=[(i:Int)]) (by have:=HSL.out;omega) (by simp) (by simp) _ _ _ _ (Af.mono (by omega) (fun b hb=>?_) HQV.out) (Aj.of (own:=true) (z:=0) Ag (by omega))) ?_
    ·simp (disch:=omega) only[Ad];exact HG.out b hb
    rintro _ ⟨uv,g4,n4,rfl,hn4,hg4,hfu,hcu⟩;have hG4:∀ b,b<n3->g4 b=g3 b:=fun b hb=>by rw[hg4 b (by omega)];simp (disch:=omega) only[Ad]
    have h1u:=hfu.rep.one;obtain⟨gk,hk1,hk2⟩:=hfu;have HY:=Aa.mk fun K=>HST.out _ (s++[(i:Int)]) g3 n3 g4 n4 gk uv K (HWK.out i hii) HI.out (by omega) hG4 (fun a z hz=>by
     obtain⟨e1,e2,e3⟩:=hk1 a z hz;exact⟨e1,.inr ⟨by omega,e3⟩⟩) hk2
    clear hg4 hG4 hk1 hk2 hcu
    iterate 8 all_goals try first|apply spl<;>intro h|simp (disch:=first|assumption|omega|simp) [*]
    refine HY.out _ (fun g5 n5 hi5=>?_) (fun g5 n5 hs=>?_)
    ·have HI5:Aa (Inv (S.length+(k*I+(i+1))) g5 n5):=⟨hi5⟩;clear hi5 HY;simp only[c4c]
     iterate 8 all_goals try first|apply spl<;>intro h|simp (disch:=first|assumption|omega|simp) [*]
     exact ih2.out (I-(i+1)) _ _ (by omega) ⟨i+1,n5,g5,by omega,rfl,rfl,HI5,by simp[*]⟩
    ·have HS3:=Aa.mk hs;clear hs HY;simp only[c4d]
     iterate 8 all_goals try first|apply spl<;>intro h|simp (disch:=first|assumption|omega|simp) [*]
     exact HQ2.out.2 _ _ _ HS3.out
   ·have hiiI:¬(i:Int)<(I:Int):=by omega
    have hie:i=I:=by omega
    subst hie;have HI5:Aa (Inv (S.length+(k+1)*i) g3 n3):=⟨by rw[g4y,Nat.one_mul];exact HI.out⟩;clear HI ih2
    iterate 8 all_goals try first|apply spl<;>intro h|simp (disch:=first|assumption|omega|simp) [*]
    exact ih.out (S.length-(k+1)) _ _ (by omega) ⟨k+1,n3,g3,by omega,rfl,rfl,HI5,by simp[*]⟩
  ·have hltI:¬(k:Int)<(S.length:Int):=by omega
   have hke:k=S.length:=by omega
   subst hke;have HI5:Aa (Inv (Ak I S).length gL n2):=⟨by rw[b4w];exact HI.out⟩;clear HI ih
   iterate 8 all_goals try first|apply spl<;>intro h|simp (disch:=first|assumption|omega|simp) [*]
   exact HQ2.out.1 _ _ _ HI5.out
end Go.Ai
end

