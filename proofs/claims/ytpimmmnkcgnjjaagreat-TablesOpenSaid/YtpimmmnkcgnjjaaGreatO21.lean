/- A small verified interpreter over names, its proofs, and what was proved with it. No condition. -/
import Derived.Test.YtpimmmnkcgnjjaaGreatO19
import Derived.Test.YtpimmmnkcgnjjaaGreatO20
set_option linter.all false
set_option linter.deprecated false
section
namespace Go.Ai
open Go.Proofs Go.Proofs.Tryz
set_option maxRecDepth 10000
set_option maxHeartbeats 40000000
theorem d7s {I:Nat} (hI1:1<=I) (hI:I<=16) {S E:Wq} {T:Tq} (hSl:S.length<=20) (hSw:∀ w∈S,w.length<=300/\inW w I=true) (hEl:E.length<=20) (hE:∀ e∈E,0<e.length/\e.length<=300/\inW e I=true) (h0:0<T.length) (hok:∀ r∈T,r.length=I/\∀ e∈r,e.1 = -1\/(0<=e.1/\e.1<T.length))
  (c1 c4 c5:AV) (hc:allOne [c1,c4,c5]=true) (g:Gb) (n:Nat) (sv ev tv:AV) (hS:Bj g n S sv) (hEV:Bj g n E ev) (hT:Bw g n T tv) :
  WC 0 prog 51 [.agg [.li I,c1,sv,ev,c4,c5,tv]] ⟨.fn g,n⟩ fun r=>∃ l' ov g' n',r=.ret ov ⟨.fn g',n'⟩/\n<=n'/\(∀ b,b<n->g' b=g b)/\l'.Perm (Bb T E (Ak I S))/\(∀ (i j:Nat) (_:i<j) (hj:j<l'.length),0<=Bh l'[j] (l'[i]'(by omega)))/\b4y g' n n' (Bp l') ov:=by
 have h1s:=hS.choose_spec.1.one;have h1e:=hEV.choose_spec.1.one;have h1t:=hT.choose_spec.1.one;have hone:allOne [.li I,c1,sv,ev,c4,c5,tv]=true:=by
  simp only[a3j,Dq] at hc |-;simp[hc,h1s,h1e,h1t]
 have hc3:allOne [.li I,c1,sv,ev,c4,c5]=true:=by
  simp only[a3j,Dq] at hc |-;simp[hc,h1s,h1e]
 have hlenE:=@Am prog _ _ _ _ _ hEV.choose_spec.1;refine WC.enterR (Ah _ _) hG [] func51 rfl (by decide +kernel) (Dp (by kernel_rfl)) ?_
 iterate 8 all_goals try first|apply spl<;>intro h|simp (disch:=first|assumption|omega|simp) [*]
 refine WC.mono (d7k _ _ _ _ _ _ _ hone _ _) ?_;rintro _ rfl
 iterate 8 all_goals try first|apply spl<;>intro h|simp (disch:=first|assumption|omega|simp) [*]
 refine d7j hI (by omega) (fun w hw=>(hSw w hw).1) c1 ev c4 c5 tv g n (n+2) sv hS (by simp) (by decide +kernel) (fun k gL n2=>a7h (fun _=>True) g n [.li I,c1,sv,ev,c4,c5,tv] (Bb T E ((Ak I S).take k)) gL n2) (fun _ _=>False) ?_ ?_ ?_ ?_ ?_
 ·rintro k gL n2 ⟨h1,h2,h3,h4,h5⟩;exact⟨h1,by omega,by omega,h4⟩
 ·intro k w gP nP gL n2 gk wv K' hk HI hn2 hgP hgk hrw HK1 HK2;refine YB.enter rfl ?_;have HK:=Aa.mk HK1;have HL0:Aa (∀ x,a7h (fun _=>True) g n [.li I,c1,sv,ev,c4,c5,tv] x=a7h (fun _=>True) g n [.li I,c1,sv,ev,c4,c5,tv] x):=⟨fun _=>rfl⟩;have HSTP:=Aa.mk (d7m (T:=T) (E:=E) hk);have hll:(Bb T E ((Ak I S).take k)).length<=6800:=by
   have h1:=c1x (T:=T) (E:=E) (ws:=(Ak I S).take k);have h2:((Ak I S).take k).length<=340:=by
    rw[Du,b4w];have:=g3w hSl hI;omega
   have:=g3w h2 hEl;omega
  obtain⟨hwl,hwi⟩:=b4x hSw hk;have HA:Aa (a7h (fun B=>gk B=none) g n [.li I,c1,sv,ev,c4,c5,tv] (Bb T E ((Ak I S).take k)) gL n2):=⟨HI.keep (fun b hb1 hb2 _=>by
   cases hz:gk b with
   | none=>rfl
   | some z=>have:=(hgk b z hz).2;omega) hn2 hgP⟩
  have HGK:Aa (∀ a z,gk a=some z->gL a=some z/\a<n2/\a≠n+1):=⟨fun a z hz=>by
   have h1:=hgk a z hz;have h2:=HI.2.1;exact⟨h1.1,by omega,by omega⟩⟩
  have HRW:=Aa.mk hrw;have hgn:=HA.out.2.2.1;clear HK1 HK2 HL0 hk HI hgP hgk hrw hn2;generalize Bb T E ((Ak I S).take k)=L0 at *;have HEV:=Aa.mk hEV;have HE:=Aa.mk hE;have HG0:=Aa.mk HA.out.1
  iterate 8 all_goals try first|apply spl<;>intro h|simp (disch:=first|assumption|omega|simp) [*]
  clear hgn;refine LXR.ind (fun m gf H'=>∃ (j n3:Nat) (g3:Gb),j<=E.length/\m=E.length-j/\H'=⟨.fn g3,n3⟩/\n2<=n3/\Aa (a7h (fun B=>gk B=none) g n [.li I,c1,sv,ev,c4,c5,tv] (L0++Db T (E.take j) w) g3 n3)/\Aa (∀ a z,gk a=some z->g3 a=some z/\a<n2/\a≠n+1) /\
   gf 1=some (.ptr n 0)/\gf 3=some (.ptr (n+1) 0)/\gf 4=some wv/\gf 14=some ev/\gf 15=some (.li E.length)/\gf 16=some (.li j)) (m0:=E.length) ?_ ?_
  ·exact⟨0,n2,gL,Dt _,rfl,rfl,Dm _,⟨by rw[List.take_zero];simpa[Db] using HA.out⟩,HGK,by simp[*]⟩
  clear HA HGK;rintro m gf H' ⟨j,n3,g3,hj,rfl,rfl,hn3,HA,HGK,w1,w3,w4,w14,w15,w16⟩ ih;refine LXR.round (Ah _ _) hG [] [] (by decide +kernel) ?_;have HG3:=Aa.mk HA.out.1;have hgn:=HA.out.2.2.1;have hn33:=HA.out.2.1;by_cases hlt:j<E.length
  ·have hltI:(j:Int)<(E.length:Int):=by omega
   obtain⟨a2,o2,qv,ha2,hia2,hc2,hq⟩:=HEV.out.at hlt;rw[<- HG3.out a2 ha2] at hc2;obtain⟨he1,he2,he3⟩:=HE.out _ (Ds hlt);have HST:=Aa.mk (d7l (T:=T) (w:=w) hlt);have HB:=Aa.mk (c1t (a:=w) (b:=E[j]) (by omega) (by omega) he1 g3 n3 wv qv (Af.ext (by omega) (fun a x _ hx=>(HGK.out a x hx).1) HRW.out) (Af.mono (by omega) HG3.out hq));clear hq;generalize E[j]=e at *
   iterate 8 all_goals try first|apply spl<;>intro h|simp (disch:=first|assumption|omega|simp) [*]
   refine WC.mono HB.out ?_;rintro _ ⟨uv,g4,n4,rfl,hn4,hg4,hfu,hcu⟩;have HG4:=Aa.mk hg4;have hgn4:=(hg4 n (by omega)).trans hgn;have HKW:=Aa.mk (c1v h0 hok (w:=w++e) (by rw[Dr];omega) (b1c hwi he3) (.li I) c1 sv ev c4 c5 hc3 g4 n4 tv uv (hT.mono (by omega) fun b hb=>(hg4 b (by omega)).trans (HG3.out b hb)) hfu.rep);have HFU:=Aa.mk hfu;have h1u:=hfu.rep.one;have hcu1:=hfu.rep.cell;have HCU:=Aa.mk hcu;clear HB hg4 hfu hcu
   iterate 8 all_goals try first|apply spl<;>intro h|simp (disch:=first|assumption|omega|simp) [*]
   refine WC.mono HKW.out ?_;rintro _ ⟨kv,g5,n5,rfl,hn5,hg5,_⟩;have HG5:Aa (∀ b,b<n3->g5 b=g3 b):=⟨fun b hb=>(hg5 b (by omega)).trans (HG4.out b hb)⟩;have HFV:Aa (a1b g5 n3 n5 (w++e) uv):=⟨HFU.out.keep (Dm _) hn5 fun a _ h=>hg5 a h⟩;clear HKW HG4 HFU hg5
   cases hA:Bf T 0 (w++e) with
   | some u =>
    have HL:Aa (a7h (fun B=>gk B=none) g n [.li I,c1,sv,ev,c4,c5,tv] (L0++Db T (E.take (j+1)) w) g5 n5):=⟨by
     rw[HST.out,hA];simpa using HA.out.keep (fun _ _ _ h=>h) (by omega) HG5.out⟩
    simp only[g5a];clear HA HST hA
    iterate 8 all_goals try first|apply spl<;>intro h|simp (disch:=first|assumption|omega|simp) [*]
    exact ih.out (E.length-(j+1)) _ _ (by omega) ⟨j+1,n5,g5,by omega,rfl,rfl,by omega,HL,⟨fun a z hz=>by have:=HGK.out a z hz;exact⟨(HG5.out a (by omega)).trans this.1,this.2⟩⟩,by simp[*]⟩
   | none =>
    have HL:Aa (L0++Db T (E.take (j+1)) w=(L0++Db T (E.take j) w)++[w++e]):=⟨by rw[HST.out,hA];simp⟩;have hl2:(L0++Db T (E.take j) w).length<=7000:=by
     have:=c7j (T:=T) (E:=E.take j) (w:=w);rw[Du] at this;rw[Dr];omega
    simp only[Option.isSome_none];obtain⟨hA1,hA2,hA3,hA4,ov,hA5,hA6⟩:=HA.out;have hm1:∀ b,b<n3->g5 b=g3 b:=HG5.out;have hb1:=(hm1 (n+1) (by omega)).trans hA5;have HA1:=Aa.mk hA1;have HA34:=Aa.mk (And.intro hA3 hA4);have HL2:=Aa.mk hl2;clear HA HST hA hm1 hA1 hA3 hA4 hA5;generalize L0++Db T (E.take j) w=L1 at *;have h2u:allOne [uv]=true:=by simp[h1u]
    rcases hA6 with⟨rfl,rfl⟩|⟨hl0,B,cs,rfl,hB1,hB2,hB3,hB4,hcl,hrows,hcap⟩
    ·iterate 8 all_goals try first|apply spl<;>intro h|simp (disch:=first|assumption|omega|simp) [*]
     refine ih.out (E.length-(j+1)) _ _ (by omega) ⟨j+1,n5+1+1,_,by omega,rfl,rfl,by omega,⟨?_,by omega,?_,?_,_,Ag,?_⟩,⟨fun a z hz=>?_⟩,by simp[*]⟩
     ·intro b hb;simp (disch:=omega) only[Ad,Ae];exact(HG5.out b (by omega)).trans (HA1.out b hb)
     ·simp (disch:=omega) only[Ad,Ae];exact(HG5.out n (by omega)).trans HA34.out.1
     ·simp (disch:=omega) only[a4z,Ad,Ae];exact(HG5.out (n+2) (by omega)).trans HA34.out.2
     ·rw[HL.out];refine a6h.push (gL:=g3) (n2:=n3) (l:=[]) (cs:=[]) 0 ⟨rfl,fun k h=>(by cases h)⟩ (by simp) (by omega) (by omega) (fun b h1 h2 _=>?_) (HFV.out.keep (Dm _) (Dm _) fun a h1 h2=>?_) HCU.out ?_ ?_
      ·simp (disch:=omega) only[a4z,Ad,Ae];exact HG5.out b h2
      ·simp (disch:=omega) only[a4z,Ad,Ae]
      ·simp (disch:=omega) only[a4z,Ag,Ae];rfl
      ·cases hz:gk (n5+1) with
       | none=>rfl
       | some z=>have:=HGK.out _ z hz;omega
     ·have:=HGK.out a z hz;simp (disch:=omega) only[Ad,Ae];exact⟨(HG5.out a (by omega)).trans this.1,this.2⟩
    ·have hgB:=(HG5.out B (by omega)).trans hB4;have hl7:=HL2.out;have hcl1:cs.length=L1.length*1:=by omega
     iterate 8 all_goals try first|apply spl<;>intro h|simp (disch:=first|assumption|omega|simp) [*]
     refine ih.out (E.length-(j+1)) _ _ (by omega) ⟨j+1,n5+1+1,_,by omega,rfl,rfl,by omega,⟨?_,by omega,?_,?_,_,Ag,?_⟩,⟨fun a z hz=>?_⟩,by simp[*]⟩
     ·intro b hb;simp (disch:=omega) only[Ad,Ae];exact(HG5.out b (by omega)).trans (HA1.out b hb)
     ·simp (disch:=omega) only[Ad,Ae];exact(HG5.out n (by omega)).trans HA34.out.1
     ·simp (disch:=omega) only[a4z,Ad,Ae];exact(HG5.out (n+2) (by omega)).trans HA34.out.2
     ·rw[HL.out];refine a6h.push (gL:=g3) (n2:=n3) B hrows hcap (by omega) (by omega) (fun b h1 h2 h3=>?_) (HFV.out.keep (Dm _) (Dm _) fun a h1 h2=>?_) HCU.out ?_ ?_
      ·simp (disch:=omega) only[a4z,Ad,Ae];exact HG5.out b h2
      ·simp (disch:=omega) only[a4z,Ad,Ae]
      ·simp (disch:=omega) only[a4z,Ag,Ae]
      ·cases hz:gk (n5+1) with
       | none=>rfl
       | some z=>have:=HGK.out _ z hz;omega
     ·have:=HGK.out a z hz;have hab:a≠B:=by rintro rfl;rw[hz] at hB3;cases hB3
      simp (disch:=omega) only[Ad,Ae];exact⟨(HG5.out a (by omega)).trans this.1,this.2⟩
  ·have hltI:¬(j:Int)<(E.length:Int):=by omega
   have HL:Aa (a7h (fun _=>True) g n [.li I,c1,sv,ev,c4,c5,tv] (Bb T E ((Ak I S).take (k+1))) g3 n3):=⟨by
    rw[HSTP.out];have:=HA.out.keep (Y:=fun _=>True) (fun _ _ _ _=>trivial) (Dm _) (fun _ _=>rfl)
    rwa [Ee (by omega)] at this⟩
   clear HA HSTP
   iterate 8 all_goals try first|apply spl<;>intro h|simp (disch:=first|assumption|omega|simp) [*]
   exact HK.out _ _ HL.out
 ·refine⟨fun b hb=>?_,by omega,?_,Ag,_,?_,.inl ⟨by simp[Bb],rfl⟩⟩
  ·simp (disch:=omega) only[Ad]
  ·simp (disch:=omega) only[Ad,Ag]
  ·simp (disch:=omega) only[Ad,Ag]
 ·intro gL n2 HI;rw[Ee (Dm _)] at HI;obtain⟨hA1,hA2,hA3,hA4,ov,hA5,hA6⟩:=HI;have HA1:=Aa.mk hA1;have HA6:=Aa.mk hA6;clear hA1 hA6
  iterate 8 all_goals try first|apply spl<;>intro h|simp (disch:=first|assumption|omega|simp) [*]
  rcases HA6.out with⟨hl0,rfl⟩|⟨hl0,B,cs,rfl,hB1,hB2,_,hB3,hcl,hrows,hcap⟩
  ·refine WC.mono (g1v _) ?_;rintro _ rfl
   iterate 8 all_goals try first|apply spl<;>intro h|simp (disch:=first|assumption|omega|simp) [*]
   refine WC.mono (g1w _) ?_;rintro _ rfl
   iterate 8 all_goals try first|apply spl<;>intro h|simp (disch:=first|assumption|omega|simp) [*]
   exact⟨[],_,_,_,⟨rfl,rfl,rfl⟩,by omega,HA1.out,(by first|rfl|simp[hl0]),fun i j _ hj=>(by cases hj),a6h.listF (X:=fun _=>True) (.inl ⟨rfl,rfl⟩)⟩
  ·have hll:(Bb T E (Ak I S)).length<=100000:=by
    have h1:=c1x (T:=T) (E:=E) (ws:=Ak I S);have h2:(Ak I S).length<=340:=by
     rw[b4w];have:=g3w hSl hI;omega
    have:=g3w h2 hEl;omega
   have hww:∀ w∈Bb T E (Ak I S),w.length<=100000:=fun w hw=>by
    obtain⟨u,hu,hw⟩:=g4i.1 hw;obtain⟨e,he,rfl⟩:=Eg.1 (g5t.1 hw).1;obtain⟨k,hk⟩:=List.getElem?_of_mem hu;have h1:=b4x hSw hk;have h2:=hE e he;rw[Dr];omega
   clear HA6;generalize Bb T E (Ak I S)=U at *;refine WC.mono (g1u hrows hB3 hl0 hll fun w hw=>by have:=hww w hw;omega) ?_;rintro _ ⟨l',cs',hp,hs,rfl,hr2,hm2⟩;have hll2:l'.length=U.length:=hp.length_eq;have HP:=Aa.mk hp;have HS:=Aa.mk hs;have HR2:=Aa.mk hr2;have HM2:=Aa.mk hm2;have hb5:(Ap gL B (some (.cells cs' true 1))) (n+1)=some (.cells [.slq B 0 U.length 0] true 0):=by simp (disch:=omega) only[Ad,Ae];exact hA5
   have HC:=Aa.mk (g1z (l:=l') hr2 Ag (by omega) (by omega) (fun w hw=>hww w (hp.mem_iff.1 hw)));rw[hll2] at HC;have HG9:Aa (∀ b,b<n->Ap gL B (some (.cells cs' true 1)) b=g b):=⟨fun b hb=>by simp (disch:=omega) only[Ad,Ae];exact HA1.out b hb⟩;have hgB9:Ap gL B (some (.cells cs' true 1)) B=some (.cells cs' true 1):=Ag;clear hp hs hr2 hm2 hrows hB3 hA3 hA4 hA5;generalize Ap gL B (some (.cells cs' true 1))=g9 at *
   iterate 8 all_goals try first|apply spl<;>intro h|simp (disch:=first|assumption|omega|simp) [*]
   refine WC.mono HC.out ?_;rintro _ ⟨g7,c7,rfl,e1,e2,e3,e4,e5⟩;have E1:=Aa.mk e1;have E5:=Aa.mk (And.intro e4 e5);have e2':=e2;clear HC e1 e4 e5
   iterate 8 all_goals try first|apply spl<;>intro h|simp (disch:=first|assumption|omega|simp) [*]
   refine⟨l',_,_,_,⟨rfl,rfl,rfl⟩,by omega,fun b hb=>(E1.out b (by omega)).trans (HG9.out b hb),HP.out,(fun i j h hj=>by have:=HS.out i j h hj;omega),c7.take (Bp l').length,.inr ⟨B,0,hB2,.inr ⟨0,rfl⟩,⟨c7,true,1,e2',by rw[Du];omega,by rw[g5l,Du,g4a e3]⟩⟩,?_,fun q hq=>hcap q (HM2.out q (E5.out.2 q hq))⟩;exact E5.out.1.ext (Dm _) fun a z _ hz=>by
    obtain⟨f1,f2,f3⟩:=a8z hz;rw[a5m (by omega),E1.out a f2];exact f3
 ·intro _ _ h;exact h.elim
end Go.Ai
end

