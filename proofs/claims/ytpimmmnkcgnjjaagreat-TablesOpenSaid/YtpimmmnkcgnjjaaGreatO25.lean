/- A small verified interpreter over names, its proofs, and what was proved with it. No condition. -/
import Derived.Test.YtpimmmnkcgnjjaaGreatO23
import Derived.Test.YtpimmmnkcgnjjaaGreatO11
import Derived.Test.YtpimmmnkcgnjjaaGreatO24
set_option linter.all false
set_option linter.deprecated false
section
namespace Go.Ai
open Go.Proofs Go.Proofs.Tryz
set_option maxRecDepth 10000
set_option maxHeartbeats 40000000
variable {I:Nat} {O:Int} {S E:Wq} {T:Tq}
theorem g2l {l:Wq} (hll:l.length<=10000) (hwl:∀ v∈l,0<v.length/\v.length<=10000) (g:Gb) (n:Nat) (lv:AV) (hl:Bj g n l lv) :
  WC 0 prog 65 [lv] ⟨.fn g,n⟩ fun r=>∃ ov g' n' B cs,r=.ret ov ⟨.fn g',n'⟩/\n<=n'/\(∀ b,b<n->g' b=g b)/\Bc g' n n' B ov (a0i l).length 1 cs/\RowsW g' n' (a0i l) cs/\∀ q∈cs,Bm q:=by
 have hlen:=@Am prog _ _ _ _ _ hl.choose_spec.1;have HL:=Aa.mk hl;have HW:=Aa.mk hwl;clear hl hwl;refine ent [] func65 rfl (by decide +kernel) (by kernel_rfl) ?_
 iterate 8 all_goals try first|apply spl<;>intro h|simp (disch:=first|assumption|omega|simp) [*]
 refine LX.ind (fun m gf H'=>∃ (k n2 B:Nat) (gL:Gb) (ov:AV) (cs:List AV),k<=l.length/\m=l.length-k/\H'=⟨.fn gL,n2⟩/\n<=n2/\n<=B/\Aa (∀ b,b<n->gL b=g b)/\Aa (Bc gL n n2 B ov (a0i (l.take k)).length 1 cs)/\Aa (RowsW (a2b B gL) n2 (a0i (l.take k)) cs/\∀ q∈cs,Bm q) /\
  gf 0=some lv/\gf 3=some ov/\gf 4=some (.li k)) (m0:=l.length) ?_ ?_
 ·exact⟨0,n,n,g,.nl,[],Dt _,rfl,rfl,Dm _,Dm _,⟨fun _ _=>rfl⟩,⟨.inl ⟨rfl,rfl,rfl⟩⟩,⟨⟨rfl,fun k h=>by cases h⟩,by simp⟩,by simp[*]⟩
 rintro m gf H' ⟨k,n2,B,gL,ov,cs,hk,rfl,rfl,hn2,hnB,HG,HGR,HR,w0,w3,w4⟩ ih;refine rnd [] (by decide +kernel) ?_;by_cases hlt:k<l.length
 ·have hltI:(k:Int)<(l.length:Int):=by omega
  obtain⟨a2,o2,qv,ha2,hia2,hc2,hq⟩:=HL.out.at hlt;rw[<- HG.out a2 ha2] at hc2;have hwk:=HW.out _ (Ds hlt);have hsl:=d7x (l.take k);have htl:(l.take k).length<=l.length:=by rw[Du];omega
  have HP:=Aa.mk (g2e (l:=a0i (l.take k)) (by omega) (g2a _) (fun v hv=>(HW.out v (g4d (b8c.1 hv))).2) hwk.1 hwk.2 gL n n2 B cs ov qv hn2 HGR.out HR.out.1 HR.out.2 (Af.ext hn2 (fun a z ha hz=>by rw[a2p (by omega)];exact(HG.out a ha).trans hz) hq));have hst:Bv l[k] (a0i (l.take k))=a0i (l.take (k+1)):=by rw[g4c hlt,c1y]
  rw[hst] at HP;clear hst hq hsl htl
  iterate 8 all_goals try first|apply spl<;>intro h|simp (disch:=first|assumption|omega|simp) [*]
  refine WC.mono HP.out ?_;rintro _ ⟨ov',g3,n3,B3,cs3,rfl,hn3,hg3,hgr3,hr3,hc3⟩;have HG3:Aa (∀ b,b<n->g3 b=g b):=⟨fun b hb=>(hg3 b (by omega) (by omega)).trans (HG.out b hb)⟩;have hB3:n<=B3:=by
   rcases hgr3 with⟨h,_⟩|⟨_,_,h,_⟩
   ·have:=g4m (b8c.2 (show l[k]∈l.take (k+1) by rw[g4c hlt];exact List.mem_append_right _ (Ek.2 rfl)));omega
   ·exact h
  have HGR3:=Aa.mk hgr3;have HR3:=Aa.mk (And.intro hr3 hc3);clear hg3 hgr3 hr3 hc3 HP
  iterate 8 all_goals try first|apply spl<;>intro h|simp (disch:=first|assumption|omega|simp) [*]
  exact ih.out (l.length-(k+1)) _ _ (by omega) ⟨k+1,n3,B3,g3,ov',cs3,by omega,rfl,rfl,by omega,hB3,HG3,HGR3,HR3,by simp[*]⟩
 ·have hltI:¬(k:Int)<(l.length:Int):=by omega
  rw[Ee (by omega)] at HGR HR
  iterate 8 all_goals try first|apply spl<;>intro h|simp (disch:=first|assumption|omega|simp) [*]
  exact⟨_,_,_,⟨rfl,rfl,rfl⟩,hn2,HG.out,_,_,HGR.out,HR.out.1.ext (Dm _) (fun a z _ hz=>(a3b hz).2),HR.out.2⟩
theorem Bc.listc {g:Gb} {lo n B:Nat} {l:Wq} {sv:AV} {cs:List AV} (h:Bc g lo n B sv l.length 1 cs) (hr:RowsW g n l cs) (hc:∀ q∈cs,Bm q) : Bi g n l sv :=
 ⟨cs,Af.ext (Dm _) (fun a x _ hx=>by
  split at hx
  ·exact hx
  ·cases hx) h.slice,hr,hc⟩
theorem d8g (hp:a2a I O S E T) {ws:Wq} (hws:ws.length<=80) : (Bb T E ws).length<=1600:=by
 have h1:=c1x (T:=T) (E:=E) (ws:=ws);have:=g3w hws hp.el;omega
theorem g2m (hp:a2a I O S E T) {w:Wd} (h:w∈Bb T E (Ak I S)) : 0<w.length/\w.length<=700:=by
 obtain⟨u,hu,hw⟩:=g4i.1 h;obtain⟨e,he,rfl⟩:=Eg.1 (g5t.1 hw).1;obtain⟨k,hk⟩:=List.getElem?_of_mem hu;have h1:=b4x hp.sw hk;have h2:=hp.ew e he;rw[Dr];omega
theorem g2n (hp:a2a I O S E T) (g:Gb) (n:Nat) (sv ev tv:AV) (hS:Bj g n S sv) (hEV:Bj g n E ev) (hT:Bw g n T tv) :
  WC 0 prog 18 [.agg [.li I,.li O,sv,ev,.li I,.li O,tv]] ⟨.fn g,n⟩ fun r=>∃ ov g' n',r=.ret ov ⟨.fn g',n'⟩/\n<=n'/\(∀ b,b<n->g' b=g b)/\Bi g' n' (b3b (a0i (Bb T E (Ak I S)))) ov:=by
 have h1s:=hS.choose_spec.1.one;have h1e:=hEV.choose_spec.1.one;have h1t:=hT.choose_spec.1.one;have hone:allOne [.li I,.li O,sv,ev,.li I,.li O,tv]=true:=by simp[h1s,h1e,h1t]
 have hlenE:=@Am prog _ _ _ _ _ hEV.choose_spec.1;have HWD:=Aa.mk (d7a (I:=I) (by have:=hp.i2;omega) (S:=S) (by have:=hp.sl;omega) hp.s0 (fun w hw=>(hp.sw w hw).1) (.li O) ev (.li I) (.li O) tv rfl h1e rfl rfl h1t (Ap g n (some (.cells [.li I,.li O,sv,ev,.li I,.li O,tv] true 0))) (n+1) sv (hS.mono (by omega) fun b hb=>Ad hb));have HEV:=Aa.mk hEV;have HP:=Aa.mk hp;have HKN:=Aa.mk fun (w:Wd) (hwl:w.length<=1000) (hin:inW w I=true) (gX:Gb) (n2:Nat) (wv:AV) (hn:n<=n2) (hX:∀ b,b<n->gX b=g b) (hw:Aj gX n2 w wv)=>c1u (O:=O) hp.t0 hp.ok (w:=w) hwl hin gX n2 tv wv (hT.mono hn hX) hw;have hwb:=d8f hp;have hel:=hp.el;clear hS hEV hT hp;refine ent pl18 func18 rfl (by decide +kernel) (by kernel_rfl) ?_
 iterate 8 all_goals try first|apply spl<;>intro h|simp (disch:=first|assumption|omega|simp) [*]
 refine WC.mono HWD.out ?_;rintro _ ⟨wv,g1,n1,rfl,hn1,hg1,BW,csW,hgrW,hrW⟩;have HG1:Aa (∀ b,b<n->g1 b=g b):=⟨fun b hb=>(hg1 b (by omega)).trans (Ad hb)⟩;have hgn1:=(hg1 n (by omega)).trans Ag;have hlw:Bj g1 n1 (Ak I S) wv:=⟨csW,Af.ext (Dm _) (fun a x _ hx=>by
  split at hx
  ·exact hx
  ·cases hx) hgrW.slice,hrW⟩
 have hlenW:=@Am prog _ _ _ _ _ hlw.choose_spec.1;have HLW:=Aa.mk hlw;clear hg1 hlw hgrW hrW HWD
 iterate 8 all_goals try first|apply spl<;>intro h|simp (disch:=first|assumption|omega|simp) [*]
 refine LX.cut (K:=b2h 0 fun gf gN nc=>∃ (B:Nat) (ov:AV) (cs:List AV),n1<=nc/\Aa (∀ b,b<n1->gN b=g1 b)/\Aa (Bc gN n1 nc B ov (Bb T E (Ak I S)).length 1 cs/\RowsW (a2b B gN) nc (Bb T E (Ak I S)) cs)/\gf 1=some (.ptr n 0)/\gf 3=some ov) ?_ ?_
 ·refine LX.ind (fun m gf H'=>∃ (k n2 B:Nat) (gL:Gb) (ov:AV) (cs:List AV),k<=(Ak I S).length/\m=(Ak I S).length-k/\H'=⟨.fn gL,n2⟩/\n1<=n2/\Aa (∀ b,b<n1->gL b=g1 b)/\Aa (Bc gL n1 n2 B ov (Bb T E ((Ak I S).take k)).length 1 cs/\RowsW (a2b B gL) n2 (Bb T E ((Ak I S).take k)) cs) /\
   gf 1=some (.ptr n 0)/\gf 3=some ov/\gf 4=some wv/\gf 5=some (.li k)) (m0:=(Ak I S).length) ?_ ?_
  ·exact⟨0,n1,0,g1,.nl,[],Dt _,rfl,rfl,Dm _,⟨fun _ _=>rfl⟩,⟨.inl ⟨by simp[Bb],rfl,rfl⟩,by simp[Bb],fun k h=>by simp[Bb] at h⟩,by simp[*]⟩
  rintro m gf H' ⟨k,n2,B,gL,ov,cs,hk,rfl,rfl,hn2,HG,HGR,w1,w3,w4,w5⟩ ih;refine rnd pl18 (by decide +kernel) ?_;by_cases hlt:k<(Ak I S).length
  ·have hltI:(k:Int)<((Ak I S).length:Int):=by omega
   obtain⟨a2,o2,wq,ha2,hia2,hc2,hwq⟩:=HLW.out.at hlt;rw[<- HG.out a2 ha2] at hc2;obtain⟨hwl,hwi⟩:=b4x HP.out.sw (Dy hlt);have HSTP:=Aa.mk (d7m (T:=T) (E:=E) (Dy hlt));have hll:=d8g HP.out (ws:=(Ak I S).take k) (by rw[Du];omega);have HWQ:=Aa.mk hwq;clear hwq;generalize (Ak I S)[k]=w at *;generalize Bb T E ((Ak I S).take k)=L0 at *
   iterate 8 all_goals try first|apply spl<;>intro h|simp (disch:=first|assumption|omega|simp) [*]
   refine LX.ind (fun m gf H'=>∃ (j n3 B:Nat) (g3:Gb) (ov:AV) (cs:List AV),j<=E.length/\m=E.length-j/\H'=⟨.fn g3,n3⟩/\n2<=n3/\Aa (∀ b,b<n1->g3 b=g1 b)/\Aa (Bc g3 n1 n3 B ov (L0++Db T (E.take j) w).length 1 cs/\RowsW (a2b B g3) n3 (L0++Db T (E.take j) w) cs) /\
    gf 1=some (.ptr n 0)/\gf 3=some ov/\gf 4=some wv/\gf 5=some (.li k)/\gf 6=some (.li j)) (m0:=E.length) ?_ ?_
   ·exact⟨0,n2,B,gL,ov,cs,Dt _,rfl,rfl,Dm _,HG,⟨by simpa[Db] using HGR.out⟩,by simp[*]⟩
   clear HGR w1 w3 w4 w5;rintro m2 gf2 H2 ⟨j,n3,B,g3,ov,cs,hj,rfl,rfl,hn3,HG3,HGR,w1,w3,w4,w5,w6⟩ ih2;refine rnd pl18 (by decide +kernel) ?_;have hgn3:=(HG3.out n (by omega)).trans hgn1;have hk0:Aa (∀ b,b<n->g3 b=g b):=⟨fun b hb=>(HG3.out b (by omega)).trans (HG1.out b hb)⟩;by_cases hlt2:j<E.length
   ·have hltI2:(j:Int)<(E.length:Int):=by omega
    obtain⟨a3,o3,eq,ha3,hia3,hc3,heq⟩:=HEV.out.at hlt2;rw[<- hk0.out a3 ha3] at hc3;have hc2':=hc2;rw[HG.out a2 ha2,<- HG3.out a2 ha2] at hc2';obtain⟨he1,he2,he3⟩:=HP.out.ew _ (Ds hlt2);have HST:=Aa.mk (d7l (T:=T) (w:=w) hlt2);have HB:=Aa.mk (c1k (a:=w) (b:=E[j]) (by omega) (by omega) he1 g3 n3 wq eq (Af.mono (by omega) HG3.out HWQ.out) (Af.mono (by omega) hk0.out heq));clear heq;generalize E[j]=e at *
    iterate 8 all_goals try first|apply spl<;>intro h|simp (disch:=first|assumption|omega|simp) [*]
    refine WC.mono HB.out ?_;rintro _ ⟨uv,g4,n4,rfl,hn4,hg4,hfu⟩;have HG4:=Aa.mk hg4;have hgn4:=(hg4 n (by omega)).trans hgn3;have HKW:=Aa.mk (HKN.out (w++e) (by rw[Dr];omega) (b1c hwi he3) g4 n4 uv (by omega) (fun b hb=>(hg4 b (by omega)).trans (hk0.out b hb)) hfu.rep);have h1u:=hfu.rep.one;have hcu1:=hfu.rep.cell;have h2u:allOne [uv]=true:=by simp[h1u]
    have HFU:=Aa.mk hfu;clear HB hg4 hfu
    iterate 8 all_goals try first|apply spl<;>intro h|simp (disch:=first|assumption|omega|simp) [*]
    refine WC.mono HKW.out ?_;rintro _ ⟨kv,g5,n5,rfl,hn5,hg5,_⟩;have HG5:Aa (∀ b,b<n3->g5 b=g3 b):=⟨fun b hb=>(hg5 b (by omega)).trans (HG4.out b hb)⟩;have HFV:Aa (a1b g5 n3 n5 (w++e) uv):=⟨HFU.out.keep (Dm _) hn5 fun a _ h=>hg5 a h⟩;have hrow5:Aa (RowsW (a2b B g5) n5 (L0++Db T (E.take j) w) cs):=⟨HGR.out.2.ext (by omega) fun a x ha hx=>by
     have h9:=a3b hx;rw[a2p h9.1,HG5.out a ha];exact h9.2⟩
    clear HKW HG4 HFU hg5
    cases hA:Bf T 0 (w++e) with
    | some u =>
     have HL:Aa (L0++Db T (E.take (j+1)) w=L0++Db T (E.take j) w):=⟨by rw[HST.out,hA];simp⟩;simp only[g5a];have HGR5:Aa (Bc g5 n1 n5 B ov (L0++Db T (E.take (j+1)) w).length 1 cs/\RowsW (a2b B g5) n5 (L0++Db T (E.take (j+1)) w) cs):=⟨by
      rw[HL.out];exact⟨HGR.out.1.keep (by omega) fun h1 h2=>HG5.out B h2,hrow5.out⟩⟩
     clear HGR HST hA HL hrow5
     iterate 8 all_goals try first|apply spl<;>intro h|simp (disch:=first|assumption|omega|simp) [*]
     exact ih2.out (E.length-(j+1)) _ _ (by omega) ⟨j+1,n5,B,g5,ov,cs,by omega,rfl,rfl,by omega,⟨fun b hb=>(HG5.out b (by omega)).trans (HG3.out b hb)⟩,HGR5,by simp[*]⟩
    | none =>
     have HL:Aa (L0++Db T (E.take (j+1)) w=(L0++Db T (E.take j) w)++[w++e]):=⟨by rw[HST.out,hA];simp⟩;have hl2:(L0++Db T (E.take j) w).length<=7000:=by
      have:=c7j (T:=T) (E:=E.take j) (w:=w);rw[Du] at this;have:=HP.out.el;rw[Dr];omega
     simp only[Option.isSome_none];have hcl:cs.length=(L0++Db T (E.take j) w).length*1:=by have:=HGR.out.2.1;omega
     have hrow6:=hrow5;have HGRa:=Aa.mk HGR.out.1;have HB5:Aa (∀ c z,B<n3->g3 B=some (.cells c true z)->g5 B=some (.cells c true z)):=⟨fun c z h1 h2=>(HG5.out B h1).trans h2⟩;clear HST hA HGR;generalize L0++Db T (E.take j) w=L1 at *;rcases HGRa.out with⟨h6,hc6,hs6⟩|⟨h6,hs6,hC1,hC2,hC3,hC4⟩
     ·subst hs6;have HZ:=Aa.mk (And.intro h6 hc6);clear h6 hc6
      iterate 8 all_goals try first|apply spl<;>intro h|simp (disch:=first|assumption|omega|simp) [*]
      refine ih2.out (E.length-(j+1)) _ _ (by omega) ⟨j+1,n5+1+1,n5+1,_,.slq (n5+1) 0 (L1.length+1) 0,cs++[uv],by omega,rfl,rfl,by omega,⟨fun b hb=>?_⟩,⟨?_,?_⟩,by simp[*],by simp[HZ.out.1],by simp[*]⟩
      ·simp (disch:=omega) only[Ad,Ae];exact(HG5.out b (by omega)).trans (HG3.out b hb)
      ·rw[HL.out,Dr,Ef];refine .mk ?_ (by omega) (by omega) (by simp;omega);rw[HZ.out.2];simp (disch:=omega) only[Ad,Ae,Ag];rfl
      ·rw[HL.out];refine(hrow6.out.ext (by omega) fun a x ha hx=>?_).snoc ?_
       ·have h9:=a3b hx;rw[a2p (by omega)];simp (disch:=omega) only[Ad,Ae];exact h9.2
       ·obtain⟨gk,q1,q2⟩:=HFV.out;refine Af.ext (by omega) (fun a z _ hz=>?_) q2;obtain⟨e1,e2,e3⟩:=q1 a z hz;rw[a2p (by omega)];simp (disch:=omega) only[Ad,Ae];exact e1
     ·subst hs6;have hC5:=HB5.out _ _ hC2 hC3
      iterate 8 all_goals try first|apply spl<;>intro h|simp (disch:=first|assumption|omega|simp) [*]
      refine ih2.out (E.length-(j+1)) _ _ (by omega) ⟨j+1,n5+1+1,n5+1,_,.slq (n5+1) 0 (L1.length+1) 0,cs++[uv],by omega,rfl,rfl,by omega,⟨fun b hb=>?_⟩,⟨?_,?_⟩,by simp[*]⟩
      ·simp (disch:=omega) only[Ad,Ae];exact(HG5.out b (by omega)).trans (HG3.out b hb)
      ·rw[HL.out,Dr,Ef];refine .mk ?_ (by omega) (by omega) (by simp;omega);simp (disch:=omega) only[Ad,Ae,Ag]
      ·rw[HL.out];refine(hrow6.out.ext (by omega) fun a x ha hx=>?_).snoc ?_
       ·have h9:=a3b hx;rw[a2p (by omega)];simp (disch:=omega) only[Ad,Ae];exact h9.2
       ·obtain⟨gk,q1,q2⟩:=HFV.out;refine Af.ext (by omega) (fun a z _ hz=>?_) q2;obtain⟨e1,e2,e3⟩:=q1 a z hz;rw[a2p (by omega)];simp (disch:=omega) only[Ad,Ae];exact e1
   ·have hltI2:¬(j:Int)<(E.length:Int):=by omega
    rw[Ee (by omega),<- HSTP.out] at HGR;clear HSTP ih2
    iterate 8 all_goals try first|apply spl<;>intro h|simp (disch:=first|assumption|omega|simp) [*]
    exact ih.out ((Ak I S).length-(k+1)) _ _ (by omega) ⟨k+1,n3,B,g3,ov,cs,by omega,rfl,rfl,by omega,HG3,HGR,by simp[*]⟩
  ·have hltI:¬(k:Int)<((Ak I S).length:Int):=by omega
   rw[Ee (by omega)] at HGR
   iterate 8 all_goals try first|apply spl<;>intro h|simp (disch:=first|assumption|omega|simp) [*]
   exact⟨B,cs,HGR⟩
 rintro _ ⟨gf,gN,nc,rfl,B,ov,cs,hnc,HG,HGR,w1,w3⟩;have hb:=d8g HP.out hwb;have HUW:=Aa.mk fun w (h:w∈Bb T E (Ak I S))=>g2m HP.out h;have HSO:=Aa.mk (g2l (l:=Bb T E (Ak I S)) (by omega) (fun v hv=>⟨(HUW.out v hv).1,by have:=(HUW.out v hv).2;omega⟩) gN nc ov ⟨cs,Af.ext (Dm _) (fun a x _ hx=>by
  split at hx
  ·exact hx
  ·cases hx) HGR.out.1.slice,HGR.out.2.ext (Dm _) fun a z _ hz=>(a3b hz).2⟩)
 iterate 8 all_goals try first|apply spl<;>intro h|simp (disch:=first|assumption|omega|simp) [*]
 refine WC.mono HSO.out ?_;rintro _ ⟨ov2,g3,n3,B3,cs3,rfl,hn3,hg3,hgr3,hr3,hcp3⟩;have HG3:Aa (∀ b,b<n->g3 b=g b):=⟨fun b hb=>(hg3 b (by omega)).trans ((HG.out b (by omega)).trans (HG1.out b hb))⟩;have hsl:=d7x (Bb T E (Ak I S));have HRE:=Aa.mk (g2d (l:=a0i (Bb T E (Ak I S))) (by omega) (fun w hw=>by have:=(HUW.out w (b8c.1 hw)).2;omega) g3 n3 ov2 (hgr3.listc hr3 hcp3));clear hg3 hgr3 hr3 hcp3 HSO
 iterate 8 all_goals try first|apply spl<;>intro h|simp (disch:=first|assumption|omega|simp) [*]
 refine WC.mono HRE.out ?_;rintro _ ⟨ov4,g4,n4,B4,cs4,rfl,hn4,hg4,hgr4,hr4,hcp4⟩;have HF:=Aa.mk (hgr4.listc (hr4.ext hn4 fun a x ha hx=>(hg4 a ha).trans hx) hcp4);have HG4:Aa (∀ b,b<n->g4 b=g b):=⟨fun b hb=>(hg4 b (by omega)).trans (HG3.out b hb)⟩;clear hg4 hgr4 hr4 hcp4 HRE
 iterate 8 all_goals try first|apply spl<;>intro h|simp (disch:=first|assumption|omega|simp) [*]
 exact⟨_,_,_,⟨rfl,rfl,rfl⟩,by omega,HG4.out,HF.out⟩
end Go.Ai
end

