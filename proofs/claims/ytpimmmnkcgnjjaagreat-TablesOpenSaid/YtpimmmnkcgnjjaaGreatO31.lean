/- A small verified interpreter over names, its proofs, and what was proved with it. No condition. -/
import Derived.Test.YtpimmmnkcgnjjaaGreatO30
set_option linter.all false
set_option linter.deprecated false
section
namespace Go.Ai
open Go.Proofs Go.Proofs.Tryz
set_option maxRecDepth 10000
set_option maxHeartbeats 40000000
variable {I:Nat} {O:Int} {S:Wq}
def a9c (g:Gb) (n I:Nat) (O:Int) (e:Int) (rows:Tq) (r:Ar) : Prop:=∃ hv g' n',r=.ret (.tup [.agg [.li (if e=0 then (I:Int) else 0),.li (if e=0 then O else 0),hv],.li e]) ⟨.fn g',n'⟩/\n<=n'/\(∀ b,b<n->g' b=g b)/\Bw g' n' (if e=0 then rows else []) hv
theorem a9c.err {g g': Gb} {n n':Nat} {e:Int} {rows:Tq} (he:e≠0) (hn:n<=n') (hg:∀ b,b<n->g' b=g b) : a9c g n I O e rows (.ret (.tup [.agg [.li 0,.li 0,.nl],.li e]) ⟨.fn g',n'⟩):=by
 refine⟨_,g',n',by rw[if_neg he,if_neg he],hn,hg,?_⟩;rw[if_neg he];exact⟨[],.inl ⟨rfl,rfl,.inl rfl⟩,rfl,fun k h=>by cases h⟩
theorem a9c.ok {g g': Gb} {n n':Nat} {rows:Tq} {hv:AV} (hn:n<=n') (hg:∀ b,b<n->g' b=g b) (ht:Bw g' n' rows hv) : a9c g n I O 0 rows (.ret (.tup [.agg [.li I,.li O,hv],.li 0]) ⟨.fn g',n'⟩) :=
 ⟨_,g',n',by rw[if_pos rfl,if_pos rfl],hn,hg,by rw[if_pos rfl];exact ht⟩
theorem g2x {R:Wq} {r:Wd} {k:Nat} : stV R r=(k:Int)↔Ch R r=some k:=by
 unfold stV
 cases h:Ch R r with
 | none=>constructor<;>intro h<;>first|omega|cases h
 | some j =>
  constructor
  ·intro h2;have h3:(j:Int)=k:=h2;exact congrArg some (by omega)
  ·intro h2;cases h2;rfl
theorem g2y {k i:Nat} (hk:k<S.length) (hi:i<I) : S[k]++[(i:Int)]∈a1m I S :=
 g4i.2 ⟨S[k],Ds hk,Eg.2 ⟨i,g6r.2 hi,rfl⟩⟩
theorem g2z {T:Tq} {E:Wq} (h:Cn T E I S=none) {w:Wd} (hw:w∈a1m I S) (hc:Ca T w=true) : stV (Al T E S) (Ax T E w)=(((Ch (Al T E S) (Ax T E w)).getD 0:Nat) : Int):=by
 unfold Cn at h;have h1:=List.find?_eq_none.1 h w hw;unfold a1n at h1;rw[hc,g5c] at h1;unfold stV
 cases hs:Ch (Al T E S) (Ax T E w) with
 | none=>rw[hs] at h1;exact absurd rfl h1
 | some k=>rfl
theorem g3a {I:Nat} {O:Int} {S E:Wq} {T:Tq} (hp:a2a I O S E T) (hS9:∀ w∈S,w.length<=299) (g:Gb) (n:Nat) (sv ev tv:AV) (hS:Bj g n S sv) (hEV:Bj g n E ev) (hT:Bw g n T tv) :
  WC 0 prog 32 [.agg [.li I,.li O,sv,ev,.li I,.li O,tv]] ⟨.fn g,n⟩ (a9c g n I O (b1g T E I S) (a0s T E I S)):=by
 have h1s:=hS.choose_spec.1.one
 have h1e:=hEV.choose_spec.1.one
 have h1t:=hT.choose_spec.1.one
 have hone:allOne [.li I,.li O,sv,ev,.li I,.li O,tv]=true:=by simp[h1s,h1e,h1t]
 have hc4:allOne [.li I,.li O,sv,ev]=true:=by simp[h1s,h1e]
 have hlenS:=@Am prog _ _ _ _ _ hS.choose_spec.1
 have HFU:=Aa.mk fun (gX:Gb) (n2:Nat) (hn:n<=n2) (hX:∀ b,b<n->gX b=g b)=>d8s hp gX n2 sv ev tv (hS.mono hn hX) (hEV.mono hn hX) (hT.mono hn hX)
 have HOP:=Aa.mk fun (gX:Gb) (n2:Nat) (hn:n<=n2) (hX:∀ b,b<n->gX b=g b)=>d8o hp hS9 gX n2 sv ev tv (hS.mono hn hX) (hEV.mono hn hX) (hT.mono hn hX)
 have HRW:=Aa.mk fun (w:Wd) (hwl:w.length<=300) (hin:inW w I=true) (gX:Gb) (n2:Nat) (wv:AV) (hn:n<=n2) (hX:∀ b,b<n->gX b=g b) (hw:Aj gX n2 w wv)=>c7f (O:=O) hp.t0 hp.ok (w:=w) (E:=E) hwl (by have:=hp.el;omega) hin hp.ew sv h1s gX n2 ev tv wv (hEV.mono hn hX) (hT.mono hn hX) hw
 have HCN:=Aa.mk fun (w:Wd) (hwl:w.length<=300) (hin:inW w I=true) (gX:Gb) (n2:Nat) (wv:AV) (hn:n<=n2) (hX:∀ b,b<n->gX b=g b) (hw:Aj gX n2 w wv)=>d8l (O:=O) hp.t0 hp.ok (w:=w) (by omega) hin (.li I) (.li O) sv ev hc4 gX n2 tv wv (hT.mono hn hX) hw
 have HKN:=Aa.mk fun (w:Wd) (hwl:w.length<=300) (hin:inW w I=true) (gX:Gb) (n2:Nat) (wv:AV) (hn:n<=n2) (hX:∀ b,b<n->gX b=g b) (hw:Aj gX n2 w wv)=>c1u (O:=O) hp.t0 hp.ok (w:=w) (by omega) hin gX n2 tv wv (hT.mono hn hX) hw
 have HSV:=Aa.mk fun (r:Wd) (hrl:r.length<=6000) (gX:Gb) (n2:Nat) (rv:AV) (hn:n<=n2) (hX:∀ b,b<n->gX b=g b) (hr:Aj gX n2 r rv)=>d8m hp (r:=r) (by omega) gX n2 sv ev tv rv (hS.mono hn hX) (hEV.mono hn hX) (hT.mono hn hX) hr
 have HDL:Aa (∀ w:Wd,(Ax T E w).length<=6000):=⟨fun w=>by
  have:=b5a (T:=T) (w:=w) fun e he=>(hp.ew e he).2.1
  have:=hp.el
  omega⟩
 have HS:=Aa.mk hS
 have HSW:=Aa.mk fun w (hw:w∈S)=>(And.intro (hS9 w hw) (hp.sw w hw).2)
 have hs0:=hp.s0
 have hsl:=hp.sl
 have hi2:=hp.i2
 have hi1:=hp.i1
 obtain⟨er,her⟩ : ∃ x,x=b1g T E I S:=⟨_,rfl⟩
 rw[<- her]
 unfold b1g at her
 have HER:=Aa.mk her
 have HERR:=Aa.mk fun (g' : Gb) (n' : Nat) (he:er≠0) (hn:n<=n') (hg:∀ b,b<n->g' b=g b)=>a9c.err (I:=I) (O:=O) (rows:=a0s T E I S) he hn hg
 have HOK:=Aa.mk fun (he:er=0) (g' : Gb) (n' : Nat) (hv:AV) (hn:n<=n') (hg:∀ b,b<n->g' b=g b) (ht:Bw g' n' (S.map (Cv T E (Al T E S) I)) hv)=>(show a9c g n I O er (a0s T E I S) (.ret (.tup [.agg [.li I,.li O,hv],.li 0]) ⟨.fn g',n'⟩) from by
  rw[he]
  exact a9c.ok hn hg ht)
 have HBS:=Aa.mk (g2k (T:=T) (E:=E) (S:=S))
 have HNO:=Aa.mk fun (h:Cn T E I S=none) (w:Wd)=>g2z (T:=T) (E:=E) h (w:=w)
 clear hS hEV hT hp hS9 her hc4
 generalize a9c g n I O er (a0s T E I S)=K at *
 refine ent pl32 func32 rfl (by decide +kernel) (by kernel_rfl) ?_
 iterate 8 all_goals try first|refine spl (fun h=>?_) fun h=>?_|simp (maxSteps:=999999) (disch:=first|assumption|omega|(simp;done)|fail) [*]
 refine WC.mono (HFU.out _ _ (by omega) fun b hb=>by simp (disch:=omega) only[Ad]) ?_
 rintro _ ⟨g1,n1,rfl,hn1,hg1⟩
 have HG1:Aa (∀ b,b<n->g1 b=g b):=⟨fun b hb=>by rw[hg1 b (by omega)];simp (disch:=omega) only[Ad]⟩
 have hgn1:=(hg1 n (by omega)).trans ((Ad (by omega)).trans Ag)
 have hgo1:=(hg1 (n+1) (by omega)).trans Ag
 clear hg1 HFU
 cases hfull:(Bb T E (Ak I S)).isEmpty with
 | false =>
  have he:er=6:=by rw[HER.out,hfull];rfl
  subst he
  clear hfull
  iterate 8 all_goals try first|refine spl (fun h=>?_) fun h=>?_|simp (maxSteps:=999999) (disch:=first|assumption|omega|(simp;done)|fail) [*]
  refine HERR.out _ _ (by decide) (by omega) fun b hb=>?_
  simp (disch:=omega) only[Ad,Ae];exact HG1.out b hb
 | true =>
 rw[hfull,if_neg (by decide)] at HER
 clear hfull
 iterate 8 all_goals try first|refine spl (fun h=>?_) fun h=>?_|simp (maxSteps:=999999) (disch:=first|assumption|omega|(simp;done)|fail) [*]
 refine WC.mono (HOP.out _ _ (by omega) HG1.out) ?_
 rintro _ ⟨ov,g2,n2,rfl,hn2,hg2,_⟩
 have HG2:Aa (∀ b,b<n->g2 b=g b):=⟨fun b hb=>(hg2 b (by omega)).trans (HG1.out b hb)⟩
 have hgn2:=(hg2 n (by omega)).trans hgn1
 have hgo2:=(hg2 (n+1) (by omega)).trans hgo1
 clear hg2 HOP hgn1 hgo1
 cases hop:Cn T E I S with
 | some w0 =>
  rw[hop] at HER
  have he:er=6:=by rw[HER.out];rfl
  subst he
  clear hop
  simp only[Option.isSome]
  iterate 8 all_goals try first|refine spl (fun h=>?_) fun h=>?_|simp (maxSteps:=999999) (disch:=first|assumption|omega|(simp;done)|fail) [*]
  refine HERR.out _ _ (by decide) (by omega) fun b hb=>?_
  simp (disch:=omega) only[Ad,Ae];exact HG2.out b hb
 | none =>
 have HNP:=Aa.mk (HNO.out hop)
 rw[hop] at HER
 have HER2:Aa (er=if b1f T E S=true then 12 else 0):=⟨by rw[HER.out];rfl⟩
 clear hop HER HNO
 simp only[Option.isSome]
 iterate 8 all_goals try first|refine spl (fun h=>?_) fun h=>?_|simp (maxSteps:=999999) (disch:=first|assumption|omega|(simp;done)|fail) [*]
 refine LX.ind (fun m gf H'=>∃ (k n4 B:Nat) (gL:Gb) (rv:AV) (svs:List AV),k<=S.length/\m=S.length-k/\H'=⟨.fn gL,n4⟩/\n2+1<=n4/\B<n4/\Aa (∀ b,b<n2->gL b=g2 b)/\gL n2=some (.cells [.li I,.li O,rv] true 0)/\Aa (Bc gL (n2+1) n4 B rv k 1 svs)/\Aa (RowsG (a2b (n+1) (a2b n2 (a2b B gL))) n4 ((S.take k).map (Cv T E (Al T E S) I)) svs)/\Aa (∀ j (h:j<S.length),j<k->Ch (Al T E S) (Ax T E S[j])=some j/\Ca T S[j]=true) /\
  gf 1=some (.ptr n 0)/\gf 2=some (.ptr (n+1) 0)/\gf 3=some (.li 0)/\gf 6=some (.ptr n2 0)/\gf 7=some (.li k)) (m0:=S.length) ?_ ?_
 ·exact⟨0,n2+1,0,_,_,[],Nat.zero_le _,rfl,rfl,Nat.le_refl _,Nat.succ_pos _,⟨fun b hb=>Ad hb⟩,Ag,⟨.inl ⟨rfl,rfl,rfl⟩⟩,⟨⟨by simp,fun k hk=>by simp at hk⟩⟩,⟨fun j h h2=>by omega⟩,by simp,by simp,by simp,by simp,by simp⟩
 rintro m gf H' ⟨k,n4,B,gL,rv,svs,hk,rfl,rfl,hn4,hBn,HG,hgM,HGR,HRG,HN,w1,w2,w3,w6,w7⟩ ih
 have hgn4:=(HG.out n (by omega)).trans hgn2
 have hgo4:=(HG.out (n+1) (by omega)).trans hgo2
 have HG4:Aa (∀ b,b<n->gL b=g b):=⟨fun b hb=>(HG.out b (by omega)).trans (HG2.out b hb)⟩
 have h1r:oneC rv=true:=HGR.out.one
 have hone3:allOne [.li I,.li O,rv]=true:=by simp[h1r]
 refine rnd pl32 (by decide +kernel) ?_
 by_cases hlt:k<S.length
 ·have hltI:(k:Int)<(S.length:Int):=by omega
  obtain⟨a2,o2,qv,ha2,hia2,hc2,hq⟩:=HS.out.at hlt
  have hc0:=hc2
  rw[<- HG4.out a2 ha2] at hc2
  obtain⟨hw9,hwi⟩:=HSW.out _ (List.getElem_mem hlt)
  have HQ:=Aa.mk hq
  have h1q:=hq.one
  have HRO:=Aa.mk (HRW.out S[k] (by omega) hwi gL n4 qv (by omega) HG4.out (Af.mono (by omega) HG4.out hq))
  have HRD:Aa (Ax T E S[k]=(Bk T S[k] E).getD []):=⟨rfl⟩
  have hdl:=HDL.out S[k]
  have HB1:Aa (¬(Ch (Al T E S) (Ax T E S[k])=some k/\Ca T S[k]=true)->er=12):=⟨fun h=>by
   rw[HER2.out,if_pos]
   cases hb:b1f T E S with
   | true=>rfl
   | false=>exact absurd (HBS.out.1 hb k hlt) h⟩
  have HN2:Aa (Ch (Al T E S) (Ax T E S[k])=some k->Ca T S[k]=true->∀ j (h:j<S.length),j<k+1->Ch (Al T E S) (Ax T E S[j])=some j/\Ca T S[j]=true):=⟨fun h1 h2 j hj hjk=>by
   by_cases e:j=k
   ·subst e;exact⟨h1,h2⟩
   ·exact HN.out j hj (by omega)⟩
  have HTK:Aa ((S.take (k+1)).map (Cv T E (Al T E S) I)=(S.take k).map (Cv T E (Al T E S) I)++[Cv T E (Al T E S) I S[k]]):=⟨by rw[List.take_succ_eq_append_getElem hlt,List.map_append];rfl⟩
  clear hq HN
  iterate 8 all_goals try first|refine spl (fun h=>?_) fun h=>?_|simp (maxSteps:=999999) (disch:=first|assumption|omega|(simp;done)|fail) [*]
  refine WC.mono HRO.out ?_
  rintro _ ⟨dv,g5,n5,rfl,hn5,hg5,hdk⟩
  have HG5:Aa (∀ b,b<n->g5 b=g b):=⟨fun b hb=>(hg5 b (by omega)).trans (HG4.out b hb)⟩
  have HK5:=Aa.mk hg5
  have hrep:=hdk.rep
  rw[<- HRD.out] at hrep
  have h1d:=hrep.one
  have HSS:=Aa.mk (HSV.out _ hdl g5 n5 dv (by omega) HG5.out hrep)
  have hgn5:=(hg5 n (by omega)).trans hgn4
  have hgo5:=(hg5 (n+1) (by omega)).trans hgo4
  have hgM5:=(hg5 n2 (by omega)).trans hgM
  have hc5:=hc0
  rw[<- HG5.out a2 ha2] at hc5
  clear hg5 hdk hrep HRO HRD
  generalize (Bk T S[k] E).isSome=bb
  have HST1:=Aa.mk (g2x (R:=Al T E S) (r:=Ax T E S[k]) (k:=k))
  generalize stV (Al T E S) (Ax T E S[k])=st at *
  iterate 8 all_goals try first|refine spl (fun h=>?_) fun h=>?_|simp (maxSteps:=999999) (disch:=first|assumption|omega|(simp;done)|fail) [*]
  all_goals
   refine WC.mono HSS.out ?_
   rintro _ ⟨g6,n6,rfl,hn6,hg6⟩
   have HG6:Aa (∀ b,b<n->g6 b=g b):=⟨fun b hb=>(hg6 b (by omega)).trans (HG5.out b hb)⟩
   have HK6:Aa (∀ b,b<n4->g6 b=gL b):=⟨fun b hb=>(hg6 b (by omega)).trans (HK5.out b hb)⟩
   have hgn6:=(hg6 n (by omega)).trans hgn5
   have hgo6:=(hg6 (n+1) (by omega)).trans hgo5
   have hgM6:=(hg6 n2 (by omega)).trans hgM5
   have hc6:=hc0
   rw[<- HG6.out a2 ha2] at hc6
   clear hg6 HSS hc5 hgn5 hgo5 hgM5 hgM
   by_cases hst:st=(k:Int)
   rotate_left
   ·have he:=HB1.out fun h=>hst (HST1.out.2 h.1)
    subst he
    clear HB1 HN2 HST1 HER2
    iterate 8 all_goals try first|refine spl (fun h=>?_) fun h=>?_|simp (maxSteps:=999999) (disch:=first|assumption|omega|(simp;done)|fail) [*]
    refine HERR.out _ _ (by decide) (by omega) fun b hb=>?_
    simp (disch:=omega) only[Ad,Ae];exact HG6.out b hb
   have HS1:=Aa.mk (HST1.out.1 hst)
   clear HST1
   iterate 8 all_goals try first|refine spl (fun h=>?_) fun h=>?_|simp (maxSteps:=999999) (disch:=first|assumption|omega|(simp;done)|fail) [*]
   refine WC.mono (HCN.out S[k] (by omega) hwi g6 n6 qv (by omega) HG6.out (Af.mono (by omega) HG6.out HQ.out)) ?_
   rintro _ ⟨g7,n7,rfl,hn7,hg7⟩
   have HG7:Aa (∀ b,b<n->g7 b=g b):=⟨fun b hb=>(hg7 b (by omega)).trans (HG6.out b hb)⟩
   have HK7:Aa (∀ b,b<n4->g7 b=gL b):=⟨fun b hb=>(hg7 b (by omega)).trans (HK6.out b hb)⟩
   have hgn7:=(hg7 n (by omega)).trans hgn6
   have hgo7:=(hg7 (n+1) (by omega)).trans hgo6
   have hgM7:=(hg7 n2 (by omega)).trans hgM6
   have hc7:=hc0
   rw[<- HG7.out a2 ha2] at hc7
   clear hg7 hc6 hgn6 hgo6 hgM6
   cases hcn:Ca T S[k] with
   | false =>
    have he:=HB1.out fun h=>by rw[hcn] at h;cases h.2
    subst he
    clear HB1 HN2 HER2 hcn
    iterate 8 all_goals try first|refine spl (fun h=>?_) fun h=>?_|simp (maxSteps:=999999) (disch:=first|assumption|omega|(simp;done)|fail) [*]
    refine HERR.out _ _ (by decide) (by omega) fun b hb=>?_
    simp (disch:=omega) only[Ad,Ae];exact HG7.out b hb
   | true =>
    have HN3:=Aa.mk (HN2.out HS1.out hcn)
    clear HN2 HB1 HS1 hcn hst
    iterate 8 all_goals try first|refine spl (fun h=>?_) fun h=>?_|simp (maxSteps:=999999) (disch:=first|assumption|omega|(simp;done)|fail) [*]
    refine LX.ind (fun m gf H'=>∃ (i n8 B6:Nat) (gI:Gb) (tv2:AV),i<=I/\m=I-i/\H'=⟨.fn gI,n8⟩/\n7<=n8/\Aa (∀ b,b<n7->gI b=g7 b)/\Aa (Bc gI n7 n8 B6 tv2 i 2 (Bz ((Cv T E (Al T E S) I S[k]).take i))) /\
     gf 1=some (.ptr n 0)/\gf 2=some (.ptr (n+1) 0)/\gf 3=some (.li 0)/\gf 6=some (.ptr n2 0)/\gf 7=some (.li k)/\gf 10=some tv2/\gf 11=some (.li i)) (m0:=I) ?_ ?_
    ·exact⟨0,n7,0,g7,_,Nat.zero_le _,rfl,rfl,Nat.le_refl _,⟨fun _ _=>rfl⟩,⟨.inl ⟨rfl,rfl,rfl⟩⟩,by simp[*],by simp[*],by simp[*],by simp[*],by simp[*],by simp,by simp⟩
    clear w1 w2 w3 w6 w7
    rintro m2 gf2 H2 ⟨i,n8,B6,gI,tv2,hi,rfl,rfl,hn8,HGI,HGV,w1,w2,w3,w6,w7,w10,w11⟩ ih2
    have hi0:=(HGI.out n (by omega)).trans hgn7
    have hiM:=(HGI.out n2 (by omega)).trans hgM7
    have HI0:Aa (∀ b,b<n->gI b=g b):=⟨fun b hb=>(HGI.out b (by omega)).trans (HG7.out b hb)⟩
    have hci:=hc0
    rw[<- HI0.out a2 ha2] at hci
    refine rnd pl32 (by decide +kernel) ?_
    by_cases hli:i<I
    ·have hliI:(i:Int)<(I:Int):=by omega
     have HBE:=Aa.mk (c1k (a:=S[k]) (b:=[(i:Int)]) (by omega) (by simp) (by simp) (Ap gI n8 (some (.cells [.li i] true 0))) (n8+1) qv (.sl n8 0 1 1) (Af.mono (by omega) (fun b hb=>(Ad (by omega)).trans (HI0.out b hb)) HQ.out) (Aj.of (own:=true) (z:=0) Ag (by omega)))
     have HAT:=Aa.mk (d8r (T:=T) (E:=E) (R:=Al T E S) (w:=S[k]) hli)
     have hcr:(Bz ((Cv T E (Al T E S) I S[k]).take i)).length=i*2:=by rw[rowC_len,List.length_take,b3c];omega
     have hwu:inW (S[k]++[(i:Int)]) I=true:=c7i hwi hli
     have hul:(S[k]++[(i:Int)]).length<=300:=by rw[List.length_append,List.length_singleton];omega
     have HU0:Aa (0<(S[k]++[(i:Int)]).length):=⟨by simp⟩
     have HNU:=Aa.mk (HNP.out _ (g2y hlt hli))
     have hdu:=HDL.out (S[k]++[(i:Int)])
     have HDU:Aa (Ax T E (S[k]++[(i:Int)])=(Bk T (S[k]++[(i:Int)]) E).getD []):=⟨rfl⟩
     have HEU:Aa (b1e T E (Al T E S) (S[k]++[(i:Int)])=if Ca T (S[k]++[(i:Int)]) then ((((Ch (Al T E S) (Ax T E (S[k]++[(i:Int)]))).getD 0:Nat) : Int),c2a T (S[k]++[(i:Int)])) else (-1,-1)):=⟨rfl⟩
     generalize (Cv T E (Al T E S) I S[k]).take i=LR at *
     iterate 8 all_goals try first|refine spl (fun h=>?_) fun h=>?_|simp (maxSteps:=999999) (disch:=first|assumption|omega|(simp;done)|fail) [*]
     refine WC.mono HBE.out ?_
     rintro _ ⟨uv,g9,n9,rfl,hn9,hg9,hfu⟩
     have HK9:Aa (∀ b,b<n8->g9 b=gI b):=⟨fun b hb=>(hg9 b (by omega)).trans (Ad hb)⟩
     have HI9:Aa (∀ b,b<n->g9 b=g b):=⟨fun b hb=>(HK9.out b (by omega)).trans (HI0.out b hb)⟩
     have h9n:=(HK9.out n (by omega)).trans hi0
     have h9M:=(HK9.out n2 (by omega)).trans hiM
     have h1u:=hfu.rep.one
     have HFU:=Aa.mk hfu.rep
     clear hg9 hfu HBE hci
     generalize S[k]++[(i:Int)]=w at *
     iterate 8 all_goals try first|refine spl (fun h=>?_) fun h=>?_|simp (maxSteps:=999999) (disch:=first|assumption|omega|(simp;done)|fail) [*]
     refine WC.mono (HCN.out w hul hwu g9 n9 uv (by omega) HI9.out HFU.out) ?_
     rintro _ ⟨g10,n10,rfl,hn10,hg10⟩
     have HK10:Aa (∀ b,b<n8->g10 b=gI b):=⟨fun b hb=>(hg10 b (by omega)).trans (HK9.out b hb)⟩
     have HI10:Aa (∀ b,b<n->g10 b=g b):=⟨fun b hb=>(hg10 b (by omega)).trans (HI9.out b hb)⟩
     have h10n:=(hg10 n (by omega)).trans h9n
     have h10M:=(hg10 n2 (by omega)).trans h9M
     have HFU10:Aa (Aj g10 n10 w uv):=⟨Af.mono (by omega) hg10 HFU.out⟩
     clear hg10 h9n h9M HFU
     cases hcn:Ca T w with
     | false =>
      have HE:Aa ((Cv T E (Al T E S) I S[k]).take (i+1)=LR++[(-1,-1)]):=⟨by rw[HAT.out,HEU.out,hcn];rfl⟩
      clear HAT HEU HNU hcn
      rcases HGV.out with⟨h6,hc6,hs6⟩|⟨h6,hs6,hC1,hC2,hC3,hC4⟩
      ·subst hs6
       have HZ:=Aa.mk (And.intro h6 hc6)
       clear h6 hc6
       iterate 8 all_goals try first|refine spl (fun h=>?_) fun h=>?_|simp (maxSteps:=999999) (disch:=first|assumption|omega|(simp;done)|fail) [*]
       refine ih2.out (I-(i+1)) _ _ (by omega) ⟨i+1,n10+1+1,n10+1,_,.slq (n10+1) 0 (i+1) 0,by omega,rfl,rfl,by omega,⟨fun b hb=>?_⟩,⟨?_⟩,by simp[*],by simp[*],by simp[*],by simp[*],by simp[*],by simp[HZ.out.1],by simp⟩
       ·simp (disch:=omega) only[Ad,Ae];exact(HK10.out b (by omega)).trans (HGI.out b hb)
       ·rw[HE.out,b2c]
        refine .mk ?_ (by omega) (by omega) (by simp;omega)
        rw[HZ.out.2];simp (disch:=omega) only[Ad,Ae,Ag];rfl
      ·subst hs6
       have hC5:=(HK10.out B6 hC2).trans hC3
       clear hC3
       iterate 8 all_goals try first|refine spl (fun h=>?_) fun h=>?_|simp (maxSteps:=999999) (disch:=first|assumption|omega|(simp;done)|fail) [*]
       refine ih2.out (I-(i+1)) _ _ (by omega) ⟨i+1,n10+1+1,n10+1,_,.slq (n10+1) 0 (i+1) 0,by omega,rfl,rfl,by omega,⟨fun b hb=>?_⟩,⟨?_⟩,by simp[*],by simp[*],by simp[*],by simp[*],by simp[*],by simp[*],by simp⟩
       ·simp (disch:=omega) only[Ad,Ae];exact(HK10.out b (by omega)).trans (HGI.out b hb)
       ·rw[HE.out,b2c]
        refine .mk ?_ (by omega) (by omega) (by simp;omega)
        simp (disch:=omega) only[Ad,Ae,Ag]
     | true =>
      obtain⟨u,hu⟩ : ∃ u,Bf T 0 w=some u:=by
       unfold Ca at hcn
       cases h:Bf T 0 w with
       | none=>rw[h] at hcn;cases hcn
       | some u=>exact⟨u,rfl⟩
      have huw:=b1b _ _ _ hu
      have hu0:=HU0.out
      obtain⟨m,hm⟩ : ∃ m,u.length=m+1:=⟨u.length-1,by omega⟩
      have HE:Aa ((Cv T E (Al T E S) I S[k]).take (i+1)=LR++[(stV (Al T E S) (Ax T E w),u[m]'(by omega))]):=⟨by
       have e:u.length-1=m:=by omega
       rw[HAT.out,HEU.out,if_pos hcn,HNU.out hcn]
       unfold c2a
       rw[hu,Option.getD_some,List.getLast?_eq_getElem?,e,List.getElem?_eq_getElem (by omega)];rfl⟩
      have hmI:(m:Int)<=300:=by omega
      have HKW:=Aa.mk (HKN.out w hul hwu g10 n10 uv (by omega) HI10.out HFU10.out)
      rw[hu] at HKW
      clear HAT HEU HNU hcn
      iterate 8 all_goals try first|refine spl (fun h=>?_) fun h=>?_|simp (maxSteps:=999999) (disch:=first|assumption|omega|(simp;done)|fail) [*]
      refine WC.mono HKW.out ?_
      rintro _ ⟨kv,g11,n11,rfl,hn11,hg11,hans⟩
      have HK11:Aa (∀ b,b<n8->g11 b=gI b):=⟨fun b hb=>(hg11 b (by omega)).trans (HK10.out b hb)⟩
      have HI11:Aa (∀ b,b<n->g11 b=g b):=⟨fun b hb=>(hg11 b (by omega)).trans (HI10.out b hb)⟩
      have h11n:=(hg11 n (by omega)).trans h10n
      have h11M:=(hg11 n2 (by omega)).trans h10M
      have HFU11:Aa (Aj g11 n11 w uv):=⟨Af.mono (by omega) hg11 HFU10.out⟩
      have HKV:=Aa.mk hans.1.rep
      clear hg11 hans HKW h10n h10M HFU10
      simp only[Option.isSome_some]
      iterate 8 all_goals try first|refine spl (fun h=>?_) fun h=>?_|simp (maxSteps:=999999) (disch:=first|assumption|omega|(simp;done)|fail) [*]
      refine WC.mono (HRW.out w hul hwu g11 n11 uv (by omega) HI11.out HFU11.out) ?_
      rintro _ ⟨d2,g12,n12,rfl,hn12,hg12,hd2⟩
      have HK12:Aa (∀ b,b<n8->g12 b=gI b):=⟨fun b hb=>(hg12 b (by omega)).trans (HK11.out b hb)⟩
      have HI12:Aa (∀ b,b<n->g12 b=g b):=⟨fun b hb=>(hg12 b (by omega)).trans (HI11.out b hb)⟩
      have h12n:=(hg12 n (by omega)).trans h11n
      have h12M:=(hg12 n2 (by omega)).trans h11M
      have hd2r:=hd2.rep
      rw[<- HDU.out] at hd2r
      have h1d2:=hd2r.one
      have HSS2:=Aa.mk (HSV.out _ hdu g12 n12 d2 (by omega) HI12.out hd2r)
      have HKV12:Aa (Aj g12 n12 u kv):=⟨Af.mono (by omega) hg12 HKV.out⟩
      clear hg12 hd2 hd2r h11n h11M HDU HFU11 HKV
      generalize (Bk T w E).isSome=bb2
      generalize stV (Al T E S) (Ax T E w)=st2 at *
      have h1k:=HKV12.out.one
      have hlk:=@Am prog _ _ _ _ _ HKV12.out
      obtain⟨a4,o4,ha4,hia4,hc4⟩:=Aj.at HKV12.out (k:=m) (by omega)
      rw[hm] at hlk
      clear HKV12
      generalize u[m]'(by omega)=x at *
      clear hm hu huw
      iterate 8 all_goals try first|refine spl (fun h=>?_) fun h=>?_|simp (maxSteps:=999999) (disch:=first|assumption|omega|(simp;done)|fail) [*]
      all_goals
       refine WC.mono HSS2.out ?_
       rintro _ ⟨g13,n13,rfl,hn13,hg13⟩
       have HK13:Aa (∀ b,b<n8->g13 b=gI b):=⟨fun b hb=>(hg13 b (by omega)).trans (HK12.out b hb)⟩
       have h13n:=(hg13 n (by omega)).trans h12n
       have h13M:=(hg13 n2 (by omega)).trans h12M
       have hc4':=hc4
       rw[<- hg13 a4 ha4] at hc4'
       clear hg13 h12n h12M HSS2 hc4
       rcases HGV.out with⟨h6,hc6,hs6⟩|⟨h6,hs6,hC1,hC2,hC3,hC4⟩
       ·subst hs6
        have HZ:=Aa.mk (And.intro h6 hc6)
        clear h6 hc6
        iterate 8 all_goals try first|refine spl (fun h=>?_) fun h=>?_|simp (maxSteps:=999999) (disch:=first|assumption|omega|(simp;done)|fail) [*]
        refine ih2.out (I-(i+1)) _ _ (by omega) ⟨i+1,n13+1+1,n13+1,_,.slq (n13+1) 0 (i+1) 0,by omega,rfl,rfl,by omega,⟨fun b hb=>?_⟩,⟨?_⟩,by simp[*],by simp[*],by simp[*],by simp[*],by simp[*],by simp[HZ.out.1],by simp⟩
        ·simp (disch:=omega) only[Ad,Ae];exact(HK13.out b (by omega)).trans (HGI.out b hb)
        ·rw[HE.out,b2c]
         refine .mk ?_ (by omega) (by omega) (by simp;omega)
         rw[HZ.out.2];simp (disch:=omega) only[Ad,Ae,Ag];rfl
       ·subst hs6
        have hC5:=(HK13.out B6 hC2).trans hC3
        clear hC3
        iterate 8 all_goals try first|refine spl (fun h=>?_) fun h=>?_|simp (maxSteps:=999999) (disch:=first|assumption|omega|(simp;done)|fail) [*]
        refine ih2.out (I-(i+1)) _ _ (by omega) ⟨i+1,n13+1+1,n13+1,_,.slq (n13+1) 0 (i+1) 0,by omega,rfl,rfl,by omega,⟨fun b hb=>?_⟩,⟨?_⟩,by simp[*],by simp[*],by simp[*],by simp[*],by simp[*],by simp[*],by simp⟩
        ·simp (disch:=omega) only[Ad,Ae];exact(HK13.out b (by omega)).trans (HGI.out b hb)
        ·rw[HE.out,b2c]
         refine .mk ?_ (by omega) (by omega) (by simp;omega)
         simp (disch:=omega) only[Ad,Ae,Ag]
    ·have hliI:¬(i:Int)<(I:Int):=by omega
     have hiI:i=I:=by omega
     have hRF:(Cv T E (Al T E S) I S[k]).take i=Cv T E (Al T E S) I S[k]:=List.take_of_length_le (by rw[b3c];omega)
     rw[hRF] at HGV
     rcases HGV.out with⟨h6,_⟩|⟨h6,hs6,hC1,hC2,hC3,hC4⟩
     ·omega
     subst hs6
     have hcl:=HRG.out.1
     rw[List.length_map,List.length_take,Nat.min_eq_left hk] at hcl
     have hRW:(Cv T E (Al T E S) I S[k]).length=i:=by rw[b3c];omega
     have HEX:=Aa.mk fun (gZ:Gb) (h1:∀ a,a<n8->a≠n2->a≠B->gZ a=gI a)=>show RowsG (a2b (n+1) (a2b n2 (a2b (n8+1) gZ))) (n8+1+1) ((S.take (k+1)).map (Cv T E (Al T E S) I)) (svs++[.slq B6 0 i 0]) from by
      rw[HTK.out]
      refine RowsG.snoc (HRG.out.ext (by omega) fun a x ha hx=>?_) ?_
      ·obtain⟨e0,hx0⟩:=a3b hx
       obtain⟨e1,hx1⟩:=a3b hx0
       obtain⟨e2,hx2⟩:=a3b hx1
       rw[a2p e0,a2p e1,a2p (by omega),h1 a (by omega) e1 e2,HGI.out a (by omega),HK7.out a ha]
       exact hx2
      ·rw[hRW]
       refine .inr ⟨B6,0,by omega,.inr ⟨0,rfl⟩,Bz (Cv T E (Al T E S) I S[k]),true,2,?_,by simp,by simp⟩
       rw[a2p (by omega),a2p (by omega),a2p (by omega)]
       by_cases hb6:B6=B
       ·exact absurd hb6 (by omega)
       ·rw[h1 B6 hC2 (by omega) hb6];exact hC3
     clear hiI hRF hRW
     rcases HGR.out with⟨h0,hc0',hs0'⟩|⟨h0,hs0',hB1,hB2,hB3,hB4⟩
     ·subst hs0'
      have HZ:=Aa.mk (And.intro h0 hc0')
      clear h0 hc0'
      iterate 8 all_goals try first|refine spl (fun h=>?_) fun h=>?_|simp (maxSteps:=999999) (disch:=first|assumption|omega|(simp;done)|fail) [*]
      refine ih.out (S.length-(k+1)) _ _ (by omega) ⟨k+1,n8+1+1,n8+1,_,.slq (n8+1) 0 (k+1) 0,svs++[.slq B6 0 i 0],by omega,rfl,rfl,by omega,by omega,⟨fun b hb=>?_⟩,?_,⟨.mk ?_ (by omega) (by omega) (by simp;omega)⟩,⟨HEX.out _ fun a k1 k2 k3=>?_⟩,HN3,by simp[*],by simp[*],by simp[*],by simp[*],by simp⟩
      ·simp (disch:=omega) only[Ad,Ae];exact(HGI.out b (by omega)).trans ((HK7.out b (by omega)).trans (HG.out b hb))
      ·rw[HZ.out.1];exact Ag
      ·rw[HZ.out.2];simp (disch:=omega) only[Ad,Ae,Ag];rfl
      ·simp (disch:=omega) only[Ad,Ae]
     ·subst hs0'
      have hB3':=(HGI.out B (by omega)).trans ((HK7.out B (by omega)).trans hB3)
      have hxn:∀ (G:Gb) (x:Option Blk),Ap G B x n2=G n2:=fun G x=>Ae (by omega)
      iterate 8 all_goals try first|refine spl (fun h=>?_) fun h=>?_|simp (maxSteps:=999999) (disch:=first|assumption|omega|(simp;done)|fail) [*]
      refine ih.out (S.length-(k+1)) _ _ (by omega) ⟨k+1,n8+1+1,n8+1,_,.slq (n8+1) 0 (k+1) 0,svs++[.slq B6 0 i 0],by omega,rfl,rfl,by omega,by omega,⟨fun b hb=>?_⟩,?_,⟨.mk ?_ (by omega) (by omega) (by simp;omega)⟩,⟨HEX.out _ fun a k1 k2 k3=>?_⟩,HN3,by simp[*],by simp[*],by simp[*],by simp[*],by simp⟩
      ·simp (disch:=omega) only[Ad,Ae];exact(HGI.out b (by omega)).trans ((HK7.out b (by omega)).trans (HG.out b hb))
      ·exact Ag
      ·simp (disch:=omega) only[Ad,Ae,Ag]
      ·simp (disch:=omega) only[Ad,Ae]
 ·have hltI:¬(k:Int)<(S.length:Int):=by omega
  have hke:k=S.length:=by omega
  have hbs:b1f T E S=false:=HBS.out.2 fun j hj=>HN.out j hj (by omega)
  have HE0:Aa (er=0):=⟨by rw[HER2.out,hbs];rfl⟩
  rw[List.take_of_length_le (by omega)] at HRG
  have HTV:Aa (Bw (Ap gL (n+1) (some (.cells [.li I,.li O,rv] true 0))) n4 (S.map (Cv T E (Al T E S) I)) rv):=⟨by
   refine⟨svs,?_,HRG.out.ext (Nat.le_refl _) fun a x ha hx=>?_⟩
   ·rw[List.length_map,<- hke]
    refine Af.ext (Nat.le_refl _) (fun a x _ hx=>?_) HGR.out.slice
    split at hx
    ·rw[Ae (by omega)];exact hx
    ·cases hx
   ·obtain⟨e0,hx0⟩:=a3b hx
    obtain⟨e1,hx1⟩:=a3b hx0
    obtain⟨e2,hx2⟩:=a3b hx1
    rw[Ae e0];exact hx2⟩
  clear HN HRG HER2 hbs
  iterate 8 all_goals try first|refine spl (fun h=>?_) fun h=>?_|simp (maxSteps:=999999) (disch:=first|assumption|omega|(simp;done)|fail) [*]
  exact HOK.out HE0.out _ _ _ (by omega) (fun b hb=>by rw[Ae (by omega)];exact HG4.out b hb) HTV.out
end Go.Ai
end

