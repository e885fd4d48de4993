/- A small verified interpreter over names, its proofs, and what was proved with it. No condition. -/
import Derived.Test.YtpimmmnkcgnjjaaGreatO31
import Derived.Test.YtpimmmnkcgnjjaaGreatO32
import Derived.Test.YtpimmmnkcgnjjaaGreatO24
set_option linter.all false
set_option linter.deprecated false
section
namespace Go.Ai
open Go.Proofs Go.Proofs.Tryz
set_option maxRecDepth 10000
set_option maxHeartbeats 40000000
theorem a7g.lenB {l:Nat} {rv:AV} (h:a7g l rv) : ∀ (H:Mem) (ev:Ev) (o:Oper) (c:Call) (e:TypeId),a5a prog H ev o c (some (.slice e)) (some [rv])=.val (.li l) H:=by
 intro H ev o c e;rcases h with⟨rfl,rfl⟩|⟨a,o',rfl⟩
 ·exact d2e
 ·exact d2d
theorem a7g.capB {l:Nat} {rv:AV} (h:a7g l rv) : ∀ (H:Mem) (ev:Ev) (o:Oper) (e:TypeId),Go.Ai.b3z prog H ev o (some (.slice e)) (some rv)=.val (.li l) H:=by
 intro H ev o e;rcases h with⟨rfl,rfl⟩|⟨a,o',rfl⟩
 ·exact d3j
 ·exact d3i
theorem g3b {T:Tq} {E:Wq} {I:Nat} {S:Wq} {e:Int} (hs:S.length<=20) (hi:I<=3) : (if e=0 then a0s T E I S else []).length<=100000/\∀ r∈(if e=0 then a0s T E I S else []),r.length<=1000:=by
 by_cases h:e=0
 ·rw[if_pos h];refine⟨by unfold a0s;simp;omega,fun r hr=>?_⟩;obtain⟨w,_,rfl⟩:=Eg.1 hr;rw[b3c];omega
 ·rw[if_neg h];exact⟨by simp,fun r hr=>by cases hr⟩
theorem g3c {st inp out:Nat} {part:Bool} {es:List Nat} {ev:AV} {ws:List (List Nat)} {wv:AV} (ia ib ic:Int) {sb:List Nat} {eb:List (List Nat)} {full:Bool} (g:Gb) (n:Nat) {sbv ebv:AV} (h:InQ g n st inp out es ev ws wv sb sbv eb ebv) :
  WC 0 prog 7 [.agg [.lit (.int .u8 st),.lit (.int .u8 inp),.lit (.int .u8 out),.lit (.bool part),ev,wv,.lit (.int .u8 ia),.lit (.int .u8 ib),.lit (.int .u8 ic),sbv,ebv,.lit (.bool full)]] ⟨.fn g,n⟩ fun r=>r=.ret (.lit (.bool true)) ⟨.fn g,n⟩:=by
 refine WC.drop1 rfl ?_;have h1e:=h.i.se.one;have h1w:=h.i.sw.choose_spec.1.one;have h1s:=h.s.one;have h1b:=h.e.choose_spec.1.one;have hone:allOne [.lit (.int .u8 st),.lit (.int .u8 inp),.lit (.int .u8 out),.lit (.bool part),ev,wv,.lit (.int .u8 ia),.lit (.int .u8 ib),.lit (.int .u8 ic),sbv,ebv,.lit (.bool full)]=true:=by simp[h1e,h1w,h1s,h1b]
 have HQ:=Aa.mk (fun (gX:Gb) (n2:Nat) (hn:n<=n2) (hX:∀ b,b<n->gX b=g b)=>g2f part ia ib ic full gX n2 (h.mono hn hX));clear h;refine ent [] func7 rfl (by decide +kernel) (by kernel_rfl) ?_
 iterate 8 all_goals try first|apply spl<;>intro h|simp (disch:=first|assumption|omega|simp) [*]
 obtain⟨I,O,M,S,E,L,hM,hMI,hMO,hS,hE,hL,hp,hq,hw⟩:=HQ.out (Ap g n (some (.cells [.lit (.int .u8 st),.lit (.int .u8 inp),.lit (.int .u8 out),.lit (.bool part),ev,wv,.lit (.int .u8 ia),.lit (.int .u8 ib),.lit (.int .u8 ic),sbv,ebv,.lit (.bool full)] true 0))) (n+1) (by omega) (fun b hb=>Ad hb);have hS9:∀ w∈S,w.length<=299:=fun w hw=>by have:=(hq.s.wl w hw).1;omega
 clear HQ hM hMI hMO hS hE hL hq;generalize a0g I L=T at *;refine WC.mono hw ?_;rintro _ ⟨sv,e2,tv,g1,n1,rfl,hn1,hg1,htv⟩;have h1sv:=htv.s.one;have h1e2:=htv.e.one;have h1tv:=htv.t.choose_spec.1.one;have hone2:allOne [.li I,.li O,sv,e2,.li I,.li O,tv]=true:=by simp[h1sv,h1e2,h1tv]
 have HG1:Aa (∀ b,b<n->g1 b=g b):=⟨fun b hb=>(hg1 b (by omega)).trans (Ad hb)⟩;have hgn1:=(hg1 n (by omega)).trans Ag;have HOP:=Aa.mk fun (gX:Gb) (n2:Nat) (hn:n1<=n2) (hX:∀ b,b<n1->gX b=g1 b)=>g2t hp hS9 gX n2 sv e2 tv (htv.mono hn hX);have HHY:=Aa.mk fun (gX:Gb) (n2:Nat) (hn:n1<=n2) (hX:∀ b,b<n1->gX b=g1 b)=>g2u hp hS9 gX n2 sv e2 tv (htv.mono hn hX);have HRH:=Aa.mk fun (gX:Gb) (n2:Nat) (hn:n1<=n2) (hX:∀ b,b<n1->gX b=g1 b)=>g3a hp hS9 gX n2 sv e2 tv (htv.mono hn hX).s.listV (htv.mono hn hX).e.listV (htv.mono hn hX).t;have HFU:=Aa.mk fun (gX:Gb) (n2:Nat) (hn:n1<=n2) (hX:∀ b,b<n1->gX b=g1 b)=>d8s hp gX n2 sv e2 tv (htv.mono hn hX).s.listV (htv.mono hn hX).e.listV (htv.mono hn hX).t;have HRO:=Aa.mk fun (gX:Gb) (n2:Nat) (hn:n1<=n2) (hX:∀ b,b<n1->gX b=g1 b)=>d8o hp hS9 gX n2 sv e2 tv (htv.mono hn hX).s.listV (htv.mono hn hX).e.listV (htv.mono hn hX).t;have HHB:=Aa.mk (g3b (T:=T) (E:=E) (I:=I) (S:=S) (e:=b1g T E I S) hp.sl hp.i2);have HOB:Aa (((Cn T E I S).getD []).length<=1000):=⟨by
  cases ho:Cn T E I S with
  | none=>simp
  | some w =>
   have:=List.mem_of_find?_eq_some ho;obtain⟨s,hs,h⟩:=g4i.1 this;obtain⟨i,_,rfl⟩:=Eg.1 h;have:=hS9 s hs;simp;omega⟩
 clear hw hg1 htv hp hS9;generalize b1g T E I S=er at *
 iterate 8 all_goals try first|apply spl<;>intro h|simp (disch:=first|assumption|omega|simp) [*]
 refine WC.mono (HOP.out _ _ (by omega) fun b hb=>Ad hb) ?_;rintro _ ⟨rv,g2,n2,rfl,hn2,hg2,hrv⟩;have hgt2:=(hg2 n1 (by omega)).trans Ag;have h1rv:=hrv.one
 cases hfl:(Bb T E (Ak I S)).isEmpty with
 | false =>
  rw[hfl] at hrv HFU;have HRV:Aa (Aj g2 n2 [] rv):=⟨hrv⟩;have hlr:=@Am prog _ _ _ _ _ hrv;clear hrv hfl;simp only[g4g]
  iterate 8 all_goals try first|apply spl<;>intro h|simp (disch:=first|assumption|omega|simp) [*]
  refine WC.mono (HHY.out _ _ (by omega) fun b hb=>(hg2 b (by omega)).trans (Ad hb)) ?_;rintro _ ⟨hv,g3,n3,rfl,hn3,hg3,htr,htt⟩;have hgt3:=(hg3 n1 (by omega)).trans hgt2;have HG3:Aa (∀ b,b<n1->g3 b=g1 b):=⟨fun b hb=>(hg3 b (by omega)).trans ((hg2 b (by omega)).trans (Ad hb))⟩;have hlh:=htt.lenB;have hch:=htt.capB;have h1h:=htr.choose_spec.1.one;have honeh:allOne [.li (if er=0 then (I:Int) else 0),.li (if er=0 then O else 0),hv]=true:=by simp[h1h]
  have HRV3:=Aa.mk (Af.mono (show n2<=n3 by omega) hg3 HRV.out);have HTR:=Aa.mk htr;clear htr htt HHY hgt2 HRV HOP
  iterate 8 all_goals try first|apply spl<;>intro h|simp (disch:=first|assumption|omega|simp) [*]
  refine WC.mono (HRH.out _ _ (by omega) fun b hb=>(Ad (by omega)).trans (HG3.out b hb)) ?_;rintro _ ⟨hv2,g4,n4,rfl,hn4,hg4,htr2⟩;have hgt4:=(hg4 n1 (by omega)).trans ((Ad (by omega)).trans hgt3);have hgh4:=(hg4 n3 (by omega)).trans Ag;have HG4:Aa (∀ b,b<n1->g4 b=g1 b):=⟨fun b hb=>(hg4 b (by omega)).trans ((Ad (by omega)).trans (HG3.out b hb))⟩;have h1h2:=htr2.choose_spec.1.one;have honeh2:allOne [.li (if er=0 then (I:Int) else 0),.li (if er=0 then O else 0),hv2]=true:=by simp[h1h2]
  have HK43:Aa (∀ b,b<n3->g4 b=g3 b):=⟨fun b hb=>(hg4 b (by omega)).trans (Ad hb)⟩;have HMS:=Aa.mk (c7r (if er=0 then (I:Int) else 0) (if er=0 then O else 0) (rows:=if er=0 then a0s T E I S else []) HHB.out.1 HHB.out.2 (Ap g4 n4 (some (.cells [.li (if er=0 then (I:Int) else 0),.li (if er=0 then O else 0),hv2] true 0))) (n4+1) hv hv2 (HTR.out.mono (by omega) fun b hb=>(Ad (by omega)).trans (HK43.out b hb)) (htr2.mono (by omega) fun b hb=>Ad hb));clear hg4 htr2 HRH hgt3 HTR HHB;generalize (if er=0 then (I:Int) else 0)=mi at *;generalize (if er=0 then O else 0)=mo at *;generalize (if er=0 then a0s T E I S else []).length=hl at *
  iterate 8 all_goals try first|apply spl<;>intro h|simp (disch:=first|assumption|omega|simp) [*]
  refine WC.mono HMS.out ?_;rintro _ ⟨g5,rfl,hg5⟩;have HG5:Aa (∀ b,b<n1->g5 b=g1 b):=⟨fun b hb=>(hg5 b (by omega)).trans ((Ad (by omega)).trans (HG4.out b hb))⟩;have hgt5:=(hg5 n1 (by omega)).trans ((Ad (by omega)).trans hgt4);have hgh5:=(hg5 n3 (by omega)).trans ((Ad (by omega)).trans hgh4);have HK5:Aa (∀ b,b<n3->g5 b=g3 b):=⟨fun b hb=>(hg5 b (by omega)).trans ((Ad (by omega)).trans (HK43.out b hb))⟩;clear hg5 HMS hgt4 hgh4
  iterate 8 all_goals try first|apply spl<;>intro h|simp (disch:=first|assumption|omega|simp) [*]
  refine WC.mono (HFU.out _ _ (by omega) HG5.out) ?_;rintro _ ⟨g6,n6,rfl,hn6,hg6⟩;have HG6:Aa (∀ b,b<n1->g6 b=g1 b):=⟨fun b hb=>(hg6 b (by omega)).trans (HG5.out b hb)⟩;have hgt6:=(hg6 n1 (by omega)).trans hgt5;have HRV6:=Aa.mk (Af.mono (show n3<=n6 by omega) (fun b hb=>(hg6 b (by omega)).trans (HK5.out b hb)) HRV3.out);clear hg6 HFU hgt5 hgh5 HRV3
  iterate 8 all_goals try first|apply spl<;>intro h|simp (disch:=first|assumption|omega|simp) [*]
  refine WC.mono (c7k _) ?_;rintro _ rfl
  iterate 8 all_goals try first|apply spl<;>intro h|simp (disch:=first|assumption|omega|simp) [*]
  exact⟨show n<=n6 by omega,fun b (hb:b<n)=>(HG6.out b (show b<n1 by omega)).trans (HG1.out b hb)⟩
 | true =>
  rw[hfl] at hrv HFU;have HRV:Aa (Aj g2 n2 ((Cn T E I S).getD []) rv):=⟨hrv⟩;clear hrv hfl;simp only[g5c];generalize Cn T E I S=o at *
  cases ho:o.isSome with
  | false =>
   rw[ho] at HRO;clear ho
   iterate 8 all_goals try first|apply spl<;>intro h|simp (disch:=first|assumption|omega|simp) [*]
   refine WC.mono (HHY.out _ _ (by omega) fun b hb=>(hg2 b (by omega)).trans (Ad hb)) ?_;rintro _ ⟨hv,g3,n3,rfl,hn3,hg3,htr,htt⟩;have hgt3:=(hg3 n1 (by omega)).trans hgt2;have HG3:Aa (∀ b,b<n1->g3 b=g1 b):=⟨fun b hb=>(hg3 b (by omega)).trans ((hg2 b (by omega)).trans (Ad hb))⟩;have hlh:=htt.lenB;have hch:=htt.capB;have h1h:=htr.choose_spec.1.one;have honeh:allOne [.li (if er=0 then (I:Int) else 0),.li (if er=0 then O else 0),hv]=true:=by simp[h1h]
   have HRV3:=Aa.mk (Af.mono (show n2<=n3 by omega) hg3 HRV.out);have HTR:=Aa.mk htr;clear htr htt HHY hgt2 HRV HOP
   iterate 8 all_goals try first|apply spl<;>intro h|simp (disch:=first|assumption|omega|simp) [*]
   refine WC.mono (HRH.out _ _ (by omega) fun b hb=>(Ad (by omega)).trans (HG3.out b hb)) ?_;rintro _ ⟨hv2,g4,n4,rfl,hn4,hg4,htr2⟩;have hgt4:=(hg4 n1 (by omega)).trans ((Ad (by omega)).trans hgt3);have hgh4:=(hg4 n3 (by omega)).trans Ag;have HG4:Aa (∀ b,b<n1->g4 b=g1 b):=⟨fun b hb=>(hg4 b (by omega)).trans ((Ad (by omega)).trans (HG3.out b hb))⟩;have h1h2:=htr2.choose_spec.1.one;have honeh2:allOne [.li (if er=0 then (I:Int) else 0),.li (if er=0 then O else 0),hv2]=true:=by simp[h1h2]
   have HK43:Aa (∀ b,b<n3->g4 b=g3 b):=⟨fun b hb=>(hg4 b (by omega)).trans (Ad hb)⟩;have HMS:=Aa.mk (c7r (if er=0 then (I:Int) else 0) (if er=0 then O else 0) (rows:=if er=0 then a0s T E I S else []) HHB.out.1 HHB.out.2 (Ap g4 n4 (some (.cells [.li (if er=0 then (I:Int) else 0),.li (if er=0 then O else 0),hv2] true 0))) (n4+1) hv hv2 (HTR.out.mono (by omega) fun b hb=>(Ad (by omega)).trans (HK43.out b hb)) (htr2.mono (by omega) fun b hb=>Ad hb));clear hg4 htr2 HRH hgt3 HTR HHB;generalize (if er=0 then (I:Int) else 0)=mi at *;generalize (if er=0 then O else 0)=mo at *;generalize (if er=0 then a0s T E I S else []).length=hl at *
   iterate 8 all_goals try first|apply spl<;>intro h|simp (disch:=first|assumption|omega|simp) [*]
   refine WC.mono HMS.out ?_;rintro _ ⟨g5,rfl,hg5⟩;have HG5:Aa (∀ b,b<n1->g5 b=g1 b):=⟨fun b hb=>(hg5 b (by omega)).trans ((Ad (by omega)).trans (HG4.out b hb))⟩;have hgt5:=(hg5 n1 (by omega)).trans ((Ad (by omega)).trans hgt4);have hgh5:=(hg5 n3 (by omega)).trans ((Ad (by omega)).trans hgh4);have HK5:Aa (∀ b,b<n3->g5 b=g3 b):=⟨fun b hb=>(hg5 b (by omega)).trans ((Ad (by omega)).trans (HK43.out b hb))⟩;clear hg5 HMS hgt4 hgh4
   iterate 8 all_goals try first|apply spl<;>intro h|simp (disch:=first|assumption|omega|simp) [*]
   refine WC.mono (HFU.out _ _ (by omega) HG5.out) ?_;rintro _ ⟨g6,n6,rfl,hn6,hg6⟩;have HG6:Aa (∀ b,b<n1->g6 b=g1 b):=⟨fun b hb=>(hg6 b (by omega)).trans (HG5.out b hb)⟩;have hgt6:=(hg6 n1 (by omega)).trans hgt5;have HRV6:=Aa.mk (Af.mono (show n3<=n6 by omega) (fun b hb=>(hg6 b (by omega)).trans (HK5.out b hb)) HRV3.out);clear hg6 HFU hgt5 hgh5 HRV3
   iterate 8 all_goals try first|apply spl<;>intro h|simp (disch:=first|assumption|omega|simp) [*]
   refine WC.mono (HRO.out _ _ (by omega) HG6.out) ?_;rintro _ ⟨rv2,g7,n7,rfl,hn7,hg7,hrv2⟩;have HG7:Aa (∀ b,b<n1->g7 b=g1 b):=⟨fun b hb=>(hg7 b (by omega)).trans (HG6.out b hb)⟩;have HSM:=Aa.mk (b4s (o.getD []) (o.getD []) (by have:=HOB.out;omega) (by have:=HOB.out;omega) g7 n7 rv rv2 (Af.mono (by omega) hg7 HRV6.out) hrv2);simp only[decide_true] at HSM;clear hg7 hrv2 HRO
   iterate 8 all_goals try first|apply spl<;>intro h|simp (disch:=first|assumption|omega|simp) [*]
   refine WC.mono HSM.out ?_;rintro _ rfl
   iterate 8 all_goals try first|apply spl<;>intro h|simp (disch:=first|assumption|omega|simp) [*]
   refine WC.mono (c7k _) ?_;rintro _ rfl
   iterate 8 all_goals try first|apply spl<;>intro h|simp (disch:=first|assumption|omega|simp) [*]
   exact⟨show n<=n7 by omega,fun b (hb:b<n)=>(HG7.out b (show b<n1 by omega)).trans (HG1.out b hb)⟩
  | true =>
   rw[ho] at HRO;clear ho
   iterate 8 all_goals try first|apply spl<;>intro h|simp (disch:=first|assumption|omega|simp) [*]
   refine WC.mono (HHY.out _ _ (by omega) fun b hb=>(hg2 b (by omega)).trans (Ad hb)) ?_;rintro _ ⟨hv,g3,n3,rfl,hn3,hg3,htr,htt⟩;have hgt3:=(hg3 n1 (by omega)).trans hgt2;have HG3:Aa (∀ b,b<n1->g3 b=g1 b):=⟨fun b hb=>(hg3 b (by omega)).trans ((hg2 b (by omega)).trans (Ad hb))⟩;have hlh:=htt.lenB;have hch:=htt.capB;have h1h:=htr.choose_spec.1.one;have honeh:allOne [.li (if er=0 then (I:Int) else 0),.li (if er=0 then O else 0),hv]=true:=by simp[h1h]
   have HRV3:=Aa.mk (Af.mono (show n2<=n3 by omega) hg3 HRV.out);have HTR:=Aa.mk htr;clear htr htt HHY hgt2 HRV HOP
   iterate 8 all_goals try first|apply spl<;>intro h|simp (disch:=first|assumption|omega|simp) [*]
   refine WC.mono (HRH.out _ _ (by omega) fun b hb=>(Ad (by omega)).trans (HG3.out b hb)) ?_;rintro _ ⟨hv2,g4,n4,rfl,hn4,hg4,htr2⟩;have hgt4:=(hg4 n1 (by omega)).trans ((Ad (by omega)).trans hgt3);have hgh4:=(hg4 n3 (by omega)).trans Ag;have HG4:Aa (∀ b,b<n1->g4 b=g1 b):=⟨fun b hb=>(hg4 b (by omega)).trans ((Ad (by omega)).trans (HG3.out b hb))⟩;have h1h2:=htr2.choose_spec.1.one;have honeh2:allOne [.li (if er=0 then (I:Int) else 0),.li (if er=0 then O else 0),hv2]=true:=by simp[h1h2]
   have HK43:Aa (∀ b,b<n3->g4 b=g3 b):=⟨fun b hb=>(hg4 b (by omega)).trans (Ad hb)⟩;have HMS:=Aa.mk (c7r (if er=0 then (I:Int) else 0) (if er=0 then O else 0) (rows:=if er=0 then a0s T E I S else []) HHB.out.1 HHB.out.2 (Ap g4 n4 (some (.cells [.li (if er=0 then (I:Int) else 0),.li (if er=0 then O else 0),hv2] true 0))) (n4+1) hv hv2 (HTR.out.mono (by omega) fun b hb=>(Ad (by omega)).trans (HK43.out b hb)) (htr2.mono (by omega) fun b hb=>Ad hb));clear hg4 htr2 HRH hgt3 HTR HHB;generalize (if er=0 then (I:Int) else 0)=mi at *;generalize (if er=0 then O else 0)=mo at *;generalize (if er=0 then a0s T E I S else []).length=hl at *
   iterate 8 all_goals try first|apply spl<;>intro h|simp (disch:=first|assumption|omega|simp) [*]
   refine WC.mono HMS.out ?_;rintro _ ⟨g5,rfl,hg5⟩;have HG5:Aa (∀ b,b<n1->g5 b=g1 b):=⟨fun b hb=>(hg5 b (by omega)).trans ((Ad (by omega)).trans (HG4.out b hb))⟩;have hgt5:=(hg5 n1 (by omega)).trans ((Ad (by omega)).trans hgt4);have hgh5:=(hg5 n3 (by omega)).trans ((Ad (by omega)).trans hgh4);have HK5:Aa (∀ b,b<n3->g5 b=g3 b):=⟨fun b hb=>(hg5 b (by omega)).trans ((Ad (by omega)).trans (HK43.out b hb))⟩;clear hg5 HMS hgt4 hgh4
   iterate 8 all_goals try first|apply spl<;>intro h|simp (disch:=first|assumption|omega|simp) [*]
   refine WC.mono (HFU.out _ _ (by omega) HG5.out) ?_;rintro _ ⟨g6,n6,rfl,hn6,hg6⟩;have HG6:Aa (∀ b,b<n1->g6 b=g1 b):=⟨fun b hb=>(hg6 b (by omega)).trans (HG5.out b hb)⟩;have hgt6:=(hg6 n1 (by omega)).trans hgt5;have HRV6:=Aa.mk (Af.mono (show n3<=n6 by omega) (fun b hb=>(hg6 b (by omega)).trans (HK5.out b hb)) HRV3.out);clear hg6 HFU hgt5 hgh5 HRV3
   iterate 8 all_goals try first|apply spl<;>intro h|simp (disch:=first|assumption|omega|simp) [*]
   refine WC.mono (HRO.out _ _ (by omega) HG6.out) ?_;rintro _ ⟨rv2,g7,n7,rfl,hn7,hg7,hrv2⟩;have HG7:Aa (∀ b,b<n1->g7 b=g1 b):=⟨fun b hb=>(hg7 b (by omega)).trans (HG6.out b hb)⟩;have HSM:=Aa.mk (b4s (o.getD []) (o.getD []) (by have:=HOB.out;omega) (by have:=HOB.out;omega) g7 n7 rv rv2 (Af.mono (by omega) hg7 HRV6.out) hrv2);simp only[decide_true] at HSM;clear hg7 hrv2 HRO
   iterate 8 all_goals try first|apply spl<;>intro h|simp (disch:=first|assumption|omega|simp) [*]
   refine WC.mono HSM.out ?_;rintro _ rfl
   iterate 8 all_goals try first|apply spl<;>intro h|simp (disch:=first|assumption|omega|simp) [*]
   refine WC.mono (c7k _) ?_;rintro _ rfl
   iterate 8 all_goals try first|apply spl<;>intro h|simp (disch:=first|assumption|omega|simp) [*]
   exact⟨show n<=n7 by omega,fun b (hb:b<n)=>(HG7.out b (show b<n1 by omega)).trans (HG1.out b hb)⟩
end Go.Ai
end

