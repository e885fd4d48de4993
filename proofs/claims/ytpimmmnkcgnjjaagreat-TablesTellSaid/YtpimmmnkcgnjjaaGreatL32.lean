/- A small verified interpreter over names, its proofs, and what was proved with it. No condition. -/
import Derived.Test.YtpimmmnkcgnjjaaGreatL23
import Derived.Test.YtpimmmnkcgnjjaaGreatL28
import Derived.Test.YtpimmmnkcgnjjaaGreatL30
import Derived.Test.YtpimmmnkcgnjjaaGreatL31
import Derived.Test.YtpimmmnkcgnjjaaGreatL13
set_option linter.all false
set_option linter.deprecated false
section
namespace Go.Ai
open Go.Proofs Go.Proofs.Tryz
set_option maxRecDepth 10000
set_option maxHeartbeats 40000000
theorem d8x (M:Bc) (ws:List (List Nat)) (ia ib ic:Nat) : (ofG M ws ia ib ic).length<=40:=by
 have h:(Bm M ws).length<=12:=by unfold Bm;rw[Ee,Dw];omega
 unfold ofG;split
 ·omega
 ·split
  ·omega
  ·rw[Ed];omega
theorem QOK.log {M:Bc} (hM:M.ok) {I:Nat} {O:Int} (hI:M.inp=I) (hO:M.out=O) {S E:Wq} {L:Lq} (h:QOK M S E L) : Cj I O L:=by
 have h1:=hM.1;have h2:=hM.2.1;have h3:=hM.2.2.1;have h4:=hM.2.2.2.1;exact⟨by have:=h.len;omega,by omega,by omega,by omega,by omega,fun t ht=>by have:=h.wl t ht;omega,by have:=h.runs.valid hM;rw[hI,hO] at this;exact this⟩
theorem g2e {st inp out:Nat} {part:Bool} {es:List Nat} {ev:AV} {ws:List (List Nat)} {wv:AV} (ia ib ic:Int) {sb:List Nat} {eb:List (List Nat)} {full:Bool} (g:Gb) (n:Nat) {sbv ebv:AV} (h:InQ g n st inp out es ev ws wv sb sbv eb ebv) {st2 inp2 out2:Nat} {part2:Bool} {es2:List Nat} {ev2:AV} {ws2:List (List Nat)} {wv2:AV} (ja jb jc:Nat) (hja:ja<256) (hjb:jb<256) (hjc:jc<256) (hG:InG g n st2 inp2 out2 es2 ev2 ws2 wv2) (same:Bool) :
  WC 0 prog 5 [.agg [.lit (.int .u8 st),.lit (.int .u8 inp),.lit (.int .u8 out),.lit (.bool part),ev,wv,.lit (.int .u8 ia),.lit (.int .u8 ib),.lit (.int .u8 ic),sbv,ebv,.lit (.bool full)],.agg [.lit (.int .u8 st2),.lit (.int .u8 inp2),.lit (.int .u8 out2),.lit (.bool part2),ev2,wv2,.lit (.int .u8 ja),.lit (.int .u8 jb),.lit (.int .u8 jc)],.lit (.bool same)] ⟨.fn g,n⟩ fun r=>r=.ret (.lit (.bool true)) ⟨.fn g,n⟩:=by
 refine WC.drop1 rfl ?_;have h1e:=h.i.se.one;have h1w:=h.i.sw.choose_spec.1.one;have h1s:=h.s.one;have h1b:=h.e.choose_spec.1.one;have h1e2:=hG.se.one;have h1w2:=hG.sw.choose_spec.1.one;have hone:allOne [.lit (.int .u8 st),.lit (.int .u8 inp),.lit (.int .u8 out),.lit (.bool part),ev,wv,.lit (.int .u8 ia),.lit (.int .u8 ib),.lit (.int .u8 ic),sbv,ebv,.lit (.bool full)]=true:=by simp[h1e,h1w,h1s,h1b]
 have honeG:allOne [.lit (.int .u8 st2),.lit (.int .u8 inp2),.lit (.int .u8 out2),.lit (.bool part2),ev2,wv2,.lit (.int .u8 ja),.lit (.int .u8 jb),.lit (.int .u8 jc)]=true:=by simp[h1e2,h1w2]
 have honeH:allOne [.lit (.int .u8 st),.lit (.int .u8 inp),.lit (.int .u8 out),.lit (.bool part),ev,wv2,.lit (.int .u8 ja),.lit (.int .u8 jb),.lit (.int .u8 jc)]=true:=by simp[h1e,h1w2]
 have honeM:allOne [.lit (.int .u8 st),.lit (.int .u8 inp),.lit (.int .u8 out),.lit (.bool part),ev]=true:=by simp[h1e]
 have HQ:=Aa.mk (fun (gX:Gb) (n2:Nat) (hn:n<=n2) (hX:∀ b,b<n->gX b=g b)=>g2b part ia ib ic full gX n2 (h.mono hn hX));have HGO:Aa ((∀ (gX:Gb) (n2:Nat),n<=n2->(∀ b,b<n->gX b=g b)->_)/\(∀ (gX:Gb) (n2:Nat),n<=n2->(∀ b,b<n->gX b=g b)->_)):=⟨fun gX n2 hn hX=>d7j (part:=part2) ja jb jc hja hjb hjc gX n2 (hG.mono hn hX),fun gX n2 hn hX=>d7j (part:=part) ja jb jc hja hjb hjc gX n2 (InG.mk (st:=st) (inp:=inp) (out:=out) (es:=es) (ev:=ev) (ws:=ws2) (wv:=wv2) h.i.b0 h.i.b1 h.i.b2 (h.i.mono hn hX).se h.i.eb (hG.mono hn hX).sw hG.wb)⟩;clear h hG;refine ent [] func5 rfl (by decide +kernel) (by kernel_rfl) ?_
 iterate 8 all_goals try first|apply spl<;>intro h|simp (disch:=first|assumption|omega|simp) [*]
 obtain⟨I,O,M,S,E,L,hM,hMI,hMO,hS,hE,hL,hp,hq,hw⟩:=HQ.out (Aj (Aj g n (some (.cells [.lit (.int .u8 st),.lit (.int .u8 inp),.lit (.int .u8 out),.lit (.bool part),ev,wv,.lit (.int .u8 ia),.lit (.int .u8 ib),.lit (.int .u8 ic),sbv,ebv,.lit (.bool full)] true 0))) (n+1) (some (.cells [.lit (.int .u8 st2),.lit (.int .u8 inp2),.lit (.int .u8 out2),.lit (.bool part2),ev2,wv2,.lit (.int .u8 ja),.lit (.int .u8 jb),.lit (.int .u8 jc)] true 0))) (n+1+1) (by omega) (fun b hb=>by simp (disch:=omega) only[Ab]);have hMok:M.ok:=by rw[hM];exact b1w st inp out part es
 have hLL:=hq.log hMok hMI hMO;have hLC:=hq.runs.cons;have hLn:=hq.len;have hTl:(Al I L).length<=1561:=by have:=hq.nod;rw[b2l];exact this
 clear HQ hM hMI hMO hS hE hL hq hMok;refine WC.mono hw ?_;rintro _ ⟨sv,e2,tv,g1,n1,rfl,hn1,hg1,htv⟩;have HTF:=Aa.mk htv;have h1sv:=htv.s.one;have h1e3:=htv.e.one;have h1tv:=htv.t.choose_spec.1.one;have hone2:allOne [.li I,.li O,sv,e2,.li I,.li O,tv]=true:=by simp[h1sv,h1e3,h1tv]
 have HG1:Aa (∀ b,b<n->g1 b=g b):=⟨fun b hb=>(hg1 b (by omega)).trans (by simp (disch:=omega) only[Ab])⟩;have hq1:=hg1 n (by omega);have hr1:=hg1 (n+1) (by omega);simp (disch:=omega) only[Ab,Af,Ae] at hq1 hr1;have HP:=Aa.mk hp;have HLL:=Aa.mk hLL;have HLC0:=Aa.mk hLC;have hEl:=hp.el;have hSl:=hp.sl;have hi1:=hp.i1;have hi2:=hp.i2;have hI1:1<=I:=hi1;have hBF:=Aa.mk (BF.of hLL hLC hp.go);clear hw hg1 htv hp hLL hLC;cases same
 focus
  iterate 8 all_goals try first|apply spl<;>intro h|simp (disch:=first|assumption|omega|simp) [*]
  refine WC.mono (HGO.out.1 _ _ (by omega) (fun b hb=>by simp (disch:=omega) only[Ab];exact HG1.out b hb)) ?_;rintro _ ⟨lv,g2,n2,B2,rfl,hn2,hg2,hlc⟩;have HG2:Aa (∀ b,b<n1->b≠n+1->g2 b=g1 b):=⟨fun b hb hb2=>(hg2 b (by omega)).trans (by simp (disch:=omega) only[Ab,Ae])⟩;have HTV:Aa (a2a g2 n2 S E (Al I L) sv e2 tv):=⟨HTF.out.from' (by omega) fun a h1 h2=>HG2.out a h2 (by omega)⟩;have ht2:=hg2 n1 (by omega);simp (disch:=omega) only[Ab,Af,Ae] at ht2;have HL2:=Aa.mk (d5l (b1w st2 inp2 out2 part2 es2) ws2 ja jb jc);have hl40:=d8x (Cg st2 inp2 out2 part2 es2) ws2 ja jb jc;have HLC:=Aa.mk hlc;clear hg2 hlc;generalize Cg st2 inp2 out2 part2 es2=MM at *;generalize ofG MM ws2 ja jb jc=ts at *;generalize MM.inp=I2 at *;generalize MM.out=O2 at *;clear HGO
 rotate_left
 focus
  iterate 8 all_goals try first|apply spl<;>intro h|simp (disch:=first|assumption|omega|simp) [*]
  refine WC.mono (HGO.out.2 _ _ (by omega) (fun b hb=>by simp (disch:=omega) only[Ab,Ae];exact HG1.out b hb)) ?_;rintro _ ⟨lv,g2,n2,B2,rfl,hn2,hg2,hlc⟩;have HG2:Aa (∀ b,b<n1->b≠n+1->g2 b=g1 b):=⟨fun b hb hb2=>(hg2 b (by omega)).trans (by simp (disch:=omega) only[Ab,Ae])⟩;have HTV:Aa (a2a g2 n2 S E (Al I L) sv e2 tv):=⟨HTF.out.from' (by omega) fun a h1 h2=>HG2.out a h2 (by omega)⟩;have ht2:=hg2 n1 (by omega);simp (disch:=omega) only[Ab,Af,Ae] at ht2;have HL2:=Aa.mk (d5l (b1w st inp out part es) ws2 ja jb jc);have hl40:=d8x (Cg st inp out part es) ws2 ja jb jc;have HLC:=Aa.mk hlc;clear hg2 hlc;generalize Cg st inp out part es=MM at *;generalize ofG MM ws2 ja jb jc=ts at *;generalize MM.inp=I2 at *;generalize MM.out=O2 at *;clear HGO
 all_goals
  have h1lv:oneC lv=true:=HLC.out.one;have honeL:allOne [.li I2,.li O2,lv]=true:=by simp[h1lv]
  have HTE:=Aa.mk fun (gX:Gb) (nX:Nat) (hn:n2<=nX) (hX:∀ b,b<n2->gX b=g2 b)=>g1z HP.out HLL.out HLC0.out hLn HL2.out hl40 gX nX sv e2 tv lv (HTV.out.mono hn hX) (HLC.out.logX.mono hn hX) (a8r HLC.out.choose_spec.1)
  iterate 8 all_goals try first|apply spl<;>intro h|simp (disch:=first|assumption|omega|simp) [*]
  refine WC.mono (HTE.out _ _ (by omega) fun b hb=>by simp (disch:=omega) only[Ab]) ?_;rintro _ ⟨rv,g3,n3,rfl,hn3,hg3,hres⟩;obtain⟨a0,a1,a2,a3,a4,a5,a6,rfl,hone3,hra⟩:=hres.seven;have HG3:Aa (∀ b,b<n2->g3 b=g2 b):=⟨fun b hb=>(hg3 b (by omega)).trans (Ab hb)⟩;have hl3:=(hg3 n2 (by omega)).trans Af;have ht3:=(HG3.out n1 (by omega)).trans ht2;have HRA:=Aa.mk hra;clear hg3 hres hra HTE;obtain⟨er,her⟩ : ∃ er,er=a8u I O I2 O2 (a3e I L++ts):=⟨_,rfl⟩;rw[<- her] at HRA |-;by_cases hIO:I2=I/\O2=O
  ·skip
   obtain⟨rfl,rfl⟩:=hIO;have HER:=Aa.mk her;clear her;obtain⟨hBU1,hBU2,hBU3,hBU4⟩:=g2c HLL.out HLC0.out HP.out.go hLn (fun r hr e he=>(HP.out.ok r hr).2 e he);have HLU:=Aa.mk (hBU1.appT HL2.out (by omega));have HRB:=Aa.mk fun (gX:Gb) (nX:Nat) (hn:n2<=nX) (hX:∀ b,b<n2->gX b=g2 b)=>g2a (I:=I) (O:=O2) hI1 (by omega) HP.out.o1 hBF.out.ne (by omega) HP.out.go hBF.out.lab (by have:=hBF.out.cnt;omega) (fun t ht=>by have:=hBF.out.wl t ht;omega) gX nX tv (HTV.out.t.mono hn hX);clear hBU1
   iterate 8 all_goals try first|apply spl<;>intro h|simp (disch:=first|assumption|omega|simp) [*]
   refine WC.mono (HRB.out _ _ (by omega) fun b hb=>(Ab (by omega)).trans (HG3.out b hb)) ?_;rintro _ ⟨lu,lo4,B4,cs4,g4,n4,rfl,hn4,hg4,hlo4,hgr4,hrw4⟩;have HG4:Aa (∀ b,b<n3->g4 b=g3 b):=⟨fun b hb=>(hg4 b (by omega)).trans (Ab hb)⟩;have ha4:=(hg4 n3 (by omega)).trans Af;have ht4:=(HG4.out n1 (by omega)).trans ht3;have hl4:=(HG4.out n2 (by omega)).trans hl3;rw[hBU4] at hgr4 hrw4;obtain⟨hr4,hc4⟩:=hrw4 hBU3;rcases hgr4 with⟨hz,_⟩|⟨hk4,rfl,hlB,hBn,hgB4,hcsl⟩
   ·omega
   have HR4:=Aa.mk hr4;have HC4:=Aa.mk hc4;obtain⟨cl,hsl,hrt,hcl⟩:=HLC.out.logX;have hcll:=hrt.1;have halc:=hrt.allOne';have HRT:=Aa.mk hrt;have HCL2:=Aa.mk hcl;clear hg4 hrw4 hr4 hc4 hrt hcl hBU4 HRB;obtain⟨UU,hUU⟩ : ∃ UU,UU=a3e I L:=⟨_,rfl⟩;have HUR:Aa (RowsT (noB B4 g4) n4 UU cs4):=⟨by rw[hUU];exact HR4.out⟩;rw[<- hUU] at HER HRA HLU hBU2 hBU3 hcsl hk4 |-;clear HR4 hUU;by_cases ht0:ts.length=0
   focus
    have hts:ts=[]:=g5f ht0;subst hts;have hap:=@Ag.apq0 prog _ _ _ _ hsl;clear hsl;rw[Ej] at HLU HER HRA
    iterate 8 all_goals try first|apply spl<;>intro h|simp (disch:=first|assumption|omega|simp) [*]
    obtain⟨gX,hgX⟩ : ∃ gX:Gb,gX=Aj g4 n4 (some (.cells [.li I,.li O2,.slq B4 0 UU.length 0] true 0)):=⟨_,rfl⟩;have HGX:Aa (∀ b,b<n3+1->gX b=g4 b):=⟨fun b hb=>by rw[hgX];simp (disch:=omega) only[Ab,Ae]⟩;have HLX:Aa (a3b gX (n4+1) (UU) (.slq B4 0 UU.length 0)):=⟨by
     refine⟨cs4,.inr ⟨B4,0,by omega,.inr ⟨0,rfl⟩,cs4,true,2,by rw[hgX,Ab hBn];exact hgB4,by simp,by rw[g3p,Ep]⟩,RowsT.ext HUR.out (by omega) (fun a x ha hx=>?_),HC4.out⟩;unfold noB at hx;split at hx
     ·cases hx
     ·rw[hgX,Ab ha];exact hx⟩
    have h1u:oneC (.slq B4 0 UU.length 0)=true:=rfl;have hnX:n4<n4+1:=by omega
    have hbX:gX n4=some (.cells [.li I,.li O2,.slq B4 0 UU.length 0] true 0):=by rw[hgX];simp (disch:=omega) only[Af,Ab]
    rw[<- hgX];clear hgX;generalize (AV.slq B4 0 UU.length 0)=lu at *;generalize n4+1=nX at *;generalize UU=UX at *
   rotate_left
   focus
    obtain⟨aL,blkL,haL,hgaL,hap⟩:=Ag.apq (P:=prog) (sz:=2) hsl (by omega) (by omega) hcll;clear hsl;have hgaL4:=(HG4.out aL (by omega)).trans ((HG3.out aL haL).trans hgaL)
    iterate 8 all_goals try first|apply spl<;>intro h|simp (disch:=first|assumption|omega|simp) [*]
    obtain⟨gX,hgX⟩ : ∃ gX:Gb,gX=Aj (Aj (Aj (Aj g4 n4 (some (.cells [.li I,.li O2,.slq B4 0 UU.length 0] true 0))) B4 none) (n4+1) (some (.cells (cs4++cl) true 2))) n4 (some (.cells [.li I,.li O2,.slq (n4+1) 0 (UU.length+ts.length) 0] true 0)):=⟨_,rfl⟩;have HGX:Aa (∀ b,b<n3+1->gX b=g4 b):=⟨fun b hb=>by rw[hgX];simp (disch:=omega) only[Ab,Ae]⟩;have HLX:Aa (a3b gX (n4+1+1) (UU++ts) (.slq (n4+1) 0 (UU.length+ts.length) 0)):=⟨by
     refine⟨cs4++cl,?_,RowsT.app (RowsT.ext HUR.out (by omega) fun a x ha hx=>?_) (RowsT.ext HRT.out (by omega) fun a x ha hx=>?_),fun v hv=>?_⟩
     ·rw[Dr];refine .inr ⟨n4+1,0,by omega,.inr ⟨0,rfl⟩,cs4++cl,true,2,?_,by simp,by rw[g3p,Ep]⟩;rw[hgX,Ae (by omega),Af]
     ·unfold noB at hx;split at hx
      ·cases hx
      ·rename_i hne;rw[hgX,Ae (by omega),Ae (by omega),Ae hne,Ae (by omega)];exact hx
     ·rw[hgX,Ae (by omega),Ae (by omega),Ae (by omega),Ae (by omega),HG4.out a (by omega),HG3.out a ha];exact hx
     ·rcases Eg.1 hv with h|h
      ·exact HC4.out v h
      ·exact HCL2.out v h⟩
    have h1u:oneC (.slq (n4+1) 0 (UU.length+ts.length) 0)=true:=rfl;have hnX:n4<n4+1+1:=by omega
    have hbX:gX n4=some (.cells [.li I,.li O2,.slq (n4+1) 0 (UU.length+ts.length) 0] true 0):=by rw[hgX];simp (disch:=omega) only[Af,Ab]
    rw[<- hgX];clear hgX;generalize (AV.slq (n4+1) 0 (UU.length+ts.length) 0)=lu at *;generalize n4+1+1=nX at *;generalize UU++ts=UX at *
   all_goals
    have honeU:allOne [.li I,.li O2,lu]=true:=by simp[h1u]
    refine WC.mono (g2d HLU.out gX nX lu HLX.out.log) ?_;rintro _ ⟨g5,n5,rfl,hn5,hg5⟩;have HG5:Aa (∀ b,b<nX->g5 b=gX b):=⟨hg5⟩;have ha5:=(hg5 n3 (by omega)).trans ((HGX.out n3 (by omega)).trans ha4);have ht5:=(hg5 n1 (by omega)).trans ((HGX.out n1 (by omega)).trans ht4);have hb5:=(hg5 n4 (by omega)).trans hbX;have HGA:Aa (∀ b,b<n->g5 b=g b):=⟨fun b hb=>(hg5 b (by omega)).trans ((HGX.out b (by omega)).trans ((HG4.out b (by omega)).trans ((HG3.out b (by omega)).trans ((HG2.out b (by omega) (by omega)).trans (HG1.out b hb)))))⟩;clear hg5
    cases hD:Dk UX UX 0 with
    | some D =>
     obtain⟨d1,d2,d3⟩:=D;have he:er=18:=by rw[HER.out];unfold a8u;rw[if_pos ⟨rfl,rfl⟩,if_neg (by rw[hD];simp)]
     subst he;clear HER hD;rcases HRA.out with⟨_,rfl⟩|⟨hx,_⟩
     rotate_left
     ·exact absurd hx (by decide)
     clear HRA;simp only[conC,Option.isSome]
     iterate 8 all_goals try first|apply spl<;>intro h|simp (disch:=first|assumption|omega|simp) [*]
     refine WC.mono (c6z _) ?_;rintro _ rfl
     iterate 8 all_goals try first|apply spl<;>intro h|simp (disch:=first|assumption|omega|simp) [*]
     exact⟨by show n<=_;dsimp only;omega,fun b (hb:b<n)=>(Ab (by omega)).trans (HGA.out b hb)⟩
    | none =>
     have he:er=0:=by rw[HER.out];unfold a8u;rw[if_pos ⟨rfl,rfl⟩,if_pos hD]
     have hCU:=Aa.mk ((b6y fun t ht=>(HLU.out.lens ht).1).1 hD);subst he;clear HER hD;rcases HRA.out with⟨hx,_⟩|⟨_,rfl,rfl,rfl,rfl,hra1,hra2,hra3⟩
     ·exact absurd rfl hx
     have hlA2:=hra2.lenA;have hcA2:=hra2.capA;have hlA3:=hra3.lenA;have hcA3:=hra3.capA;have HTA:=Aa.mk hra1;clear HRA hra1 hra2 hra3;simp only[conC,Option.isSome];have HTR:=Aa.mk fun (gX:Gb) (nY:Nat) (hn:nX<=nY) (hX:∀ b,b<nX->gX b=g5 b)=>d6q HLU.out hCU.out gX nY lu (HLX.out.mono hn fun b hb=>(hX b hb).trans (HG5.out b hb));have hTU:(Al I UX).length<=100000:=by
      have h1:=d8o HLU.out.wl;have h2:=HLU.out.len;rw[b2l];omega
     have HTW:Aa (∀ r∈Al I UX,r.length<=1000):=⟨fun r hr=>by
      obtain⟨w,_,rfl⟩:=Ei.1 hr;rw[a5t];omega⟩
     clear hCU;generalize Al I UX=TU at *
     iterate 8 all_goals try first|apply spl<;>intro h|simp (disch:=first|assumption|omega|simp) [*]
     refine WC.mono (HTR.out _ _ (by omega) fun b hb=>by simp (disch:=omega) only[Ab]) ?_;rintro _ ⟨rv6,g6,n6,rfl,hn6,hg6,htv6⟩;have h1t6:oneC rv6=true:=htv6.choose_spec.1.one;have hone6:allOne [.li I,.li O2,rv6]=true:=by simp[h1t6]
     have hone7:allOne [.li I,.li O2,sv,e2,.li I,.li O2,rv6]=true:=by simp[h1t6,h1sv,h1e3]
     have HG6:Aa (∀ b,b<nX->g6 b=g5 b):=⟨fun b hb=>(hg6 b (by omega)).trans (by simp (disch:=omega) only[Ab])⟩;have ha6:=(HG6.out n3 (by omega)).trans ha5;have ht6:=(HG6.out n1 (by omega)).trans ht5;have HT6:=Aa.mk htv6;clear hg6 htv6 HTR
     iterate 8 all_goals try first|apply spl<;>intro h|simp (disch:=first|assumption|omega|simp) [*]
     have HQ7:Aa (∀ b,b<n3->b≠n1->Aj g6 n1 (some (.cells [.li I,.li O2,sv,e2,.li I,.li O2,rv6] true 0)) b=g3 b):=⟨fun b hb hb2=>(Ae hb2).trans ((HG6.out b (by omega)).trans ((HG5.out b (by omega)).trans ((HGX.out b (by omega)).trans (HG4.out b hb))))⟩;have hA7:=HTA.out.from' (g':=Aj g6 n1 (some (.cells [.li I,.li O2,sv,e2,.li I,.li O2,rv6] true 0))) (n':=n6) (by omega) (fun a h1 h2=>HQ7.out a h2 (by omega));have hB7:=HTF.out.from' (g':=Aj g6 n1 (some (.cells [.li I,.li O2,sv,e2,.li I,.li O2,rv6] true 0))) (n':=n6) (by omega) (fun a h1 h2=>(HQ7.out a (by omega) (by omega)).trans ((HG3.out a (by omega)).trans (HG2.out a h2 (by omega))));have hC7:=HT6.out.from' (g':=Aj g6 n1 (some (.cells [.li I,.li O2,sv,e2,.li I,.li O2,rv6] true 0))) (n':=n6) (Dp _) (fun a h1 h2=>Ae (by omega));refine WC.mono (g0x (I:=I) (O:=O2) (S:=S) (E:=E) (T:=TU) (by omega) (fun y hy=>by have:=(HP.out.sw y hy).1;omega) (by omega) (fun y hy=>by have:=(HP.out.ew y hy).2.1;omega) hTU HTW.out _ _ a2 sv a3 e2 a6 rv6 hA7.s.listV hB7.s.listV hA7.e.listV hB7.e.listV hA7.t hC7) ?_;rintro _ ⟨g7,n7,rfl,hn7,hg7⟩;have ha7:=(hg7 n3 (by omega)).trans ((Ae (by omega)).trans ha6);have HG7:Aa (∀ b,b<n->g7 b=g b):=⟨fun b hb=>(hg7 b (by omega)).trans ((Ae (by omega)).trans ((HG6.out b (by omega)).trans (HGA.out b hb)))⟩;clear hg7 hA7 hB7 hC7
     iterate 8 all_goals try first|apply spl<;>intro h|simp (disch:=first|assumption|omega|simp) [*]
     refine WC.mono (c6z _) ?_;rintro _ rfl
     iterate 8 all_goals try first|apply spl<;>intro h|simp (disch:=first|assumption|omega|simp) [*]
     exact⟨by show n<=_;dsimp only;omega,fun b (hb:b<n)=>HG7.out b hb⟩
  ·have he:er=5:=her.trans (if_neg hIO);subst he;clear her;rcases HRA.out with⟨_,rfl⟩|⟨hx,_⟩
   rotate_left
   ·exact absurd hx (by decide)
   clear HRA;have hor:¬I2=I\/(I2=I/\¬O2=O):=by
    by_cases h:I2=I
    ·exact .inr ⟨h,fun h2=>hIO ⟨h,h2⟩⟩
    ·exact .inl h
   clear hIO;rcases hor with hd|⟨rfl,hd⟩
   all_goals
    iterate 8 all_goals try first|apply spl<;>intro h|simp (disch:=first|assumption|omega|simp) [*]
    refine WC.mono (c6z _) ?_;rintro _ rfl
    iterate 8 all_goals try first|apply spl<;>intro h|simp (disch:=first|assumption|omega|simp) [*]
    exact⟨by show n<=_;dsimp only;omega,fun b (hb:b<n)=>(Ab (by omega)).trans ((HG3.out b (by omega)).trans ((HG2.out b (by omega) (by omega)).trans (HG1.out b hb)))⟩
end Go.Ai
end

