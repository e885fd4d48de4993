/- A small verified interpreter over names, its proofs, and what was proved with it. No condition. -/
import Derived.Test.YtpimmmnkcgnjjaaGreatL20
import Derived.Test.YtpimmmnkcgnjjaaGreatL28
import Derived.Test.YtpimmmnkcgnjjaaGreatL30
import Derived.Test.YtpimmmnkcgnjjaaGreatL09
set_option linter.all false
set_option linter.deprecated false
section
namespace Go.Ai
open Go.Proofs Go.Proofs.Tryz
set_option maxRecDepth 10000
set_option maxHeartbeats 40000000
theorem g2b {st inp out:Nat} (part:Bool) {es:List Nat} {ev:AV} {ws:List (List Nat)} {wv:AV} (ia ib ic:Int) {sb:List Nat} {eb:List (List Nat)} (full:Bool) (g:Gb) (n:Nat) {sbv ebv:AV} (h:InQ g n st inp out es ev ws wv sb sbv eb ebv) :
  ∃ (I:Nat) (O:Int) (M:Bc) (S E:Wq) (L:Lq),M=Cg st inp out part es/\M.inp=I/\M.out=O/\S=qSx M sb/\E=qEx M eb/\L=qLx M ws full S E/\b7c I O S E (Al I L)/\QOK M S E L/\WC 0 prog 16 [.agg [.lit (.int .u8 st),.lit (.int .u8 inp),.lit (.int .u8 out),.lit (.bool part),ev,wv,.lit (.int .u8 ia),.lit (.int .u8 ib),.lit (.int .u8 ic),sbv,ebv,.lit (.bool full)]] ⟨.fn g,n⟩ fun r=>∃ sv e2 tv g' n',r=.ret (.agg [.li I,.li O,sv,e2,.li I,.li O,tv]) ⟨.fn g',n'⟩/\n<=n'/\(∀ b,b<n->g' b=g b)/\a2a (Co n g') n' S E (Al I L) sv e2 tv:=by
 have hM:=b1w st inp out part es;have hM3:(Cg st inp out part es).inp<=3:=by show 1+((inp % 3:Nat) : Int)<=3;omega
 have hI:(Cg st inp out part es).inp=((1+inp % 3:Nat) : Int):=by show 1+((inp % 3:Nat) : Int)=_;omega
 have hI3:1+inp % 3<=3:=by omega
 generalize 1+inp % 3=I at *;have hq:=d7c hM hM3 ws sb eb full;refine⟨I,_,_,_,_,_,rfl,hI,rfl,rfl,rfl,rfl,hq.tab hM hI rfl hI3,hq,WC.mono (g0h (part:=part) ia ib ic h.bs h.be full g n h.i sbv ebv h.s h.e) ?_⟩;rintro _ ⟨sv,e2,tv,g',n',rfl,h1,h2,h3,h4,h5⟩;rw[hI,g2t] at h5;refine⟨sv,e2,tv,g',n',?_,h1,h2,⟨h3,h4,h5⟩⟩;rw[hI]
end Go.Ai
end
section
namespace Go.Ai
open Go.Proofs Go.Proofs.Tryz
set_option maxRecDepth 10000
theorem g2c {I:Nat} {O:Int} {L:Lq} (hL:Cj I O L) (hC:a2j L) (hgo:goT I O (Al I L) 0 1=some (Al I L).length) (hLl:L.length<=156) (hok:∀ r∈Al I L,∀ e∈r,e.1 = -1\/(0<=e.1/\e.1<(Al I L).length)) :
  Cj I O (a3e I L)/\(a3e I L).length<=156/\0<(a3e I L).length/\(rbk (Ax (Al I L)) [] (endsM (Al I L) 0)).length=(a3e I L).length:=by
 have hBF:=BF.of hL hC hgo;have hcnt:(endsM (Al I L) 0).length<=156:=by
  have h1:=TL.count hL.o1 hBF.tl (X:=(bkM (Al I L) (Ax (Al I L))).map fun u=>u.1) (fun x hx=>by
   obtain⟨u,hu,rfl⟩:=Ei.1 hx;exact((bkM_of u).1 hu).1) hBF.lab.nodup
  simp only[Ee,bkM] at h1;omega
 have hne:0<(endsM (Al I L) 0).length:=c7i (I:=I) (O:=O) hBF.lab hBF.ne hok;have hlen:(rbk (Ax (Al I L)) [] (endsM (Al I L) 0)).length=(a3e I L).length:=by unfold a3e;rw[Ee]
 have hle:=c0x (W:=Ax (Al I L)) (endsM (Al I L) 0) [];have hmem:∀ x,x∈rbk (Ax (Al I L)) [] (endsM (Al I L) 0)↔∃ s∈endsM (Al I L) 0,x=eW (Ax (Al I L)) s:=fun x=>by
  rw[c0w];simp
 have hU:a3t (Al I L) (Ax (Al I L)) (a3e I L):=fun u=>by
  unfold a3e;rw[Ei];constructor
  ·rintro⟨w,hw,rfl⟩;exact⟨(hmem w).1 hw,rfl⟩
  ·rintro⟨h1,h2⟩;exact⟨u.1,(hmem _).2 h1,by rw[<- h2]⟩
 refine⟨⟨?_,hL.i1,hL.i2,hL.o1,hL.o2,fun u hu=>?_,hBF.tl.valid hL.o1 hU⟩,?_,?_,hlen⟩
 ·simp at hle;omega
 ·obtain⟨s,hs2,he⟩:=((hU u).1 hu).1;rw[he];exact hBF.el s hs2
 ·simp at hle;omega
 ·rw[<- hlen];refine g3s ((hmem (eW (Ax (Al I L)) ((endsM (Al I L) 0)[0]'hne))).2 ⟨_,Dt hne,rfl⟩)
theorem allOne_of:∀ {cs:List AV},(∀ v∈cs,oneC v=true)->allOne cs=true
 | [],_=>rfl
 | v :: l,h=>by
  unfold allOne;rw[h v (g5b ..)];exact allOne_of fun w hw=>h w (g2p _ hw)
theorem RowsT.allOne' {g:Gb} {n:Nat} {ts:Lq} {cs:List AV} (h:RowsT g n ts cs) : allOne cs=true:=by
 have hl:=h.1;refine allOne_of fun v hv=>?_;obtain⟨k,hk,rfl⟩:=g3m hv;obtain⟨s1,s2,e1,e2,e3,e4⟩:=h.2 (k / 2) (by omega);have h2:k=k / 2*2\/k=k / 2*2+1:=by omega
 rcases h2 with h2|h2
 ·rw[<- h2,Dv hk] at e1;cases e1;exact e3.one
 ·rw[<- h2,Dv hk] at e2;cases e2;exact e4.one
end Go.Ai
end
section
namespace Go.Ai
open Go.Proofs Go.Proofs.Tryz
set_option maxRecDepth 10000
set_option maxHeartbeats 40000000
theorem g2d {I O:Int} {ts:Lq} (hL:Cj I O ts) (g:Gb) (n:Nat) (sv:AV) (hT:a0w g n ts sv) :
  WC 0 prog 24 [.agg [.li I,.li O,sv]] ⟨.fn g,n⟩ fun r=>∃ gX n',r=.ret (.tup [conC (Dk ts ts 0),.lit (.bool (Dk ts ts 0).isSome)]) ⟨.fn gX,n'⟩/\n<=n'/\∀ b,b<n->gX b=g b:=by
 have hlen:=@Am prog _ _ _ _ _ hT.choose_spec.1;have h1s:=hT.choose_spec.1.one;have hone:allOne [.li I,.li O,sv]=true:=by simp[h1s]
 have HT:=Aa.mk hT;have HL:=Aa.mk hL;have htl:=hL.len;clear hT hL;obtain⟨D,hD⟩ : ∃ D,D=Dk ts ts 0:=⟨_,rfl⟩;rw[<- hD];have HD:=Aa.mk hD;clear hD;refine ent pl24 func24 rfl (by decide +kernel) (by kernel_rfl) ?_
 iterate 8 all_goals try first|apply spl<;>intro h|simp (disch:=first|assumption|omega|simp) [*]
 obtain⟨gA,hgA⟩ : ∃ gA,gA=Aj (Aj g n (some (.cells [.li I,.li O,sv] true 0))) (n+1) (some (.cells [.li 0,.li 0,.li 0] true 0)):=⟨_,rfl⟩;rw[<- hgA];have HGA:Aa (∀ b,b<n->gA b=g b):=⟨fun b hb=>by rw[hgA];simp (disch:=omega) only[Ab]⟩;have hgn:gA n=some (.cells [.li I,.li O,sv] true 0):=by rw[hgA];simp (disch:=omega) only[Ab,Af]
 have hgp:gA (n+1)=some (.cells [.li 0,.li 0,.li 0] true 0):=by rw[hgA];simp (disch:=omega) only[Ab,Af]
 clear hgA;have HT2:=Aa.mk (HT.out.mono (show n<=n+1+1 by omega) HGA.out);refine LX.ind (fun m gf H'=>∃ (k:Nat),k<=ts.length/\m=ts.length-k/\H'=⟨.fn gA,n+1+1⟩/\Aa (D=Dk ts (ts.drop k) k)/\gf 1=some (.ptr n 0)/\gf 2=some (.ptr (n+1) 0)/\gf 4=some (.li k)) (m0:=ts.length) ?_ ?_
 ·exact⟨0,Du _,rfl,rfl,⟨HD.out⟩,by simp[*]⟩
 rintro m gf H' ⟨k,hk,rfl,rfl,HP,w1,w2,w4⟩ ih;refine rnd pl24 (by decide +kernel) ?_;by_cases hlt:k<ts.length
 ·have hltI:(k:Int)<(ts.length:Int):=by omega
  obtain⟨a2,off,r1,r2,HAT0⟩:=HT2.out.at hlt;have HAT:=Aa.mk HAT0;clear HAT0;have hia:∀ {H:Mem} {ev:Ev} {o:Oper} {ty:TypeId},iaS prog H ev o ty (some (none,2)) (some sv) (some (.li (k:Int)))=.val (.ptr a2 (off+k*2)) H:=fun {H ev o ty}=>HAT.out.ia;have han:a2<n+1+1:=HAT.out.an;have hagg:=HAT.out.agg;have h1r1:oneC r1=true:=HAT.out.r1.one;have h1r2:oneC r2=true:=HAT.out.r2.one;have honeR:allOne [r1,r2]=true:=by simp[h1r1,h1r2]
  have HDE:=Aa.mk (HP.out.trans (d5t hlt));have HLT:=Aa.mk (HL.out.lens (Dt hlt));have HWT:=Aa.mk (HL.out.wl _ (Dt hlt));have HR1:=Aa.mk HAT.out.r1;have HR2:=Aa.mk HAT.out.r2;clear HAT;generalize ts[k]=t at *
  iterate 8 all_goals try first|apply spl<;>intro h|simp (disch:=first|assumption|omega|simp) [*]
  refine LX.ind (fun m gf H'=>∃ (j:Nat),j<=k/\m=k-j/\H'=⟨.fn gA,n+1+1⟩/\Aa (a0x t (ts.take k) 0=a0x t ((ts.take k).drop j) j) /\
   gf 1=some (.ptr n 0)/\gf 2=some (.ptr (n+1) 0)/\gf 4=some (.li k)/\gf 5=some (.li j)) (m0:=k) ?_ ?_
  ·exact⟨0,Du _,rfl,rfl,⟨rfl⟩,by simp[*]⟩
  clear w1 w2 w4;rintro m gf H' ⟨j,hj,rfl,rfl,HNE,w1,w2,w4,w5⟩ ih2;refine rnd pl24 (by decide +kernel) ?_;by_cases hltj:j<k
  ·have hltjI:(j:Int)<(k:Int):=by omega
   have hjl:j<(ts.take k).length:=by rw[Dw];omega
   obtain⟨a3,o3,s1,s2,HAU0⟩:=HT2.out.at (show j<ts.length by omega);have HAU:=Aa.mk HAU0;clear HAU0;have hia3:∀ {H:Mem} {ev:Ev} {o:Oper} {ty:TypeId},iaS prog H ev o ty (some (none,2)) (some sv) (some (.li (j:Int)))=.val (.ptr a3 (o3+j*2)) H:=fun {H ev o ty}=>HAU.out.ia;have han3:a3<n+1+1:=HAU.out.an;have hagg3:=HAU.out.agg;have h1s1:oneC s1=true:=HAU.out.r1.one;have h1s2:oneC s2=true:=HAU.out.r2.one;have honeS:allOne [s1,s2]=true:=by simp[h1s1,h1s2]
   have HMU:Aa (ts[j]∈ts):=⟨Dt _⟩;have HLU:=Aa.mk (HL.out.lens HMU.out);have HWU:=Aa.mk (HL.out.wl _ HMU.out);have hna:=HNE.out.trans (d5u hjl);rw[g3k] at hna;have HNA:=Aa.mk hna;have HS1:=Aa.mk HAU.out.r1;have HS2:=Aa.mk HAU.out.r2;clear HAU hna;generalize ts[j]=u at *;have HST:=Aa.mk (f7t (I:=I) (O:=O) HLU.out.1 HLT.out.1 HWU.out HWT.out gA (n+1+1) s1 s2 r1 r2 HS1.out HS2.out HR1.out HR2.out);have HSI:Aa (b0k u t=optI (stepL u.1 u.2 t.1 t.2 0)):=⟨rfl⟩;generalize b0k u t=z at *
   iterate 8 all_goals try first|apply spl<;>intro h|simp (disch:=first|assumption|omega|simp) [*]
   refine WC.mono HST.out ?_;rintro _ rfl
   cases hq:stepL u.1 u.2 t.1 t.2 0 with
   | none =>
    have hz:z = -1:=by rw[HSI.out,hq];rfl
    rw[hq] at HNA;have HNB:Aa (a0x t (ts.take k) 0=a0x t ((ts.take k).drop (j+1)) (j+1)):=⟨HNA.out⟩;clear HNA hq HSI;subst hz
    iterate 8 all_goals try first|apply spl<;>intro h|simp (disch:=first|assumption|omega|simp) [*]
    exact ih2.out (k-(j+1)) _ _ (by omega) ⟨j+1,by omega,rfl,rfl,HNB,by simp[*]⟩
   | some v =>
    have hz:z=v:=by rw[HSI.out,hq];rfl
    rw[hq] at HNA;have hDE:=HDE.out;rw[HNA.out] at hDE;have hDE2:D=some (j,k,v):=hDE;clear HNA hq HSI hDE HDE HD HP;subst hz hDE2
    iterate 8 all_goals try first|apply spl<;>intro h|simp (disch:=first|assumption|omega|simp) [*]
    refine⟨_,_,⟨rfl,rfl,rfl⟩,by omega,fun b hb=>?_⟩;simp (disch:=omega) only[Ab];exact HGA.out b hb
  ·have hltjI:¬(j:Int)<(k:Int):=by omega
   have hNN:=HNE.out.trans (by rw[Ex (by rw[Dw];omega)];rfl:_=none);have hDE:=HDE.out;rw[hNN] at hDE;have HDN:Aa (D=Dk ts (ts.drop (k+1)) (k+1)):=⟨hDE⟩;clear hDE hNN
   iterate 8 all_goals try first|apply spl<;>intro h|simp (disch:=first|assumption|omega|simp) [*]
   exact ih.out (ts.length-(k+1)) _ _ (by omega) ⟨k+1,by omega,rfl,rfl,HDN,by simp[*]⟩
 ·have hltI:¬(k:Int)<(ts.length:Int):=by omega
  have hDE:D=none:=by rw[HP.out,Ex (by omega)];rfl
  clear HP HD;subst hDE
  iterate 8 all_goals try first|apply spl<;>intro h|simp (disch:=first|assumption|omega|simp) [*]
  refine⟨_,_,⟨rfl,rfl,rfl⟩,by omega,fun b hb=>?_⟩;simp (disch:=omega) only[Ab];exact HGA.out b hb
end Go.Ai
end

