/- A small verified interpreter over names, its proofs, and what was proved with it. No condition. -/
import Derived.Test.YtpimmmnkcgnjjaaGreatO24
set_option linter.all false
set_option linter.deprecated false
section
namespace Go.Ai
open Go.Proofs Go.Proofs.Tryz
set_option maxRecDepth 10000
set_option maxHeartbeats 40000000
theorem c2b (w:Wd) (hwl:w.length<=10000) (hin:a4q w) (g:Gb) (n:Nat) (sv:AV) (hsv:Aj g n w sv) :
  WC 0 prog 52 [sv] ⟨.fn g,n⟩ fun r=>r=.ret (.lit (.string (Bu w))) ⟨.fn g,n⟩:=by
 refine WC.drop1 rfl ?_;have hlen:=@Am prog _ _ _ _ _ hsv;have HS:=Aa.mk hsv;have HIN:=Aa.mk hin;clear hsv hin;refine ent [] func52 rfl (by decide +kernel) (by kernel_rfl) ?_
 iterate 6 all_goals try first|apply spl<;>intro h|simp (disch:=first|assumption|omega|simp) [*]
 refine LX.ind (fun m gf H'=>∃ (k:Nat) (gL:Gb) (L:List AV),k<=w.length/\m=w.length-k/\H'=⟨.fn gL,n+1⟩/\Aa (∀ b,b<n->gL b=g b)/\gL n=some (.cells L true 0)/\Aa (L=a6f w k) /\
  gf 3=some (.sl n 0 w.length w.length)/\gf 9=some sv/\gf 10=some (.li w.length)/\gf 11=some (.li k)) (m0:=w.length) ?_ ?_
 ·refine⟨0,_,_,Dt _,rfl,rfl,⟨fun b hb=>Ad hb⟩,Ag,⟨?_⟩,by simp[*]⟩;simp[a6f]
 rintro m gf H' ⟨k,gL,L,hk,rfl,rfl,HG,hgn,HL,w3,w9,w10,w11⟩ ih;have hLl:L.length=w.length:=by rw[HL.out];exact d6k w k hk
 refine rnd [] (by decide +kernel) ?_;by_cases hlt:k<w.length
 ·have hltI:(k:Int)<(w.length:Int):=by omega
  obtain⟨a2,off,ha2,hrow,hia⟩:=Af.ia (P:=prog) HS.out hlt 1;simp only[Ea] at hia;have hcell:=(hrow.mono (HG.out a2 ha2)).one (k:=k) (s:=1) (by rw[Bl];exact hlt);rw[(Eb.1 (a7a w k hlt)).2] at hcell;have hb:=HIN.out _ (Ds hlt);have hset:=d6l w k hlt;rw[<- HL.out] at hset;have HSET:=Aa.mk hset;clear hset hrow;generalize w[k]=x at *;have hw8:IntKind.u8.wrap (x+1)=x+1:=d6n (by omega) (by omega);have hkL:k<L.length:=by omega
  iterate 6 all_goals try first|apply spl<;>intro h|simp (disch:=first|assumption|omega|simp) [*]
  refine ih.out (w.length-(k+1)) _ _ (by omega) ⟨k+1,_,L.set k (kb x),by omega,rfl,rfl,⟨fun b hb=>(Ad hb).trans (HG.out b hb)⟩,Ag,⟨HSET.out⟩,by simp[*]⟩
 ·have hltI:¬(k:Int)<(w.length:Int):=by omega
  have hk2:k=w.length:=by omega
  have hby:bytesOf (List.take w.length L)=some (a1z w):=by rw[Ee (by omega),HL.out,hk2,d6m];exact bytes_key w
  clear hk2
  iterate 6 all_goals try first|apply spl<;>intro h|simp (disch:=first|assumption|omega|simp) [*]
  exact⟨_,⟨rfl,rfl⟩,Dx n,fun b hb=>HG.out b hb⟩
end Go.Ai
end
section
namespace Go.Ai
open Go.Proofs Go.Proofs.Tryz
set_option maxRecDepth 10000
set_option maxHeartbeats 40000000
theorem d8h {T:Tq} {w u:Wd} {m:Nat} (hA:Bf T 0 w=some u) (hm:u.length=m+1) : Ca T w = !decide (u[m]'(by omega) = -1):=by
 unfold Ca;rw[hA];dsimp only;have e:u.length-1=m:=by omega
 rw[List.getLast?_eq_getElem?,e,Dy (by omega)];simp
theorem c7p {I:Nat} {T:Tq} (h0:0<T.length) (hok:∀ r∈T,r.length=I/\∀ e∈r,e.1 = -1\/(0<=e.1/\e.1<T.length)) {w:Wd} (hwl:w.length<=1000) (hin:inW w I=true) (c0 c1 c2 c3 c4 c5:AV) (hc:allOne [c0,c1,c2,c3,c4,c5]=true) (g:Gb) (n:Nat) (tv wv:AV) (hT:Bw g n T tv) (hw:Aj g n w wv) :
  WC 0 prog 83 [.agg [c0,c1,c2,c3,c4,c5,tv],wv] ⟨.fn g,n⟩ fun r=>∃ g' n',r=.ret (.lit (.bool (Ca T w))) ⟨.fn g',n'⟩/\n<=n'/\∀ b,b<n->g' b=g b:=by
 have h1t:=hT.choose_spec.1.one;have hone:allOne [c0,c1,c2,c3,c4,c5,tv]=true:=by
  simp only[a3j,Dq] at hc |-;simp[hc,h1t]
 have HK:=Aa.mk fun (gX:Gb) (n2:Nat) (hn:n<=n2) (hX:∀ b,b<n->gX b=g b)=>c1v h0 hok hwl hin c0 c1 c2 c3 c4 c5 hc gX n2 tv wv (hT.mono hn hX) (Af.mono hn hX hw);obtain⟨ret,hret⟩ : ∃ c,c=Ca T w:=⟨_,rfl⟩;rw[<- hret];have HRET:=Aa.mk hret;clear hT hw hok hin hc hret;refine ent [] func83 rfl (by decide +kernel) (by kernel_rfl) ?_
 iterate 8 all_goals try first|apply spl<;>intro h|simp (disch:=first|assumption|omega|simp) [*]
 refine WC.mono (HK.out _ _ (by omega) fun b hb=>Ad hb) ?_;rintro _ ⟨rv,g1,n1,rfl,hn1,hg1,hans⟩;have HG1:Aa (∀ b,b<n->g1 b=g b):=⟨fun b hb=>(hg1 b (by omega)).trans (Ad hb)⟩;clear hg1 HK
 cases hA:Bf T 0 w with
 | none =>
  rw[hA] at hans;have hr:ret=false:=by rw[HRET.out];unfold Ca;rw[hA]
  have hrv:rv=.nl:=hans;subst hrv;clear hans hA;simp only[Option.isSome]
  iterate 8 all_goals try first|apply spl<;>intro h|simp (disch:=first|assumption|omega|simp) [*]
  exact⟨_,_,⟨rfl,rfl⟩,by omega,HG1.out⟩
 | some u =>
  rw[hA] at hans;have hrep:=hans.1.rep;have hlen:=@Am prog _ _ _ _ _ hrep;simp only[g5a];by_cases hu:u.length=0
  ·have hr:ret=true:=by
    rw[HRET.out];unfold Ca;rw[hA];have:u=[]:=g3r.1 hu;rw[this];rfl
   rw[hu] at hlen;clear hans hA hrep
   iterate 8 all_goals try first|apply spl<;>intro h|simp (disch:=first|assumption|omega|simp) [*]
   exact⟨_,_,⟨rfl,rfl⟩,by omega,HG1.out⟩
  ·obtain⟨m,hm⟩ : ∃ m,u.length=m+1:=⟨u.length-1,by omega⟩;obtain⟨a2,o2,ha2,hia2,hc2⟩:=Aj.at hrep (k:=m) (by omega);have hr:ret = !decide (u[m]'(by omega) = -1):=by rw[HRET.out];exact d8h hA hm
   have hul:=b1b _ _ _ hA;have hm0:¬((m:Int)+1=0):=by omega
   have hmI:(m:Int)<=1000:=by omega
   rw[hm] at hlen;clear hans hA hrep;generalize u[m]'(by omega)=x at *;clear hm hu hul
   iterate 8 all_goals try first|apply spl<;>intro h|simp (disch:=first|assumption|omega|simp) [*]
   all_goals exact⟨_,_,⟨rfl,rfl⟩,by omega,HG1.out⟩
end Go.Ai
end
section
namespace Go.Ai
open Go.Proofs Go.Proofs.Tryz
set_option maxRecDepth 10000
set_option maxHeartbeats 40000000
variable {S E:Wq} {T:Tq}
theorem im_126:b4h prog 126=true:=by kernel_rfl
theorem ag_126:Cf prog 126=some (false,1):=by kernel_rfl
attribute [simp] im_126 ag_126
theorem c7q {I:Nat} {O:Int} (hp:a2a I O S E T) : ∀ r∈T,∀ e∈r,okE T.length O e=true:=fun r hr=>(c5p hp.go (Dm _) (Dm _) r hr).2
def StB (g:Gb) (A:Nat) (rows:Wq) : Prop:=∃ L c,g A=some (.map (a0z L) c)/\StV L rows
theorem g2o {k:Nat} (h:k<S.length) : Al T E (S.take (k+1))=Al T E (S.take k)++[Ax T E S[k]]:=by
 unfold Al;rw[g4c h,g3z];rfl
theorem d8i : (Al T E S).length=S.length:=by unfold Al;simp
theorem RowK.one {g:Gb} {lo n:Nat} {r:Option (Wd)} {rv:AV} (h:RowK g lo n r rv) : oneC rv=true:=h.rep.one
theorem d8j {I:Nat} {O:Int} (hp:a2a I O S E T) (c0 c1 c4 c5:AV) (hc:allOne [c0,c1,c4,c5]=true) (g:Gb) (n:Nat) (sv ev tv:AV) (hS:Bj g n S sv) (hEV:Bj g n E ev) (hT:Bw g n T tv) :
  WC 0 prog 82 [.agg [c0,c1,sv,ev,c4,c5,tv]] ⟨.fn g,n⟩ fun r=>∃ A g' n',r=.ret (.map A) ⟨.fn g',n'⟩/\n<=n'/\(∀ b,b<n->g' b=g b)/\n<=A/\A<n'/\StB g' A (Al T E S):=by
 have h1s:=hS.choose_spec.1.one;have h1e:=hEV.choose_spec.1.one;have h1t:=hT.choose_spec.1.one;have hone:allOne [c0,c1,sv,ev,c4,c5,tv]=true:=by
  simp only[a3j,Dq] at hc |-;simp[hc,h1s,h1e,h1t]
 have hc3:allOne [c0,c1,sv,c4,c5]=true:=by
  simp only[a3j,Dq] at hc |-;simp[hc,h1s]
 have hlen:=@Am prog _ _ _ _ _ hS.choose_spec.1;have HS:=Aa.mk hS;have HP:=Aa.mk hp;have hsl:=hp.sl;have HRW:=Aa.mk fun (w:Wd) (hwl:w.length<=300) (hin:inW w I=true) (gX:Gb) (n2:Nat) (wv:AV) (hn:n<=n2) (hX:∀ b,b<n->gX b=g b) (hw:Aj gX n2 w wv)=>c7h hp.t0 hp.ok (w:=w) (E:=E) hwl (by have:=hp.el;omega) hin hp.ew c0 c1 sv c4 c5 hc3 gX n2 ev tv wv (hEV.mono hn hX) (hT.mono hn hX) hw;clear hS hEV hT hc hp;refine ent [] func82 rfl (by decide +kernel) (by kernel_rfl) ?_
 iterate 8 all_goals try first|apply spl<;>intro h|simp (disch:=first|assumption|omega|simp) [*]
 refine LX.ind (fun m gf H'=>∃ (k n2 c:Nat) (gL:Gb) (L:List (ByteArray×Int×Nat)),k<=S.length/\m=S.length-k/\H'=⟨.fn gL,n2⟩/\n+1+1<=n2/\Aa (∀ b,b<n->gL b=g b)/\gL n=some (.cells [c0,c1,sv,ev,c4,c5,tv] true 0)/\gL (n+1)=some (.map (a0z L) c)/\Aa (StV L (Al T E (S.take k))) /\
  gf 1=some (.ptr n 0)/\gf 3=some (.map (n+1))/\gf 15=some sv/\gf 16=some (.li S.length)/\gf 17=some (.li k)) (m0:=S.length) ?_ ?_
 ·refine⟨0,_,_,_,[],Dt _,rfl,rfl,Dm _,⟨fun b hb=>?_⟩,?_,Ag,⟨by rw[List.take_zero];exact StV.nil⟩,by simp[*]⟩
  ·simp (disch:=omega) only[Ad]
  ·simp (disch:=omega) only[Ad,Ag]
 rintro m gf H' ⟨k,n2,c,gL,L,hk,rfl,rfl,hn2,HG,hgn,hgm,HSt,w1,w3,w15,w16,w17⟩ ih;refine rnd [] (by decide +kernel) ?_;by_cases hlt:k<S.length
 ·have hltI:(k:Int)<(S.length:Int):=by omega
  obtain⟨a2,o2,qv,ha2,hia2,hc2,hq⟩:=HS.out.at hlt;rw[<- HG.out a2 ha2] at hc2;obtain⟨hwl,hwi⟩:=HP.out.sw _ (Ds hlt);have HR:=Aa.mk (HRW.out S[k] hwl hwi gL n2 qv (by omega) HG.out (Af.mono (by omega) HG.out hq));have hsym:a4q (Ax T E S[k]):=c7o HP.out.o2 (c7q HP.out);have hrl:(Ax T E S[k]).length<=6000:=by
   have:=b5a (T:=T) (w:=S[k]) fun e he=>(HP.out.ew e he).2.1;have:=HP.out.el;omega
  have HTK:=Aa.mk (g2o (T:=T) (E:=E) hlt);have HRD:Aa (Ax T E S[k]=(Bk T S[k] E).getD []):=⟨rfl⟩;have HSY:=Aa.mk hsym;have hrk:(Al T E (S.take k)).length=k:=by rw[d8i,Du];omega
  have HRL:=Aa.mk hrk;have hlk:=HSt.out.1 _ hsym;clear hq hsym hrk;generalize S[k]=w at *
  iterate 8 all_goals try first|apply spl<;>intro h|simp (disch:=first|assumption|omega|simp) [*]
  refine WC.mono HR.out ?_;rintro _ ⟨rv,g3,n3,rfl,hn3,hg3,hrk⟩;have HG3:Aa (∀ b,b<n->g3 b=g b):=⟨fun b hb=>(hg3 b (by omega)).trans (HG.out b hb)⟩;have hgn3:=(hg3 n (by omega)).trans hgn;have hgm3:=(hg3 (n+1) (by omega)).trans hgm;have hrep:=hrk.rep;rw[<- HRD.out] at hrep;have h1r:=hrep.one;have HREP:=Aa.mk hrep;clear hg3 hrk hrep HR;generalize Ax T E w=r at *;generalize Bk T w E=ru at *
  iterate 8 all_goals try first|apply spl<;>intro h|simp (disch:=first|assumption|omega|simp) [*]
  all_goals
   refine WC.mono (c2b r (by omega) HSY.out g3 n3 rv HREP.out) ?_;rintro _ rfl
   cases hst:Ch (Al T E (S.take k)) r with
   | some j =>
    rw[hst] at hlk;have HS2:Aa (StV L (Al T E (S.take (k+1)))):=⟨by
     rw[HTK.out];refine HSt.out.old ?_;obtain⟨hj,e,_⟩:=d8d hst;rw[<- e];exact Ds hj⟩
    have hlk:a0p (Bu r) L=some (j:Int):=hlk;clear hst HSt HTK
    iterate 8 all_goals try first|apply spl<;>intro h|simp (disch:=first|assumption|omega|simp) [*]
    exact ih.out (S.length-(k+1)) _ _ (by omega) ⟨k+1,n3,c,g3,L,by omega,rfl,rfl,by omega,HG3,hgn3,hgm3,HS2,by simp[*]⟩
   | none =>
    rw[hst] at hlk;have HS2:Aa (StV (L++[(Bu r,(k:Int),c)]) (Al T E (S.take (k+1)))):=⟨by
     rw[HTK.out];have:=HSt.out.new (c:=c) HSY.out (c1z.1 hst)
     rwa [HRL.out] at this⟩
    have hlk:a0p (Bu r) L=none:=hlk;clear hst HSt HTK
    iterate 8 all_goals try first|apply spl<;>intro h|simp (disch:=first|assumption|omega|simp) [*]
    refine WC.mono (c2b r (by omega) HSY.out g3 n3 rv HREP.out) ?_;rintro _ rfl
    iterate 8 all_goals try first|apply spl<;>intro h|simp (disch:=first|assumption|omega|simp) [*]
    refine ih.out (S.length-(k+1)) _ _ (by omega) ⟨k+1,n3,c+1,_,L++[(Bu r,(k:Int),c)],by omega,rfl,rfl,by omega,⟨fun b hb=>?_⟩,?_,Ag,HS2,by simp[*]⟩
    ·simp (disch:=omega) only[Ad,Ae];exact HG3.out b hb
    ·simp (disch:=omega) only[Ad,Ae];exact hgn3
 ·have hltI:¬(k:Int)<(S.length:Int):=by omega
  have HE:Aa (StV L (Al T E S)):=⟨by have:=HSt.out;rwa [Ee (by omega)] at this⟩;clear HSt
  iterate 8 all_goals try first|apply spl<;>intro h|simp (disch:=first|assumption|omega|simp) [*]
  exact⟨_,_,_,⟨rfl,rfl,rfl⟩,by omega,HG.out,by omega,by omega,_,_,hgm,HE.out⟩
end Go.Ai
end
section
namespace Go.Ai
open Go.Proofs Go.Proofs.Tryz
set_option maxRecDepth 10000
set_option maxHeartbeats 40000000
theorem g2p {x:Option Nat} : ((x.map fun k:Nat=>(k:Int)).getD 0)=((x.getD 0:Nat) : Int):=by cases x<;>rfl
theorem g2q {I:Nat} {O:Int} {S E:Wq} {T:Tq} (hp:a2a I O S E T) {w:Wd} (hw0:0<w.length) (hwl:w.length<=300) (hin:inW w I=true) (c0 c1 c2 c4 c5:AV) (hc:allOne [c0,c1,c2,c4,c5]=true) (g:Gb) (n A:Nat) (ev tv wv:AV) (hEV:Bj g n E ev) (hT:Bw g n T tv) (hw:Aj g n w wv) {R:Wq} (hA:A<n) (hst:StB g A R) :
  WC 0 prog 84 [.agg [c0,c1,c2,ev,c4,c5,tv],.map A,wv] ⟨.fn g,n⟩ fun r=>∃ g' n',r=.ret (.agg [.lit (.int .i64 (b1e T E R w).1),.lit (.int .i64 (b1e T E R w).2)]) ⟨.fn g',n'⟩/\n<=n'/\∀ b,b<n->g' b=g b:=by
 have h1e:=hEV.choose_spec.1.one;have h1t:=hT.choose_spec.1.one;have h1w:=hw.one;have hone:allOne [c0,c1,c2,ev,c4,c5,tv]=true:=by
  simp only[a3j,Dq] at hc |-;simp[hc,h1e,h1t]
 have hc6:allOne [c0,c1,c2,ev,c4,c5]=true:=by
  simp only[a3j,Dq] at hc |-;simp[hc,h1e]
 have HCN:=Aa.mk fun (gX:Gb) (n2:Nat) (hn:n<=n2) (hX:∀ b,b<n->gX b=g b)=>c7p hp.t0 hp.ok (w:=w) (by omega) hin c0 c1 c2 ev c4 c5 hc6 gX n2 tv wv (hT.mono hn hX) (Af.mono hn hX hw);have HKN:=Aa.mk fun (gX:Gb) (n2:Nat) (hn:n<=n2) (hX:∀ b,b<n->gX b=g b)=>c1v hp.t0 hp.ok (w:=w) (by omega) hin c0 c1 c2 ev c4 c5 hc6 gX n2 tv wv (hT.mono hn hX) (Af.mono hn hX hw);have HRW:=Aa.mk fun (gX:Gb) (n2:Nat) (hn:n<=n2) (hX:∀ b,b<n->gX b=g b)=>c7h hp.t0 hp.ok (w:=w) (E:=E) hwl (by have:=hp.el;omega) hin hp.ew c0 c1 c2 c4 c5 hc gX n2 ev tv wv (hEV.mono hn hX) (hT.mono hn hX) (Af.mono hn hX hw);obtain⟨L,c,hgA,hL⟩:=hst;have hsym:a4q (Ax T E w):=c7o hp.o2 (c7q hp);have hlk:=hL.1 _ hsym;have hrl:(Ax T E w).length<=6000:=by
  have:=b5a (T:=T) (w:=w) fun e he=>(hp.ew e he).2.1;have:=hp.el;omega
 have HSY:=Aa.mk hsym;have HRD:Aa (Ax T E w=(Bk T w E).getD []):=⟨rfl⟩;have HAL:Aa (∀ u,Bf T 0 w=some u->u.length=w.length):=⟨fun u hu=>b1b _ _ _ hu⟩;obtain⟨ret,hret⟩ : ∃ c,c=b1e T E R w:=⟨_,rfl⟩;rw[<- hret];unfold b1e c2a at hret;have HRET:=Aa.mk hret;have hLK:Aa (a0p (Bu (Ax T E w)) L=(Ch R (Ax T E w)).map fun k:Nat=>(k:Int)):=⟨hlk⟩;clear hEV hT hw hp hc hc6 hret hsym hlk hL hin;refine ent pl84 func84 rfl (by decide +kernel) (by kernel_rfl) ?_
 iterate 8 all_goals try first|apply spl<;>intro h|simp (disch:=first|assumption|omega|simp) [*]
 refine WC.mono (HCN.out _ _ (by omega) fun b hb=>by simp (disch:=omega) only[Ad]) ?_;rintro _ ⟨g1,n1,rfl,hn1,hg1⟩;have HG1:Aa (∀ b,b<n->g1 b=g b):=⟨fun b hb=>by rw[hg1 b (by omega)];simp (disch:=omega) only[Ad]⟩;have hgn:=(hg1 n (by omega)).trans ((Ad (by omega)).trans Ag);have hgo:=(hg1 (n+1) (by omega)).trans Ag;clear hg1 HCN
 cases hcn:Ca T w with
 | false =>
  have hr:ret=(-1,-1):=by rw[HRET.out,hcn];rfl
  subst hr;clear hcn
  iterate 8 all_goals try first|apply spl<;>intro h|simp (disch:=first|assumption|omega|simp) [*]
  refine⟨_,_,⟨rfl,rfl⟩,by omega,fun b hb=>?_⟩;simp (disch:=omega) only[Ad,Ae];exact HG1.out b hb
 | true =>
  rw[hcn] at HRET;obtain⟨u,hu⟩ : ∃ u,Bf T 0 w=some u:=by
   unfold Ca at hcn
   cases h:Bf T 0 w with
   | none=>rw[h] at hcn;cases hcn
   | some u=>exact⟨u,rfl⟩
  have hul:=HAL.out u hu;rw[hu] at HKN HRET;clear hcn HAL
  iterate 8 all_goals try first|apply spl<;>intro h|simp (disch:=first|assumption|omega|simp) [*]
  refine WC.mono (HKN.out _ _ (by omega) HG1.out) ?_;rintro _ ⟨kv,g2,n2,rfl,hn2,hg2,hans⟩;have HG2:Aa (∀ b,b<n->g2 b=g b):=⟨fun b hb=>(hg2 b (by omega)).trans (HG1.out b hb)⟩;have hgn2:=(hg2 n (by omega)).trans hgn;have hgo2:=(hg2 (n+1) (by omega)).trans hgo;have HK:=Aa.mk hans.1.rep;clear hg2 HKN hans hgn hgo HG1;simp only[g5a]
  iterate 8 all_goals try first|apply spl<;>intro h|simp (disch:=first|assumption|omega|simp) [*]
  refine WC.mono (HRW.out _ _ (by omega) HG2.out) ?_;rintro _ ⟨rv,g3,n3,rfl,hn3,hg3,hrk⟩;have HG3:Aa (∀ b,b<n->g3 b=g b):=⟨fun b hb=>(hg3 b (by omega)).trans (HG2.out b hb)⟩;have hgn3:=(hg3 n (by omega)).trans hgn2;have hgo3:=(hg3 (n+1) (by omega)).trans hgo2;have hgA3:=(HG3.out A (by omega)).trans hgA;have hrep:=hrk.rep;rw[<- HRD.out] at hrep;obtain⟨m,hm⟩ : ∃ m,u.length=m+1:=⟨u.length-1,by omega⟩;have hk3:Aj g3 n3 u kv:=Af.mono (by omega) hg3 HK.out;have hlenk:=@Am prog _ _ _ _ _ hk3;obtain⟨a2,o2,ha2,hia2,hc2⟩:=Aj.at hk3 (k:=m) (by omega);have h1r:=hrep.one;have hmI:(m:Int)<=1000:=by omega
  have HREP:=Aa.mk hrep;have hr:ret=((((Ch R (Ax T E w)).getD 0:Nat) : Int),u[m]'(by omega)):=by
   rw[HRET.out,if_pos rfl];congr 1;have e:u.length-1=m:=by omega
   rw[g6k,List.getLast?_eq_getElem?,e,Dy (by omega)];rfl
  rw[<- g2p,<- hLK.out] at hr;rw[hm] at hlenk;clear hg3 hrk hrep HRW HRET hu HK hk3 hgn2 hgo2 HG2 hgA HRD;generalize Ax T E w=r at *;generalize Bk T w E=ru at *;generalize u[m]'(by omega)=x at *;subst hr;clear hm hul
  iterate 8 all_goals try first|apply spl<;>intro h|simp (disch:=first|assumption|omega|simp) [*]
  all_goals
   refine WC.mono (c2b r (by omega) HSY.out g3 n3 rv HREP.out) ?_;rintro _ rfl
   iterate 8 all_goals try first|apply spl<;>intro h|simp (disch:=first|assumption|omega|simp) [*]
   refine⟨_,_,⟨rfl,rfl⟩,by omega,fun b hb=>?_⟩;simp (disch:=omega) only[Ad,Ae];exact HG3.out b hb
end Go.Ai
end

