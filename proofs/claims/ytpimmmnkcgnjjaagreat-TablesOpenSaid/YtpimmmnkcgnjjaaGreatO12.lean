/- A small verified interpreter over names, its proofs, and what was proved with it. No condition. -/
import Derived.Test.YtpimmmnkcgnjjaaGreatO10
import Derived.Test.YtpimmmnkcgnjjaaGreatO11
import Derived.Test.YtpimmmnkcgnjjaaGreatO05
set_option linter.all false
set_option linter.deprecated false
section
namespace Go.Ai
open Go.Proofs Go.Proofs.Tryz
set_option maxRecDepth 10000
set_option maxHeartbeats 40000000
variable {g g':Gb} {n x y z B n' a:Nat} {l:Wq} {sv lv:AV} {ts:Lq}
def a6g (x y z:Nat) (g:Gb) : Gb:=fun a=>if a=x\/a=y\/a=z then none else g a
theorem d7g {u:Blk} (h:a6g x y z g a=some u) : g a=some u:=by
 unfold a6g at h;split at h
 ·cases h
 ·exact h
theorem b4v (h1:a≠x) (h2:a≠y) (h3:a≠z) : a6g x y z g a=g a:=if_neg (by omega)
theorem g1j (h:a≠x->a≠y->a≠z->g' a=g a) : a6g x y z g' a=a6g x y z g a:=by
 unfold a6g;split
 ·rfl
 ·exact h (by omega) (by omega) (by omega)
def Bi (g:Gb) (n:Nat) (l:Wq) (sv:AV) : Prop:=∃ svs,Af g n sv l.length svs/\RowsW g n l svs/\∀ q∈svs,Bm q
theorem Bi.ext (h:Bi g n l sv) (hn:n<=n') (hg:∀ a x,a<n->g a=some x->g' a=some x) : Bi g' n' l sv :=
 let ⟨svs,h1,h2,h3⟩:=h;⟨svs,Af.ext hn hg h1,h2.ext hn hg,h3⟩
theorem Bi.listV (h:Bi g n l sv) : Bj g n l sv:=let ⟨svs,h1,h2,_⟩:=h;⟨svs,h1,h2⟩
theorem Bi.one (h:Bi g n l sv) : oneC sv=true:=let ⟨_,h1,_⟩:=h;h1.one
theorem Bi.cell (h:Bi g n l sv) : cellsOf sv=[sv]:=let ⟨_,h1,_⟩:=h;h1.cell
theorem Aj.ofq {k c:Nat} {w:Wd} {own:Bool} (h:g B=some (.cells (wdC w) own z)) (hB:B<n) (hk:k=w.length) : Aj g n w (.slq B 0 k c):=by
 subst hk;exact .inr ⟨B,0,hB,.inr ⟨c,rfl⟩,wdC w,own,z,h,by simp[*]⟩
theorem Bi.hid (h:Bi (Bs x y z g) n l sv) (hn:n<=n') (hg:∀ a,a<n->x<a->a≠y->a≠z->g' a=g a) : Bi (Bs x y z g') n' l sv :=
 h.ext hn fun a w ha hz=>(c7d fun h1 h2 h3=>hg a ha h1 h2 h3).trans hz
theorem d7h (hll:l.length<=30000) {w:Wd} (hwl:w.length<=1000) (hwls:∀ x∈l,x.length<=1000) (x y z:Nat) (g:Gb) (n:Nat) (hx:x<n) (hy:y<n) (hz:z<n) (lv wv:AV) (hl:Bi (Bs x y z g) n l lv) (hw:Aj (Bs x y z g) n w wv) (hc:Bm wv) :
  WC 0 prog 60 [lv,wv] ⟨.fn g,n⟩ fun r=>∃ ov g' n',r=.ret ov ⟨.fn g',n'⟩/\n<=n'/\(∀ b,b<n->g' b=g b)/\Bi (Bs x y z g') n' (a1l l w) ov:=by
 obtain⟨svs,h1,h2,h3⟩:=hl;refine WC.mono (g1g hll hwl hwls g (Bs x y z g) (fun a z h=>b1d h) n lv wv svs h1 h2 hw) ?_;rintro _ ⟨ov,g',n',rfl,hn,hg,hcase⟩;refine⟨ov,g',n',rfl,hn,hg,?_⟩;rcases hcase with⟨e,rfl⟩|⟨e,B,hgr⟩
 ·rw[e];exact Bi.hid ⟨svs,h1,h2,h3⟩ hn fun a ha _ _ _=>hg a ha
 ·have hx2:∀ a u,a<n->Bs x y z g a=some u->Bs x y z g' a=some u:=fun a u ha hz=>(c7d fun _ _ _=>hg a ha).trans hz;refine⟨svs++[wv],?_,?_,?_⟩
  ·refine Af.ext (Dm _) (fun a u _ hu=>?_) hgr.slice;split at hu
   ·rename_i h;rw[a4b (by omega) (by omega) (by omega)];exact hu
   ·cases hu
  ·rw[e];exact RowsW.snoc (h2.ext hn hx2) (Af.ext hn hx2 hw)
  ·intro q hq;rcases Ed.1 hq with h|h
   ·exact h3 q h
   ·rw[Ek.1 h];exact hc
theorem RowsT.snocT {cs:List AV} (h:RowsT g n ts cs) {t:List Int×Wd} {s1 s2:AV} (h1:Aj g n t.1 s1) (h2:Aj g n t.2 s2) : RowsT g n (ts++[t]) (cs++[s1,s2]):=by
 have hl:=h.1;refine⟨by simp[hl];omega,fun k hk=>?_⟩;rw[Dr,Ef] at hk;by_cases hlt:k<ts.length
 ·obtain⟨u1,u2,e1,e2,e3,e4⟩:=h.2 k hlt;rw[g4e hlt];exact⟨u1,u2,by rw[g3t (by omega)];exact e1,by rw[g3t (by omega)];exact e2,e3,e4⟩
 ·have hk2:k=ts.length:=by omega
  subst hk2;refine⟨s1,s2,?_,?_,?_,?_⟩
  ·rw[Em (by omega),hl,g4u];rfl
  ·rw[Em (by omega),hl,show ts.length*2+1-ts.length*2=1 by omega];rfl
  ·simpa using h1
  ·simpa using h2
def a2m (g:Gb) (lo n x y B:Nat) (ts:Lq) (lv:AV) : Prop:=∃ cs,Bc g lo n B lv ts.length 2 cs/\RowsT (a6g x y B g) n ts cs/\∀ v∈cs,Bm v
theorem a2m.one {lo:Nat} (h:a2m g lo n x y B ts lv) : oneC lv=true:=let ⟨_,h1,_⟩:=h;h1.one
theorem a2m.keep {lo:Nat} (h:a2m g lo n x y B ts lv) (hn:n<=n') (hB:B≠x/\B≠y) (hg:∀ a,a<n->a≠x->a≠y->g' a=g a) : a2m g' lo n' x y B ts lv:=by
 obtain⟨cs,h1,h2,h3⟩:=h;refine⟨cs,h1.keep hn fun _ h5=>hg B h5 hB.1 hB.2,h2.ext hn fun a z ha hz=>?_,h3⟩;exact(g1j fun k1 k2 _=>hg a ha k1 k2).trans hz
theorem a2m.logX {lo:Nat} (h:a2m g lo n x y B ts lv) : a7e g n ts lv:=by
 obtain⟨cs,h1,h2,h3⟩:=h;refine⟨cs,Af.ext (Dm _) (fun a z _ hz=>?_) h1.slice,h2.ext (Dm _) fun a z _ hz=>d7g hz,h3⟩;split at hz
 ·exact hz
 ·cases hz
theorem a2m.snoc {lo B': Nat} {cs:List AV} {t:List Int×Wd} {s1 s2:AV} (h2:RowsT (a6g x y B g) n ts cs) (h3:∀ v∈cs,Bm v) (hcs:cs.length=ts.length*2) (hn:n<=n') (hB' : n<=B'/\B' < n'/\lo<=B') (hg:∀ a,a<n->a≠x->a≠y->a≠B->g' a=g a) (hb:g' B'=some (.cells (cs++[s1,s2]) true 2))
  (k1:Aj (a6g x y B' g') n' t.1 s1) (k2:Aj (a6g x y B' g') n' t.2 s2) (c1:Bm s1) (c2:Bm s2) {len:Nat} (hl:len=ts.length) : a2m g' lo n' x y B' (ts++[t]) (.slq B' 0 (len+1) 0):=by
 subst hl;refine⟨cs++[s1,s2],?_,RowsT.snocT (h2.ext hn fun a z ha hz=>?_) k1 k2,?_⟩
 ·rw[Dr,Ef];exact .mk hb hB'.2.2 hB'.2.1 (by rw[Dr,hcs];simp;omega)
 ·have hab:a≠x/\a≠y/\a≠B:=by
   unfold a6g at hz;split at hz
   ·cases hz
   ·omega
  rw[b4v hab.1 hab.2.1 (by omega),hg a ha hab.1 hab.2.1 hab.2.2];exact d7g hz
 ·intro v hv;rcases Ed.1 hv with h|h
  ·exact h3 v h
  ·rcases Dv.1 h with rfl|h
   ·exact c1
   ·rw[Ek.1 h];exact c2
theorem g1k {st inp out:Nat} {part:Bool} {es:List Nat} {ev:AV} {ws:List (List Nat)} {wv:AV} (ia ib ic:Int) {sb:List Nat} (hsb:∀ b∈sb,b<256) {eb:List (List Nat)} (heb:∀ w∈eb,∀ b∈w,b<256) (full:Bool) (g:Gb) (n:Nat) (hI:InG g n st inp out es ev ws wv) (sbv ebv:AV) (hS:a5k g n sb sbv) (hE:a7d g n eb ebv) :
  WC 0 prog 16 [.agg [.lit (.int .u8 st),.lit (.int .u8 inp),.lit (.int .u8 out),.lit (.bool part),ev,wv,.lit (.int .u8 ia),.lit (.int .u8 ib),.lit (.int .u8 ic),sbv,ebv,.lit (.bool full)]] ⟨.fn g,n⟩ fun r=>∃ sv e2 tv g' n',r=.ret (.agg [.lit (.int .i64 (Ce st inp out part es).inp),.lit (.int .i64 (Ce st inp out part es).out),sv,e2,.lit (.int .i64 (Ce st inp out part es).inp),.lit (.int .i64 (Ce st inp out part es).out),tv]) ⟨.fn g',n'⟩/\n<=n'/\(∀ b,b<n->g' b=g b)/\Bi (a3n n g') n' (qSx (Ce st inp out part es) sb) sv/\Bi (a3n n g') n' (qEx (Ce st inp out part es) eb) e2/\Bw (a3n n g') n' (a0g (Ce st inp out part es).inp.toNat (qLx (Ce st inp out part es) ws full (qSx (Ce st inp out part es) sb) (qEx (Ce st inp out part es) eb))) tv:=by
 have h1e:=hI.se.one;have h1w:=hI.sw.choose_spec.1.one;have h1s:=hS.one;have h1b:=hE.choose_spec.1.one;have hone:allOne [.lit (.int .u8 st),.lit (.int .u8 inp),.lit (.int .u8 out),.lit (.bool part),ev,wv,.lit (.int .u8 ia),.lit (.int .u8 ib),.lit (.int .u8 ic),sbv,ebv,.lit (.bool full)]=true:=by simp[h1e,h1w,h1s,h1b]
 have HI:=Aa.mk hI;have hM:=c5k st inp out part es;have hM3:(Ce st inp out part es).inp<=3:=by show 1+((inp % 3:Nat) : Int)<=3;omega
 have HMO:=Aa.mk fun (gX:Gb) (n2:Nat) (hn:n<=n2) (hX:∀ b,b<n->gX b=g b)=>d5f st inp out part es ev gX n2 hI.b0 hI.b1 hI.b2 (hI.se.mono hn hX) hI.eb;have HRU:=Aa.mk fun (gX:Gb) (n2:Nat) (hn:n<=n2) (hX:∀ b,b<n->gX b=g b)=>g1i (part:=part) ia ib ic gX n2 (hI.mono hn hX);have hlenS:=@Am prog _ _ _ _ _ hS;have hlenE:=@Am prog _ _ _ _ _ hE.choose_spec.1;have HSB:=Aa.mk hS;have HEB:=Aa.mk hE;have HSL:=Aa.mk hsb;have HEL:=Aa.mk heb;clear hI hS hE hsb heb;generalize Ce st inp out part es=M at *;have HM:=Aa.mk hM;obtain⟨I,hI⟩ : ∃ I:Nat,M.inp=I:=⟨M.inp.toNat,by have:=hM.1;omega⟩;obtain⟨O,hO⟩ : ∃ O:Int,M.out=O:=⟨_,rfl⟩;have hI3:I<=3:=by omega
 have hI1:1<=I:=by have:=hM.1;omega
 obtain⟨SS,hSS⟩ : ∃ x,x=qSx M sb:=⟨_,rfl⟩;obtain⟨EE,hEE⟩ : ∃ x,x=qEx M eb:=⟨_,rfl⟩;obtain⟨LL,hLL⟩ : ∃ x,x=qLx M ws full SS EE:=⟨_,rfl⟩;rw[<- hSS,<- hEE,<- hLL];have HQK:Aa (QOK M SS EE LL):=⟨by rw[hSS,hEE,hLL,hSS,hEE];exact d6y hM hM3 ws sb eb full⟩;have HLL:Aa (LL=a1k M ws++if full=true then (a5n (Ak I SS) EE).map (runT M) else []):=⟨by rw[hLL];unfold qLx;rw[hI];rfl⟩;have HSS:Aa (SS=qS I (sb.take 5) [[]]):=⟨by rw[hSS];unfold qSx;rw[hI];rfl⟩;have HEE:Aa (EE=qE ((eb.take 3).map fun x=>Da x I 4) (qE0 I)):=⟨by rw[hEE];unfold qEx;rw[hI];rfl⟩;clear hSS hEE hLL hM;refine ent pl16 func16 rfl (by decide +kernel) (by kernel_rfl) ?_
 iterate 8 all_goals try first|apply spl<;>intro h|simp (disch:=first|assumption|omega|simp) [*]
 refine WC.mono (HMO.out _ _ (by omega) fun b hb=>?_) ?_
 ·simp (disch:=omega) only[Ad]
 rintro _ ⟨cs,g1,n1,rfl,hn1,hg1,hfm⟩;obtain⟨rv,rfl,h1r⟩:=hfm.rep.one;rw[hI,hO];have hone2:allOne [.li I,.li O,rv]=true:=by simp[h1r]
 have HG1:Aa (∀ b,b<n->g1 b=g b):=⟨fun b hb=>(hg1 b (by omega)).trans (by simp (disch:=omega) only[Ad])⟩;have hgn1:g1 n=some (.cells [.lit (.int .u8 st),.lit (.int .u8 inp),.lit (.int .u8 out),.lit (.bool part),ev,wv,.lit (.int .u8 ia),.lit (.int .u8 ib),.lit (.int .u8 ic),sbv,ebv,.lit (.bool full)] true 0):=(hg1 n (by omega)).trans (by simp (disch:=omega) only[Ad,Ag]);have HZ1:Aa (g1 (n+1)=some (.cells [.li 0,.li 0,.nl,.nl,.li 0,.li 0,.nl] true 0)):=⟨(hg1 (n+1) (by omega)).trans Ag⟩;have HFM:=Aa.mk hfm;clear hg1 hfm HMO
 iterate 8 all_goals try first|apply spl<;>intro h|simp (disch:=first|assumption|omega|simp) [*]
 refine WC.mono (HRU.out _ _ (by omega) fun b hb=>?_) ?_
 ·simp (disch:=omega) only[Ad];exact HG1.out b hb
 rintro _ ⟨lv,g2,n2,B2,rfl,hn2,hg2,hlc⟩;have hone3:allOne [.li I,.li O,lv]=true:=by simp[hlc.one]
 rw[hI,hO];have HG2:Aa (∀ b,b<n1->g2 b=g1 b):=⟨fun b hb=>(hg2 b (by omega)).trans (by simp (disch:=omega) only[Ad])⟩;have hgn2:=(HG2.out n (by omega)).trans hgn1;have hgm2:g2 n1=some (.cells [.li I,.li O,rv] true 0):=(hg2 n1 (by omega)).trans Ag;have HLC:=Aa.mk hlc;have HN2:=Aa.mk hgn2;have HM2:=Aa.mk hgm2;clear hg2 hlc hgn1 HRU
 iterate 8 all_goals try first|apply spl<;>intro h|simp (disch:=first|assumption|omega|simp) [*]
 obtain⟨B0,hB0,hB01,HB0,HLG⟩ : ∃ B0,B0<=n2/\n1+1<=B0/\Aa (B0=n2/\lv=.nl\/B0<n2)/\Aa (∃ cs,Bc g2 (n1+1) n2 B0 lv (a1k M ws).length 2 cs/\RowsT (a1v B0 g2) n2 (a1k M ws) cs/\∀ v∈cs,Bm v):=by
  obtain⟨cs,k1,k2,k3⟩:=HLC.out;have hrt:RowsT (a1v B2 g2) n2 (a1k M ws) cs:=⟨k2.1,fun k hk=>by
   obtain⟨s1,s2,e1,e2,e3,e4⟩:=k2.2 k hk;refine⟨s1,s2,e1,e2,?_,?_⟩
   ·obtain⟨gk,q1,q2⟩:=e3;exact Af.ext (Dm _) (fun a z _ hz=>by rw[a3l (q1 a z hz).2.2.2];exact(q1 a z hz).1) q2
   ·obtain⟨gk,q1,q2⟩:=e4;exact Af.ext (Dm _) (fun a z _ hz=>by rw[a3l (q1 a z hz).2.2.2];exact(q1 a z hz).1) q2⟩
  rcases k1 with⟨e1,e2,e3⟩|k1
  ·refine⟨n2,Dm _,hn2,⟨.inl ⟨rfl,e3⟩⟩,⟨cs,.inl ⟨e1,e2,e3⟩,⟨hrt.1,fun k hk=>by omega⟩,k3⟩⟩
  ·exact⟨B2,g4o k1.2.2.2.1,k1.2.2.1,⟨.inr k1.2.2.2.1⟩,⟨cs,.inr k1,hrt,k3⟩⟩
 clear HLC;refine LX.ind (fun m gf H'=>∃ (i nc B:Nat) (gL:Gb) (e2:AV) (cs:List AV),i<=I/\m=I-i/\H'=⟨.fn gL,nc⟩/\n2+1+1+1+1<=nc/\Aa (∀ b,b<n2->gL b=g2 b)/\gL n2=some (.cells [.li I,.li O,lv] true 0)/\gL (n2+1)=some (.cells [] true 0)/\gL (n2+1+1)=some (.cells [.sl (n2+1) 0 0 0] true 0) /\
  gL (n2+1+1+1)=some (.cells [.li I,.li O,.sl (n2+1+1) 0 1 1,e2,.li 0,.li 0,.nl] true 0)/\Aa (Bc gL (n2+1+1+1+1) nc B e2 i 1 cs)/\Aa (RowsW (a1v B (Bs n2 (n2+1+1+1) B0 gL)) nc (qE0 i) cs)/\Aa (∀ q∈cs,Bm q) /\
  gf 1=some (.ptr n 0)/\gf 2=some (.ptr (n+1) 0)/\gf 3=some (.ptr n1 0)/\gf 4=some (.ptr n2 0)/\gf 5=some (.ptr (n2+1+1+1) 0)/\gf 6=some (.li i)) (m0:=I) ?_ ?_
 ·refine⟨0,_,0,_,.nl,[],Dt _,rfl,rfl,Dm _,⟨fun b hb=>?_⟩,?_,?_,?_,Ag,⟨.inl ⟨rfl,rfl,rfl⟩⟩,⟨⟨rfl,fun k hk=>by cases hk⟩⟩,⟨fun q hq=>by cases hq⟩,by simp[*]⟩
  ·simp (disch:=omega) only[Ad]
  ·simp (disch:=omega) only[Ad,Ag]
  ·simp (disch:=omega) only[Ad,Ag]
  ·simp (disch:=omega) only[Ad,Ag]
 clear hgn2 hgm2;rintro m gf H' ⟨i,nc,B,gL,e2,cs,hi,rfl,rfl,hnc,HG,hg4,hgb1,hgb2,hg5,HGR,HRW,HCP,w1,w2,w3,w4,w5,w6⟩ ih;have hgm:=(HG.out n1 (by omega)).trans HM2.out;have h1e2:oneC e2=true:=HGR.out.one;refine rnd pl16 (by decide +kernel) ?_;by_cases hlt:i<I
 ·have hltI:(i:Int)<(I:Int):=by omega
  have HQ0:Aa (qE0 (i+1)=qE0 i++[[(i:Int)]]):=⟨by unfold qE0;rw[g6v,g3z];rfl⟩;rcases HGR.out with⟨h6,hc6,hs6⟩|⟨h6,hs6,hC1,hC2,hC3,hC4⟩
  ·subst hs6;have HZ:=Aa.mk (And.intro h6 hc6);clear h6 hc6
   iterate 8 all_goals try first|apply spl<;>intro h|simp (disch:=first|assumption|omega|simp) [*]
   have h0:cs=[]:=HZ.out.2;refine ih.out (I-(i+1)) _ _ (by omega) ⟨i+1,nc+1+1+1,nc+1+1,_,.slq (nc+1+1) 0 1 0,[.sl nc 0 1 1],by omega,rfl,rfl,by omega,⟨fun b hb=>?_⟩,?_,?_,?_,Ag,⟨?_⟩,⟨?_⟩,⟨fun q hq=>?_⟩,by simp[*]⟩
   ·simp (disch:=omega) only[Ad,Ae];exact HG.out b hb
   ·simp (disch:=omega) only[Ad,Ae];exact hg4
   ·simp (disch:=omega) only[Ad,Ae];exact hgb1
   ·simp (disch:=omega) only[Ad,Ae];exact hgb2
   ·rw[HZ.out.1];refine .mk ?_ (by omega) (by omega) (by simp);simp (disch:=omega) only[Ad,Ae,Ag]
   ·rw[HQ0.out,HZ.out.1];refine RowsW.snoc (l:=[]) (svs:=[]) ⟨rfl,fun k hk=>by cases hk⟩ (Aj.of (own:=true) (z:=0) (w:=[(0:Int)]) ?_ (by omega));rw[a3l (by omega),a4b (by omega) (by omega) (by omega)];simp (disch:=omega) only[Ad,Ae,Ag];rfl
   ·rw[Ek.1 hq];exact fun _ _ _ _ e=>by cases e;exact Dm _
  ·subst hs6
   iterate 8 all_goals try first|apply spl<;>intro h|simp (disch:=first|assumption|omega|simp) [*]
   refine ih.out (I-(i+1)) _ _ (by omega) ⟨i+1,nc+1+1+1,nc+1+1,_,.slq (nc+1+1) 0 (i+1) 0,cs++[.sl nc 0 1 1],by omega,rfl,rfl,by omega,⟨fun b hb=>?_⟩,?_,?_,?_,Ag,⟨?_⟩,⟨?_⟩,⟨fun q hq=>?_⟩,by simp[*]⟩
   ·simp (disch:=omega) only[Ad,Ae];exact HG.out b hb
   ·simp (disch:=omega) only[Ad,Ae];exact hg4
   ·simp (disch:=omega) only[Ad,Ae];exact hgb1
   ·simp (disch:=omega) only[Ad,Ae];exact hgb2
   ·refine .mk ?_ (by omega) (by omega) (by simp;omega);simp (disch:=omega) only[Ad,Ae,Ag]
   ·rw[HQ0.out];refine RowsW.snoc (HRW.out.ext (by omega) fun a x ha hx=>?_) (Aj.of (own:=true) (z:=0) (w:=[(i:Int)]) ?_ (by omega))
    ·by_cases ha4' : a<=n2
     ·have:=b2z (a8m hx);omega
     have ha4:n2<a:=by omega
     by_cases ha5:a=n2+1+1+1
     ·have:=b2z (a8m hx);omega
     by_cases ha0:a=B0
     ·have:=b2z (a8m hx);omega
     by_cases hab:a=B
     ·subst hab;exact absurd hx (by unfold a1v;simp)
     rw[a3l (by omega),a4b ha4 ha5 ha0];rw[a3l hab,a4b ha4 ha5 ha0] at hx;simp (disch:=omega) only[Ad,Ae];exact hx
    ·rw[a3l (by omega),a4b (by omega) (by omega) (by omega)];simp (disch:=omega) only[Ad,Ae,Ag];rfl
   ·rcases Ed.1 hq with h|h
    ·exact HCP.out q h
    ·rw[Ek.1 h];exact fun _ _ _ _ e=>by cases e;exact Dm _
 ·have hltI:¬(i:Int)<(I:Int):=by omega
  have hiI:i=I:=by omega
  have HEL2:Aa (Bi (Bs n2 (n2+1+1+1) B0 gL) nc (qE0 I) e2):=⟨by
   have hgr:=HGR.out;rw[hiI] at hgr;have hl0:(qE0 I).length=I:=by simp[qE0]
   refine⟨cs,?_,?_,HCP.out⟩
   ·rw[hl0];refine Af.ext (Dm _) (fun a x _ hx=>?_) hgr.slice;split at hx
    ·rename_i h;rw[a4b (by omega) (by omega) (by omega)];exact hx
    ·cases hx
   ·have:=HRW.out;rw[hiI] at this;exact this.ext (Dm _) fun a x _ hx=>a8m hx⟩
  have HSL2:Aa (Bi (Bs n2 (n2+1+1+1) B0 gL) nc [[]] (.sl (n2+1+1) 0 1 1)):=⟨by
   refine⟨[.sl (n2+1) 0 0 0],b3x (own:=true) (z:=0) ((a4b (by omega) (by omega) (by omega)).trans hgb2) (by omega),?_,fun q hq=>?_⟩
   ·exact RowsW.snoc (l:=[]) (svs:=[]) ⟨rfl,fun k hk=>by cases hk⟩ (Aj.of (own:=true) (z:=0) (w:=[]) ((a4b (by omega) (by omega) (by omega)).trans hgb1) (by omega))
   ·rw[Ek.1 hq];exact fun _ _ _ _ e=>by cases e;exact Dm _⟩
  clear hgb1 hgb2 HGR HRW HCP
  iterate 8 all_goals try first|apply spl<;>intro h|simp (disch:=first|assumption|omega|simp) [*]
  clear ih hi hlt hltI hiI;refine LX.cut (K:=b2h 2 fun gf gN ncc=>∃ sv,nc<=ncc/\Aa (∀ b,b<n2->gN b=g2 b)/\gN n2=some (.cells [.li I,.li O,lv] true 0)/\gN (n2+1+1+1)=some (.cells [.li I,.li O,sv,e2,.li 0,.li 0,.nl] true 0)/\Aa (Bi (Bs n2 (n2+1+1+1) B0 gN) ncc SS sv)/\Aa (Bi (Bs n2 (n2+1+1+1) B0 gN) ncc (qE0 I) e2)/\gf 1=some (.ptr n 0)/\gf 2=some (.ptr (n+1) 0)/\gf 3=some (.ptr n1 0)/\gf 4=some (.ptr n2 0)/\gf 5=some (.ptr (n2+1+1+1) 0)) ?_ ?_
  rotate_left
  ·rintro _ ⟨gf,gN,ncc,rfl,sv,hncc,HG,hg4,hg5,HSV,HEV,w1,w2,w3,w4,w5⟩
   iterate 8 all_goals try first|apply spl<;>intro h|simp (disch:=first|assumption|omega|simp) [*]
   have hgn:=(HG.out n (by omega)).trans HN2.out;refine LX.cut (K:=b2h 4 fun gf gN ncc=>∃ e2,nc<=ncc/\Aa (∀ b,b<n2->gN b=g2 b)/\gN n2=some (.cells [.li I,.li O,lv] true 0)/\gN (n2+1+1+1)=some (.cells [.li I,.li O,sv,e2,.li 0,.li 0,.nl] true 0)/\Aa (Bi (Bs n2 (n2+1+1+1) B0 gN) ncc SS sv)/\Aa (Bi (Bs n2 (n2+1+1+1) B0 gN) ncc EE e2)/\gf 1=some (.ptr n 0)/\gf 2=some (.ptr (n+1) 0)/\gf 3=some (.ptr n1 0)/\gf 4=some (.ptr n2 0)/\gf 5=some (.ptr (n2+1+1+1) 0)) ?_ ?_
   rotate_left
   ·clear HG hg4 hg5 HSV HEV w1 w2 w3 w4 w5 hgn hncc;rintro _ ⟨gf,gN,ncc,rfl,e3,hncc,HG,hg4,hg5,HSV,HEV,w1,w2,w3,w4,w5⟩
    iterate 8 all_goals try first|apply spl<;>intro h|simp (disch:=first|assumption|omega|simp) [*]
    have hSlen:=HQK.out.s.len;have hElen:=HQK.out.e.len;rw[hI,g4f] at hElen;refine WC.mono (g0z n2 (n2+1+1+1) B0 (I:=I) (by omega) (S:=SS) (by omega) HQK.out.s.pos (fun w hw=>by have:=(HQK.out.s.wl w hw).1;omega) (.li O) e3 (.li 0) (.li 0) (.nl) rfl HEV.out.one rfl rfl rfl gN ncc (by omega) (by omega) (by omega) sv HSV.out.listV) ?_;rintro _ ⟨ov,g3,n3,rfl,hn3,hg3,BW,csW,hgrW,hrwW⟩;have hWlen:(Ak I SS).length<=24:=by
     unfold Ak;rw[Dr,c1s];have:SS.length*I<=6*3:=g3w (by omega) (by omega);omega
    have HWW:Aa (Bj (Bs n2 (n2+1+1+1) B0 g3) n3 (Ak I SS) ov):=⟨⟨csW,Af.ext (Dm _) (fun a z _ hz=>by
     split at hz
     ·rename_i h;rw[a4b (by omega) (by omega) (by omega)];exact hz
     ·cases hz) hgrW.slice,hrwW⟩⟩
    have HSV3:Aa (Bi (Bs n2 (n2+1+1+1) B0 g3) n3 SS sv):=⟨HSV.out.hid hn3 fun a ha _ _ _=>hg3 a ha⟩;have HEV3:Aa (Bi (Bs n2 (n2+1+1+1) B0 g3) n3 EE e3):=⟨HEV.out.hid hn3 fun a ha _ _ _=>hg3 a ha⟩;have HG3:Aa (∀ b,b<n2->g3 b=g2 b):=⟨fun b hb=>(hg3 b (by omega)).trans (HG.out b hb)⟩;have h43:=(hg3 n2 (by omega)).trans hg4;have h53:=(hg3 (n2+1+1+1) (by omega)).trans hg5;have HLH:Aa (a2m g3 (n1+1) n3 n2 (n2+1+1+1) B0 (a1k M ws) lv):=⟨by
     obtain⟨cs,q1,q2,q3⟩:=HLG.out;refine⟨cs,q1.keep (by omega) fun _ h=>HG3.out B0 h,q2.ext (by omega) fun a z ha hz=>?_,q3⟩;have hab:a≠B0:=fun e=>by subst e;exact absurd hz (by unfold a1v;simp)
     rw[a3l hab] at hz;rw[b4v (by omega) (by omega) hab];exact(HG3.out a ha).trans hz⟩
    have HWQ:Aa (∀ w∈Ak I SS,w.length<=6/\inW w I=true):=⟨fun w hw=>by
     have h1:=HQK.out.s;rw[hI,g4f] at h1;exact d6x h1 w hw⟩
    have HEQ:Aa (∀ e∈EE,0<e.length/\e.length<=4/\inW e I=true):=⟨fun w hw=>by
     have h1:=HQK.out.e;rw[hI,g4f] at h1;exact h1.wl w hw⟩
    clear hgrW hrwW hg3 HG hg4 hg5 HSV HEV;have hlenW:=@Am prog _ _ _ _ _ HWW.out.choose_spec.1;have hlenE3:=@Am prog _ _ _ _ _ HEV3.out.choose_spec.1;have h1ov:=HWW.out.choose_spec.1.one;have h1e3:=HEV3.out.one;have h1sv:=HSV3.out.one;generalize Ak I SS=WW at *
    iterate 8 all_goals try first|apply spl<;>intro h|simp (disch:=first|assumption|omega|simp) [*]
    refine LX.cut (K:=b2h 6 fun gf gN ncc=>∃ lv2 B,n3<=ncc/\Aa (∀ b,b<n3->b≠n2->b≠(n2+1+1+1)->b≠B0->gN b=g3 b)/\gN n2=some (.cells [.li I,.li O,lv2] true 0)/\gN (n2+1+1+1)=some (.cells [.li I,.li O,sv,e3,.li 0,.li 0,.nl] true 0)/\Aa (a2m gN (n1+1) ncc n2 (n2+1+1+1) B LL lv2)/\gf 1=some (.ptr n 0)/\gf 2=some (.ptr (n+1) 0)/\gf 3=some (.ptr n1 0)/\gf 4=some (.ptr n2 0)/\gf 5=some (.ptr (n2+1+1+1) 0)) ?_ ?_
    rotate_left
    ·rintro _ ⟨gf,gN,ncc,rfl,lv2,B,hncc,HG,hg4,hg5,HLH2,w1,w2,w3,w4,w5⟩
     iterate 8 all_goals try first|apply spl<;>intro h|simp (disch:=first|assumption|omega|simp) [*]
     have hLOK:a6e I O LL:=⟨by have:=HQK.out.len;omega,by omega,by omega,by have:=HM.out.2.2.1;omega,by have:=HM.out.2.2.2.1;omega,fun t ht=>by have:=HQK.out.wl t ht;omega,by have:=HQK.out.runs.valid HM.out;rw[hI,hO] at this;exact this⟩;refine WC.mono (f9y hLOK HQK.out.runs.cons gN ncc lv2 HLH2.out.logX) ?_;rintro _ ⟨tv,g5,n5,rfl,hn5,hg5',htv⟩;have h1t:=htv.choose_spec.1.one;have hct:=htv.choose_spec.1.cell;have h45:=(hg5' n2 (by omega)).trans hg4;have h55:=(hg5' (n2+1+1+1) (by omega)).trans hg5;have hz5:=(hg5' (n+1) (by omega)).trans ((HG.out (n+1) (by omega) (by omega) (by omega) (by omega)).trans ((HG3.out (n+1) (by omega)).trans ((HG2.out (n+1) (by omega)).trans HZ1.out)));have HG5:Aa (∀ b,b<n->g5 b=g b):=⟨fun b hb=>(hg5' b (by omega)).trans ((HG.out b (by omega) (by omega) (by omega) (by omega)).trans ((HG3.out b (by omega)).trans ((HG2.out b (by omega)).trans (HG1.out b hb))))⟩;have HG53:Aa (∀ b,b<n3->b≠n2->b≠(n2+1+1+1)->b≠B0->g5 b=g3 b):=⟨fun b h1 h2 h3 h4=>(hg5' b (by omega)).trans (HG.out b h1 h2 h3 h4)⟩;have HTV:=Aa.mk htv;have hone5:allOne [.li I,.li O,tv]=true:=by simp[h1t]
     have hone6:allOne [.li I,.li O,sv,e3,.li I,.li O,tv]=true:=by simp[h1t,h1sv,h1e3]
     clear htv hg5' hg4 hg5
     iterate 8 all_goals try first|apply spl<;>intro h|simp (disch:=first|assumption|omega|simp) [*]
     refine⟨_,_,_,_,_,⟨⟨rfl,rfl,rfl⟩,rfl,rfl⟩,by omega,fun b hb=>?_,?_,?_,?_⟩
     ·simp (disch:=omega) only[Ae];exact HG5.out b hb
     ·refine HSV3.out.ext (by omega) fun a z ha hz=>?_;obtain⟨h1,h2,h3⟩:=b2z hz;rw[a5m (by omega)];simp (disch:=omega) only[Ae];exact(HG53.out a ha (by omega) h2 h3).trans (b1d hz)
     ·refine HEV3.out.ext (by omega) fun a z ha hz=>?_;obtain⟨h1,h2,h3⟩:=b2z hz;rw[a5m (by omega)];simp (disch:=omega) only[Ae];exact(HG53.out a ha (by omega) h2 h3).trans (b1d hz)
     ·obtain⟨svs,q1,q2⟩:=HTV.out;refine⟨svs,Af.ext (Dm _) (fun a z _ hz=>?_) q1,q2.ext (Dm _) fun a z _ hz=>?_⟩
      ·obtain⟨h1,h2⟩:=b2w hz;rw[a5m (by omega)];simp (disch:=omega) only[Ae];exact h2
      ·obtain⟨h1,h2⟩:=b2w hz;rw[a5m (by omega)];simp (disch:=omega) only[Ae];exact h2
    have hrl:(a1k M ws).length<=12:=by unfold a1k;rw[Ei,Du];omega
    have hgn3:=(HG3.out n (by omega)).trans HN2.out
    cases full with
    | false =>
     have HLE:Aa (a2m g3 (n1+1) n3 n2 (n2+1+1+1) B0 LL lv):=⟨by
      have e:LL=a1k M ws:=by rw[HLL.out];simp
      rw[e];exact HLH.out⟩
     have HK:Aa (∀ b,b<n3->b≠n2->b≠(n2+1+1+1)->b≠B0->g3 b=g3 b):=⟨fun _ _ _ _ _=>rfl⟩;refine rnd pl16 (by decide +kernel) ?_;by_cases hw:0<WW.length
     ·have hwI:(0:Int)<(WW.length:Int):=by omega
      iterate 8 all_goals try first|apply spl<;>intro h|simp (disch:=first|assumption|omega|simp) [*]
      exact⟨⟨trivial⟩,B0,HLE⟩
     ·have hwI:¬(0:Int)<(WW.length:Int):=by omega
      iterate 8 all_goals try first|apply spl<;>intro h|simp (disch:=first|assumption|omega|simp) [*]
      exact⟨⟨trivial⟩,B0,HLE⟩
    | true =>
     have HK:Aa (∀ b,b<n3->b≠n2->b≠(n2+1+1+1)->b≠B0->g3 b=g3 b):=⟨fun _ _ _ _ _=>rfl⟩;have HB00:Aa (B0≠n2\/a1k M ws=[]):=⟨by
      rcases HB0.out with⟨h1,h2⟩|h1
      ·right;obtain⟨cs,q1,_⟩:=HLG.out;rcases q1 with⟨e1,_⟩|⟨_,e2,_⟩
       ·exact g3r.1 e1
       ·rw[h2] at e2;cases e2
      ·left;omega⟩
     refine LX.ind (fun m gf H'=>∃ (k nP B:Nat) (gP:Gb) (lvp:AV) (ts:Lq),k<=WW.length/\m=WW.length-k/\H'=⟨.fn gP,nP⟩/\n3<=nP/\ts.length<=12+k*6/\n1+1<=B/\B≠(n2+1+1+1)/\B<nP/\Aa (B≠n2\/ts=[])/\Aa (∀ b,b<n3->b≠n2->b≠(n2+1+1+1)->b≠B0->gP b=g3 b)/\gP n2=some (.cells [.li I,.li O,lvp] true 0)/\gP (n2+1+1+1)=some (.cells [.li I,.li O,sv,e3,.li 0,.li 0,.nl] true 0)/\Aa (a2m gP (n1+1) nP n2 (n2+1+1+1) B ts lvp)/\Aa (ts=a1k M ws++(a5n (WW.take k) EE).map (runT M))/\Aa (B=B0\/n3<=B) /\
      gf 1=some (.ptr n 0)/\gf 2=some (.ptr (n+1) 0)/\gf 3=some (.ptr n1 0)/\gf 4=some (.ptr n2 0)/\gf 5=some (.ptr (n2+1+1+1) 0)/\gf 11=some ov/\gf 12=some (.li k)) (m0:=WW.length) ?_ ?_
     ·exact⟨0,n3,B0,g3,lv,a1k M ws,Dt _,rfl,rfl,Dm _,by omega,hB01,by omega,by omega,HB00,HK,h43,h53,HLH,⟨by simp[a5n]⟩,⟨.inl rfl⟩,by simp[*]⟩
     clear h43 h53 w1 w2 w3 w4 w5 hgn3;rintro m gf H' ⟨k,nP,B,gP,lvp,ts,hk,rfl,rfl,hnP,htl,hB1,hB2,hB3,HBB,HG,hg4,hg5,HLP,HTS,HBC,w1,w2,w3,w4,w5,w11,w12⟩ ih;have hgn:=(HG.out n (by omega) (by omega) (by omega) (by omega)).trans ((HG3.out n (by omega)).trans HN2.out);refine rnd pl16 (by decide +kernel) ?_;by_cases hlt:k<WW.length
     ·have hltI:(k:Int)<(WW.length:Int):=by omega
      obtain⟨aW,oW,qa,haW,hiaW,hcW,hqa⟩:=HWW.out.at hlt;obtain⟨haW1,haW2,haW3,hcW2⟩:=c7e hcW;have HQA:=Aa.mk hqa;have HWK:=Aa.mk (HWQ.out _ (Ds hlt));have HPK:Aa (a5n (WW.take (k+1)) EE=a5n (WW.take k) EE++EE.map fun e=>WW[k]++e):=⟨by
       unfold a5n;rw[a2l hlt,List.flatMap_append];simp⟩
      clear hqa hcW;generalize WW[k]=w at *
      iterate 8 all_goals try first|apply spl<;>intro h|simp (disch:=first|assumption|omega|simp) [*]
      refine LX.ind (fun m gf H'=>∃ (i nP B:Nat) (gP:Gb) (lvp:AV) (ts:Lq),i<=EE.length/\m=EE.length-i/\H'=⟨.fn gP,nP⟩/\n3<=nP/\ts.length<=12+k*6+i/\n1+1<=B/\B≠(n2+1+1+1)/\B<nP/\Aa (B≠n2\/ts=[])/\Aa (∀ b,b<n3->b≠n2->b≠(n2+1+1+1)->b≠B0->gP b=g3 b)/\gP n2=some (.cells [.li I,.li O,lvp] true 0)/\gP (n2+1+1+1)=some (.cells [.li I,.li O,sv,e3,.li 0,.li 0,.nl] true 0)/\Aa (a2m gP (n1+1) nP n2 (n2+1+1+1) B ts lvp)/\Aa (ts=a1k M ws++(a5n (WW.take k) EE).map (runT M)++((EE.take i).map fun e=>w++e).map (runT M))/\Aa (B=B0\/n3<=B) /\
      gf 1=some (.ptr n 0)/\gf 2=some (.ptr (n+1) 0)/\gf 3=some (.ptr n1 0)/\gf 4=some (.ptr n2 0)/\gf 5=some (.ptr (n2+1+1+1) 0)/\gf 11=some ov/\gf 12=some (.li k)/\gf 13=some (.li i)) (m0:=EE.length) ?_ ?_
      ·exact⟨0,nP,B,gP,lvp,ts,Dt _,rfl,rfl,hnP,by omega,hB1,hB2,hB3,HBB,HG,hg4,hg5,HLP,⟨by rw[HTS.out];simp⟩,HBC,by simp[*]⟩
      clear hg4 hg5 w1 w2 w3 w4 w5 w11 w12 HG HLP HTS HBC HBB hgn hB1 hB2 hB3 htl hnP;rintro m gf H' ⟨i,nQ,B,gQ,lvp,ts,hi,rfl,rfl,hnP,htl,hB1,hB2,hB3,HBB,HG,hg4,hg5,HLP,HTS,HBC,w1,w2,w3,w4,w5,w11,w12,w13⟩ ih2;have hgm:=(HG.out n1 (by omega) (by omega) (by omega) (by omega)).trans ((HG3.out n1 (by omega)).trans HM2.out);have h1lv:=HLP.out.one;refine rnd pl16 (by decide +kernel) ?_;by_cases hli:i<EE.length
      ·have hliI:(i:Int)<(EE.length:Int):=by omega
       obtain⟨aE,oE,qb,haE,hiaE,hcE,hqb⟩:=HEV3.out.listV.at hli;obtain⟨haE1,haE2,haE3,hcE2⟩:=c7e hcE;have hEK:=HEQ.out _ (Ds hli);have HTK:Aa ((EE.take (i+1)).map (fun e=>w++e)=(EE.take i).map (fun e=>w++e)++[w++EE[i]]):=⟨by rw[a2l hli,g3z];rfl⟩;have hcWQ:Be (some (false,1)) (gQ aW) (oW+k)=some qa:=by rw[HG.out aW haW (by omega) haW2 haW3];exact hcW2
       have hcEQ:Be (some (false,1)) (gQ aE) (oE+i)=some qb:=by rw[HG.out aE haE (by omega) haE2 haE3];exact hcE2
       have hqaQ:Aj gQ nQ w qa:=Af.ext (by omega) (fun a z ha hz=>by
        obtain⟨h1,h2,h3⟩:=b2z hz;exact(HG.out a ha (by omega) h2 h3).trans (b1d hz)) HQA.out
       have hqbQ:Aj gQ nQ EE[i] qb:=Af.ext (by omega) (fun a z ha hz=>by
        obtain⟨h1,h2,h3⟩:=b2z hz;exact(HG.out a ha (by omega) h2 h3).trans (b1d hz)) hqb
       clear hcE hqb hcW2 hcE2;generalize EE[i]=e at *;have he0:=hEK.1;have HEI:=Aa.mk hEK.2;have hel:=hEK.2.1;have hwl:=HWK.out.1;have HRN:=Aa.mk fun (gX:Gb) (nX:Nat) (uv:AV) (hn:nQ<=nX) (hX:∀ b,b<nQ->gX b=gQ b) (hu:Aj gX nX (w++e) uv)=>d7e HM.out (w++e) (by rw[Dr];omega) (by rw[hI];exact b1c HWK.out.2 HEI.out.2) gX nX [.li M.inp,.li M.out,rv] uv (HFM.out.rep.mono (by omega) fun b hb=>(hX b (by omega)).trans ((HG.out b (by omega) (by omega) (by omega) (by omega)).trans ((HG3.out b (by omega)).trans (HG2.out b (by omega))))) hu;rw[hI,hO] at HRN;clear hEK;by_cases hw0:w.length=0
       ·have hqa0:Af gQ nQ qa 0 (wdC w):=by have h:Af gQ nQ qa w.length (wdC w):=hqaQ;rw[hw0] at h;exact h
        have hapA:=fun {H:Mem} {ev:Ev} {d:Option Tmp} {ty:TypeId} {p:String} {af:Array Edge} {gd:Option (Nat×Bool)} {x y:Operand} {s t:TypeId} {a off:Nat} {hx:ev x=some (.sl a off 0 0)} {hy:ev y=some qa} (hp:(apI prog s t).isSome=true)=>Af.ap00 (P:=prog) hqa0 (H:=H) (ev:=ev) (d:=d) (ty:=ty) (p:=p) (af:=af) (gd:=gd) (x:=x) (y:=y) (a:=a) (off:=off) (hx:=hx) (hy:=hy) hp;obtain⟨a9,blk,ha9,hga9,hapB⟩:=Af.ap0 (P:=prog) (sz:=1) hqbQ he0 (by omega) (by rw[Bl,Ea]);have HW0:Aa (w=[]):=⟨g3r.1 hw0⟩;clear hqa0 hqaQ hqbQ
        iterate 8 all_goals try first|apply spl<;>intro h|simp (disch:=first|assumption|omega|simp) [*]
        refine WC.mono (HRN.out _ (nQ+1+1) (.slq (nQ+1) 0 e.length 0) (by omega) (fun b h1=>?_) (Aj.ofq (own:=true) (z:=1) (w:=w++e) (by simp (disch:=omega) only[Ad,Ae,Ag];simp[wdC,HW0.out]) (by omega) (by simp[HW0.out]))) ?_
        ·simp (disch:=omega) only[Ad,Ae]
        rintro _ ⟨zv,g4,n4,rfl,hn4,hg4',hfz,hcz⟩;have HG4:Aa (∀ b,b<nQ->g4 b=gQ b):=⟨fun b hb=>(hg4' b (by omega)).trans (by simp (disch:=omega) only[Ad,Ae])⟩;have HU4:Aa (g4 (nQ+1)=some (.cells (wdC (w++e)) true 1)):=⟨(hg4' (nQ+1) (by omega)).trans (by simp (disch:=omega) only[Ad,Ae,Ag];simp[wdC,HW0.out])⟩;have h44:=(HG4.out n2 (by omega)).trans hg4;have h54:=(HG4.out (n2+1+1+1) (by omega)).trans hg5;have hm4:=(HG4.out n1 (by omega)).trans hgm;have h1z:=hfz.rep.one;have hcz2:=hfz.rep.cell;have hone8:allOne [.slq (nQ+1) 0 e.length 0,zv]=true:=by simp[h1z]
        have HFZ:=Aa.mk hfz;have HCZ:=Aa.mk hcz;obtain⟨cs,hgr,hrt,hcc⟩:=HLP.out;have hcl:=hrt.1;have HRT:=Aa.mk hrt;have HCC:=Aa.mk hcc;have HSN:=Aa.mk fun (gF:Gb) (h1:∀ a,a<nQ->a≠n2->a≠(n2+1+1+1)->a≠B->gF a=gQ a) (h2:gF (n4+1)=some (.cells (cs++[.slq (nQ+1) 0 e.length 0,zv]) true 2)) (h3:gF (nQ+1)=some (.cells (wdC (w++e)) true 1)) (h4:∀ a,nQ+1+1<=a->a<n4->gF a=g4 a)=>a2m.snoc (t:=runT M (w++e)) (n':=n4+1+1) (lo:=n1+1) HRT.out HCC.out hcl (by omega) (B':=n4+1) ⟨by omega,by omega,by omega⟩ h1 h2 (Aj.ofq (own:=true) (z:=1) ((b4v (by omega) (by omega) (by omega)).trans h3) (by omega) (by simp[runT,HW0.out])) (by
         obtain⟨gk,q1,q2⟩:=HFZ.out;exact Af.ext (by omega) (fun a u _ hu=>by
          obtain⟨e1,e2,e3⟩:=q1 a u hu;rw[b4v (by omega) (by omega) (by omega),h4 a e2 e3];exact e1) q2) (fun _ _ _ _ h=>by cases h) HCZ.out rfl
        clear hg4' hfz hcz hrt hcc HLP;rcases hgr with⟨h6,hc6,hs6⟩|⟨h6,hs6,hC1,hC2,hC3,hC4⟩
        ·subst hs6;have HZ:=Aa.mk (And.intro h6 hc6);clear h6 hc6
         iterate 8 all_goals try first|apply spl<;>intro h|simp (disch:=first|assumption|omega|simp) [*]
         refine ih2.out (EE.length-(i+1)) _ _ (by omega) ⟨i+1,n4+1+1,n4+1,_,.slq (n4+1) 0 (ts.length+1) 0,ts++[runT M (w++e)],by omega,rfl,rfl,by omega,by rw[Dr,Ef];omega,by omega,by omega,by omega,⟨.inl (by omega)⟩,⟨fun b h1 h2 h3 h4=>?_⟩,by rw[HZ.out.1];exact Ag,?_,⟨HSN.out _ (fun a h1 h2 h3 h4=>?_) ?_ ?_ fun a h1 h2=>?_⟩,⟨by rw[HTS.out,HTK.out];simp⟩,⟨.inr (by omega)⟩,by simp[*]⟩
         ·have hb2:b≠B:=by rcases HBC.out with h|h<;>omega
          simp (disch:=omega) only[Ad,Ae];exact(HG4.out b (by omega)).trans (HG.out b h1 h2 h3 h4)
         ·simp (disch:=omega) only[Ad,Ae];exact h54
         ·simp (disch:=omega) only[Ad,Ae];exact HG4.out a h1
         ·rw[HZ.out.2];simp (disch:=omega) only[Ad,Ae,Ag];rfl
         ·simp (disch:=omega) only[Ad,Ae];exact HU4.out
         ·simp (disch:=omega) only[Ad,Ae]
        ·subst hs6;have hbn:B≠n2:=HBB.out.resolve_right fun h=>by rw[h] at h6;cases h6
         have hbn' : n2≠B:=fun h=>hbn h.symm;have hC5:=(HG4.out B (by omega)).trans hC3;have hxa:∀ (G:Gb) (x:Option Blk),Ap G B x n2=G n2:=fun G x=>Ae hbn';have hxb:∀ (G:Gb) (x:Option Blk),Ap G B x (n2+1+1+1)=G (n2+1+1+1):=fun G x=>Ae (fun h=>hB2 h.symm);clear hC3
         iterate 8 all_goals try first|apply spl<;>intro h|simp (disch:=first|assumption|omega|simp) [*]
         refine ih2.out (EE.length-(i+1)) _ _ (by omega) ⟨i+1,n4+1+1,n4+1,_,.slq (n4+1) 0 (ts.length+1) 0,ts++[runT M (w++e)],by omega,rfl,rfl,by omega,by rw[Dr,Ef];omega,by omega,by omega,by omega,⟨.inl (by omega)⟩,⟨fun b h1 h2 h3 h4=>?_⟩,Ag,?_,⟨HSN.out _ (fun a h1 h2 h3 h4=>?_) ?_ ?_ fun a h1 h2=>?_⟩,⟨by rw[HTS.out,HTK.out];simp⟩,⟨.inr (by omega)⟩,by simp[*]⟩
         ·have hb2:b≠B:=by rcases HBC.out with h|h<;>omega
          simp (disch:=omega) only[Ad,Ae];exact(HG4.out b (by omega)).trans (HG.out b h1 h2 h3 h4)
         ·simp (disch:=omega) only[Ad,Ae];exact h54
         ·simp (disch:=omega) only[Ad,Ae];exact HG4.out a h1
         ·simp (disch:=omega) only[Ad,Ae,Ag]
         ·simp (disch:=omega) only[Ad,Ae];exact HU4.out
         ·simp (disch:=omega) only[Ad,Ae]
       ·obtain⟨a8,blk8,ha8,hga8,hapA⟩:=Af.ap0 (P:=prog) (sz:=1) hqaQ (by omega) (by omega) (by rw[Bl,Ea]);obtain⟨a9,blk,ha9,hga9,hapB⟩:=Af.apq (P:=prog) (sz:=1) hqbQ he0 (by omega) (by rw[Bl,Ea]);have hwl1:(wdC w).length=w.length*1:=by rw[Bl,Ea]
        have hob:=wdC_one e;clear hqaQ hqbQ
        iterate 8 all_goals try first|apply spl<;>intro h|simp (disch:=first|assumption|omega|simp) [*]
        refine WC.mono (HRN.out _ (nQ+1+1+1) (.slq (nQ+1+1) 0 (w.length+e.length) 0) (by omega) (fun b h1=>?_) (Aj.ofq (own:=true) (z:=1) (w:=w++e) (by simp (disch:=omega) only[Ad,Ae,Ag];simp[wdC]) (by omega) (by simp))) ?_
        ·simp (disch:=omega) only[Ad,Ae]
        rintro _ ⟨zv,g4,n4,rfl,hn4,hg4',hfz,hcz⟩;have HG4:Aa (∀ b,b<nQ->g4 b=gQ b):=⟨fun b hb=>(hg4' b (by omega)).trans (by simp (disch:=omega) only[Ad,Ae])⟩;have HU4:Aa (g4 (nQ+1+1)=some (.cells (wdC (w++e)) true 1)):=⟨(hg4' (nQ+1+1) (by omega)).trans (by simp (disch:=omega) only[Ad,Ae,Ag];simp[wdC])⟩;have h44:=(HG4.out n2 (by omega)).trans hg4;have h54:=(HG4.out (n2+1+1+1) (by omega)).trans hg5;have hm4:=(HG4.out n1 (by omega)).trans hgm;have h1z:=hfz.rep.one;have hcz2:=hfz.rep.cell;have hone8:allOne [.slq (nQ+1+1) 0 (w.length+e.length) 0,zv]=true:=by simp[h1z]
        have HFZ:=Aa.mk hfz;have HCZ:=Aa.mk hcz;obtain⟨cs,hgr,hrt,hcc⟩:=HLP.out;have hcl:=hrt.1;have HRT:=Aa.mk hrt;have HCC:=Aa.mk hcc;have HSN:=Aa.mk fun (gF:Gb) (h1:∀ a,a<nQ->a≠n2->a≠(n2+1+1+1)->a≠B->gF a=gQ a) (h2:gF (n4+1)=some (.cells (cs++[.slq (nQ+1+1) 0 (w.length+e.length) 0,zv]) true 2)) (h3:gF (nQ+1+1)=some (.cells (wdC (w++e)) true 1)) (h4:∀ a,nQ+1+1+1<=a->a<n4->gF a=g4 a)=>a2m.snoc (t:=runT M (w++e)) (n':=n4+1+1) (lo:=n1+1) HRT.out HCC.out hcl (by omega) (B':=n4+1) ⟨by omega,by omega,by omega⟩ h1 h2 (Aj.ofq (own:=true) (z:=1) ((b4v (by omega) (by omega) (by omega)).trans h3) (by omega) (by simp[runT])) (by
         obtain⟨gk,q1,q2⟩:=HFZ.out;exact Af.ext (by omega) (fun a u _ hu=>by
          obtain⟨e1,e2,e3⟩:=q1 a u hu;rw[b4v (by omega) (by omega) (by omega),h4 a e2 e3];exact e1) q2) (fun _ _ _ _ h=>by cases h) HCZ.out rfl
        clear hg4' hfz hcz hrt hcc HLP;rcases hgr with⟨h6,hc6,hs6⟩|⟨h6,hs6,hC1,hC2,hC3,hC4⟩
        ·subst hs6;have HZ:=Aa.mk (And.intro h6 hc6);clear h6 hc6
         iterate 8 all_goals try first|apply spl<;>intro h|simp (disch:=first|assumption|omega|simp) [*]
         refine ih2.out (EE.length-(i+1)) _ _ (by omega) ⟨i+1,n4+1+1,n4+1,_,.slq (n4+1) 0 (ts.length+1) 0,ts++[runT M (w++e)],by omega,rfl,rfl,by omega,by rw[Dr,Ef];omega,by omega,by omega,by omega,⟨.inl (by omega)⟩,⟨fun b h1 h2 h3 h4=>?_⟩,by rw[HZ.out.1];exact Ag,?_,⟨HSN.out _ (fun a h1 h2 h3 h4=>?_) ?_ ?_ fun a h1 h2=>?_⟩,⟨by rw[HTS.out,HTK.out];simp⟩,⟨.inr (by omega)⟩,by simp[*]⟩
         ·have hb2:b≠B:=by rcases HBC.out with h|h<;>omega
          simp (disch:=omega) only[Ad,Ae];exact(HG4.out b (by omega)).trans (HG.out b h1 h2 h3 h4)
         ·simp (disch:=omega) only[Ad,Ae];exact h54
         ·simp (disch:=omega) only[Ad,Ae];exact HG4.out a h1
         ·rw[HZ.out.2];simp (disch:=omega) only[Ad,Ae,Ag];rfl
         ·simp (disch:=omega) only[Ad,Ae];exact HU4.out
         ·simp (disch:=omega) only[Ad,Ae]
        ·subst hs6;have hbn:B≠n2:=HBB.out.resolve_right fun h=>by rw[h] at h6;cases h6
         have hbn' : n2≠B:=fun h=>hbn h.symm;have hC5:=(HG4.out B (by omega)).trans hC3;have hxa:∀ (G:Gb) (x:Option Blk),Ap G B x n2=G n2:=fun G x=>Ae hbn';have hxb:∀ (G:Gb) (x:Option Blk),Ap G B x (n2+1+1+1)=G (n2+1+1+1):=fun G x=>Ae (fun h=>hB2 h.symm);clear hC3
         iterate 8 all_goals try first|apply spl<;>intro h|simp (disch:=first|assumption|omega|simp) [*]
         refine ih2.out (EE.length-(i+1)) _ _ (by omega) ⟨i+1,n4+1+1,n4+1,_,.slq (n4+1) 0 (ts.length+1) 0,ts++[runT M (w++e)],by omega,rfl,rfl,by omega,by rw[Dr,Ef];omega,by omega,by omega,by omega,⟨.inl (by omega)⟩,⟨fun b h1 h2 h3 h4=>?_⟩,Ag,?_,⟨HSN.out _ (fun a h1 h2 h3 h4=>?_) ?_ ?_ fun a h1 h2=>?_⟩,⟨by rw[HTS.out,HTK.out];simp⟩,⟨.inr (by omega)⟩,by simp[*]⟩
         ·have hb2:b≠B:=by rcases HBC.out with h|h<;>omega
          simp (disch:=omega) only[Ad,Ae];exact(HG4.out b (by omega)).trans (HG.out b h1 h2 h3 h4)
         ·simp (disch:=omega) only[Ad,Ae];exact h54
         ·simp (disch:=omega) only[Ad,Ae];exact HG4.out a h1
         ·simp (disch:=omega) only[Ad,Ae,Ag]
         ·simp (disch:=omega) only[Ad,Ae];exact HU4.out
         ·simp (disch:=omega) only[Ad,Ae]
      ·have hliI:¬(i:Int)<(EE.length:Int):=by omega
       have HTS2:Aa (ts=a1k M ws++(a5n (WW.take (k+1)) EE).map (runT M)):=⟨by
        rw[HTS.out,HPK.out,Ee (l:=EE) (by omega)];simp⟩
       clear HTS
       iterate 8 all_goals try first|apply spl<;>intro h|simp (disch:=first|assumption|omega|simp) [*]
       exact ih.out (WW.length-(k+1)) _ _ (by omega) ⟨k+1,nQ,B,gQ,lvp,ts,by omega,rfl,rfl,by omega,by omega,hB1,hB2,hB3,HBB,HG,hg4,hg5,HLP,HTS2,HBC,by simp[*]⟩
     ·have hltI:¬(k:Int)<(WW.length:Int):=by omega
      have HLE:Aa (a2m gP (n1+1) nP n2 (n2+1+1+1) B LL lvp):=⟨by
       have e:LL=ts:=by rw[HLL.out,HTS.out,Ee (by omega)];simp
       rw[e];exact HLP.out⟩
      clear HLP HTS
      iterate 8 all_goals try first|apply spl<;>intro h|simp (disch:=first|assumption|omega|simp) [*]
      exact⟨B,HLE⟩
   refine LX.ind (fun m gf H'=>∃ (k nd:Nat) (gM:Gb) (e3:AV) (E:Wq),k<=eb.length/\k<=3/\m=3-k/\H'=⟨.fn gM,nd⟩/\nc<=nd/\Aa (∀ b,b<n2->gM b=g2 b)/\gM n2=some (.cells [.li I,.li O,lv] true 0) /\
    gM (n2+1+1+1)=some (.cells [.li I,.li O,sv,e3,.li 0,.li 0,.nl] true 0)/\Aa (Bi (Bs n2 (n2+1+1+1) B0 gM) nd SS sv)/\Aa (Bi (Bs n2 (n2+1+1+1) B0 gM) nd E e3)/\Aa (EE=qE (((eb.take 3).drop k).map fun x=>Da x I 4) E)/\Aa (EOK I k 4 E) /\
    gf 1=some (.ptr n 0)/\gf 2=some (.ptr (n+1) 0)/\gf 3=some (.ptr n1 0)/\gf 4=some (.ptr n2 0)/\gf 5=some (.ptr (n2+1+1+1) 0)/\gf 9=some (.li k)) (m0:=3) ?_ ?_
   ·exact⟨0,ncc,gN,e2,qE0 I,Dt _,Dt _,rfl,rfl,hncc,HG,hg4,hg5,HSV,HEV,⟨by rw[HEE.out];rfl⟩,⟨EOK.base (by omega)⟩,by simp[*]⟩
   clear HG hg4 hg5 HSV HEV w1 w2 w3 w4 w5 hgn hncc;rintro m gf H' ⟨k,nd,gM,e3,E,hk,hk3,rfl,rfl,hnd,HG,hg4,hg5,HSV,HEV,HEQ,HEO,w1,w2,w3,w4,w5,w9⟩ ih;have hgn:=(HG.out n (by omega)).trans HN2.out;have hgm:=(HG.out n1 (by omega)).trans HM2.out;have h1sv:=HSV.out.one;have h1ev:=HEV.out.one;refine rnd pl16 (by decide +kernel) ?_;by_cases hlt:k<eb.length
   ·have hltI:(k:Int)<(eb.length:Int):=by omega
    by_cases hlm:k<3
    ·have hlmI:(k:Int)<3:=by omega
     obtain⟨a2,off,q,ha2,hia,hcell,hrb⟩:=HEB.out.at hlt;have hcell2:Be (some (false,1)) (gM a2) (off+k)=some q:=(congrArg (fun z=>Be (some (false,1)) z (off+k)) ((HG.out a2 (by omega)).trans ((HG2.out a2 (by omega)).trans (HG1.out a2 ha2)))).trans hcell;have HDR:Aa (((eb.take 3).drop k).map (fun x=>Da x I 4)=Da eb[k] I 4 :: ((eb.take 3).drop (k+1)).map (fun x=>Da x I 4)):=⟨by
      rw[El (show k<(eb.take 3).length by rw[Du];omega),g4s,g4j]⟩
     have HWD:=Aa.mk (fun (gX:Gb) (n2:Nat) (hn2:n<=n2) (hX:∀ b,b<n->gX b=g b)=>d7f eb[k] (HEL.out _ (Ds hlt)) (I:Int) 4 (by omega) (by omega) (by decide) 4 rfl gX n2 q (Af.mono hn2 hX hrb));have HWI:Aa ((Da eb[k] I 4).length<=4/\inW (Da eb[k] I 4) I=true):=⟨c1e,by
      have:=c1d (b:=eb[k]) (m:=4) (I:=(I:Int)) (by omega)
      rwa [g4f] at this⟩
     rw[g4f] at HWD;clear hcell hrb;generalize Da eb[k] I 4=w at *
     iterate 8 all_goals try first|apply spl<;>intro h|simp (disch:=first|assumption|omega|simp) [*]
     refine WC.mono (HWD.out _ _ (by omega) fun b hb=>(HG.out b (by omega)).trans ((HG2.out b (by omega)).trans (HG1.out b hb))) ?_;rintro _ ⟨uv,g3,n3,rfl,hn3,hg3,hfw⟩;have HG3:=Aa.mk hg3;have h43:=(hg3 n2 (by omega)).trans hg4;have h53:=(hg3 (n2+1+1+1) (by omega)).trans hg5;have hgm3:=(hg3 n1 (by omega)).trans hgm;have hgn3:=(hg3 n (by omega)).trans hgn;have hlenU:=@Am prog _ _ _ _ _ hfw.1.rep;have HFW:=Aa.mk hfw;clear hg3 hfw hg4 hg5 hgm hgn HWD;by_cases hw0:w.length=0
     ·have hstep:Aa (EE=qE (((eb.take 3).drop (k+1)).map fun x=>Da x I 4) E/\EOK I (k+1) 4 E):=⟨by
       have h2:=HEO.out.step (w:=w) HWI.out.1 HWI.out.2;rw[if_pos hw0] at h2;refine⟨?_,h2⟩;rw[HEQ.out,HDR.out,qE,if_pos hw0]⟩
      iterate 8 all_goals try first|apply spl<;>intro h|simp (disch:=first|assumption|omega|simp) [*]
      refine ih.out (3-(k+1)) _ _ (by omega) ⟨k+1,n3,g3,e3,E,by omega,by omega,rfl,rfl,by omega,⟨fun b hb=>(HG3.out b (by omega)).trans (HG.out b hb)⟩,h43,h53,⟨HSV.out.hid (by omega) fun a ha _ _ _=>HG3.out a ha⟩,⟨HEV.out.hid (by omega) fun a ha _ _ _=>HG3.out a ha⟩,⟨hstep.out.1⟩,⟨hstep.out.2⟩,by simp[*]⟩
     ·have hstep:Aa (EE=qE (((eb.take 3).drop (k+1)).map fun x=>Da x I 4) (a1l E w)/\EOK I (k+1) 4 (a1l E w)):=⟨by
       have h2:=HEO.out.step (w:=w) HWI.out.1 HWI.out.2;rw[if_neg hw0] at h2;refine⟨?_,h2⟩;rw[HEQ.out,HDR.out,qE,if_neg hw0]⟩
      have hw0I:0<w.length:=by omega
      have hElen:=HEO.out.len;have HPUT:=Aa.mk (d7h (l:=E) (w:=w) (by omega) (by have:=HWI.out.1;omega) (fun x hx=>by have:=(HEO.out.wl x hx).2.1;omega) n2 (n2+1+1+1) B0 g3 n3 (by omega) (by omega) (by omega) e3 uv (HEV.out.hid hn3 fun a ha _ _ _=>HG3.out a ha) (by
       obtain⟨gk,q1,q2⟩:=HFW.out.1;exact Af.ext (Dm _) (fun a z _ hz=>by rw[a4b (by have:=(q1 a z hz).2.1;omega) (by have:=(q1 a z hz).2.1;omega) (by have:=(q1 a z hz).2.1;omega)];exact(q1 a z hz).1) q2) HFW.out.2)
      iterate 8 all_goals try first|apply spl<;>intro h|simp (disch:=first|assumption|omega|simp) [*]
      refine WC.mono HPUT.out ?_;rintro _ ⟨ov,g4,n4,rfl,hn4,hg4,hlo⟩;have HG4:=Aa.mk hg4;have h44:=(hg4 n2 (by omega)).trans h43;have h54:=(hg4 (n2+1+1+1) (by omega)).trans h53;have h1o:=hlo.one;have hco:=hlo.cell;have HLO:=Aa.mk hlo;clear hg4 hlo h43 h53
      iterate 8 all_goals try first|apply spl<;>intro h|simp (disch:=first|assumption|omega|simp) [*]
      refine ih.out (3-(k+1)) _ _ (by omega) ⟨k+1,n4,_,ov,a1l E w,by omega,by omega,rfl,rfl,by omega,⟨fun b hb=>?_⟩,?_,Ag,⟨HSV.out.hid (by omega) fun a ha _ h _=>(Ae h).trans ((HG4.out a (by omega)).trans (HG3.out a ha))⟩,⟨HLO.out.hid (Dm _) fun a _ _ h _=>Ae h⟩,⟨hstep.out.1⟩,⟨hstep.out.2⟩,by simp[*]⟩
      ·rw[Ae (by omega)];exact(HG4.out b (by omega)).trans ((HG3.out b (by omega)).trans (HG.out b hb))
      ·rw[Ae (by omega)];exact h44
    ·have hlmI:¬(k:Int)<3:=by omega
     have HEF:Aa (Bi (Bs n2 (n2+1+1+1) B0 gM) nd EE e3):=⟨by
      have e:EE=E:=by rw[HEQ.out,g3u (by rw[Du];omega)];rfl
      rw[e];exact HEV.out⟩
     clear HEQ HEV
     iterate 8 all_goals try first|apply spl<;>intro h|simp (disch:=first|assumption|omega|simp) [*]
   ·have hltI:¬(k:Int)<(eb.length:Int):=by omega
    have HEF:Aa (Bi (Bs n2 (n2+1+1+1) B0 gM) nd EE e3):=⟨by
     have e:EE=E:=by rw[HEQ.out,g3u (by rw[Du];omega)];rfl
     rw[e];exact HEV.out⟩
    clear HEQ HEV
    iterate 8 all_goals try first|apply spl<;>intro h|simp (disch:=first|assumption|omega|simp) [*]
  refine LX.ind (fun m gf H'=>∃ (k ncc:Nat) (gN:Gb) (sv:AV) (S:Wq),k<=sb.length/\k<=5/\m=5-k/\H'=⟨.fn gN,ncc⟩/\nc<=ncc/\Aa (∀ b,b<n2->gN b=g2 b)/\gN n2=some (.cells [.li I,.li O,lv] true 0) /\
   gN (n2+1+1+1)=some (.cells [.li I,.li O,sv,e2,.li 0,.li 0,.nl] true 0)/\Aa (Bi (Bs n2 (n2+1+1+1) B0 gN) ncc S sv)/\Aa (Bi (Bs n2 (n2+1+1+1) B0 gN) ncc (qE0 I) e2)/\Aa (SS=qS I ((sb.take 5).drop k) S)/\Aa (SOK I k S) /\
   gf 1=some (.ptr n 0)/\gf 2=some (.ptr (n+1) 0)/\gf 3=some (.ptr n1 0)/\gf 4=some (.ptr n2 0)/\gf 5=some (.ptr (n2+1+1+1) 0)/\gf 7=some (.li k)) (m0:=5) ?_ ?_
  ·exact⟨0,nc,gL,_,[[]],Dt _,Dt _,rfl,rfl,Dm _,HG,hg4,hg5,HSL2,HEL2,⟨by rw[HSS.out];rfl⟩,⟨SOK.base⟩,by simp[*]⟩
  clear HG hg4 hg5 HSL2 HEL2 hgm w1 w2 w3 w4 w5 w6;rintro m gf H' ⟨k,ncc,gN,sv,S,hk,hk5,rfl,rfl,hncc,HG,hg4,hg5,HSV,HEV,HSQ,HSO,w1,w2,w3,w4,w5,w7⟩ ih;have hgn:=(HG.out n (by omega)).trans HN2.out;have hgm:=(HG.out n1 (by omega)).trans HM2.out;have h1sv:=HSV.out.one;have h1ev:=HEV.out.one;refine rnd pl16 (by decide +kernel) ?_;by_cases hlt:k<sb.length
  ·have hltI:(k:Int)<(sb.length:Int):=by omega
   by_cases hlm:k<5
   ·have hlmI:(k:Int)<5:=by omega
    obtain⟨a2,off,ha2,hia,hcell⟩:=HSB.out.at hlt;have hcell2:Be (some (false,1)) (gN a2) (off+k)=some (.lit (.int .u8 ((sb[k] : Nat) : Int))):=(congrArg (fun z=>Be (some (false,1)) z (off+k)) ((HG.out a2 (by omega)).trans ((HG2.out a2 (by omega)).trans (HG1.out a2 ha2)))).trans hcell;have hb256:=HSL.out _ (Ds hlt);have HDR:Aa ((sb.take 5).drop k=sb[k] :: (sb.take 5).drop (k+1)):=⟨by
     rw[El (show k<(sb.take 5).length by rw[Du];omega),g4s]⟩
    clear hcell;generalize sb[k]=b at *;have hSpos:=HSO.out.pos;have hlenSv:=@Am prog _ _ _ _ _ HSV.out.choose_spec.1;obtain⟨j,hj⟩ : ∃ j,j=b / 8 % S.length:=⟨_,rfl⟩;obtain⟨i0,hi0⟩ : ∃ i0,i0=b % I:=⟨_,rfl⟩;have hpl:j<S.length:=by rw[hj];exact Eo _ hSpos
    have hi0I:i0<I:=by rw[hi0];exact Eo _ (by omega)
    obtain⟨a3,o3,qv,ha3,hia3,hc3,hq⟩:=HSV.out.listV.at hpl;have hc3':=(c7e hc3).2.2.2;have HQ:=Aa.mk hq;have HSTEP:Aa (SS=qS I ((sb.take 5).drop (k+1)) (a1l S (S[j]++[(i0:Int)]))/\SOK I (k+1) (a1l S (S[j]++[(i0:Int)]))):=⟨by
     have hgd:S.getD j []=S[j]:=by rw[g3s,Dy hpl];rfl
     have h2:=HSO.out.step hpl hi0I;rw[hgd] at h2;refine⟨?_,h2⟩;rw[HSQ.out,HDR.out,qS,<- hj,<- hi0,hgd]⟩
    have HWL:=Aa.mk (HSO.out.wl _ (Ds hpl));have hmodI:((b:Int) / 8).tmod (S.length:Int)=(j:Int):=by
     rw[hj,Int.tmod_eq_emod_of_nonneg (by omega)];simp
    have hbm:(b:Int).tmod (I:Int)=(i0:Int):=by
     rw[hi0,Int.tmod_eq_emod_of_nonneg (by omega)];simp
    have h1q:=hq.one;clear hc3 hq hj hi0 HSQ;generalize S[j]=fr at *;have hfr:fr.length<=5:=by have:=HWL.out.1;omega
    have hSl:=HSO.out.len;have HPUT:=Aa.mk fun (gX:Gb) (nX:Nat) (wv:AV) (hn:ncc<=nX) (hX:∀ b,b<ncc->gX b=gN b) (hw:Aj (Bs n2 (n2+1+1+1) B0 gX) nX (fr++[(i0:Int)]) wv) (hc:Bm wv)=>d7h (l:=S) (by omega) (by rw[Dr,Ef];omega) (fun x hx=>by have:=(HSO.out.wl x hx).1;omega) n2 (n2+1+1+1) B0 gX nX (by omega) (by omega) (by omega) sv wv (HSV.out.hid hn fun a ha _ _ _=>hX a ha) hw hc;by_cases hf0:fr.length=0
    ·have hqr:Af gN ncc qv 0 (wdC fr):=by
      have h:=Af.ext (Dm _) (fun a x _ hx=>b1d hx) HQ.out;rw[hf0] at h;exact h
     have hap:=fun {H:Mem} {ev:Ev} {d:Option Tmp} {ty:TypeId} {p:String} {af:Array Edge} {gd:Option (Nat×Bool)} {x y:Operand} {s t:TypeId} {a off:Nat} {hx:ev x=some (.sl a off 0 0)} {hy:ev y=some qv} (hp:(apI prog s t).isSome=true)=>Af.ap00 (P:=prog) hqr (H:=H) (ev:=ev) (d:=d) (ty:=ty) (p:=p) (af:=af) (gd:=gd) (x:=x) (y:=y) (a:=a) (off:=off) (hx:=hx) (hy:=hy) hp;have HFE:Aa (fr=[]):=⟨g3r.1 hf0⟩;clear hqr
     iterate 8 all_goals try first|apply spl<;>intro h|simp (disch:=first|assumption|omega|simp) [*]
     refine WC.mono (HPUT.out _ _ _ (by omega) (fun b hb=>?_) (Aj.ofq (own:=true) (z:=1) (w:=fr++[(i0:Int)]) ?_ (by omega) ?_) fun _ _ _ _ e=>by cases e) ?_
     ·simp (disch:=omega) only[Ad]
     ·rw[a4b (by omega) (by omega) (by omega),Ag];simp[wdC,HFE.out]
     ·simp[HFE.out]
     rintro _ ⟨ov,g3,n3,rfl,hn3,hg3,hlo⟩;have hg33:∀ b,b<ncc->g3 b=gN b:=fun b hb=>(hg3 b (by omega)).trans (by simp (disch:=omega) only[Ad]);have HG3:=Aa.mk hg33;have h43:=(hg33 n2 (by omega)).trans hg4;have h53:=(hg33 (n2+1+1+1) (by omega)).trans hg5;have h1o:=hlo.one;have hco:=hlo.cell;have HLO:=Aa.mk hlo;clear hg3 hg33 hlo
     iterate 8 all_goals try first|apply spl<;>intro h|simp (disch:=first|assumption|omega|simp) [*]
     refine ih.out (5-(k+1)) _ _ (by omega) ⟨k+1,n3,_,ov,a1l S (fr++[(i0:Int)]),by omega,by omega,rfl,rfl,by omega,⟨fun b hb=>?_⟩,?_,Ag,⟨HLO.out.hid (Dm _) fun a _ _ h _=>Ae h⟩,⟨HEV.out.hid (by omega) fun a ha _ h _=>(Ae h).trans (HG3.out a ha)⟩,⟨HSTEP.out.1⟩,⟨HSTEP.out.2⟩,by simp[*]⟩
     ·rw[Ae (by omega)];exact(HG3.out b (by omega)).trans (HG.out b hb)
     ·rw[Ae (by omega)];exact h43
    ·have hqr:Aj gN ncc fr qv:=Af.ext (Dm _) (fun a x _ hx=>b1d hx) HQ.out;obtain⟨a9,blk,ha9,hga9,hap⟩:=Af.ap0 (P:=prog) (sz:=1) hqr (by omega) (by omega) (by rw[Bl,Ea]);have hwf:(wdC fr).length=fr.length*1:=by rw[Bl,Ea]
     clear hqr
     iterate 8 all_goals try first|apply spl<;>intro h|simp (disch:=first|assumption|omega|simp) [*]
     refine WC.mono (HPUT.out _ _ _ (by omega) (fun b hb=>?_) (Aj.ofq (own:=true) (z:=1) (w:=fr++[(i0:Int)]) ?_ (by omega) ?_) fun _ _ _ _ e=>by cases e) ?_
     ·simp (disch:=omega) only[Ad]
     ·rw[a4b (by omega) (by omega) (by omega),Ag];simp[wdC]
     ·simp
     rintro _ ⟨ov,g3,n3,rfl,hn3,hg3,hlo⟩;have hg33:∀ b,b<ncc->g3 b=gN b:=fun b hb=>(hg3 b (by omega)).trans (by simp (disch:=omega) only[Ad]);have HG3:=Aa.mk hg33;have h43:=(hg33 n2 (by omega)).trans hg4;have h53:=(hg33 (n2+1+1+1) (by omega)).trans hg5;have h1o:=hlo.one;have hco:=hlo.cell;have HLO:=Aa.mk hlo;clear hg3 hg33 hlo
     iterate 8 all_goals try first|apply spl<;>intro h|simp (disch:=first|assumption|omega|simp) [*]
     refine ih.out (5-(k+1)) _ _ (by omega) ⟨k+1,n3,_,ov,a1l S (fr++[(i0:Int)]),by omega,by omega,rfl,rfl,by omega,⟨fun b hb=>?_⟩,?_,Ag,⟨HLO.out.hid (Dm _) fun a _ _ h _=>Ae h⟩,⟨HEV.out.hid (by omega) fun a ha _ h _=>(Ae h).trans (HG3.out a ha)⟩,⟨HSTEP.out.1⟩,⟨HSTEP.out.2⟩,by simp[*]⟩
     ·rw[Ae (by omega)];exact(HG3.out b (by omega)).trans (HG.out b hb)
     ·rw[Ae (by omega)];exact h43
   ·have hlmI:¬(k:Int)<5:=by omega
    have HSF:Aa (Bi (Bs n2 (n2+1+1+1) B0 gN) ncc SS sv):=⟨by
     have e:SS=S:=by rw[HSQ.out,g3u (by rw[Du];omega)];rfl
     rw[e];exact HSV.out⟩
    clear HSQ HSV
    iterate 8 all_goals try first|apply spl<;>intro h|simp (disch:=first|assumption|omega|simp) [*]
  ·have hltI:¬(k:Int)<(sb.length:Int):=by omega
   have HSF:Aa (Bi (Bs n2 (n2+1+1+1) B0 gN) ncc SS sv):=⟨by
    have e:SS=S:=by rw[HSQ.out,g3u (by rw[Du];omega)];rfl
    rw[e];exact HSV.out⟩
   clear HSQ HSV
   iterate 8 all_goals try first|apply spl<;>intro h|simp (disch:=first|assumption|omega|simp) [*]
theorem g1l {st inp out:Nat} {part:Bool} {es:List Nat} {ev:AV} {ws:List (List Nat)} {wv:AV} (ia ib ic:Int) {sb:List Nat} (hsb:∀ b∈sb,b<256) {eb:List (List Nat)} (heb:∀ w∈eb,∀ b∈w,b<256) (full:Bool) (g:Gb) (n:Nat) (hI:InG g n st inp out es ev ws wv) (sbv ebv:AV) (hS:a5k g n sb sbv) (hE:a7d g n eb ebv) :
  WC 0 prog 16 [.agg [.lit (.int .u8 st),.lit (.int .u8 inp),.lit (.int .u8 out),.lit (.bool part),ev,wv,.lit (.int .u8 ia),.lit (.int .u8 ib),.lit (.int .u8 ic),sbv,ebv,.lit (.bool full)]] ⟨.fn g,n⟩ fun r=>∃ sv e2 tv g' n',r=.ret (.agg [.lit (.int .i64 (Ce st inp out part es).inp),.lit (.int .i64 (Ce st inp out part es).out),sv,e2,.lit (.int .i64 (Ce st inp out part es).inp),.lit (.int .i64 (Ce st inp out part es).out),tv]) ⟨.fn g',n'⟩/\n<=n'/\(∀ b,b<n->g' b=g b)/\Bi g' n' (qSx (Ce st inp out part es) sb) sv/\Bi g' n' (qEx (Ce st inp out part es) eb) e2/\Bw g' n' (a0g (Ce st inp out part es).inp.toNat (qLx (Ce st inp out part es) ws full (qSx (Ce st inp out part es) sb) (qEx (Ce st inp out part es) eb))) tv:=by
 refine WC.mono (g1k (part:=part) ia ib ic hsb heb full g n hI sbv ebv hS hE) ?_;rintro _ ⟨sv,e2,tv,g',n',h0,h1,h2,h3,h4,svs,h5,h6⟩;have hx:∀ a x,a<n'->a3n n g' a=some x->g' a=some x:=fun a x _ hx=>(b2w hx).2;exact⟨sv,e2,tv,g',n',h0,h1,h2,h3.ext (Dm _) hx,h4.ext (Dm _) hx,svs,Af.ext (Dm _) hx h5,h6.ext (Dm _) hx⟩
end Go.Ai
end
section
namespace Go.Ai
open Go.Proofs Go.Proofs.Tryz
set_option maxRecDepth 10000
set_option maxHeartbeats 40000000
theorem g1m {I O:Int} {T:Tq} (h:goT I O T 0 1=some T.length) : ∀ r∈T,(r.length:Int)=I/\∀ e∈r,e.1 = -1\/(0<=e.1/\e.1<T.length):=by
 intro r hr;obtain⟨h1,h2⟩:=c5p h (Dm _) (Dm _) r hr;refine⟨h1,fun e he=>?_⟩;have h3:=h2 e he;unfold okE at h3;rw[g5r,decide_eq_true_eq,decide_eq_true_eq] at h3;omega
structure a2a (I:Nat) (O:Int) (S E:Wq) (T:Tq) : Prop where
 i1:1<=I
 i2:I<=3
 o1:1<=O
 o2:O<=16
 sl:S.length<=20
 s0:0<S.length
 sw:∀ w∈S,w.length<=300/\inW w I=true
 e0:0<E.length
 el:E.length<=20
 ew:∀ e∈E,0<e.length/\e.length<=300/\inW e I=true
 t0:0<T.length
 tl:T.length<=65537
 go:goT I O T 0 1=some T.length
 ok:∀ r∈T,r.length=I/\∀ e∈r,e.1 = -1\/(0<=e.1/\e.1<T.length)
 err:b4t I O S E I O T=0
structure b3a (g:Gb) (n:Nat) (S E:Wq) (T:Tq) (sv ev tv:AV) : Prop where
 s:Bi g n S sv
 e:Bi g n E ev
 t:Bw g n T tv
theorem b3a.mono {g g': Gb} {n n': Nat} {S E:Wq} {T:Tq} {sv ev tv:AV} (h:b3a g n S E T sv ev tv) (hn:n<=n') (hg:∀ a,a<n->g' a=g a) : b3a g' n' S E T sv ev tv :=
 ⟨h.s.ext hn fun a x ha hx=>(hg a ha).trans hx,h.e.ext hn fun a x ha hx=>(hg a ha).trans hx,h.t.mono hn hg⟩
theorem Bi.listT {g:Gb} {n:Nat} {l:Wq} {sv:AV} (h:Bi g n l sv) (h1:l.length<=1000000) (h2:∀ w∈l,w.length<=1000000) : b4u g n l sv:=⟨h1,h2,h⟩
theorem a2a.check {I:Nat} {O:Int} {S E:Wq} {T:Tq} (hp:a2a I O S E T) {g:Gb} {n:Nat} {sv ev tv:AV} (h:b3a g n S E T sv ev tv) :
  WC 0 prog 37 [.agg [.li I,.li O,sv,ev,.li I,.li O,tv]] ⟨.fn g,n⟩ fun r=>r=.ret (.li 0) ⟨.fn g,n⟩:=by
 have h1:=g0i I O I O S E T g n sv ev tv (h.s.listT (by have:=hp.sl;omega) fun w hw=>by have:=(hp.sw w hw).1;omega) (h.e.listT (by have:=hp.el;omega) fun w hw=>by have:=(hp.ew w hw).2.1;omega) ⟨by have:=hp.tl;omega,fun r hr=>by have:=(hp.ok r hr).1;have:=hp.i2;omega,h.t⟩;rw[hp.err] at h1;exact h1
theorem QOK.tab {M:Bg} (hM:M.ok) {I:Nat} {O:Int} (hI:M.inp=I) (hO:M.out=O) (hI3:I<=3) {S E:Wq} {L:Lq} (h:QOK M S E L) : a2a I O S E (a0g I L):=by
 have hIt:M.inp.toNat=I:=by rw[hI];rfl
 have hs:=h.s;have he:=h.e;rw[hIt] at hs he;have h1:=hM.1;have h2:=hM.2.2.1;have h3:=hM.2.2.2.1;have hsl:=hs.len;have hel:=he.len;have hgo:=h.runs.go hM hI;rw[hO] at hgo;have htl:(a0g I L).length<=1561:=by have:=h.nod;rw[d6j];exact this
 have ht0:0<(a0g I L).length:=by
  rw[d6j];exact g4m ((b4p (h.runs.valid hM) h.runs.cons []).2 (.inl rfl))
 have hte:a7b I O (a0g I L)=0:=by have:=h.runs.err hM hI (by omega);rw[hO] at this;exact this
 refine⟨by omega,hI3,by omega,by omega,by omega,hs.pos,fun w hw=>⟨by have:=(hs.wl w hw).1;omega,(hs.wl w hw).2⟩,by have:=he.low;omega,by omega,fun e hw=>⟨(he.wl e hw).1,by have:=(he.wl e hw).2.1;omega,(he.wl e hw).2.2⟩,ht0,by omega,hgo,fun r hr=>?_,?_⟩
 ·have hr2:=g1m hgo r hr;exact⟨by have:=hr2.1;omega,hr2.2⟩
 ·exact g0t (by omega) (by omega) (by omega) (by omega) hs he (by omega) (by omega) (by omega) hte
end Go.Ai
end

