/- A small verified interpreter over names, its proofs, and what was proved with it. No condition. -/
import Derived.Test.YtpimmmnkcgnjjaaGreatO28
set_option linter.all false
set_option linter.deprecated false
section
namespace Go.Ai
open Go.Proofs Go.Proofs.Tryz
set_option maxRecDepth 10000
set_option maxHeartbeats 40000000
variable {I n:Nat} {T:Tq} {E S:Wq} {g:Gb} {O:Int}
theorem b3c {R:Wq} {w:Wd} : (Cv T E R I w).length=I:=by unfold Cv;simp
theorem d8r {R:Wq} {w:Wd} {i:Nat} (h:i<I) : (Cv T E R I w).take (i+1)=(Cv T E R I w).take i++[b1e T E R (w++[(i:Int)])]:=by
 rw[g4c (by rw[b3c];exact h)];unfold Cv;simp
def b1h (T:Tq) (E R:Wq) (I:Nat) (S:Wq) (g:Gb) (lo n:Nat) (k:Nat) (cs:List AV) : Prop:=cs.length=S.length/\∀ j (h:j<S.length),j<k->∃ B,cs[j]?=some (.sl B 0 I I)/\lo<=B/\B<n/\g B=some (.cells (Bz (Cv T E R I S[j])) true 0)
theorem b1h.step {R:Wq} {g3:Gb} {lo n3 k B:Nat} {cs cs2:List AV} (h:b1h T E R I S g lo n k cs) (hk:k<S.length) (hcs:cs2.length=cs.length) (hold:∀ j,j<k->cs2[j]?=cs[j]?) (hnew:cs2[k]?=some (.sl B 0 I I)) (hB1:lo<=B) (hB2:B<n3) (hg3:g3 B=some (.cells (Bz (Cv T E R I S[k])) true 0)) (hn:n<=n3) (hg:∀ b,lo<=b->b<n->g3 b=g b) : b1h T E R I S g3 lo n3 (k+1) cs2:=by
 refine⟨hcs.trans h.1,fun j hj hjk=>?_⟩;by_cases e:j=k
 ·subst e;exact⟨B,hnew,hB1,hB2,hg3⟩
 ·obtain⟨B',h1,h2,h3,h4⟩:=h.2 j hj (by omega);exact⟨B',(hold j (by omega)).trans h1,h2,by omega,(hg B' h2 h3).trans h4⟩
theorem b1h.tree {lo M:Nat} {cs:List AV} (h:b1h T E (Al T E S) I S g lo n S.length cs) (hM:M<n) (hg:g M=some (.cells cs true 0)) : Bw g n (a0s T E I S) (.sl M 0 S.length S.length):=by
 have hl:(a0s T E I S).length=S.length:=by unfold a0s;simp
 refine⟨cs,?_,?_,fun k hk=>?_⟩
 ·rw[hl];exact .inr ⟨M,0,hM,.inl ⟨_,rfl⟩,cs,true,0,hg,by simp[*]⟩
 ·rw[hl];exact h.1
 ·obtain⟨B,h1,h2,h3,h4⟩:=h.2 k (by omega) (by omega);refine⟨_,h1,?_⟩;have e:(a0s T E I S)[k]'hk=Cv T E (Al T E S) I (S[k]'(by omega)):=g4v _;rw[e,b3c];exact .inr ⟨B,0,h3,.inl ⟨_,rfl⟩,_,true,0,h4,by simp[*]⟩
def a9b (g:Gb) (n I:Nat) (O:Int) (e:Int) (rows:Tq) (r:Ar) : Prop:=∃ hv g' n',r=.ret (.tup [.agg [.li (if e=0 then (I:Int) else 0),.li (if e=0 then O else 0),hv],.li e]) ⟨.fn g',n'⟩/\n<=n'/\(∀ b,b<n->g' b=g b)/\Bw g' n' (if e=0 then rows else []) hv/\a7g (if e=0 then rows else []).length hv
theorem a9b.err {g': Gb} {n':Nat} {e:Int} {rows:Tq} (he:e≠0) (hn:n<=n') (hg:∀ b,b<n->g' b=g b) : a9b g n I O e rows (.ret (.tup [.agg [.li 0,.li 0,.nl],.li e]) ⟨.fn g',n'⟩):=by
 refine⟨_,g',n',by rw[if_neg he,if_neg he],hn,hg,?_,?_⟩
 ·rw[if_neg he];exact⟨[],.inl ⟨rfl,rfl,.inl rfl⟩,rfl,fun k h=>by cases h⟩
 ·rw[if_neg he];exact .inl ⟨rfl,rfl⟩
theorem a9b.ok {g': Gb} {n' M k:Nat} {rows:Tq} (hn:n<=n') (hg:∀ b,b<n->g' b=g b) (ht:Bw g' n' rows (.sl M 0 k k)) (hk:k=rows.length) : a9b g n I O 0 rows (.ret (.tup [.agg [.li I,.li O,.sl M 0 k k],.li 0]) ⟨.fn g',n'⟩):=by
 subst hk;exact⟨_,g',n',by rw[if_pos rfl,if_pos rfl],hn,hg,by rw[if_pos rfl];exact ht,by rw[if_pos rfl];exact .inr ⟨_,_,rfl⟩⟩
theorem g2u (hp:a2a I O S E T) (hS9:∀ w∈S,w.length<=299) (g:Gb) (n:Nat) (sv ev tv:AV) (h:b3a g n S E T sv ev tv) :
  WC 0 prog 31 [.agg [.li I,.li O,sv,ev,.li I,.li O,tv]] ⟨.fn g,n⟩ (a9b g n I O (b1g T E I S) (a0s T E I S)):=by
 have h1s:=h.s.one;have h1e:=h.e.one;have h1t:=h.t.choose_spec.1.one;have hone:allOne [.li I,.li O,sv,ev,.li I,.li O,tv]=true:=by simp[h1s,h1e,h1t]
 have hc5:allOne [.li I,.li O,sv,.li I,.li O]=true:=by simp[h1s]
 have hc6:allOne [.li I,.li O,sv,ev,.li I,.li O]=true:=by simp[h1s,h1e]
 have hlenS:=@Am prog _ _ _ _ _ h.s.listV.choose_spec.1;have HCK:=Aa.mk fun (gX:Gb) (n2:Nat) (hn:n<=n2) (hX:∀ b,b<n->gX b=g b)=>hp.check (h.mono hn hX);have HAS:=Aa.mk fun (gX:Gb) (n2:Nat) (hn:n<=n2) (hX:∀ b,b<n->gX b=g b)=>d7s hp.i1 (by have:=hp.i2;omega) hp.sl hp.sw hp.el hp.ew hp.t0 hp.ok (.li O) (.li I) (.li O) rfl gX n2 sv ev tv (h.mono hn hX).s.listV (h.mono hn hX).e.listV (h.mono hn hX).t;have HST:=Aa.mk fun (gX:Gb) (n2:Nat) (hn:n<=n2) (hX:∀ b,b<n->gX b=g b)=>d8j hp (.li I) (.li O) (.li I) (.li O) rfl gX n2 sv ev tv (h.mono hn hX).s.listV (h.mono hn hX).e.listV (h.mono hn hX).t;have HOP:=Aa.mk fun (gX:Gb) (n2 A:Nat) (hn:n<=n2) (hX:∀ b,b<n->gX b=g b) (hA:A<n2) (hst:StB gX A (Al T E S))=>d8k hp hS9 (.li O) (.li I) (.li O) rfl gX n2 A sv ev tv (h.mono hn hX).s.listV (h.mono hn hX).e.listV (h.mono hn hX).t hA hst;have HCN:=Aa.mk fun (w:Wd) (hwl:w.length<=300) (hin:inW w I=true) (gX:Gb) (n2:Nat) (wv:AV) (hn:n<=n2) (hX:∀ b,b<n->gX b=g b) (hw:Aj gX n2 w wv)=>c7p hp.t0 hp.ok (w:=w) (by omega) hin (.li I) (.li O) sv ev (.li I) (.li O) hc6 gX n2 tv wv (h.mono hn hX).t hw;have HED:=Aa.mk fun (w:Wd) (hw0:0<w.length) (hwl:w.length<=300) (hin:inW w I=true) (gX:Gb) (n2 A:Nat) (wv:AV) (hn:n<=n2) (hX:∀ b,b<n->gX b=g b) (hw:Aj gX n2 w wv) (hA:A<n2) (hst:StB gX A (Al T E S))=>g2q hp (w:=w) hw0 hwl hin (.li I) (.li O) sv (.li I) (.li O) hc5 gX n2 A ev tv wv (h.mono hn hX).e.listV (h.mono hn hX).t hw hA hst;have HOL:=Aa.mk (d8q (T:=T) (E:=E) (I:=I) (S:=S));have HEM:Aa ((Bb T E (Ak I S)).isEmpty=decide ((Bb T E (Ak I S)).length=0)):=⟨by cases Bb T E (Ak I S)<;>rfl⟩;have HS:=Aa.mk h.s.listV;have HSW:=Aa.mk fun w (hw:w∈S)=>(And.intro (hS9 w hw) (hp.sw w hw).2);have hs0:=hp.s0;have hsl:=hp.sl;have hi2:=hp.i2;have hsI:(S.length:Int)<=1048576:=by omega
 have hiI:(I:Int)<=1048576:=by omega
 have h0I:(0:Int)<=(I:Int):=by omega
 have HBD:Aa (b1f T E S=(decide (a4c (Al T E S)<S.length) || S.any fun w=>!Ca T w)):=⟨rfl⟩;obtain⟨er,her⟩ : ∃ x,x=b1g T E I S:=⟨_,rfl⟩;rw[<- her];unfold b1g at her;have HER:=Aa.mk her;have HERR:=Aa.mk fun (g' : Gb) (n' : Nat) (he:er≠0) (hn:n<=n') (hg:∀ b,b<n->g' b=g b)=>a9b.err (I:=I) (O:=O) (rows:=a0s T E I S) he hn hg;have HOK:=Aa.mk fun (he:er=0) (g' : Gb) (n' M lo:Nat) (cs:List AV) (hn:n<=n') (hg:∀ b,b<n->g' b=g b) (hM:M<n') (hgM:g' M=some (.cells cs true 0)) (hH:b1h T E (Al T E S) I S g' lo n' S.length cs)=>(show a9b g n I O er (a0s T E I S) (.ret (.tup [.agg [.li I,.li O,.sl M 0 S.length S.length],.li 0]) ⟨.fn g',n'⟩) from by
  rw[he];exact a9b.ok hn hg (hH.tree hM hgM) (by unfold a0s;simp))
 clear h hp hS9 her;generalize a9b g n I O er (a0s T E I S)=K at *;refine ent pl31 func31 rfl (by decide +kernel) (by kernel_rfl) ?_
 iterate 8 all_goals try first|apply spl<;>intro h|simp (disch:=first|assumption|omega|simp) [*]
 refine WC.mono (HCK.out _ _ (by omega) fun b hb=>by simp (disch:=omega) only[Ad]) ?_;rintro _ rfl
 iterate 8 all_goals try first|apply spl<;>intro h|simp (disch:=first|assumption|omega|simp) [*]
 refine WC.mono (HAS.out _ _ (by omega) fun b hb=>by simp (disch:=omega) only[Ad]) ?_;rintro _ ⟨l',ov,g1,n1,rfl,hn1,hg1,hperm,_,hlf⟩;have hdp:=d8p hperm;have hlen:=@Am prog _ _ _ _ _ hlf.len;have HG1:Aa (∀ b,b<n->g1 b=g b):=⟨fun b hb=>by rw[hg1 b (by omega)];simp (disch:=omega) only[Ad]⟩;have hgn1:=(hg1 n (by omega)).trans ((Ad (by omega)).trans Ag);have hgo1:=(hg1 (n+1) (by omega)).trans Ag;clear hg1 hlf HCK HAS hperm;by_cases h0:0<(Bp l').length
 ·have h0I:(0:Int)<((Bp l').length:Int):=by omega
  have he:er=6:=by rw[HER.out,HEM.out,decide_eq_false (by have:=hdp.1 h0;omega)];rfl
  subst he;clear hdp
  iterate 8 all_goals try first|apply spl<;>intro h|simp (disch:=first|assumption|omega|simp) [*]
  refine HERR.out _ _ (by decide) (by omega) fun b hb=>?_;simp (disch:=omega) only[Ad,Ae];exact HG1.out b hb
 have h0I:¬(0:Int)<((Bp l').length:Int):=by omega
 have hf:(Bb T E (Ak I S)).isEmpty=true:=by rw[HEM.out,decide_eq_true];have:=mt hdp.2 h0;omega
 rw[hf,if_neg (by decide)] at HER;clear hdp hf HEM
 iterate 8 all_goals try first|apply spl<;>intro h|simp (disch:=first|assumption|omega|simp) [*]
 refine WC.mono (HST.out _ _ (by omega) HG1.out) ?_;rintro _ ⟨A,g2,n2,rfl,hn2,hg2,hA1,hA2,hst⟩;have HG2:Aa (∀ b,b<n->g2 b=g b):=⟨fun b hb=>(hg2 b (by omega)).trans (HG1.out b hb)⟩;have hgn2:=(hg2 n (by omega)).trans hgn1;have hgo2:=(hg2 (n+1) (by omega)).trans hgo1;have HOW:=Aa.mk (HOP.out g2 n2 A (by omega) HG2.out hA2 hst);have HSB:=Aa.mk hst;clear hg2 hst HST HOP hgn1 hgo1 hlen h0I h0
 iterate 8 all_goals try first|apply spl<;>intro h|simp (disch:=first|assumption|omega|simp) [*]
 refine WC.mono HOW.out ?_;rintro _ ⟨rv,g3,n3,rfl,hn3,hg3,hrep⟩;have HG3:Aa (∀ b,b<n->g3 b=g b):=⟨fun b hb=>(hg3 b (by omega)).trans (HG2.out b hb)⟩;have hgn3:=(hg3 n (by omega)).trans hgn2;have hgo3:=(hg3 (n+1) (by omega)).trans hgo2;have hlr:=@Am prog _ _ _ _ _ hrep;have h1r:=hrep.one;have HSB3:Aa (StB g3 A (Al T E S)):=⟨let ⟨L,c,h1,h2⟩:=HSB.out;⟨L,c,(hg3 A hA2).trans h1,h2⟩⟩;clear hg3 hrep HOW HSB hgn2 hgo2;generalize (Cn T E I S).getD []=ow at *;by_cases ho:0<ow.length
 ·have hoI:(0:Int)<(ow.length:Int):=by omega
  have he:er=6:=by rw[HER.out,<- HOL.out,decide_eq_true ho];rfl
  subst he
  iterate 8 all_goals try first|apply spl<;>intro h|simp (disch:=first|assumption|omega|simp) [*]
  refine HERR.out _ _ (by decide) (by omega) fun b hb=>?_;simp (disch:=omega) only[Ad,Ae];exact HG3.out b hb
 have hoI:¬(0:Int)<(ow.length:Int):=by omega
 have hf:(Cn T E I S).isSome=false:=by rw[<- HOL.out,decide_eq_false ho]
 rw[hf,if_neg (by decide)] at HER;clear hf HOL
 iterate 8 all_goals try first|apply spl<;>intro h|simp (disch:=first|assumption|omega|simp) [*]
 clear ho hoI hlr h1r;have hgN1:Ap (Ap g3 n3 (some (.cells (List.replicate S.length (.nl)) true 0))) (n3+1) (some (.cells [.li I,.li O,.sl n3 0 S.length S.length] true 0)) n3=some (.cells (List.replicate S.length (.nl)) true 0):=by simp (disch:=omega) only[Ad,Ag]
 refine LX.ind (fun m gf H'=>∃ (k n4:Nat) (gL:Gb) (cs:List AV),k<=S.length/\m=S.length-k/\H'=⟨.fn gL,n4⟩/\n3+1+1<=n4/\Aa (∀ b,b<n3->gL b=g3 b)/\gL n3=some (.cells cs true 0)/\gL (n3+1)=some (.cells [.li I,.li O,.sl n3 0 S.length S.length] true 0)/\cs.length=S.length/\Aa (b1h T E (Al T E S) I S gL (n3+1+1) n4 k cs)/\Aa (∀ j (h:j<S.length),j<k->¬a4c (Al T E S)<S.length/\Ca T S[j]=true) /\
  gf 1=some (.ptr n 0)/\gf 2=some (.ptr (n+1) 0)/\gf 3=some (.li 0)/\gf 5=some (.map A)/\gf 6=some (.ptr (n3+1) 0)/\gf 39=some sv/\gf 40=some (.li S.length)/\gf 41=some (.li k)) (m0:=S.length) ?_ ?_
 ·refine⟨0,_,_,_,Dt _,rfl,rfl,Dm _,⟨fun b hb=>?_⟩,hgN1,Ag,by simp,⟨⟨by simp,fun j h h2=>by omega⟩⟩,⟨fun j h h2=>by omega⟩,by simp[*]⟩;simp (disch:=omega) only[Ad]
 clear hgN1;rintro m gf H' ⟨k,n4,gL,cs,hk,rfl,rfl,hn4,HG,hgM,hgX,hcl,HH,HN,w1,w2,w3,w5,w6,w39,w40,w41⟩ ih;refine rnd pl31 (by decide +kernel) ?_;have hgn4:=(HG.out n (by omega)).trans hgn3;have hgo4:=(HG.out (n+1) (by omega)).trans hgo3;have HG4:Aa (∀ b,b<n->gL b=g b):=⟨fun b hb=>(HG.out b (by omega)).trans (HG3.out b hb)⟩;by_cases hlt:k<S.length
 ·have hltI:(k:Int)<(S.length:Int):=by omega
  obtain⟨L,c,hgA3,hL⟩:=HSB3.out;have hA2' : A<n3:=by omega
  have hgA4:=Aa.mk hgA3;have HLS:=Aa.mk hL;have hgA:=(HG.out A (by omega)).trans hgA3;have hLl:=hL.2;obtain⟨a2,o2,qv,ha2,hia2,hc2,hq⟩:=HS.out.at hlt;rw[<- HG4.out a2 ha2] at hc2;obtain⟨hw9,hwi⟩:=HSW.out _ (Ds hlt);have HQ:=Aa.mk hq;have HB1:Aa (a4c (Al T E S)<S.length->er=12):=⟨fun h=>by
   rw[HER.out,if_pos];rw[HBD.out,decide_eq_true h];rfl⟩
  have HB2:Aa (Ca T S[k]=false->er=12):=⟨fun h=>by
   rw[HER.out,if_pos];rw[HBD.out,List.any_eq_true.2 ⟨S[k],Ds hlt,by rw[h];rfl⟩,g6h]⟩
  have HN2:Aa (¬a4c (Al T E S)<S.length->Ca T S[k]=true->∀ j (h:j<S.length),j<k+1->¬a4c (Al T E S)<S.length/\Ca T S[j]=true):=⟨fun h1 h2 j hj hjk=>by
   by_cases e:j=k
   ·subst e;exact⟨h1,h2⟩
   ·exact HN.out j hj (by omega)⟩
  clear hq hgA3 hL HN;generalize a4c (Al T E S)=dc at *;by_cases hd:dc<S.length
  ·have hdI:(dc:Int)<(S.length:Int):=by omega
   have he:=HB1.out hd;subst he;rw[<- hLl] at hd hdI;clear HB1 HB2 HN2 hLl HER
   iterate 8 all_goals try first|apply spl<;>intro h|simp (disch:=first|assumption|omega|simp) [*]
   refine HERR.out _ _ (by decide) (by omega) fun b hb=>?_;simp (disch:=omega) only[Ad,Ae];exact HG4.out b hb
  ·have hdI:¬(dc:Int)<(S.length:Int):=by omega
   have HN3:=Aa.mk (HN2.out hd);rw[<- hLl] at hd hdI;clear hLl HN2 HB1
   iterate 8 all_goals try first|apply spl<;>intro h|simp (disch:=first|assumption|omega|simp) [*]
   refine WC.mono (HCN.out _ (by omega) hwi _ _ qv (by omega) HG4.out (Af.mono (by omega) HG4.out HQ.out)) ?_;rintro _ ⟨g5,n5,rfl,hn5,hg5⟩;have HG5:Aa (∀ b,b<n->g5 b=g b):=⟨fun b hb=>(hg5 b (by omega)).trans (HG4.out b hb)⟩;have HK5:=Aa.mk hg5;have hgn5:=(hg5 n (by omega)).trans hgn4;have hgo5:=(hg5 (n+1) (by omega)).trans hgo4;have hgM5:=(hg5 n3 (by omega)).trans hgM;have hgX5:=(hg5 (n3+1) (by omega)).trans hgX;clear hg5 hgn4 hgo4 hgM hgX hgA
   cases hcn:Ca T S[k] with
   | false =>
    have he:=HB2.out hcn;subst he;clear hcn HB2 HN3 HER
    iterate 8 all_goals try first|apply spl<;>intro h|simp (disch:=first|assumption|omega|simp) [*]
    refine HERR.out _ _ (by decide) (by omega) fun b hb=>?_;simp (disch:=omega) only[Ad,Ae];exact HG5.out b hb
   | true =>
    have HN4:=Aa.mk (HN3.out hcn);clear hcn HB2 HN3;have hkc:k<cs.length:=by omega
    iterate 8 all_goals try first|apply spl<;>intro h|simp (disch:=first|assumption|omega|simp) [*]
    have hg53:∀ z,Ap (Ap g5 n5 z) n3 (some (.cells (cs.set k (.sl n5 0 I I)) true 0)) n5=z:=fun z=>by rw[Ae (by omega)];exact Ag
    refine LX.ind (fun m gf H'=>∃ (i n6:Nat) (gY:Gb) (Lr:List AV),i<=I/\m=I-i/\H'=⟨.fn gY,n6⟩/\n5+1<=n6/\Aa (∀ b,b<n5->b≠n3->gY b=g5 b)/\gY n3=some (.cells (cs.set k (.sl n5 0 I I)) true 0)/\gY n5=some (.cells Lr true 0)/\Lr.length=I*2/\Aa (Lr.take (i*2)=Bz ((Cv T E (Al T E S) I S[k]).take i)) /\
     gf 1=some (.ptr n 0)/\gf 2=some (.ptr (n+1) 0)/\gf 3=some (.li 0)/\gf 5=some (.map A)/\gf 6=some (.ptr (n3+1) 0)/\gf 7=some (.li k)/\gf 8=some qv/\gf 39=some sv/\gf 40=some (.li S.length)/\gf 41=some (.li k)/\gf 67=some (.li I)/\gf 68=some (.li i)) (m0:=I) ?_ ?_
    ·refine⟨0,_,_,_,Dt _,rfl,rfl,Dm _,⟨fun b h1 h2=>?_⟩,Ag,hg53 _,by rw[a8l];rfl,⟨rfl⟩,by simp[*]⟩;rw[Ae h2,Ad h1]
    clear hg53 w1 w2 w3 w5 w6 w39 w40 w41;rintro m2 gf2 H2 ⟨i,n6,gY,Lr,hi,rfl,rfl,hn6,HGY,hgY3,hgY5,hLr,HLr,w1,w2,w3,w5,w6,w7,w8,w39,w40,w41,w67,w68⟩ ih2;refine rnd pl31 (by decide +kernel) ?_;have HY0:Aa (∀ b,b<n->gY b=g b):=⟨fun b hb=>(HGY.out b (by omega) (by omega)).trans (HG5.out b hb)⟩;have hgnY:=(HGY.out n (by omega) (by omega)).trans hgn5;have hgoY:=(HGY.out (n+1) (by omega) (by omega)).trans hgo5;have hgXY:=(HGY.out (n3+1) (by omega) (by omega)).trans hgX5;by_cases hil:i<I
    ·have hilI:(i:Int)<(I:Int):=by omega
     have h1q:=HQ.out.one;have HBE:=Aa.mk (c1t (a:=S[k]) (b:=[(i:Int)]) (by omega) (by simp) (by simp) (Ap gY n6 (some (.cells [.li i] true 0))) (n6+1) qv (.sl n6 0 1 1) (Af.mono (by omega) (fun b hb=>(Ad (by omega)).trans (HY0.out b hb)) HQ.out) (Aj.of (own:=true) (z:=0) Ag (by omega)))
     iterate 8 all_goals try first|apply spl<;>intro h|simp (disch:=first|assumption|omega|simp) [*]
     refine WC.mono HBE.out ?_;rintro _ ⟨uv,g7,n7,rfl,hn7,hg7,hfu,hcu⟩;have HG7:Aa (∀ b,b<n6->g7 b=gY b):=⟨fun b hb=>(hg7 b (by omega)).trans (Ad hb)⟩;have hg7a:=(HG7.out n (by omega)).trans hgnY;have hg7b:=(HG7.out n3 (by omega)).trans hgY3;have hg7c:=(HG7.out n5 (by omega)).trans hgY5;have hg7d:=(HG7.out (n3+1) (by omega)).trans hgXY;have HEW:=Aa.mk (HED.out (S[k]++[(i:Int)]) (by simp) (by rw[Dr,Ef];omega) (c7i hwi hil) g7 n7 A uv (by omega) (fun b hb=>(HG7.out b (by omega)).trans (HY0.out b hb)) hfu.rep (by omega) ⟨L,c,(HG7.out A (by omega)).trans ((HGY.out A (by omega) (by omega)).trans ((HK5.out A (by omega)).trans ((HG.out A hA2').trans hgA4.out))),HLS.out⟩);have h1u:=hfu.rep.one;have HAT:=Aa.mk (d8r (T:=T) (E:=E) (R:=Al T E S) (w:=S[k]) hil);clear hg7 hfu hcu HBE hgnY hgoY hgY3 hgY5 hgXY;generalize b1e T E (Al T E S) (S[k]++[(i:Int)])=ed at *;obtain⟨e1,e2⟩:=ed
     iterate 8 all_goals try first|apply spl<;>intro h|simp (disch:=first|assumption|omega|simp) [*]
     refine WC.mono HEW.out ?_;rintro _ ⟨g8,n8,rfl,hn8,hg8⟩;have HG8:=Aa.mk hg8;have hg8a:=(hg8 n (by omega)).trans hg7a;have hg8b:=(hg8 n3 (by omega)).trans hg7b;have hg8c:=(hg8 n5 (by omega)).trans hg7c;have hg8d:=(hg8 (n3+1) (by omega)).trans hg7d;have hi2L:i*2+2<=Lr.length:=by omega
     have HPU:Aa ((Br Lr (i*2) [.li e1,.li e2]).length=I*2/\(Br Lr (i*2) [.li e1,.li e2]).take ((i+1)*2)=Bz ((Cv T E (Al T E S) I S[k]).take (i+1))):=⟨by
      have h2:i*2+([.li e1,.li e2] : List AV).length<=Lr.length:=hi2L;refine⟨by rw[a8k h2];exact hLr,?_⟩;rw[HAT.out,b2c,<- HLr.out,<- b2e h2,show (i+1)*2=i*2+2 by omega];rfl⟩
     clear hg8 HEW hg7a hg7b hg7c hg7d HAT
     iterate 8 all_goals try first|apply spl<;>intro h|simp (disch:=first|assumption|omega|simp) [*]
     refine ih2.out (I-(i+1)) _ _ (by omega) ⟨i+1,n8,_,Br Lr (i*2) [.li e1,.li e2],by omega,rfl,rfl,by omega,⟨fun b h1 h2=>?_⟩,?_,Ag.trans (by simp[Br]),HPU.out.1,⟨HPU.out.2⟩,by simp[*]⟩
     ·rw[Ae (by omega),HG8.out b (by omega),HG7.out b (by omega)];exact HGY.out b h1 h2
     ·rw[Ae (by omega)];exact hg8b
    ·have hilI:¬(i:Int)<(I:Int):=by omega
     have hiI2:i=I:=by omega
     have HRF:Aa (Lr=Bz (Cv T E (Al T E S) I S[k])):=⟨by
      have:=HLr.out;rw[hiI2,Ee (by omega),Ee (by rw[b3c];omega)] at this;exact this⟩
     have HHS:Aa (b1h T E (Al T E S) I S gY (n3+1+1) n6 (k+1) (cs.set k (.sl n5 0 I I))):=⟨HH.out.step hlt (by simp) (fun j hj=>by rw[g6e (by omega)]) (by rw[List.getElem?_set_self hkc]) (by omega) (by omega) (hgY5.trans (by rw[HRF.out])) (by omega) fun b h1 h2=>(HGY.out b (by omega) (by omega)).trans (HK5.out b h2)⟩;clear HH HLr ih2 HRF hgY5
     iterate 8 all_goals try first|apply spl<;>intro h|simp (disch:=first|assumption|omega|simp) [*]
     exact ih.out (S.length-(k+1)) _ _ (by omega) ⟨k+1,n6,gY,_,by omega,rfl,rfl,by omega,⟨fun b hb=>(HGY.out b (by omega) (by omega)).trans ((HK5.out b (by omega)).trans (HG.out b hb))⟩,hgY3,hgXY,by simp[hcl],HHS,HN4,by simp[*]⟩
 ·have hltI:¬(k:Int)<(S.length:Int):=by omega
  have hke:k=S.length:=by omega
  subst hke;have hbs:b1f T E S=false:=by
   have h1:=HN.out 0 hs0 hs0;rw[HBD.out,decide_eq_false h1.1,g5p,List.any_eq_false];intro w hw;obtain⟨j,hj,rfl⟩:=g5u hw;simp[(HN.out j hj hj).2]
  have he:er=0:=by rw[HER.out,hbs];rfl
  have HE0:Aa (er=0):=⟨he⟩;clear hbs he HN HER ih
  iterate 8 all_goals try first|apply spl<;>intro h|simp (disch:=first|assumption|omega|simp) [*]
  have hK:=HOK.out HE0.out (Ap gL (n+1) (some (.cells [.li I,.li O,.sl n3 0 S.length S.length] true 0))) n4 n3 (n3+1+1) cs (by omega) (fun b hb=>by rw[Ae (by omega)];exact HG4.out b hb) (by omega) (by rw[Ae (by omega)];exact hgM) ⟨HH.out.1,fun j hj hjk=>by
   obtain⟨B,h1,h2,h3,h4⟩:=HH.out.2 j hj hjk;exact⟨B,h1,h2,h3,by rw[Ae (by omega)];exact h4⟩⟩
  exact hK
end Go.Ai
end

