/- A small verified interpreter over names, its proofs, and what was proved with it. No condition. -/
import Derived.Test.YtpimmmnkcgnjjaaGreatL25
import Derived.Test.YtpimmmnkcgnjjaaGreatL29
import Derived.Test.YtpimmmnkcgnjjaaGreatL22
set_option linter.all false
set_option linter.deprecated false
section
namespace Go.Ai
open Go.Proofs Go.Proofs.Tryz
set_option maxRecDepth 10000
set_option maxHeartbeats 40000000
variable {n c d B n':Nat} {g g':Gb} {cs:List AV} {w:Wd} {l:Wq} {ts:Lq}
theorem b2s {a o:Nat} : Bf (.slq a o n c):=fun _ _ _ _ e=>by cases e
theorem c1b {b nX len:Nat} (hb:b<nX) (hc:c<b) (hd:b≠d) (h:g b=some (.cells (wdC w) true 1)) (hl:len=w.length) : WCR (Bo c d g) nX w (.slq b 0 len 0):=⟨g1v hb hc hd h hl,b2s⟩
theorem d8w {q:AV} (h:WCR (Bo c d g) n w q) : Ak g n w q:=Ag.ext (Dp _) (fun a x _ hx=>b7d a x hx) h.1
theorem WCR.keepTo {q:AV} (h:WCR (Bo c d g) n w q) (hn:n<=n') (hg:∀ a,a<n->c<a->a≠d->g' a=g a) : WCR (Bo c d g') n' w q:=⟨Ag.keepTo h.1 hn hg,h.2⟩
def a4e (g:Gb) (n:Nat) (l:Wq) (v:AV) : Prop:=∃ svs,Ag g n v l.length svs/\RowsR (WCR g n) l svs
theorem a4e.two {v:AV} (h:a4e (Bo c d g) n l v) : ∃ svs,Ag g n v l.length svs/\RowsR (WCR (Bo c d g) n) l svs :=
 let ⟨svs,h1,h2⟩:=h;⟨svs,Ag.ext (Dp _) (fun a x _ hx=>b7d a x hx) h1,h2⟩
theorem a4e.keepTo {v:AV} (h:a4e (Bo c d g) n l v) (hn:n<=n') (hg:∀ a,a<n->c<a->a≠d->g' a=g a) : a4e (Bo c d g') n' l v :=
 let ⟨svs,h1,h2⟩:=h;⟨svs,h1.keepTo hn hg,h2.mono fun x q hq=>hq.keepTo hn hg⟩
theorem Bh.keepX {g0:Gb} {lo:Nat} {sv:AV} (h:Bh g lo n B sv l.length 1 cs) (hn:lo<=n) (hc:c<lo) (hd:d<lo) (hg:∀ b,b<lo->g b=g0 b) (hr:RowsR (WCR (Bo c d g0) lo) l cs) : a4e (Bo c d g) n l sv :=
 ⟨cs,Ag.ext (Dp _) (fun a x _ hx=>by
  split at hx
  ·rename_i h1;unfold Bo;rw[if_pos ⟨by omega,by omega⟩];exact hx
  ·cases hx) h.slice,hr.mono fun x q hq=>hq.keepTo hn fun a h1 _ _=>hg a h1⟩
def RowsP (R:Wd->AV->Prop) (lo:Nat) (g:Gb) (n B:Nat) (ts:Lq) (cs:List AV) : Prop :=
 cs.length=ts.length*2/\∀ (k:Nat) (h:k<ts.length),∃ s1 s2,cs[k*2]?=some s1/\cs[k*2+1]?=some s2/\R ts[k].1 s1/\Bj g lo n B ts[k].2 s2/\Bf s2
theorem RowsP.keep {R:Wd->AV->Prop} {lo B': Nat} (h:RowsP R lo g n B ts cs) (h2:n<=n') (hB:n<=B'\/B'=B\/B' < lo) (hg:∀ a,lo<=a->a<n->a≠B->g' a=g a) : RowsP R lo g' n' B' ts cs :=
 ⟨h.1,fun k hk=>let ⟨s1,s2,h1,h3,h4,h5,h6⟩:=h.2 k hk;⟨s1,s2,h1,h3,h4,h5.keep (Dp _) h2 hB hg,h6⟩⟩
theorem RowsP.snoc {R:Wd->AV->Prop} {lo:Nat} (h:RowsP R lo g n B ts cs) {t:List Int×Wd} {s1 s2:AV} (h1:R t.1 s1) (h2:Bj g lo n B t.2 s2) (h6:Bf s2) : RowsP R lo g n B (ts++[t]) (cs++[s1,s2]):=by
 have hl:=h.1;refine⟨by simp[hl];omega,fun k hk=>?_⟩;rw[Dr,Em] at hk;by_cases hlt:k<ts.length
 ·obtain⟨t1,t2,e1,e2,e3,e4,e5⟩:=h.2 k hlt;refine⟨t1,t2,?_,?_,?_,?_,e5⟩
  ·rw[Ew (by omega)];exact e1
  ·rw[Ew (by omega)];exact e2
  ·rw[Ey hlt];exact e3
  ·rw[Ey hlt];exact e4
 ·have hk2:k=ts.length:=by omega
  subst hk2;refine⟨s1,s2,?_,?_,?_,?_,h6⟩
  ·rw[Eu (by omega),hl,g2o];rfl
  ·rw[Eu (by omega),hl,show ts.length*2+1-ts.length*2=1 by omega];rfl
  ·simpa using h1
  ·simpa using h2
def noB (B:Nat) (g:Gb) : Gb:=fun a=>if a=B then none else g a
theorem RowsP.rows {g0: Gb} {lo:Nat} (h:RowsP (WCR (Bo c d g0) lo) lo g n B ts cs) (hn:lo<=n) (hB:lo<=B) (hg:∀ a,a<lo->c<a->a≠d->g' a=g0 a) (hg2:∀ a,lo<=a->a<n->g' a=g a) : RowsT (noB B g') n ts cs :=
 ⟨h.1,fun k hk=>let ⟨s1,s2,h1,h3,h4,⟨gk,h5,h6⟩,_⟩:=h.2 k hk;⟨s1,s2,h1,h3,Ag.ext hn (fun a x ha hx=>by
  unfold Bo at hx;split at hx
  ·rename_i h7;unfold noB;rw[if_neg (by omega),hg a ha h7.1 h7.2];exact hx
  ·cases hx) h4.1,Ag.ext (Dp _) (fun a x ha hx=>by
  obtain⟨e1,e2,e3,e4⟩:=h5 a x hx;unfold noB;rw[if_neg e4,hg2 a e2 e3];exact e1) h6⟩⟩
theorem RowsP.caps {R:Wd->AV->Prop} (hR:∀ {w:Wd} {q:AV},R w q->Bf q) {lo:Nat} {g:Gb} {n B:Nat} {ts:Lq} {cs:List AV} (h:RowsP R lo g n B ts cs) : ∀ v∈cs,Bf v:=by
 intro v hv;obtain⟨k,hk,rfl⟩:=g3m hv;have hl:=h.1;obtain⟨s1,s2,e1,e2,e3,e4,e5⟩:=h.2 (k / 2) (by omega);have h2:k=k / 2*2\/k=k / 2*2+1:=by omega
 rcases h2 with h2|h2
 ·rw[<- h2,Dv hk] at e1;cases e1;exact hR e3
 ·rw[<- h2,Dv hk] at e2;cases e2;exact e5
theorem g2a {I:Nat} {O:Int} {T:Tq} (hI1:1<=I) (hI2:I<=16) (hO1:1<=O) (h0:0<T.length) (hl:T.length<=20000) (hgo:goT I O T 0 1=some T.length) (hLab:Lab T (Ax T)) (hE:(endsM T 0).length<=20000) (hWl:∀ t,t<T.length->((Ax T).getD t []).length<=900) (g:Gb) (n:Nat) (tv:AV) (hT:De g n T tv) :
  WC 0 prog 23 [.agg [.li I,.li O,tv]] ⟨.fn g,n⟩ fun r=>∃ lv lo B cs g' n',r=.ret (.agg [.li I,.li O,lv]) ⟨.fn g',n'⟩/\n<=n'/\(∀ b,b<n->g' b=g b)/\n<=lo/\Bh g' lo n' B lv (rbk (Ax T) [] (endsM T 0)).length 2 cs/\(0<(rbk (Ax T) [] (endsM T 0)).length->RowsT (noB B g') n' ((rbk (Ax T) [] (endsM T 0)).map fun w=>(w,Bb T 0 w)) cs/\∀ v∈cs,Bf v):=by
 have hlen:=@Am prog _ _ _ _ _ hT.choose_spec.1;have h1t:=hT.choose_spec.1.one;have hone:allOne [.li I,.li O,tv]=true:=by simp[h1t]
 have HOK:=Aa.mk (okT_of hgo);have HOE:Aa (∀ r∈T,(r.length:Int)=I/\∀ e∈r,okE T.length O e=true):=⟨fun r hr=>⟨(okT_of hgo r hr).1,(b3t hgo (Dp _) (Dp _) r hr).2⟩⟩;have HT:=Aa.mk hT;have HLB:=Aa.mk hLab;have HWL:=Aa.mk hWl;have HRW:=Aa.mk fun (gX:Gb) (n2:Nat) (hn:n<=n2) (hX:∀ b,b<n->gX b=g b)=>g1r I O T HOE.out (by omega) gX n2 tv ⟨by omega,fun r hr=>by have:=(HOE.out r hr).1;omega,(let ⟨svs,h1,h2,h3⟩:=hT.mono hn hX;⟨svs,h1,h2,h3⟩)⟩;have hwlen:=hLab.len;generalize Ax T=W at *;have HPR:=Aa.mk fun k=>d8g T k;have HST:=Aa.mk fun (k:Nat) (h:k<T.length)=>d8f h;obtain⟨E,hEE⟩ : ∃ E,E=endsM T 0:=⟨_,rfl⟩;rw[<- hEE] at hE |-;have HEE:=Aa.mk hEE;have HLEN:Aa (∀ k,(rbk W [] (endsM (T.take k) 0)).length<=20000):=⟨fun k=>by
  obtain⟨r,hr⟩:=HPR.out k;have h1:=c0x (W:=W) (endsM (T.take k) 0) [];rw[<- HEE.out] at hr;have h2:=congrArg List.length hr;rw[Dr] at h2;simp at h1;omega⟩
 clear hT hgo hLab hWl hEE;refine ent pl23 func23 rfl (by decide +kernel) (by kernel_rfl) ?_
 iterate 8 all_goals try first|apply spl<;>intro h|simp (disch:=first|assumption|omega|simp) [*]
 refine WC.mono (HRW.out _ _ (by omega) fun b hb=>by simp (disch:=omega) only[Ab]) ?_;rintro _ ⟨g1,n1,wv,rfl,hn1,hg1,hlw⟩;have HG1:Aa (∀ b,b<n->g1 b=g b):=⟨fun b hb=>(hg1 b (by omega)).trans (by simp (disch:=omega) only[Ab])⟩;have hx1:=hg1 n (by omega);have hx2:=hg1 (n+1) (by omega);simp (disch:=omega) only[Ab,Af] at hx1 hx2;have HLW:Aa (∃ svs,Ag g1 n1 wv W.length svs/\RowsR (WCR (Bo (n+1) n1 g1) n1) W svs):=⟨let ⟨svs,h1,h2,h3⟩:=hlw.ex;⟨svs,h1.lowOut,h2.1,fun k hk=>let ⟨q,e1,e2⟩:=h2.2 k hk;⟨q,e1,Ag.ext (Dp _) (fun a x ha hx=>by
  unfold a8t at hx;split at hx
  ·unfold Bo;rw[if_pos ⟨by omega,by omega⟩];exact hx
  ·cases hx) e2,h3 q (g2l e1)⟩⟩⟩
 have hlwv:=@Am prog _ _ _ _ _ hlw.low.v.choose_spec.1;rw[hwlen] at hlwv;clear hg1 HRW hlw
 iterate 8 all_goals try first|apply spl<;>intro h|simp (disch:=first|assumption|omega|simp) [*]
 refine LX.ind (fun m gf H'=>∃ (k n2:Nat) (gL:Gb) (L:Wq) (lv:AV),k<=T.length/\m=T.length-k/\H'=⟨.fn gL,n2⟩/\n1+1<=n2/\Aa (∀ b,b<n1->gL b=g1 b)/\gL n1=some (.cells [.li I,.li O,.nl] true 0)/\Aa (L=rbk W [] (endsM (T.take k) 0))/\Aa (a4e (Bo (n+1) n1 gL) n2 L lv)/\Aa (∀ x∈L,x.length<=1000) /\
  gf 1=some (.ptr n 0)/\gf 2=some (.ptr (n+1) 0)/\gf 3=some wv/\gf 4=some (.ptr n1 0)/\gf 5=some lv/\gf 6=some (.li k)) (m0:=T.length) ?_ ?_
 ·exact⟨0,_,_,[],_,Du _,rfl,rfl,Dp _,⟨fun b hb=>Ab hb⟩,Af,⟨rfl⟩,⟨⟨[],.inl ⟨rfl,rfl,.inl rfl⟩,rfl,fun k hk=>by cases hk⟩⟩,⟨fun x hx=>by cases hx⟩,by simp[*]⟩
 rintro m gf H' ⟨k,n2,gL,L,lv,hk,rfl,rfl,hn2,HG,hgl,HL,HLV,HLX,w1,w2,w3,w4,w5,w6⟩ ih;have hgn:=(HG.out n (by omega)).trans hx1;have hgz:=(HG.out (n+1) (by omega)).trans hx2;refine rnd pl23 (by decide +kernel) ?_;by_cases hlt:k<T.length
 ·have hltI:(k:Int)<(T.length:Int):=by omega
  have hLl:=HLEN.out k;rw[<- HL.out] at hLl;obtain⟨a1,o1,qw,ha1,hia1,hc1,hqw⟩:=c7o HLW.out (show k<W.length by omega);have hwk:W[k]'(by omega)=W.getD k []:=by rw[Dx,Dv (by omega)];rfl
  rw[hwk] at hqw;have hwkl:=HWL.out k hlt;obtain⟨a2,o2,q,ha2,hia2,hc2,hq⟩:=HT.out.at hlt;rw[<- HG1.out a2 ha2] at hc2;have HO1:=Aa.mk (HOE.out _ (Dt hlt));have hrl:(T[k]).length=I:=by have:=HO1.out.1;omega
  have HES:=Aa.mk (HST.out k hlt);have HPX:Aa (∀ i,i<=(T[k]).length->(rbk W [] (endsM (T.take k) 0++Cb k ((T[k]).take i) 0)).length<=20000):=⟨fun i hi=>by
   obtain⟨r,hr⟩:=HPR.out (k+1);rw[<- HEE.out,HES.out] at hr;have h2:Cb k T[k] 0=Cb k ((T[k]).take i) 0++Cb k ((T[k]).drop i) (0+((T[k]).take i).length):=by rw[<- c0t,g3b]
   unfold a1j at hr;rw[h2] at hr;have h3:=congrArg List.length hr;simp only[Dr] at h3;have h1:=c0x (W:=W) (endsM (T.take k) 0++Cb k ((T[k]).take i) 0) [];simp only[Dr,g5d] at h1;omega⟩
  have HQ:=Aa.mk hq;have HQW:=Aa.mk hqw;clear hq hqw hwk;generalize hrow:T[k]=row at *;clear hrow;generalize hwk:W.getD k []=wk at *;have HWK:=Aa.mk hwk;clear hwk
  iterate 8 all_goals try first|apply spl<;>intro h|simp (disch:=first|assumption|omega|simp) [*]
  refine LX.ind (fun m gf H'=>∃ (i n3:Nat) (gI:Gb) (L:Wq) (lv:AV) (last:Bool),i<=row.length/\m=row.length-i/\H'=⟨.fn gI,n3⟩/\n2<=n3/\Aa (∀ b,b<n1->gI b=g1 b)/\gI n1=some (.cells [.li I,.li O,.nl] true 0)/\Aa (L=rbk W [] (endsM (T.take k) 0++Cb k (row.take i) 0))/\L.length<=20000/\Aa (a4e (Bo (n+1) n1 gI) n3 L lv)/\Aa (∀ x∈L,x.length<=1000)/\Aa (last=Dm (row.take i)) /\
   gf 1=some (.ptr n 0)/\gf 2=some (.ptr (n+1) 0)/\gf 3=some wv/\gf 4=some (.ptr n1 0)/\gf 5=some lv/\gf 6=some (.li k)/\gf 7=some (.lit (.bool last))/\gf 8=some (.li i)) (m0:=row.length) ?_ ?_
  ·exact⟨0,n2,gL,L,lv,true,Du _,rfl,rfl,Dp _,HG,hgl,⟨by rw[HL.out];simp[Cb]⟩,hLl,HLV,HLX,⟨rfl⟩,by simp[*]⟩
  clear hgn hgz hgl HL HLV HLX hLl w1 w2 w3 w4 w5 w6;rintro m gf H' ⟨i,n3,gI,L,lv,last,hi,rfl,rfl,hn3,HGI,hgl,HL,hLl,HLV,HLX,HLS,w1,w2,w3,w4,w5,w6,w7,w8⟩ ih2;have hgn:=(HGI.out n (by omega)).trans hx1;have hgz:=(HGI.out (n+1) (by omega)).trans hx2;have hc1I:Bd (some (false,1)) (gI a1) (o1+k)=some qw:=by rw[HGI.out a1 ha1];exact hc1
  have hc2I:Bd (some (false,1)) (gI a2) (o2+k)=some q:=by rw[HGI.out a2 (by omega)];exact hc2
  have hv:Ag gI n3 qw wk.length (wdC wk):=HQW.out.1.keepOut (by omega) fun a h1 _ _=>HGI.out a h1;refine rnd pl23 (by decide +kernel) ?_;by_cases hil:i<row.length
  ·have hilI:(i:Int)<(I:Int):=by omega
   obtain⟨a3,o3,ha3,hia3,hc3⟩:=b4e HQ.out hil;rw[<- HG1.out a3 ha3,<- HGI.out a3 (by omega)] at hc3;have HE1:=Aa.mk (HO1.out.2 _ (Dt hil));have HRS:=Aa.mk (d8d (n:=k) hil);have HLT:=Aa.mk (d8e hil);have hPX:=HPX.out (i+1) (by omega);have HPN:=Aa.mk hPX;clear hPX;generalize row[i]=e at *;obtain⟨to,eo⟩:=e;dsimp only at HRS HLT hc3;have hoe:=HE1.out;unfold okE at hoe;rw[g3w,decide_eq_true_eq,decide_eq_true_eq] at hoe;dsimp only at hoe;by_cases ht:to = -1
   ·by_cases ho:eo = -2
    ·subst ht ho;rw[if_pos ⟨rfl,rfl⟩] at HRS;have HLN:Aa (false=Dm (row.take (i+1))):=⟨by rw[HLT.out];simp⟩;have HRK:Aa (rbk W [] (endsM (T.take k) 0++Cb k (row.take (i+1)) 0)=Bk (wk++[(i:Int)]) L):=⟨by
      rw[HRS.out,<- Er,d8q,<- HL.out];show Bk (eW W (k,(i:Int))) L=_;unfold eW;dsimp only;rw[if_neg (by omega),HWK.out]⟩
     rw[HRK.out] at HPN;have HLN2:Aa (∀ x∈Bk (wk++[(i:Int)]) L,x.length<=1000):=⟨fun x hx=>by
      rcases b2k.1 hx with h|h
      ·rw[h];simp;omega
      ·exact HLX.out x h⟩
     have HAD:=Aa.mk fun (gX:Gb) (nX:Nat) (wv' : AV) (hn:n3<=nX) (hX:∀ b,b<n3->gX b=gI b) (hW:WCR (Bo (n+1) n1 gX) nX (wk++[(i:Int)]) wv')=>d8v (l:=L) (w:=wk++[(i:Int)]) (by omega) (by simp;omega) HLX.out gX nX (R:=WCR (Bo (n+1) n1 gX) nX) (fun h=>d8w h) lv wv' (HLV.out.keepTo hn fun a h1 _ _=>hX a h1).two hW;clear HLT HRS HLS hoe HL;by_cases hne:wk.length=0
     ·have hnn:wk=[]:=g2i.1 hne;rw[hne] at hv;have hap:=fun {H:Mem} {ev:Ev} {d:Option Tmp} {ty:TypeId} {p:String} {af:Array Edge} {gd:Option (Nat×Bool)} {x y:Operand} {s t:TypeId} {a off:Nat} {hx:ev x=some (.sl a off 0 0)} {hy:ev y=some qw} (hp:(apI prog s t).isSome=true)=>Ag.ap00 (P:=prog) hv (H:=H) (ev:=ev) (d:=d) (ty:=ty) (p:=p) (af:=af) (gd:=gd) (x:=x) (y:=y) (a:=a) (off:=off) (hx:=hx) (hy:=hy) hp;have HNN:=Aa.mk hnn;clear hv hne hnn
      cases last with
      | true =>
       iterate 8 all_goals try first|apply spl<;>intro h|simp (disch:=first|assumption|omega|simp) [*]
       refine WC.mono (HAD.out _ _ _ (by omega) (fun b hb=>by simp (disch:=omega) only[Ab,Ae]) (c1b (b:=n3+1+1+1) (by omega) (by omega) (by omega) (Af.trans (by rw[HNN.out];rfl)) (by rw[HNN.out];rfl))) ?_;rintro _ ⟨ov,g5,n5,B,cs,rfl,hn5,hg5,hgr,hrw⟩;have HG5:Aa (∀ b,b<n3->g5 b=gI b):=⟨fun b hb=>(hg5 b (by omega)).trans (by simp (disch:=omega) only[Ab,Ae])⟩;have HLV5:Aa (a4e (Bo (n+1) n1 g5) n5 (Bk (wk++[(i:Int)]) L) ov):=⟨hgr.keepX hn5 (by omega) (by omega) hg5 hrw⟩;clear hg5 hgr hrw HAD
       iterate 8 all_goals try first|apply spl<;>intro h|simp (disch:=first|assumption|omega|simp) [*]
       exact ih2.out (row.length-(i+1)) _ _ (by omega) ⟨i+1,n5,g5,Bk (wk++[(i:Int)]) L,ov,false,by omega,rfl,rfl,by omega,⟨fun b hb=>(HG5.out b (by omega)).trans (HGI.out b hb)⟩,(HG5.out n1 (by omega)).trans hgl,⟨HRK.out.symm⟩,HPN.out,HLV5,HLN2,HLN,by simp[*]⟩
      | false =>
       iterate 8 all_goals try first|apply spl<;>intro h|simp (disch:=first|assumption|omega|simp) [*]
       refine WC.mono (HAD.out _ _ _ (by omega) (fun b hb=>by simp (disch:=omega) only[Ab,Ae]) (c1b (b:=n3+1+1+1) (by omega) (by omega) (by omega) (Af.trans (by rw[HNN.out];rfl)) (by rw[HNN.out];rfl))) ?_;rintro _ ⟨ov,g5,n5,B,cs,rfl,hn5,hg5,hgr,hrw⟩;have HG5:Aa (∀ b,b<n3->g5 b=gI b):=⟨fun b hb=>(hg5 b (by omega)).trans (by simp (disch:=omega) only[Ab,Ae])⟩;have HLV5:Aa (a4e (Bo (n+1) n1 g5) n5 (Bk (wk++[(i:Int)]) L) ov):=⟨hgr.keepX hn5 (by omega) (by omega) hg5 hrw⟩;clear hg5 hgr hrw HAD
       iterate 8 all_goals try first|apply spl<;>intro h|simp (disch:=first|assumption|omega|simp) [*]
       exact ih2.out (row.length-(i+1)) _ _ (by omega) ⟨i+1,n5,g5,Bk (wk++[(i:Int)]) L,ov,false,by omega,rfl,rfl,by omega,⟨fun b hb=>(HG5.out b (by omega)).trans (HGI.out b hb)⟩,(HG5.out n1 (by omega)).trans hgl,⟨HRK.out.symm⟩,HPN.out,HLV5,HLN2,HLN,by simp[*]⟩
     ·have hnp:0<wk.length:=by omega
      obtain⟨a9,blk,ha9,hga9,hap⟩:=Ag.ap0 (P:=prog) (sz:=1) hv hnp (by omega) (by rw[Bi,El]);have hwl1:(wdC wk).length=wk.length*1:=by rw[Bi,El]
      have hnl3:wk.length<=1000000:=by omega
      clear hv hne
      cases last with
      | true =>
       iterate 8 all_goals try first|apply spl<;>intro h|simp (disch:=first|assumption|omega|simp) [*]
       refine WC.mono (HAD.out _ _ _ (by omega) (fun b hb=>by simp (disch:=omega) only[Ab,Ae]) (c1b (b:=n3+1+1+1+1) (by omega) (by omega) (by omega) (Af.trans (by rw[a4v])) (by simp))) ?_;rintro _ ⟨ov,g5,n5,B,cs,rfl,hn5,hg5,hgr,hrw⟩;have HG5:Aa (∀ b,b<n3->g5 b=gI b):=⟨fun b hb=>(hg5 b (by omega)).trans (by simp (disch:=omega) only[Ab,Ae])⟩;have HLV5:Aa (a4e (Bo (n+1) n1 g5) n5 (Bk (wk++[(i:Int)]) L) ov):=⟨hgr.keepX hn5 (by omega) (by omega) hg5 hrw⟩;clear hg5 hgr hrw HAD
       iterate 8 all_goals try first|apply spl<;>intro h|simp (disch:=first|assumption|omega|simp) [*]
       exact ih2.out (row.length-(i+1)) _ _ (by omega) ⟨i+1,n5,g5,Bk (wk++[(i:Int)]) L,ov,false,by omega,rfl,rfl,by omega,⟨fun b hb=>(HG5.out b (by omega)).trans (HGI.out b hb)⟩,(HG5.out n1 (by omega)).trans hgl,⟨HRK.out.symm⟩,HPN.out,HLV5,HLN2,HLN,by simp[*]⟩
      | false =>
       iterate 8 all_goals try first|apply spl<;>intro h|simp (disch:=first|assumption|omega|simp) [*]
       refine WC.mono (HAD.out _ _ _ (by omega) (fun b hb=>by simp (disch:=omega) only[Ab,Ae]) (c1b (b:=n3+1+1+1+1) (by omega) (by omega) (by omega) (Af.trans (by rw[a4v])) (by simp))) ?_;rintro _ ⟨ov,g5,n5,B,cs,rfl,hn5,hg5,hgr,hrw⟩;have HG5:Aa (∀ b,b<n3->g5 b=gI b):=⟨fun b hb=>(hg5 b (by omega)).trans (by simp (disch:=omega) only[Ab,Ae])⟩;have HLV5:Aa (a4e (Bo (n+1) n1 g5) n5 (Bk (wk++[(i:Int)]) L) ov):=⟨hgr.keepX hn5 (by omega) (by omega) hg5 hrw⟩;clear hg5 hgr hrw HAD
       iterate 8 all_goals try first|apply spl<;>intro h|simp (disch:=first|assumption|omega|simp) [*]
       exact ih2.out (row.length-(i+1)) _ _ (by omega) ⟨i+1,n5,g5,Bk (wk++[(i:Int)]) L,ov,false,by omega,rfl,rfl,by omega,⟨fun b hb=>(HG5.out b (by omega)).trans (HGI.out b hb)⟩,(HG5.out n1 (by omega)).trans hgl,⟨HRK.out.symm⟩,HPN.out,HLV5,HLN2,HLN,by simp[*]⟩
    ·have ho1:eo = -1:=by omega
     subst ht ho1;rw[if_neg (by simp),Ej] at HRS;have HLN:Aa (last=Dm (row.take (i+1))):=⟨by rw[HLT.out,HLS.out];simp⟩;rw[<- HRS.out] at HL;clear HLT HLS hoe
     cases last with
     | true =>
      iterate 8 all_goals try first|apply spl<;>intro h|simp (disch:=first|assumption|omega|simp) [*]
      exact ih2.out (row.length-(i+1)) _ _ (by omega) ⟨i+1,_,_,L,lv,true,by omega,rfl,rfl,by omega,⟨fun b hb=>(Ab (by omega)).trans (HGI.out b hb)⟩,(Ab (by omega)).trans hgl,HL,hLl,⟨HLV.out.keepTo (by omega) fun b hb _ _=>Ab hb⟩,HLX,HLN,by simp[*]⟩
     | false =>
      iterate 8 all_goals try first|apply spl<;>intro h|simp (disch:=first|assumption|omega|simp) [*]
      exact ih2.out (row.length-(i+1)) _ _ (by omega) ⟨i+1,_,_,L,lv,false,by omega,rfl,rfl,by omega,⟨fun b hb=>(Ab (by omega)).trans (HGI.out b hb)⟩,(Ab (by omega)).trans hgl,HL,hLl,⟨HLV.out.keepTo (by omega) fun b hb _ _=>Ab hb⟩,HLX,HLN,by simp[*]⟩
   ·have ho:¬eo = -2:=by omega
    have ht1:¬to = -1:=ht;rw[if_neg (fun h=>ht h.1),Ej] at HRS;have HLN:Aa (false=Dm (row.take (i+1))):=⟨by rw[HLT.out];simp[ht]⟩;rw[<- HRS.out] at HL;clear HLT HLS hoe
    cases last with
    | true =>
     iterate 8 all_goals try first|apply spl<;>intro h|simp (disch:=first|assumption|omega|simp) [*]
     exact ih2.out (row.length-(i+1)) _ _ (by omega) ⟨i+1,_,_,L,lv,false,by omega,rfl,rfl,by omega,⟨fun b hb=>(Ab (by omega)).trans (HGI.out b hb)⟩,(Ab (by omega)).trans hgl,HL,hLl,⟨HLV.out.keepTo (by omega) fun b hb _ _=>Ab hb⟩,HLX,HLN,by simp[*]⟩
    | false =>
     iterate 8 all_goals try first|apply spl<;>intro h|simp (disch:=first|assumption|omega|simp) [*]
     exact ih2.out (row.length-(i+1)) _ _ (by omega) ⟨i+1,_,_,L,lv,false,by omega,rfl,rfl,by omega,⟨fun b hb=>(Ab (by omega)).trans (HGI.out b hb)⟩,(Ab (by omega)).trans hgl,HL,hLl,⟨HLV.out.keepTo (by omega) fun b hb _ _=>Ab hb⟩,HLX,HLN,by simp[*]⟩
  ·have hilI:¬(i:Int)<(I:Int):=by omega
   have hrt:row.take i=row:=Eo (by omega);rw[hrt] at HL HLS;clear hrt
   cases last with
   | true =>
    have HRK:Aa (rbk W [] (endsM (T.take (k+1)) 0)=Bk wk L):=⟨by
     rw[HES.out];unfold a1j;rw[if_pos HLS.out.symm,<- Er,d8q,<- HL.out];show Bk (eW W (k,-1)) L=_;unfold eW;dsimp only;rw[if_pos rfl,Ej,HWK.out]⟩
    have HLN2:Aa (∀ x∈Bk wk L,x.length<=1000):=⟨fun x hx=>by
     rcases b2k.1 hx with h|h
     ·rw[h];omega
     ·exact HLX.out x h⟩
    have HAD:=Aa.mk (d8v (l:=L) (w:=wk) (by omega) (by omega) HLX.out gI n3 (R:=WCR (Bo (n+1) n1 gI) n3) (fun h=>d8w h) lv qw HLV.out.two (HQW.out.keepTo (by omega) fun a h1 _ _=>HGI.out a h1));clear HLS hv
    iterate 8 all_goals try first|apply spl<;>intro h|simp (disch:=first|assumption|omega|simp) [*]
    refine WC.mono HAD.out ?_;rintro _ ⟨ov,g5,n5,B,cs,rfl,hn5,hg5,hgr,hrw⟩;have HG5:Aa (∀ b,b<n3->g5 b=gI b):=⟨hg5⟩;have HLV5:Aa (a4e (Bo (n+1) n1 g5) n5 (Bk wk L) ov):=⟨hgr.keepX hn5 (by omega) (by omega) hg5 hrw⟩;clear hg5 hgr hrw HAD
    iterate 8 all_goals try first|apply spl<;>intro h|simp (disch:=first|assumption|omega|simp) [*]
    exact ih.out (T.length-(k+1)) _ _ (by omega) ⟨k+1,n5,g5,Bk wk L,ov,by omega,rfl,rfl,by omega,⟨fun b hb=>(HG5.out b (by omega)).trans (HGI.out b hb)⟩,(HG5.out n1 (by omega)).trans hgl,⟨HRK.out.symm⟩,HLV5,HLN2,by simp[*]⟩
   | false =>
    have HRK:Aa (rbk W [] (endsM (T.take (k+1)) 0)=L):=⟨by
     rw[HES.out];unfold a1j;rw[if_neg (by rw[<- HLS.out];simp),Ej,<- HL.out]⟩
    clear HLS hv
    iterate 8 all_goals try first|apply spl<;>intro h|simp (disch:=first|assumption|omega|simp) [*]
    exact ih.out (T.length-(k+1)) _ _ (by omega) ⟨k+1,n3,gI,L,lv,by omega,rfl,rfl,by omega,HGI,hgl,⟨HRK.out.symm⟩,HLV,HLX,by simp[*]⟩
 ·have hltI:¬(k:Int)<(T.length:Int):=by omega
  have hke:k=T.length:=by omega
  have HLE:Aa (L=rbk W [] E):=⟨by rw[HL.out,Eo (by omega),<- HEE.out]⟩;have HPA:Aa (∀ w∈L,b2r T 0 w):=⟨fun w hw=>g1u HLB.out (by rw[<- HEE.out,<- HLE.out];exact hw)⟩;have hLl:=HLEN.out k;rw[<- HL.out] at hLl;rw[<- HLE.out];have hlenL:=@Am prog _ _ _ _ _ HLV.out.choose_spec.1;have h1lv:oneC lv=true:=HLV.out.choose_spec.1.one;clear HLE HL HLEN HST HPR HLB HWL HLW HEE hke
  iterate 8 all_goals try first|apply spl<;>intro h|simp (disch:=first|assumption|omega|simp) [*]
  refine LX.ind (fun m gf H'=>∃ (q n3 B:Nat) (gC:Gb) (sv:AV) (cs:List AV),q<=L.length/\m=L.length-q/\H'=⟨.fn gC,n3⟩/\n2<=n3/\B<n3/\Aa (∀ b,b<n2->b≠n1->gC b=gL b)/\gC n1=some (.cells [.li I,.li O,sv] true 0)/\Aa (Bh gC n2 n3 B sv q 2 cs)/\Aa (RowsP (WCR (Bo (n+1) n1 gL) n2) n2 gC n3 B ((L.take q).map fun w=>(w,Bb T 0 w)) cs) /\
   gf 1=some (.ptr n 0)/\gf 2=some (.ptr (n+1) 0)/\gf 4=some (.ptr n1 0)/\gf 5=some lv/\gf 10=some (.li q)) (m0:=L.length) ?_ ?_
  ·exact⟨0,n2,0,gL,_,[],Du _,rfl,rfl,Dp _,by omega,⟨fun _ _ _=>rfl⟩,hgl,⟨.inl ⟨rfl,rfl,rfl⟩⟩,⟨⟨rfl,fun k hk=>by simp at hk⟩⟩,by simp[*]⟩
  clear w1 w2 w3 w4 w5 w6 ih hgl;rintro m gf H' ⟨q,n3,B,gC,sv,cs,hq,rfl,rfl,hn3,hBn,HC,hgl,HGR,HRO,w1,w2,w4,w5,w10⟩ ih;have hcn:=(HC.out n (by omega) (by omega)).trans hgn;have hcz:=(HC.out (n+1) (by omega) (by omega)).trans hgz;refine rnd pl23 (by decide +kernel) ?_;by_cases hlq:q<L.length
  ·have hlqI:(q:Int)<(L.length:Int):=by omega
   have hL2:∃ svs,Ag gC n2 lv L.length svs/\RowsR (WCR (Bo (n+1) n1 gL) n2) L svs:=let ⟨svs,h1,h2⟩:=HLV.out;⟨svs,Ag.keepOut h1 (Dp _) fun a h1 _ h3=>HC.out a h1 h3,h2⟩;obtain⟨a1,o1,qv,ha1,hia1,hc1,hqv⟩:=c7o hL2 hlq;have hpw:=HPA.out _ (Dt hlq);have hwl:=HLX.out _ (Dt hlq);have HTK:Aa ((L.take (q+1)).map (fun w=>(w,Bb T 0 w))=(L.take q).map (fun w=>(w,Bb T 0 w))++[(L[q],Bb T 0 L[q])]):=⟨by rw[Cr hlq,g2r];rfl⟩;have HQV:=Aa.mk hqv;have hlw:=@Am prog _ _ _ _ _ hqv.1;have h1q:oneC qv=true:=hqv.1.one;have hcq:cellsOf qv=[qv]:=hqv.1.cell;have HPW:=Aa.mk hpw;clear hL2 hqv hpw;generalize L[q]=w at *;have h1sv:oneC sv=true:=HGR.out.one
   iterate 8 all_goals try first|apply spl<;>intro h|simp (disch:=first|assumption|omega|simp) [*]
   refine LX.ind (fun m gf H'=>∃ (j n4 B6:Nat) (gI:Gb) (rv:AV) (r:Wd) (x:Int),j<=w.length/\m=w.length-j/\H'=⟨.fn gI,n4⟩/\n3<=n4/\r.length<=j/\Aa (∀ b,b<n3->gI b=gC b)/\Aa (Bh gI n3 n4 B6 rv r.length 1 (wdC r))/\Aa (b2r T x (w.drop j))/\Aa (Bb T 0 w=r++Bb T x (w.drop j)) /\
    gf 1=some (.ptr n 0)/\gf 2=some (.ptr (n+1) 0)/\gf 4=some (.ptr n1 0)/\gf 5=some lv/\gf 10=some (.li q)/\gf 11=some (.li x)/\gf 12=some rv/\gf 13=some (.li j)) (m0:=w.length) ?_ ?_
   ·exact⟨0,n3,0,gC,_,[],0,Du _,rfl,rfl,Dp _,Dp _,⟨fun _ _=>rfl⟩,⟨.inl ⟨rfl,rfl,rfl⟩⟩,HPW,⟨rfl⟩,by simp[*]⟩
   clear w1 w2 w4 w5 w10 HPW;rintro m gf H' ⟨j,n4,B6,gI,rv,r,x,hj,rfl,rfl,hn4,hrj,HI,HG6,HPX,HRX,w1,w2,w4,w5,w10,w11,w12,w13⟩ ih2;have hin:=(HI.out n (by omega)).trans hcn;have hiz:=(HI.out (n+1) (by omega)).trans hcz;have HIL:=Aa.mk ((HI.out n1 (by omega)).trans hgl);have hc1I:Bd (some (false,1)) (gI a1) (o1+q)=some qv:=by rw[HI.out a1 (by omega)];exact hc1
   refine rnd pl23 (by decide +kernel) ?_;by_cases hjl:j<w.length
   ·have hjlI:(j:Int)<(w.length:Int):=by omega
    obtain⟨a2,o2,ha2,hia2,hc2⟩:=Ak.at (HQV.out.1.keepOut (g':=gI) (Dp _) fun a h1 _ h3=>(HI.out a (by omega)).trans (HC.out a h1 h3)) hjl;have hdr:w.drop j=w[j] :: w.drop (j+1):=Ef hjl;have hpx:=HPX.out;have hrx:=HRX.out;rw[hdr] at hpx hrx;obtain⟨a,jj,hat,hjt,rfl,hwj,hnx⟩:=hpx;rw[hwj] at hrx hc2;rw[c7g hat hjt] at hrx;obtain⟨a3,o3,tq,ha3,hia3,hc3,htq⟩:=HT.out.at hat;obtain⟨a4,o4,ha4,hia4,hc4⟩:=b4e htq hjt;have hTX:∀ b,b<n->gI b=g b:=fun b hb=>by rw[HI.out b (by omega),HC.out b (by omega) (by omega),HG.out b (by omega),HG1.out b hb]
    rw[<- hTX a3 ha3] at hc3;rw[<- hTX a4 ha4] at hc4;have HNX:=Aa.mk hnx;have HRY:=Aa.mk hrx;have hrll:(wdC r).length=r.length*1:=by rw[Bi,El]
    clear hdr hwj hnx hrx htq hTX HPX HRX;generalize T[a][jj]=e at *;obtain⟨to,eo⟩:=e;dsimp only at HNX HRY hc4
    iterate 1 all_goals try first|apply spl<;>intro h|simp (disch:=first|assumption|omega|simp) [*]
    refine Ac (fun ht=>?_) (fun ht=>?_)
    ·subst ht;rw[if_pos rfl] at HRY;rcases HG6.out with⟨h6,hc6,hs6⟩|⟨h6,hs6,hC1,hC2,hC3,hC4⟩
     ·subst hs6;have HZ:=Aa.mk (And.intro h6 hc6);clear h6 hc6
      iterate 2 all_goals try first|apply spl<;>intro h|simp (disch:=first|assumption|omega|simp) [*]
      have HFR:Aa (a1g (Aj (Aj (Aj gI n4 (some (Blk.cells [AV.lit (Value.int IntKind.i64 (-1)),AV.lit (Value.int IntKind.i64 eo)] true 0))) (n4+1) (some (Blk.cells [AV.lit (Value.int IntKind.i64 (-1))] true 0))) (n4+1+1) (some (Blk.cells [AV.lit (Value.int IntKind.i64 (-1))] true 1))) n3 (n4+1+1+1) (Bb T 0 w) (.slq (n4+1+1) 0 1 0)):=⟨by
       have hr0:r=[]:=g2i.1 HZ.out.1;rw[HRY.out,hr0];exact Bh.fresh (B:=n4+1+1) (.mk (cs:=[.li (-1)]) Af (by omega) (by omega) rfl) rfl⟩
      have hil:=HIL.out;have hone2:allOne [qv,.slq (n4+1+1) 0 1 0]=true:=by simp[h1q]
      rcases HGR.out with⟨k6,kc6,ks6⟩|⟨k6,ks6,kC1,kC2,kC3,kC4⟩
      ·subst ks6;have KZ:=Aa.mk (And.intro k6 kc6);clear k6 kc6
       iterate 8 all_goals try first|apply spl<;>intro h|simp (disch:=first|assumption|omega|simp) [*]
       refine ih.out (L.length-(q+1)) _ _ (by omega) ⟨q+1,n4+1+1+1+1+1,n4+1+1+1+1,_,.slq (n4+1+1+1+1) 0 (q+1) 0,cs++[qv,.slq (n4+1+1) 0 1 0],by omega,rfl,rfl,by omega,by omega,⟨fun b hb hb2=>?_⟩,?_,⟨.mk ?_ (by omega) (by omega) (by rw[KZ.out.2];simp[KZ.out.1])⟩,⟨?_⟩,by simp[*]⟩
       ·simp (disch:=omega) only[Ab,Ae];exact(HI.out b (by omega)).trans (HC.out b hb hb2)
       ·rw[KZ.out.1];simp (disch:=omega) only[Ab,Ae,Af]<;>rfl
       ·rw[KZ.out.2];simp (disch:=omega) only[Ab,Ae,Af];rfl
       ·rw[HTK.out];refine(HRO.out.keep (by omega) (.inl (by omega)) fun a h1 h2 h3=>?_).snoc HQV.out (HFR.out.safe (by omega) (by omega) (.inl (by omega)) fun a h1 h2=>?_) (by first|exact b2s|exact a8r HG6.out)
        ·simp (disch:=omega) only[Ab,Ae];exact HI.out a h2
        ·simp (disch:=omega) only[Ab,Ae]
      ·subst ks6;have kB:gI B=some (.cells cs true 2):=(HI.out B (by omega)).trans kC3;clear kC3
       iterate 8 all_goals try first|apply spl<;>intro h|simp (disch:=first|assumption|omega|simp) [*]
       refine ih.out (L.length-(q+1)) _ _ (by omega) ⟨q+1,n4+1+1+1+1+1,n4+1+1+1+1,_,.slq (n4+1+1+1+1) 0 (q+1) 0,cs++[qv,.slq (n4+1+1) 0 1 0],by omega,rfl,rfl,by omega,by omega,⟨fun b hb hb2=>?_⟩,?_,⟨.mk ?_ (by omega) (by omega) (by simp;omega)⟩,⟨?_⟩,by simp[*]⟩
       ·simp (disch:=omega) only[Ab,Ae];exact(HI.out b (by omega)).trans (HC.out b hb hb2)
       ·simp (disch:=omega) only[Ab,Ae,Af]<;>rfl
       ·simp (disch:=omega) only[Ab,Ae,Af]
       ·rw[HTK.out];refine(HRO.out.keep (by omega) (.inl (by omega)) fun a h1 h2 h3=>?_).snoc HQV.out (HFR.out.safe (by omega) (by omega) (.inl (by omega)) fun a h1 h2=>?_) (by first|exact b2s|exact a8r HG6.out)
        ·simp (disch:=omega) only[Ab,Ae];exact HI.out a h2
        ·simp (disch:=omega) only[Ab,Ae]
     ·subst hs6
      iterate 2 all_goals try first|apply spl<;>intro h|simp (disch:=first|assumption|omega|simp) [*]
      have HFR:Aa (a1g (Aj (Aj (Aj (Aj gI n4 (some (Blk.cells [AV.lit (Value.int IntKind.i64 (-1)),AV.lit (Value.int IntKind.i64 eo)] true 0))) (n4+1) (some (Blk.cells [AV.lit (Value.int IntKind.i64 (-1))] true 0))) B6 none) (n4+1+1) (some (Blk.cells (wdC r++[AV.lit (Value.int IntKind.i64 (-1))]) true 1))) n3 (n4+1+1+1) (Bb T 0 w) (.slq (n4+1+1) 0 (r.length+1) 0)):=⟨by
       rw[HRY.out];exact Bh.fresh (B:=n4+1+1) (.mk (cs:=wdC (r++[-1])) (Af.trans (by rw[a4v])) (by omega) (by omega) (by rw[Bi];simp)) (by simp)⟩
      have hil:=HIL.out;have hone2:allOne [qv,.slq (n4+1+1) 0 (r.length+1) 0]=true:=by simp[h1q]
      rcases HGR.out with⟨k6,kc6,ks6⟩|⟨k6,ks6,kC1,kC2,kC3,kC4⟩
      ·subst ks6;have KZ:=Aa.mk (And.intro k6 kc6);clear k6 kc6
       iterate 8 all_goals try first|apply spl<;>intro h|simp (disch:=first|assumption|omega|simp) [*]
       refine ih.out (L.length-(q+1)) _ _ (by omega) ⟨q+1,n4+1+1+1+1+1,n4+1+1+1+1,_,.slq (n4+1+1+1+1) 0 (q+1) 0,cs++[qv,.slq (n4+1+1) 0 (r.length+1) 0],by omega,rfl,rfl,by omega,by omega,⟨fun b hb hb2=>?_⟩,?_,⟨.mk ?_ (by omega) (by omega) (by rw[KZ.out.2];simp[KZ.out.1])⟩,⟨?_⟩,by simp[*]⟩
       ·simp (disch:=omega) only[Ab,Ae];exact(HI.out b (by omega)).trans (HC.out b hb hb2)
       ·rw[KZ.out.1];simp (disch:=omega) only[Ab,Ae,Af]<;>rfl
       ·rw[KZ.out.2];simp (disch:=omega) only[Ab,Ae,Af];rfl
       ·rw[HTK.out];refine(HRO.out.keep (by omega) (.inl (by omega)) fun a h1 h2 h3=>?_).snoc HQV.out (HFR.out.safe (by omega) (by omega) (.inl (by omega)) fun a h1 h2=>?_) (by first|exact b2s|exact a8r HG6.out)
        ·simp (disch:=omega) only[Ab,Ae];exact HI.out a h2
        ·simp (disch:=omega) only[Ab,Ae]
      ·subst ks6;have kB:gI B=some (.cells cs true 2):=(HI.out B (by omega)).trans kC3;clear kC3
       iterate 8 all_goals try first|apply spl<;>intro h|simp (disch:=first|assumption|omega|simp) [*]
       refine ih.out (L.length-(q+1)) _ _ (by omega) ⟨q+1,n4+1+1+1+1+1,n4+1+1+1+1,_,.slq (n4+1+1+1+1) 0 (q+1) 0,cs++[qv,.slq (n4+1+1) 0 (r.length+1) 0],by omega,rfl,rfl,by omega,by omega,⟨fun b hb hb2=>?_⟩,?_,⟨.mk ?_ (by omega) (by omega) (by simp;omega)⟩,⟨?_⟩,by simp[*]⟩
       ·simp (disch:=omega) only[Ab,Ae];exact(HI.out b (by omega)).trans (HC.out b hb hb2)
       ·simp (disch:=omega) only[Ab,Ae,Af]<;>rfl
       ·simp (disch:=omega) only[Ab,Ae,Af]
       ·rw[HTK.out];refine(HRO.out.keep (by omega) (.inl (by omega)) fun a h1 h2 h3=>?_).snoc HQV.out (HFR.out.safe (by omega) (by omega) (.inl (by omega)) fun a h1 h2=>?_) (by first|exact b2s|exact a8r HG6.out)
        ·simp (disch:=omega) only[Ab,Ae];exact HI.out a h2
        ·simp (disch:=omega) only[Ab,Ae]
    ·rw[if_neg ht] at HRY;have HN2:Aa (b2r T to (w.drop (j+1))):=⟨HNX.out.resolve_left ht⟩;rcases HG6.out with⟨h6,hc6,hs6⟩|⟨h6,hs6,hC1,hC2,hC3,hC4⟩
     ·subst hs6;have HZ:=Aa.mk (And.intro h6 hc6);clear h6 hc6
      iterate 8 all_goals try first|apply spl<;>intro h|simp (disch:=first|assumption|omega|simp) [*]
      refine ih2.out (w.length-(j+1)) _ _ (by omega) ⟨j+1,n4+1+1+1,n4+1+1,_,.slq (n4+1+1) 0 (r.length+1) 0,r++[eo],to,by omega,rfl,rfl,by omega,by simp;omega,⟨fun b hb=>?_⟩,⟨?_⟩,HN2,⟨by rw[HRY.out];simp⟩,by simp[*],by simp[*],by simp[*],by simp[*],by simp[*],by simp,by simp[HZ.out.1],by simp⟩
      ·simp (disch:=omega) only[Ab,Ae];exact HI.out b hb
      ·rw[Dr,Em];refine .mk ?_ (by omega) (by omega) (by rw[Bi];simp);rw[a4v,HZ.out.2];simp (disch:=omega) only[Ab,Ae,Af];rfl
     ·subst hs6
      iterate 8 all_goals try first|apply spl<;>intro h|simp (disch:=first|assumption|omega|simp) [*]
      refine ih2.out (w.length-(j+1)) _ _ (by omega) ⟨j+1,n4+1+1+1,n4+1+1,_,.slq (n4+1+1) 0 (r.length+1) 0,r++[eo],to,by omega,rfl,rfl,by omega,by simp;omega,⟨fun b hb=>?_⟩,⟨?_⟩,HN2,⟨by rw[HRY.out];simp⟩,by simp[*]⟩
      ·simp (disch:=omega) only[Ab,Ae];exact HI.out b hb
      ·rw[Dr,Em];refine .mk ?_ (by omega) (by omega) (by rw[Bi];simp);rw[a4v];simp (disch:=omega) only[Ab,Ae,Af]
   ·have hjlI:¬(j:Int)<(w.length:Int):=by omega
    have h1r:oneC rv=true:=HG6.out.one;have hcr:cellsOf rv=[rv]:=HG6.out.slice.cell
    iterate 2 all_goals try first|apply spl<;>intro h|simp (disch:=first|assumption|omega|simp) [*]
    have HFR:Aa (a1g gI n3 n4 (Bb T 0 w) rv):=⟨by
     have h1:=HRX.out;rw[Ex (by omega)] at h1;rw[h1,show Bb T x []=[] from rfl,Ej];exact HG6.out.fresh rfl⟩
    have hil:=HIL.out;have hone2:allOne [qv,rv]=true:=by simp[h1q,h1r]
    rcases HGR.out with⟨k6,kc6,ks6⟩|⟨k6,ks6,kC1,kC2,kC3,kC4⟩
    ·subst ks6;have KZ:=Aa.mk (And.intro k6 kc6);clear k6 kc6
     iterate 8 all_goals try first|apply spl<;>intro h|simp (disch:=first|assumption|omega|simp) [*]
     refine ih.out (L.length-(q+1)) _ _ (by omega) ⟨q+1,n4+1+1,n4+1,_,.slq (n4+1) 0 (q+1) 0,cs++[qv,rv],by omega,rfl,rfl,by omega,by omega,⟨fun b hb hb2=>?_⟩,?_,⟨.mk ?_ (by omega) (by omega) (by rw[KZ.out.2];simp[KZ.out.1])⟩,⟨?_⟩,by simp[*]⟩
     ·simp (disch:=omega) only[Ab,Ae];exact(HI.out b (by omega)).trans (HC.out b hb hb2)
     ·rw[KZ.out.1];simp (disch:=omega) only[Ab,Ae,Af]<;>rfl
     ·rw[KZ.out.2];simp (disch:=omega) only[Ab,Ae,Af];rfl
     ·rw[HTK.out];refine(HRO.out.keep (by omega) (.inl (by omega)) fun a h1 h2 h3=>?_).snoc HQV.out (HFR.out.safe (by omega) (by omega) (.inl (by omega)) fun a h1 h2=>?_) (by first|exact b2s|exact a8r HG6.out)
      ·simp (disch:=omega) only[Ab,Ae];exact HI.out a h2
      ·simp (disch:=omega) only[Ab,Ae]
    ·subst ks6;have kB:gI B=some (.cells cs true 2):=(HI.out B (by omega)).trans kC3;clear kC3
     iterate 8 all_goals try first|apply spl<;>intro h|simp (disch:=first|assumption|omega|simp) [*]
     refine ih.out (L.length-(q+1)) _ _ (by omega) ⟨q+1,n4+1+1,n4+1,_,.slq (n4+1) 0 (q+1) 0,cs++[qv,rv],by omega,rfl,rfl,by omega,by omega,⟨fun b hb hb2=>?_⟩,?_,⟨.mk ?_ (by omega) (by omega) (by simp;omega)⟩,⟨?_⟩,by simp[*]⟩
     ·simp (disch:=omega) only[Ab,Ae];exact(HI.out b (by omega)).trans (HC.out b hb hb2)
     ·simp (disch:=omega) only[Ab,Ae,Af]<;>rfl
     ·simp (disch:=omega) only[Ab,Ae,Af]
     ·rw[HTK.out];refine(HRO.out.keep (by omega) (.inl (by omega)) fun a h1 h2 h3=>?_).snoc HQV.out (HFR.out.safe (by omega) (by omega) (.inl (by omega)) fun a h1 h2=>?_) (by first|exact b2s|exact a8r HG6.out)
      ·simp (disch:=omega) only[Ab,Ae];exact HI.out a h2
      ·simp (disch:=omega) only[Ab,Ae]
  ·have hlqI:¬(q:Int)<(L.length:Int):=by omega
   have h1sv:oneC sv=true:=HGR.out.one;have hone8:allOne [.li I,.li O,sv]=true:=by simp[h1sv]
   iterate 8 all_goals try first|apply spl<;>intro h|simp (disch:=first|assumption|omega|simp) [*]
   have hqL:q=L.length:=by omega
   have hRO:=HRO.out;rw[Eo (by omega)] at hRO;subst hqL;rw[Eo (Dp _)] at *;refine⟨sv,n2,B,cs,_,_,⟨rfl,rfl,rfl⟩,by omega,fun b hb=>?_,by omega,HGR.out.keep (Dp _) (fun h1 h2=>Ae (by omega)),fun h0=>?_⟩
   ·rw[Ab (by omega),HC.out b (by omega) (by omega),HG.out b (by omega)];exact HG1.out b hb
   ·have hB:n2<=B:=by
     rcases HGR.out with⟨h1,_⟩|⟨_,_,h1,_⟩
     ·omega
     ·exact h1
    exact⟨HRO.out.rows (by omega) hB (fun a h1 h2 h3=>by rw[Ae (by omega),HC.out a h1 h3]) (fun a h1 h2=>Ae (by omega)),HRO.out.caps (fun h=>h.2)⟩
end Go.Ai
end

