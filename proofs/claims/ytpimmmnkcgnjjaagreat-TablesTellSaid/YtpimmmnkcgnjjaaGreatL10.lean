/- A small verified interpreter over names, its proofs, and what was proved with it. No condition. -/
import Derived.Test.YtpimmmnkcgnjjaaGreatL09
import Derived.Test.YtpimmmnkcgnjjaaGreatL08
set_option linter.all false
set_option linter.deprecated false
section
namespace Go.Ai
open Go.Proofs Go.Proofs.Tryz
set_option maxRecDepth 10000
set_option maxHeartbeats 40000000
def a4y (ws os:Wq) : Wd:=os.map fun x=>((ws.idxOf x:Nat) : Int)
structure RowsC (g:Gb) (lo n I:Nat) (rows:Tq) (bs:List Nat) : Prop where
 len:bs.length=rows.length
 at' : ∀ (k:Nat) (h:k<bs.length) (h' : k<rows.length),lo<=bs[k]/\bs[k] < n/\g bs[k]=some (.cells (Aq rows[k]) true 2)/\rows[k].length=I
theorem RowsC.snoc {g g': Gb} {lo n n' I:Nat} {rows:Tq} {bs:List Nat} (h:RowsC g lo n I rows bs) (hn:n<=n') (hg:∀ a,lo<=a->a<n->g' a=g a) {b:Nat} {row:List (Int×Int)} (h1:lo<=b) (h2:b<n') (h3:g' b=some (.cells (Aq row) true 2)) (h4:row.length=I) : RowsC g' lo n' I (rows++[row]) (bs++[b]):=by
 have hl:=h.len;refine⟨by simp[hl],fun k k1 k2=>?_⟩;rw[Dr,Em] at k1;by_cases hk:k<bs.length
 ·obtain⟨e1,e2,e3,e4⟩:=h.at' k hk (by omega);rw[Ey hk,Ey (by omega)];exact⟨e1,by omega,(hg _ e1 e2).trans e3,e4⟩
 ·rw[g3l (by omega),g3l (by omega)];simp;exact⟨h1,h2,h3,h4⟩
theorem f8h {V:Wd->Option Int} {ws:Wq} {I:Nat} {O:Int} (hI1:1<=I) (hI:I<=16) (hN:Nod V ws) (hV:∀ x o,V x=some o->o ≠ -1->0<=o/\o<O) (hIn:∀ (x:Wd) (i o:Int),V (x++[i])=some o->0<=i/\i<(I:Int)) (h0:ws[0]?=some []) (hwl:ws.length<=100000) (lo n B:Nat) (g:Gb) (sv:AV) (bs:List Nat)
  (hrb:RowsB g lo n I (Bu V ws I) bs) (hB:B<n) (hgb:(ws.length=1/\sv=.sl B 0 1 1/\g B=some (.cells (Cs I bs) true 0))\/(sv=.slq B 0 ws.length 0/\g B=some (.cells (Cs I bs) true 1))) :
  WC 0 prog 107 [sv] ⟨.fn g,n⟩ fun r=>∃ g' n' bs' os,r=.ret (.sl (n+1) 0 ws.length ws.length) ⟨.fn g',n'⟩/\n+2<=n'/\(∀ b,b<n->g' b=g b)/\Bfs V ws I O os.length os/\os.length=ws.length/\RowsC g' n n' I (Bu V os I) bs'/\g' (n+1)=some (.cells (Cs I bs') true 0):=by
 have hv:Ag g n sv ws.length (Cs I bs):=by
  rcases hgb with⟨e1,rfl,e3⟩|⟨rfl,e3⟩
  ·rw[e1];exact a2v e3 hB
  ·exact .inr ⟨B,0,hB,.inr ⟨0,rfl⟩,Cs I bs,true,1,e3,by simp[*]⟩
 have hlen:=@Am prog _ _ _ _ _ hv;have HV:=Aa.mk hv;have hbl:bs.length=ws.length:=by rw[hrb.len,a3q]
 have HRB:=Aa.mk hrb;have HN:=Aa.mk hN;have HVV:=Aa.mk hV;have HIN:=Aa.mk hIn;have hW1:1<=ws.length:=by
  have:=Ea.1 h0;obtain⟨h,_⟩:=this;omega
 have HW0:Aa ([]∈ws):=⟨g2l h0⟩;have HI0:Aa (ws.idxOf []=0):=⟨by
  cases ws with
  | nil=>simp at h0
  | cons a l=>simp at h0;subst h0;simp⟩
 have hW2:(ws.length:Int)<=1048576:=by omega
 have hW3:(1:Int)<=(ws.length:Int):=by omega
 clear hv hgb hrb hN hV hIn h0;refine ent [] func107 rfl (by decide +kernel) (by kernel_rfl) ?_
 iterate 8 all_goals try first|apply spl<;>intro h|simp (disch:=first|assumption|omega|simp) [*]
 refine LX.ind (fun m gf H'=>∃ (q n' : Nat) (gL:Gb) (os:Wq) (bk:List Nat) (Lo Lr:List AV),q<=os.length/\os.length<=ws.length/\m=ws.length-q/\H'=⟨.fn gL,n'⟩/\n+1+1<=n'/\Aa (∀ b,b<n->gL b=g b) /\
  gL n=some (.cells Lo true 0)/\Lo.length=ws.length/\Aa (Lo.take os.length=wdC (a4y ws os))/\gL (n+1)=some (.cells Lr true 0)/\Lr.length=ws.length/\Aa (Lr.take q=Cs I bk)/\Aa (RowsC gL (n+1+1) n' I ((os.take q).map (Av V os I)) bk)/\Aa (Bfs V ws I O q os) /\
  gf 0=some sv/\gf 3=some (.sl n 0 os.length ws.length)/\gf 4=some (.sl (n+1) 0 q ws.length)/\gf 5=some (.li q)) (m0:=ws.length) ?_ ?_
 ·refine⟨0,_,_,[[]],[],rep [.li 0] ws.length,rep [.nl] ws.length,by simp,by simpa using hW1,rfl,rfl,Dp _,⟨fun b hb=>?_⟩,?_,?_,⟨?_⟩,?_,?_,⟨rfl⟩,⟨⟨rfl,fun k h=>by cases h⟩⟩,⟨Bfs.zero HW0.out⟩,by simp[*]⟩
  ·simp (disch:=omega) only[Ab]
  ·simp (disch:=omega) only[Ab,Af]
  ·rw[b3r];simp
  ·have e:a4y ws [[]]=[0]:=by unfold a4y;simp[HI0.out]
   rw[e];obtain⟨W,hW⟩ : ∃ W,ws.length=W+1:=⟨ws.length-1,by omega⟩;rw[hW,b8v];rfl
  ·simp (disch:=omega) only[Ab,Af]
  ·rw[b3r];simp
 rintro m gf H' ⟨q,n',gL,os,bk,Lo,Lr,hq,hos,rfl,rfl,hn',HG,hgo,hLo,HLo,hgr,hLr,HLr,HRR,HBF,w0,w3,w4,w5⟩ ih;refine rnd [] (by decide +kernel) ?_;by_cases hlt:q<os.length
 ·have hltI:(q:Int)<(os.length:Int):=by omega
  have hmem:os[q]∈ws:=HBF.out.sub _ (Dt hlt);have ha:ws.idxOf os[q] < ws.length:=List.idxOf_lt_length_of_mem hmem;have hat:ws[ws.idxOf os[q]]=os[q]:=List.getElem_idxOf ha;have hLq:Lo[q]?=some (.li ((ws.idxOf os[q] : Nat) : Int)):=by
   have h1:(Lo.take os.length)[q]?=Lo[q]?:=by rw[g4v,if_pos hlt]
   rw[<- h1,HLo.out,a4c _ q (by simp[a4y];exact hlt)];simp[a4y]
  have hab:ws.idxOf os[q] < bs.length:=by omega
  obtain⟨l1,l2,l3,l4⟩:=HRB.out.at' _ hab (by rw[a3q];exact ha);have hrr:(Bu V ws I)[ws.idxOf os[q]]'(by rw[a3q];exact ha)=Av V ws I os[q]:=by simp only[Bu,g2m,hat]
  rw[hrr] at l3 l4;clear hrr hat hmem;obtain⟨a2,off,ha2,hrow,hia⟩:=Ag.ia (P:=prog) (Ag.mono (Dp n) HG.out HV.out) ha 1;simp only[El] at hia;have hcell:=hrow.one (k:=ws.idxOf os[q]) (s:=1) (by rw[b4d];exact hab);rw[c6i hab] at hcell;clear hrow;have HST:=Aa.mk (HBF.out.step HN.out HVV.out hlt);have HLE:=Aa.mk HST.out.1.len;have HOR:Aa (oldE (Av V ws I os[q])=a4y ws (chL V os[q] (List.range I))):=⟨d6f (List.range I)⟩;have hgb2:=(HG.out _ l2).trans l3;have HGO:Aa ((os++chL V os[q] (List.range I)).take (q+1)=os.take q++[os[q]]):=⟨by rw[g3c (by omega)];exact Cr hlt⟩;have HBR:=Aa.mk (HBF.out.rows (chL V os[q] (List.range I)));have HRW:Aa (numE os.length (Av V ws I os[q])=Av V (os++chL V os[q] (List.range I)) I os[q]):=⟨HST.out.2⟩;have HB1:Aa (Bfs V ws I O (q+1) (os++chL V os[q] (List.range I))):=⟨HST.out.1⟩;clear HST;generalize hre:Av V ws I os[q]=row at *;generalize bs[ws.idxOf os[q]]=b at *;generalize ws.idxOf os[q]=a at *;generalize chL V os[q] (List.range I)=cs at *;clear l3 l1 hre;have hLq2:Lo[q]'(by omega)=.li (a:Int):=(Ea.1 hLq).2;have l5:gL b=some (.cells (Aq row) true 0):=hgb2;clear hgb2;have hcl:=HLE.out;rw[Dr] at hcl;have hoc:(oldE row).length=cs.length:=by rw[HOR.out];simp[a4y]
  have hoT:∀ i,(oldE (row.take i)).length<=cs.length:=fun i=>by rw[<- hoc];exact oldE_take row i
  have HOT:=Aa.mk hoT;clear hoT;subst l4;have hbn' : b<n':=by omega
  iterate 8 all_goals try first|apply spl<;>intro h|simp (disch:=first|assumption|omega|simp) [*]
  refine WC.mono (f8c (by omega) (by omega) gL n' b hbn' l5) ?_;rintro _ ⟨g2,rfl,hg2,hg3⟩;have HG2:=Aa.mk hg2;clear hg2
  iterate 8 all_goals try first|apply spl<;>intro h|simp (disch:=first|assumption|omega|simp) [*]
  refine WC.mono (d6m (by omega) _) ?_;rintro _ rfl
  iterate 8 all_goals try first|apply spl<;>intro h|simp (disch:=first|assumption|omega|simp) [*]
  refine LX.ind (fun m gf H'=>∃ (i n2 c:Nat) (gI:Gb) (Lo:List AV),i<=row.length/\m=row.length-i/\H'=⟨.fn gI,n2⟩/\n'+1+1<=n2/\Aa (∀ x,x<n'->x≠n->gI x=gL x)/\gI n=some (.cells Lo true 0)/\Lo.length=ws.length/\Aa (c=os.length+(oldE (row.take i)).length)/\c<=ws.length/\Aa (Lo.take c=wdC (a4y ws os++oldE (row.take i))) /\
   gI (n'+1)=some (.cells (Aq (a1t os.length row i)) true 2)/\gf 0=some sv/\gf 3=some (.sl n 0 c ws.length)/\gf 4=some (.sl (n+1) 0 q ws.length)/\gf 5=some (.li q)/\gf 6=some (.sl (n'+1) 0 row.length row.length)/\gf 30=some (.sl (n'+1) 0 row.length row.length)/\gf 31=some (.li row.length)/\gf 32=some (.li i)) (m0:=row.length) ?_ ?_
  ·refine⟨0,_,os.length,g2,Lo,Du _,rfl,rfl,by omega,⟨fun x h _=>HG2.out x h⟩,(HG2.out n (by omega)).trans hgo,hLo,⟨by simp[oldE]⟩,hos,⟨by rw[HLo.out];simp[oldE]⟩,?_,by simp[*]⟩;rw[hg3];simp[a1t,numE]
  clear HLo hLo hgo hLq hLq2 hg3 w0 w3 w4 w5 hlen hcell hia;rintro m gf H' ⟨i,n2,c,gI,Lo,hi,rfl,rfl,hn2,HGI,hgn,hLo,HC,hcw,HLo,hgp,v0,v3,v4,v5,v6,v30,v31,v32⟩ ih2;refine rnd [] (by decide +kernel) ?_;by_cases hil:i<row.length
  ·have hilI:(i:Int)<(row.length:Int):=by omega
   have hPl:=@d6n os.length row i;have hPi:=f8d (k:=os.length) hil;have HST:=Aa.mk (f8e (k:=os.length) hil);have HOS:Aa (oldE (row.take (i+1))=oldE (row.take i)++(if row[i].1 = -1 then [] else [row[i].1])):=⟨by rw[Cr hil,c6k]⟩;have hPil:i<(a1t os.length row i).length:=by omega
   have hra:=rowC_at (a1t os.length row i) i hPil;rw[hPi] at hra;have HR0:=Aa.mk (f8g hPil);rw[hPi] at HR0;have hot1:=HOT.out (i+1);rw[HOS.out,Dr] at hot1;have hcc:=HC.out;have hRl:=rowC_len (a1t os.length row i);rw[hPl] at hRl;have hRl2:i*2+2<=(Aq (a1t os.length row i)).length:=by omega
   have hRl3:i*2<(Aq (a1t os.length row i)).length:=by omega
   clear hPi;generalize row[i]=e at *;generalize a1t os.length row i=pe at *;by_cases he:e.1 = -1
   ·rw[if_pos he] at HST HOS;rw[Ej] at HOS;clear hcc hot1
    iterate 8 all_goals try first|apply spl<;>intro h|simp (disch:=first|assumption|omega|simp) [*]
    refine ih2.out (row.length-(i+1)) _ _ (by omega) ⟨i+1,n2+1,c,_,Lo,by omega,rfl,rfl,by omega,⟨fun x h1 h2=>?_⟩,?_,hLo,⟨by rw[HOS.out];exact HC.out⟩,hcw,⟨by rw[HOS.out];exact HLo.out⟩,?_,by simp[*]⟩
    ·simp (disch:=omega) only[Ab];exact HGI.out x h1 h2
    ·simp (disch:=omega) only[Ab];exact hgn
    ·simp (disch:=omega) only[Ab];rw[HST.out];exact hgp
   ·rw[if_neg he] at HST HOS;rw[if_neg he] at hot1;simp at hot1;have hcW:c<ws.length:=by omega
    have hLc:c+([.li e.1] : List AV).length<=Lo.length:=by simp;omega
    have HPL:Aa ((Ay Lo c [.li e.1]).length=ws.length/\(Ay Lo c [.li e.1]).take (c+1)=wdC (a4y ws os++oldE (row.take (i+1)))):=⟨by
     refine⟨by rw[a5p hLc];exact hLo,?_⟩;have h1:=a8e hLc;rw[HLo.out] at h1;rw[HOS.out];exact h1.trans (by simp[wdC])⟩
    rw[<- hcc] at HST;clear hcc hot1
    iterate 8 all_goals try first|apply spl<;>intro h|simp (disch:=first|assumption|omega|simp) [*]
    refine ih2.out (row.length-(i+1)) _ _ (by omega) ⟨i+1,n2+1+1,c+1,_,Ay Lo c [.li e.1],by omega,rfl,rfl,by omega,⟨fun x h1 h2=>?_⟩,?_,HPL.out.1,⟨by rw[HOS.out,HC.out];simp;omega⟩,by omega,⟨HPL.out.2⟩,?_,by simp[*]⟩
    ·simp (disch:=omega) only[Ab,Ae];exact HGI.out x h1 h2
    ·simp (disch:=omega) only[Af]
    ·simp (disch:=omega) only[Ab,Ae,Af];rw[HST.out,HR0.out]
  ·have hilI:¬(i:Int)<(row.length:Int):=by omega
   have hir:i=row.length:=by omega
   have hgr2:gI (n+1)=some (.cells Lr true 0):=(HGI.out (n+1) (by omega) (by omega)).trans hgr;have hqW:q<ws.length:=by omega
   iterate 8 all_goals try first|apply spl<;>intro h|simp (disch:=first|assumption|omega|simp) [*]
   have hPI:a1t os.length row i=numE os.length row:=by rw[hir];unfold a1t;rw[Ep,g3h,Ej]
   have hOI:oldE (row.take i)=a4y ws cs:=by rw[hir,Ep];exact HOR.out
   have hcI:c=(os++cs).length:=by rw[HC.out,hOI,Dr];simp[a4y]
   have hLq3:q+([.sl (n'+1) 0 row.length row.length] : List AV).length<=Lr.length:=by simp;omega
   have HRL:Aa ((Ay Lr q [.sl (n'+1) 0 row.length row.length]).length=ws.length/\(Ay Lr q [.sl (n'+1) 0 row.length row.length]).take (q+1)=Cs row.length (bk++[n'+1])):=⟨by
    refine⟨by rw[a5p hLq3];exact hLr,?_⟩;have h1:=a8e hLq3;rw[HLr.out] at h1;exact h1.trans (by simp[Cs])⟩
   subst hcI;refine ih.out (ws.length-(q+1)) _ _ (by omega) ⟨q+1,n2+1,_,os++cs,bk++[n'+1],Lo,Ay Lr q [.sl (n'+1) 0 row.length row.length],by rw[Dr];omega,by rw[Dr];exact hcl,rfl,rfl,by omega,⟨fun b hb=>?_⟩,?_,hLo,⟨?_⟩,?_,HRL.out.1,⟨HRL.out.2⟩,⟨?_⟩,HB1,by simp[*]⟩
   ·simp (disch:=omega) only[Ab,Ae];exact(HGI.out b (by omega) (by omega)).trans (HG.out b hb)
   ·simp (disch:=omega) only[Ab,Ae];exact hgn
   ·rw[HLo.out,hOI];simp[a4y]
   ·exact Af
   ·rw[HGO.out,g2r,g4q,HBR.out,<- HRW.out];refine HRR.out.snoc (by omega) (fun a h1 h2=>?_) (by omega) (by omega) ?_ (numE_len _ _)
    ·simp (disch:=omega) only[Ab,Ae];exact HGI.out a h2 (by omega)
    ·simp (disch:=omega) only[Ab,Ae];rw[<- hPI];exact hgp
 ·have hltI:¬(q:Int)<(os.length:Int):=by omega
  have hqo:q=os.length:=by omega
  have hND:=Aa.mk ((hqo ▸ HBF.out).done HN.out HIN.out);have hle:ws.length=os.length:=by
   have h1:=nodup_len HN.out.nd fun x hx=>(hND.out.mem x).2 ((HN.out.mem x).1 hx);omega
  subst hqo;have hLt:Lr=Cs I bk:=by rw[<- HLr.out,Eo (by omega)]
  have hTk:(os.take os.length).map (Av V os I)=Bu V os I:=by rw[Ep];rfl
  iterate 8 all_goals try first|apply spl<;>intro h|simp (disch:=first|assumption|omega|simp) [*]
  have hRB:=hTk ▸ HRR.out;refine⟨_,_,⟨rfl,rfl⟩,by omega,HG.out,bk,os,HBF.out,rfl,⟨hRB.len,fun k h1 h2=>?_⟩,by rw[<- hLt];exact hgr⟩;obtain⟨e1,e2,e3,e4⟩:=hRB.at' k h1 h2;exact⟨by omega,e2,e3,e4⟩
end Go.Ai
end
section
namespace Go.Ai
open Go.Proofs Go.Proofs.Tryz
set_option maxRecDepth 10000
set_option maxHeartbeats 40000000
theorem f8i {I:Nat} {ts:Lq} {k:Nat} (h:k<ts.length) : b0l I (ts.take (k+1))=a2i I (b0l I (ts.take k)) 0 ts[k].1 ts[k].2:=by
 unfold b0l;rw[Cr h,g6c];rfl
theorem f8j {I:Nat} {O:Int} {ts:Lq} (hL:Cj I O ts) (hD:Dk ts ts 0=none) (g:Gb) (n:Nat) (sv:AV) (hT:a0w g n ts sv) (hcap:Bf sv) :
  WC 0 prog 49 [.agg [.li I,.li O,sv]] ⟨.fn g,n⟩ fun r=>∃ g' n' bs B,r=.ret (.tup [.agg [.li I,.li O,.sl B 0 (Al I ts).length (Al I ts).length],.li 0]) ⟨.fn g',n'⟩/\n<=n'/\(∀ b,b<n->g' b=g b)/\n<=B/\B<n'/\RowsC g' n n' I (Al I ts) bs/\g' B=some (.cells (Cs I bs) true 0)/\goT I O (Al I ts) 0 1=some (Al I ts).length:=by
 have hlen:=@Am prog _ _ _ _ _ hT.choose_spec.1;have h1s:=hT.choose_spec.1.one;have hone:allOne [.li I,.li O,sv]=true:=by simp[h1s]
 have HCO:=Aa.mk fun (gX:Gb) (n2:Nat) (hn:n<=n2) (hX:∀ b,b<n->gX b=g b)=>d5v hL gX n2 sv (hT.mono hn hX) hcap;rw[hD] at HCO;have HT:=Aa.mk hT;have HL:=Aa.mk hL;have htl:=hL.len;have hI1:=hL.i1;have hI2:=hL.i2;have hI2' : I<=16:=by omega
 obtain⟨us,hN,htree⟩:=c6d _ ts rfl ((b6y fun t ht=>(hL.lens ht).1).1 hD) hL.ok;have HC:=Aa.mk ((b6y fun t ht=>(hL.lens ht).1).1 hD);have HN:=Aa.mk hN;have HTR:=Aa.mk htree;clear hT hL hcap hD hN htree;refine ent pl49 func49 rfl (by decide +kernel) (by kernel_rfl) ?_
 iterate 8 all_goals try first|apply spl<;>intro h|simp (disch:=first|assumption|omega|simp) [*]
 refine WC.mono (HCO.out _ _ (by omega) fun b (hb:b<n)=>by simp (disch:=omega) only[Ab]) ?_;rintro _ ⟨gX,n',rfl,hn',hX⟩;have hn2:n<=n':=by omega
 have HX:Aa (∀ b,b<n->gX b=g b):=⟨fun b hb=>(hX b (by omega)).trans (by simp (disch:=omega) only[Ab])⟩;have hB:gX n=some (.cells [.li I,.li O,sv] true 0):=(hX n (by omega)).trans (by simp (disch:=omega) only[Ab,Af]);have hB1:=(hX (n+1) (by omega));simp only[Af] at hB1;clear hX;simp only[conC,Option.isSome]
 iterate 8 all_goals try first|apply spl<;>intro h|simp (disch:=first|assumption|omega|simp) [*]
 refine WC.mono (c6h I (by omega) _ _) ?_;rintro _ rfl
 iterate 8 all_goals try first|apply spl<;>intro h|simp (disch:=first|assumption|omega|simp) [*]
 refine LX.ind (fun m gf H'=>∃ (k n2:Nat) (gL:Gb) (rk:Tq) (bk:List Nat) (B:Nat) (tv:AV),k<=ts.length/\m=ts.length-k/\H'=⟨.fn gL,n2⟩/\n'+1+1+1+1<=n2/\Aa (∀ b,b<n'->gL b=gX b)/\Aa (a3a gL (n'+1) n2 (n'+1+1+1) I rk bk B tv)/\Aa (a5u I rk)/\rk.length<=1+256*k/\Aa (rk=b0l I (ts.take k)) /\
  gf 1=some (.ptr n 0)/\gf 2=some (.ptr (n+1) 0)/\gf 7=some (.ptr (n'+1+1+1) 0)/\gf 8=some (.func (.func 106) [] [.ptr (n'+1+1+1) 0,.ptr n 0])/\gf 33=some sv/\gf 34=some (.li ts.length)/\gf 35=some (.li k)) (m0:=ts.length) ?_ ?_
 ·refine⟨0,_,_,[List.replicate I (-1,-1)],[n'+1],n'+1+1,.sl (n'+1+1) 0 1 1,Du _,rfl,rfl,Dp _,⟨fun b hb=>?_⟩,⟨⟨⟨rfl,by simp,fun k h1 h2=>?_⟩,by simp,⟨by omega,by omega⟩,⟨by omega,by omega⟩,by omega,by simp;omega,by simp,Af,.inl ⟨rfl,rfl,?_⟩⟩⟩,⟨fun row hr=>?_⟩,by simp,⟨rfl⟩,by simp[*]⟩
  ·simp (disch:=omega) only[Ab]
  ·have e:k=0:=by simp at h1;omega
   subst e;exact⟨by simp,by simp,by simp (disch:=omega) [Ab,Af],by simp⟩
  ·simp (disch:=omega) [Ab,Af,Cs]
  ·rw[En.1 hr];exact⟨by simp,fun e he=>.inl (by rw[(List.mem_replicate.1 he).2])⟩
 rintro m gf H' ⟨k,n2,gL,rk,bk,B,tv,hk,rfl,rfl,hn3,HG,HTM,HOK,hrk,HRK,w1,w2,w7,w8,w33,w34,w35⟩ ih;have hgn:=(HG.out n (by omega)).trans hB;have hgn1:=(HG.out (n+1) (by omega)).trans hB1;have hgT:=HTM.out.gt;refine rnd pl49 (by decide +kernel) ?_;by_cases hlt:k<ts.length
 ·have hltI:(k:Int)<(ts.length:Int):=by omega
  obtain⟨a2,off,s1,s2,HAT0⟩:=(HT.out.mono (n':=n'+1) (g':=gL) (show n<=n'+1 by omega) fun b hb=>(HG.out b (by omega)).trans (HX.out b hb)).at hlt;have HAT:=Aa.mk HAT0;clear HAT0;have hia:∀ {H:Mem} {ev:Ev} {o:Oper} {ty:TypeId},iaS prog H ev o ty (some (none,2)) (some sv) (some (.li (k:Int)))=.val (.ptr a2 (off+k*2)) H:=fun {H ev o ty}=>HAT.out.ia;have han:a2<n'+1:=HAT.out.an;have hagg:=HAT.out.agg;have h1s1:oneC s1=true:=HAT.out.r1.one;have h1s2:oneC s2=true:=HAT.out.r2.one;have hone2:allOne [s1,s2]=true:=by simp[h1s1,h1s2]
  have hvd:=HL.out.ok _ (Dt hlt);unfold Cn at hvd;rw[Ds,Ds] at hvd;have HIW:Aa (inW ts[k].1 I=true):=⟨hvd.1.2⟩;clear hvd;have HLN:=Aa.mk (HL.out.lens (Dt hlt));have hw12:=HL.out.wl _ (Dt hlt);have HRS:=Aa.mk (f8i (I:=I) hlt);rw[<- HRK.out] at HRS;have HEN:=Aa.mk fun (gF:Gb) (n3:Nat) (h1:n2<=n3) (h2:∀ b,b<n2->gF b=gL b)=>f8b hI2' HLN.out.1 HIW.out hw12 (n'+1) n3 (n'+1+1+1) n gF (HTM.out.keep (g':=gF) h1 fun a _ h=>h2 a h) HOK.out (by omega) (by omega) ((h2 n (by omega)).trans hgn) (by omega) (Ag.mono (Dp _) (fun b hb=>h2 b (by omega)) HAT.out.r1) (Ag.mono (Dp _) (fun b hb=>h2 b (by omega)) HAT.out.r2);clear HAT;generalize ts[k]=t at *
  iterate 8 all_goals try first|apply spl<;>intro h|simp (disch:=first|assumption|omega|simp) [*]
  refine WC.mono (HEN.out _ _ (by omega) fun b hb=>Ab hb) ?_;rintro _ ⟨gF,n3,bF,BF,tF,rfl,hn4,hgF,hTMF,hOKF,hlenF⟩;rw[<- HRS.out] at hTMF hOKF hlenF;have HTMF:=Aa.mk hTMF;have HOKF:=Aa.mk hOKF;have HGF:=Aa.mk hgF;clear hTMF hOKF hgF HEN hgT hgn hgn1 hia hagg
  iterate 8 all_goals try first|apply spl<;>intro h|simp (disch:=first|assumption|omega|simp) [*]
  exact ih.out (ts.length-(k+1)) _ _ (by omega) ⟨k+1,n3,gF,_,bF,BF,tF,by omega,rfl,rfl,by omega,⟨fun b hb=>(HGF.out b (by omega)).trans ((Ab (by omega)).trans (HG.out b hb))⟩,HTMF,HOKF,by omega,⟨rfl⟩,by simp[*]⟩
 ·have hltI:¬(k:Int)<(ts.length:Int):=by omega
  have hks:k=ts.length:=by omega
  have hrk2:rk=Bu (valT ts) ([] :: us) I:=by rw[HRK.out,hks,Ep];exact HTR.out
  have hul:([] :: us).length<=100000:=by rw[<- @a3q (valT ts) ([] :: us) I,<- hrk2];omega
  rw[hrk2] at HTM;have hNU:=Aa.mk (f8h (V:=valT ts) (ws:=[] :: us) (O:=O) (by omega) hI2' HN.out (fun x o h=>d6j HL.out.ok h) (fun x i o h=>(c0j HL.out.ok h).1) rfl hul (n'+1) n2 B gL tv bk HTM.out.rb HTM.out.bl.2 (by have:=HTM.out.gb;rwa [a3q] at this));clear hul
  iterate 8 all_goals try first|apply spl<;>intro h|simp (disch:=first|assumption|omega|simp) [*]
  refine WC.mono hNU.out ?_;rintro _ ⟨gF,n3,bF,os,rfl,hn4,hgF,hBfs,hosl,hRC,hgB⟩;obtain⟨hos,_,hgo⟩:=d6k HL.out.ok HC.out HN.out hBfs;have hRC' : RowsC gF n2 n3 I (Al I ts) bF:=by rw[hos] at hRC;exact hRC
  have hLn:([] :: us).length=(Al I ts).length:=by rw[<- hosl,hos];unfold Al;rw[a3q]
  rw[hLn];have HRC:=Aa.mk hRC';have HGF:=Aa.mk hgF;have hf1:gF (n+1)=some (.cells [.li 0,.li 0,.nl] true 0):=(hgF _ (by omega)).trans hgn1;have hfn:=(hgF n (by omega)).trans hgn;have hfT:=(hgF (n'+1+1+1) (by omega)).trans hgT;have HGB:=Aa.mk hgB;have HGO:=Aa.mk hgo;clear hRC' hRC hgF hgB hgT hgn hgn1 hgo hBfs hosl hos hNU hLn HTM
  iterate 8 all_goals try first|apply spl<;>intro h|simp (disch:=first|assumption|omega|simp) [*]
  refine⟨_,_,bF,_,⟨rfl,rfl,rfl⟩,by omega,fun b hb=>?_,by omega,by omega,⟨HRC.out.len,fun j h1 h2=>?_⟩,?_,HGO.out⟩
  ·rw[Ab (by omega),HGF.out b (by omega),HG.out b (by omega)];exact HX.out b hb
  ·obtain⟨e1,e2,e3,e4⟩:=HRC.out.at' j h1 h2;exact⟨by omega,e2,(Ae (by omega)).trans e3,e4⟩
  ·rw[Ae (by omega)];exact HGB.out
end Go.Ai
end
section
namespace Go.Ai
open Go.Proofs Go.Proofs.Tryz
set_option maxRecDepth 10000
set_option maxHeartbeats 40000000
theorem f8k (g:Gb) (n:Nat) : WC 0 prog 104 [.lit (.bool true)] ⟨.fn g,n⟩ fun r=>r=.ret (.li 18) ⟨.fn g,n⟩:=by
 refine ent [] func104 rfl (by decide +kernel) (by kernel_rfl) ?_
 iterate 8 all_goals try first|apply spl<;>intro h|simp (disch:=first|assumption|omega|simp) [*]
theorem f8l {I:Nat} {O:Int} {ts:Lq} (hL:Cj I O ts) {D:Nat×Nat×Nat} (hD:Dk ts ts 0=some D) (g:Gb) (n:Nat) (sv:AV) (hT:a0w g n ts sv) (hcap:Bf sv) :
  WC 0 prog 49 [.agg [.li I,.li O,sv]] ⟨.fn g,n⟩ fun r=>∃ gX n',r=.ret (.tup [.agg [.li 0,.li 0,.nl],.li 18]) ⟨.fn gX,n'⟩/\n<=n'/\∀ b,b<n->gX b=g b:=by
 have hlen:=@Am prog _ _ _ _ _ hT.choose_spec.1;have h1s:=hT.choose_spec.1.one;have hone:allOne [.li I,.li O,sv]=true:=by simp[h1s]
 have HCO:=Aa.mk fun (gX:Gb) (n2:Nat) (hn:n<=n2) (hX:∀ b,b<n->gX b=g b)=>d5v hL gX n2 sv (hT.mono hn hX) hcap;rw[hD] at HCO;clear hT hL hcap hD;refine ent pl49 func49 rfl (by decide +kernel) (by kernel_rfl) ?_
 iterate 8 all_goals try first|apply spl<;>intro h|simp (disch:=first|assumption|omega|simp) [*]
 refine WC.mono (HCO.out _ _ (by omega) fun b (hb:b<n)=>by simp (disch:=omega) only[Ab]) ?_;rintro _ ⟨gX,n',rfl,hn',hX⟩;have hn2:n<=n':=by omega
 have HX:Aa (∀ b,b<n->gX b=g b):=⟨fun b hb=>(hX b (by omega)).trans (by simp (disch:=omega) only[Ab])⟩;have hB:gX n=some (.cells [.li I,.li O,sv] true 0):=(hX n (by omega)).trans (by simp (disch:=omega) only[Ab,Af]);have hB1:=(hX (n+1) (by omega));simp only[Af] at hB1;clear hX;obtain⟨d1,d2,d3⟩:=D;simp only[conC,Option.isSome]
 iterate 8 all_goals try first|apply spl<;>intro h|simp (disch:=first|assumption|omega|simp) [*]
 refine WC.mono (f8k _ _) ?_;rintro _ rfl
 iterate 8 all_goals try first|apply spl<;>intro h|simp (disch:=first|assumption|omega|simp) [*]
 exact⟨_,_,⟨rfl,rfl⟩,by omega,fun b (hb:b<n)=>by rw[Ab (by omega),Ab (by omega)];exact HX.out b hb⟩
end Go.Ai
end
section
namespace Go.Ai
open Go.Proofs Go.Proofs.Tryz
set_option maxRecDepth 10000
set_option maxHeartbeats 40000000
theorem f8m (a b:Wd) (hal:a.length<=1000000) (hbl:b.length<=1000000) (g:Gb) (n:Nat) (sa sb:AV) (ha:Ak g n a sa) (hb:Ak g n b sb) :
  WC 0 prog 80 [sa,sb] ⟨.fn g,n⟩ fun r=>∃ z:Int,r=.ret (.li z) ⟨.fn g,n⟩/\decide (z=0)=decide (a=b):=by
 have hla:=@Am prog _ _ _ _ _ ha;have hlb:=@Am prog _ _ _ _ _ hb;have HA:=Aa.mk ha;have HB:=Aa.mk hb;clear ha hb;obtain⟨ret,hret⟩ : ∃ c,c=decide (a=b):=⟨_,rfl⟩;rw[<- hret];have HRET:=Aa.mk hret;clear hret;by_cases t1:a.length<b.length
 ·have t1I:(a.length:Int)<(b.length:Int):=by omega
  have hr:ret=false:=by
   rw[HRET.out];exact decide_eq_false fun h=>by rw[h] at t1;omega
  refine ent pl80 func80 rfl (by decide +kernel) (by kernel_rfl) ?_
  iterate 6 all_goals try first|apply spl<;>intro h|simp (disch:=first|assumption|omega|simp) [*]
 by_cases t2:b.length<a.length
 ·have t2I:(b.length:Int)<(a.length:Int):=by omega
  have t1I:¬(a.length:Int)<(b.length:Int):=by omega
  have hr:ret=false:=by
   rw[HRET.out];exact decide_eq_false fun h=>by rw[h] at t2;omega
  refine ent pl80 func80 rfl (by decide +kernel) (by kernel_rfl) ?_
  iterate 6 all_goals try first|apply spl<;>intro h|simp (disch:=first|assumption|omega|simp) [*]
 have hL:b.length=a.length:=by omega
 have HL:=Aa.mk hL;rw[hL] at hlb;clear t1 t2 hL hbl;refine ent pl80 func80 rfl (by decide +kernel) (by kernel_rfl) ?_
 iterate 6 all_goals try first|apply spl<;>intro h|simp (disch:=first|assumption|omega|simp) [*]
 refine LX.ind (fun m gf H'=>∃ (k:Nat),k<=a.length/\m=a.length-k/\H'=⟨.fn g,n⟩/\Aa (a.take k=b.take k)/\gf 0=some sa/\gf 1=some sb/\gf 5=some (.li k)) (m0:=a.length) ?_ ?_
 ·exact⟨0,Du _,rfl,rfl,⟨by simp⟩,by simp[*]⟩
 rintro m gf H' ⟨k,hk,rfl,rfl,HPRE,w0,w1,w5⟩ ih;refine rnd pl80 (by decide +kernel) ?_;by_cases hlt:k<a.length
 ·have hltI:(k:Int)<(a.length:Int):=by omega
  have hltb:k<b.length:=by rw[HL.out];exact hlt
  obtain⟨a2,off,ha2,hrow,hia⟩:=Ag.ia (P:=prog) HA.out hlt 1;obtain⟨b2,ofb,hb2,hrob,hib⟩:=Ag.ia (P:=prog) HB.out hltb 1;simp only[El] at hia hib;have hca:=hrow.one (k:=k) (s:=1) (by rw[Bi];exact hlt);have hcb:=hrob.one (k:=k) (s:=1) (by rw[Bi];exact hltb);rw[(Ea.1 (a4c a k hlt)).2] at hca;rw[(Ea.1 (a4c b k hltb)).2] at hcb;have hta:a.take (k+1)=a.take k++[a[k]]:=by rw[g3e,Dv hlt];rfl
  have htb:b.take (k+1)=b.take k++[b[k]]:=by rw[g3e,Dv hltb];rfl
  have hneq:a=b->a[k]=b[k]:=fun h=>by subst h;rfl
  have HTA:=Aa.mk hta;have HTB:=Aa.mk htb;have HN:=Aa.mk hneq;clear hta htb hneq hrow hrob ha2 hb2;generalize a[k]=u at *;generalize b[k]=v at *;clear hltb;have hbad:u≠v->ret=false:=fun h=>by rw[HRET.out];exact decide_eq_false fun e=>h (HN.out e)
  have HBAD:=Aa.mk hbad;clear hbad;by_cases t1:u<v
  ·have hr:=HBAD.out (by omega)
   iterate 6 all_goals try first|apply spl<;>intro h|simp (disch:=first|assumption|omega|simp) [*]
  by_cases t2:v<u
  ·have hr:=HBAD.out (by omega)
   iterate 6 all_goals try first|apply spl<;>intro h|simp (disch:=first|assumption|omega|simp) [*]
  ·have HUV:=Aa.mk (show u=v by omega)
   iterate 6 all_goals try first|apply spl<;>intro h|simp (disch:=first|assumption|omega|simp) [*]
   refine ih.out (a.length-(k+1)) _ _ (by omega) ⟨k+1,by omega,rfl,rfl,⟨?_⟩,by simp[*]⟩;rw[HTA.out,HTB.out,HPRE.out,HUV.out]
 ·have hltI:¬(k:Int)<(a.length:Int):=by omega
  have hk2:k=a.length:=by omega
  have hr:ret=true:=by
   rw[HRET.out];have h1:=HPRE.out;rw[hk2,Ep,<- HL.out,Ep] at h1;exact decide_eq_true h1
  clear hk2
  iterate 6 all_goals try first|apply spl<;>intro h|simp (disch:=first|assumption|omega|simp) [*]
theorem c6l (a b:Wd) (hal:a.length<=1000000) (hbl:b.length<=1000000) (g:Gb) (n:Nat) (sa sb:AV) (ha:Ak g n a sa) (hb:Ak g n b sb) :
  WC 0 prog 29 [sa,sb] ⟨.fn g,n⟩ fun r=>r=.ret (.lit (.bool (decide (a=b)))) ⟨.fn g,n⟩:=by
 have HC:=Aa.mk (f8m a b hal hbl g n sa sb ha hb);clear ha hb;obtain⟨ret,hret⟩ : ∃ c,c=decide (a=b):=⟨_,rfl⟩;rw[<- hret] at HC |-;clear hret;refine ent [] func29 rfl (by decide +kernel) (by kernel_rfl) ?_
 iterate 6 all_goals try first|apply spl<;>intro h|simp (disch:=first|assumption|omega|simp) [*]
 refine WC.mono HC.out ?_;rintro _ ⟨z,rfl,hz⟩
 cases ret with
 | true =>
  have hz1:z=0:=of_decide_eq_true hz;clear hz;subst hz1
  iterate 6 all_goals try first|apply spl<;>intro h|simp (disch:=first|assumption|omega|simp) [*]
 | false =>
  have hz1:¬z=0:=of_decide_eq_false hz;clear hz
  iterate 6 all_goals try first|apply spl<;>intro h|simp (disch:=first|assumption|omega|simp) [*]
end Go.Ai
end
section
namespace Go.Ai
open Go.Proofs Go.Proofs.Tryz
set_option maxRecDepth 10000
set_option maxHeartbeats 40000000
theorem d6o {l:Wq} (hll:l.length<=100000) {w:Wd} (hwl:w.length<=1000) (hm:w∈l) (hwls:∀ x∈l,x.length<=1000) (g:Gb) (n:Nat) (lv sv:AV) (h1:Bt g n l lv) (hw:Ak g n w sv) :
  WC 0 prog 75 [lv,sv] ⟨.fn g,n⟩ fun r=>r=.ret (.li (l.idxOf w:Nat)) ⟨.fn g,n⟩:=by
 have hlen:=@Am prog _ _ _ _ _ h1.choose_spec.1;have H1:=Aa.mk h1;have HW:=Aa.mk hw;have HWL:=Aa.mk hwls;have HM:=Aa.mk hm;clear h1 hw hwls hm;refine ent [] func75 rfl (by decide +kernel) (by kernel_rfl) ?_
 iterate 8 all_goals try first|apply spl<;>intro h|simp (disch:=first|assumption|omega|simp) [*]
 refine LX.ind (fun m gf H'=>∃ k:Nat,k<l.length/\m=l.length-k/\H'=⟨.fn g,n⟩/\Aa (w ∉ l.take k)/\gf 0=some lv/\gf 1=some sv/\gf 5=some (.li k)) (m0:=l.length) ?_ ?_
 ·exact⟨0,g3s HM.out,rfl,rfl,⟨by simp⟩,by simp[*]⟩
 rintro m gf H' ⟨k,hk,rfl,rfl,HN,w0,w1,w5⟩ ih;have hkI:(k:Int)<(l.length:Int):=by omega
 obtain⟨a,off,q,ha,hia,hc,hq⟩:=H1.out.at hk;have HS:=Aa.mk (c6l l[k] w (by have:=HWL.out _ (Dt hk);omega) (by omega) g n q sv hq HW.out);have hwk:Aa (w ∉ l.take (k+1)\/l[k]=w):=⟨by
  by_cases h:l[k]=w
  ·exact .inr h
  ·refine .inl ?_;rw[Cr hk,Eg,En];rintro (h1|h1)
   ·exact HN.out h1
   ·exact h h1.symm⟩
 have HIX:Aa (l[k]=w->l.idxOf w=k):=⟨fun h=>by
  have e:l=l.take k++(l[k] :: l.drop (k+1)):=by rw[<- Ef hk,g3b]
  rw[e,g6a,if_neg HN.out,h];simp;omega⟩
 generalize l[k]=x at *;refine rnd [] (by decide +kernel) ?_
 iterate 8 all_goals try first|apply spl<;>intro h|simp (disch:=first|assumption|omega|simp) [*]
 refine WC.mono HS.out ?_;rintro _ rfl;by_cases hx:x=w
 ·have hix:=HIX.out hx;simp only[hx,decide_true]
  iterate 8 all_goals try first|apply spl<;>intro h|simp (disch:=first|assumption|omega|simp) [*]
 ·have hnm:w ∉ l.take (k+1):=hwk.out.resolve_right hx;have hk1:k+1<l.length:=by
   rcases g3a (k+1) l.length with h|h
   ·exact h
   ·exact absurd HM.out (by rwa [Eo h] at hnm)
  simp only[hx,decide_false]
  iterate 8 all_goals try first|apply spl<;>intro h|simp (disch:=first|assumption|omega|simp) [*]
  exact ih.out (l.length-(k+1)) _ _ (by omega) ⟨k+1,hk1,rfl,rfl,⟨hnm⟩,by simp[*]⟩
end Go.Ai
end
section
namespace Go.Ai
open Go.Proofs Go.Proofs.Tryz
set_option maxRecDepth 10000
set_option maxHeartbeats 40000000
theorem d6p (a b:Wd) (hal:a.length<=1000000) (hbl:b.length<=1000000) (g:Gb) (n:Nat) (sa sb:AV) (ha:Ak g n a sa) (hb:Ak g n b sb) :
  WC 0 prog 80 [sa,sb] ⟨.fn g,n⟩ fun r=>r=.ret (.li (Bl a b)) ⟨.fn g,n⟩:=by
 have hla:=@Am prog _ _ _ _ _ ha;have hlb:=@Am prog _ _ _ _ _ hb;have HA:=Aa.mk ha;have HB:=Aa.mk hb;clear ha hb;obtain⟨ret,hret⟩ : ∃ c,c=Bl a b:=⟨_,rfl⟩;rw[<- hret];unfold Bl at hret;by_cases t1:a.length<b.length
 ·have t1I:(a.length:Int)<(b.length:Int):=by omega
  have hr:ret = -1:=by rw[hret,if_pos t1]
  clear hret;refine ent pl80 func80 rfl (by decide +kernel) (by kernel_rfl) ?_
  iterate 6 all_goals try first|apply spl<;>intro h|simp (disch:=first|assumption|omega|simp) [*]
 rw[if_neg t1] at hret;by_cases t2:b.length<a.length
 ·have t2I:(b.length:Int)<(a.length:Int):=by omega
  have t1I:¬(a.length:Int)<(b.length:Int):=by omega
  have hr:ret=1:=by rw[hret,if_pos t2]
  clear hret;refine ent pl80 func80 rfl (by decide +kernel) (by kernel_rfl) ?_
  iterate 6 all_goals try first|apply spl<;>intro h|simp (disch:=first|assumption|omega|simp) [*]
 rw[if_neg t2] at hret;have hL:b.length=a.length:=by omega
 have HL:=Aa.mk hL;have HRET:=Aa.mk hret;rw[hL] at hlb;clear t1 t2 hL hbl hret;refine ent pl80 func80 rfl (by decide +kernel) (by kernel_rfl) ?_
 iterate 6 all_goals try first|apply spl<;>intro h|simp (disch:=first|assumption|omega|simp) [*]
 refine LX.ind (fun m gf H'=>∃ (k:Nat),k<=a.length/\m=a.length-k/\H'=⟨.fn g,n⟩/\Aa (ret=lexC (a.drop k) (b.drop k))/\gf 0=some sa/\gf 1=some sb/\gf 5=some (.li k)) (m0:=a.length) ?_ ?_
 ·exact⟨0,Du _,rfl,rfl,HRET,by simp[*]⟩
 rintro m gf H' ⟨k,hk,rfl,rfl,HPRE,w0,w1,w5⟩ ih;refine rnd pl80 (by decide +kernel) ?_;by_cases hlt:k<a.length
 ·have hltI:(k:Int)<(a.length:Int):=by omega
  have hltb:k<b.length:=by rw[HL.out];exact hlt
  obtain⟨a2,off,ha2,hrow,hia⟩:=Ag.ia (P:=prog) HA.out hlt 1;obtain⟨b2,ofb,hb2,hrob,hib⟩:=Ag.ia (P:=prog) HB.out hltb 1;simp only[El] at hia hib;have hca:=hrow.one (k:=k) (s:=1) (by rw[Bi];exact hlt);have hcb:=hrob.one (k:=k) (s:=1) (by rw[Bi];exact hltb);rw[(Ea.1 (a4c a k hlt)).2] at hca;rw[(Ea.1 (a4c b k hltb)).2] at hcb;have hp:=HPRE.out;rw[Ef hlt,Ef hltb] at hp;have HP:=Aa.mk hp;clear hp HPRE hrow hrob ha2 hb2;generalize a[k]=u at *;generalize b[k]=v at *;clear hltb;by_cases t1:u<v
  ·have hr:ret = -1:=by rw[HP.out];unfold lexC;rw[if_pos t1]
   iterate 6 all_goals try first|apply spl<;>intro h|simp (disch:=first|assumption|omega|simp) [*]
  by_cases t2:v<u
  ·have hr:ret=1:=by rw[HP.out];unfold lexC;rw[if_neg t1,if_pos t2]
   iterate 6 all_goals try first|apply spl<;>intro h|simp (disch:=first|assumption|omega|simp) [*]
  ·have HUV:Aa (ret=lexC (a.drop (k+1)) (b.drop (k+1))):=⟨by rw[HP.out];show (if u<v then -1 else if v<u then 1 else lexC (a.drop (k+1)) (b.drop (k+1)))=_;rw[if_neg t1,if_neg t2]⟩
   iterate 6 all_goals try first|apply spl<;>intro h|simp (disch:=first|assumption|omega|simp) [*]
   exact ih.out (a.length-(k+1)) _ _ (by omega) ⟨k+1,by omega,rfl,rfl,HUV,by simp[*]⟩
 ·have hltI:¬(k:Int)<(a.length:Int):=by omega
  have hk2:k=a.length:=by omega
  have hr:ret=0:=by
   rw[HPRE.out,hk2,g3h,<- HL.out,g3h];rfl
  clear hk2
  iterate 6 all_goals try first|apply spl<;>intro h|simp (disch:=first|assumption|omega|simp) [*]
end Go.Ai
end
section
namespace Go.Ai
open Go.Proofs Go.Proofs.Tryz
set_option maxRecDepth 10000
set_option maxHeartbeats 40000000
variable {ts:Lq} {g:Gb} {n:Nat} {sv:AV}
def a3b (g:Gb) (n:Nat) (ts:Lq) (sv:AV) : Prop:=∃ cs,Ag g n sv ts.length cs/\RowsT g n ts cs/\∀ v∈cs,Bf v
theorem a3b.log (h:a3b g n ts sv) : a0w g n ts sv:=let ⟨cs,h1,h2,_⟩:=h;⟨cs,h1,h2⟩
theorem a3b.mono {g': Gb} {n': Nat} (h:a3b g n ts sv) (hn:n<=n') (hg:∀ a,a<n->g' a=g a) : a3b g' n' ts sv :=
 let ⟨cs,h1,h2,h3⟩:=h;⟨cs,h1.mono hn hg,h2.ext hn fun a x ha hx=>(hg a ha).trans hx,h3⟩
theorem a3b.at (h:a3b g n ts sv) {k:Nat} (hk:k<ts.length) : ∃ a off s1 s2,AtT g n sv k ts[k] a off s1 s2/\Bf s1/\Bf s2:=by
 obtain⟨cs,h1,h2,h3⟩:=h;obtain⟨s1,s2,e1,e2,r1,r2⟩:=h2.2 k hk;obtain⟨a,off,ha,hrow,hia⟩:=Ag.ia (P:=prog) h1 hk 2;have hl:=h2.1;refine⟨a,off,s1,s2,⟨ha,hia,?_,?_,?_,r1,r2⟩,h3 _ (g2l e1),h3 _ (g2l e2)⟩
 ·rw[hrow.agg (k:=k*2) (s:=2) (by omega),d4z e1 e2]
 ·have:=hrow.one (k:=k*2) (s:=1) (by omega)
  rwa [(Ea.1 e1).2] at this
 ·have:=hrow.one (k:=k*2+1) (s:=1) (by omega);rw[(Ea.1 e2).2] at this;rw[g3u];exact this
theorem el57:(Ca prog 65).map (·.1)=some none:=by kernel_rfl
def lastV:Option Int->AV
 | some o=>.tup [.li o,.lit (.bool true)]
 | none=>.tup [.li 0,.lit (.bool false)]
theorem f8n {I O:Int} (hS:c0c ts) (hL2:∀ t∈ts,t.2.length=t.1.length) {w:Wd} (hw0:0<w.length) (hwl:w.length<=1000) (g:Gb) (n:Nat) (sv wv:AV) (hT:a3b g n ts sv) (hW:Ak g n w wv) :
  WC 0 prog 74 [.agg [.li I,.li O,sv],wv] ⟨.fn g,n⟩ fun r=>∃ g',r=.ret (lastV (valT ts w)) ⟨.fn g',n+1⟩/\∀ b,b<n->g' b=g b:=by
 have hlen:=@Am prog _ _ _ _ _ hT.choose_spec.1;have hlw:=@Am prog _ _ _ _ _ hW;have h1s:=hT.choose_spec.1.one;have hone:allOne [.li I,.li O,sv]=true:=by simp[h1s]
 have hsl:=hS.len;have HS:=Aa.mk hS;have HL2:=Aa.mk hL2;have HT:=Aa.mk hT;have HW:=Aa.mk hW;clear hS hL2 hT hW;obtain⟨RES,hRES⟩ : ∃ x,x=valT ts w:=⟨_,rfl⟩;rw[<- hRES];have HR:=Aa.mk hRES;clear hRES;refine ent [] func74 rfl (by decide +kernel) (by kernel_rfl) ?_
 iterate 8 all_goals try first|apply spl<;>intro h|simp (disch:=first|assumption|omega|simp) [*]
 refine LX.ind (fun m gf H'=>∃ k:Nat,k<=ts.length/\m=ts.length-k/\H'=⟨.fn (Aj g n (some (.cells [.li I,.li O,sv] true 0))),n+1⟩/\Aa (RES=valT (ts.drop k) w)/\gf 1=some wv/\gf 2=some (.ptr n 0)/\gf 6=some (.li k)) (m0:=ts.length) ?_ ?_
 ·exact⟨0,Du _,rfl,rfl,HR,by simp[*]⟩
 clear HR;rintro m gf H' ⟨k,hk,rfl,rfl,HR,w1,w2,w6⟩ ih;refine rnd [] (by decide +kernel) ?_;by_cases hlt:k<ts.length
 ·have hltI:(k:Int)<(ts.length:Int):=by omega
  obtain⟨a2,off,s1,s2,HAT0,hc1,hc2⟩:=(HT.out.mono (n':=n+1) (g':=Aj g n (some (.cells [.li I,.li O,sv] true 0))) (Dy n) fun b hb=>Ab hb).at hlt;have HAT:=Aa.mk HAT0;clear HAT0;have hia:∀ {H:Mem} {ev:Ev} {o:Oper} {ty:TypeId},iaS prog H ev o ty (some (none,2)) (some sv) (some (.li (k:Int)))=.val (.ptr a2 (off+k*2)) H:=fun {H ev o ty}=>HAT.out.ia;have han:a2<n+1:=HAT.out.an;have hcc0:=HAT.out.c0;have hcc1:=HAT.out.c1;have hw1:=HS.out.w1 _ (Dt hlt);have hl2:=HL2.out _ (Dt hlt);have HST:=Aa.mk (HR.out.trans (show valT (ts.drop k) w=if w≠[]/\w.length<=ts[k].1.length/\ts[k].1.take w.length=w then some (ts[k].2.getD (w.length-1) 0) else valT (ts.drop (k+1)) w from by rw[Ef hlt];rfl));have hl1:=@Am prog _ _ _ _ _ HAT.out.r1;have HR1:=Aa.mk HAT.out.r1;have HR2:=Aa.mk HAT.out.r2;have HC1:=Aa.mk hc1;clear HAT hc1 hc2;generalize ts[k]=t at *;have hwne:w≠[]:=fun h=>by rw[h] at hw0;cases hw0
  by_cases hge:w.length<=t.1.length
  ·have hgeI:(w.length:Int)<=(t.1.length:Int):=by omega
   obtain⟨cut,hcut,hcv⟩:=Ag.cut HR1.out HC1.out el57 (k:=w.length) (sz:=1) hge (by omega);have htl:(t.1.take w.length).length=w.length:=by rw[Dw,Fa hge]
   have hcv2:Ak (Aj g n (some (.cells [.li I,.li O,sv] true 0))) (n+1) (t.1.take w.length) cut:=by
    unfold Ak;rw[htl,show wdC (t.1.take w.length)=(wdC t.1).take (w.length*1) by simp[wdC]];exact hcv
   have HSM:=Aa.mk (c6l (t.1.take w.length) w (by omega) (by omega) _ (n+1) cut wv hcv2 (Ag.mono (Dy n) (fun b hb=>Ab hb) HW.out));obtain⟨a3,o3,ha3,hia3,hc3⟩:=Ak.at HR2.out (by omega:w.length-1<t.2.length);rw[show ((w.length-1:Nat) : Int)=(w.length:Int)-1 by omega] at hia3;have HRV:Aa (t.2.getD (w.length-1) 0=t.2[w.length-1]):=⟨by rw[Dx,Dv];rfl⟩;clear hcv hcv2;have hw1n:(0:Int)<=(w.length:Int)-1:=by omega
   iterate 8 all_goals try first|apply spl<;>intro h|simp (disch:=first|assumption|omega|simp) [*]
   refine WC.mono HSM.out ?_;rintro _ rfl;by_cases hq:t.1.take w.length=w
   ·rw[if_pos ⟨hwne,hge,hq⟩,HRV.out] at HST;have hRS:=HST.out;simp only[hq,decide_true];clear HRV;generalize t.2[w.length-1]=o at *;subst hRS
    iterate 8 all_goals try first|apply spl<;>intro h|simp (disch:=first|assumption|omega|simp) [*]
    exact⟨_,⟨rfl,rfl⟩,fun b hb=>Ab hb⟩
   ·rw[if_neg (fun h=>hq h.2.2)] at HST;simp only[hq,decide_false]
    iterate 8 all_goals try first|apply spl<;>intro h|simp (disch:=first|assumption|omega|simp) [*]
    exact ih.out (ts.length-(k+1)) _ _ (by omega) ⟨k+1,by omega,rfl,rfl,HST,by simp[*]⟩
  ·have hgeI:¬(w.length:Int)<=(t.1.length:Int):=by omega
   rw[if_neg (fun h=>hge h.2.1)] at HST;clear hwne
   iterate 8 all_goals try first|apply spl<;>intro h|simp (disch:=first|assumption|omega|simp) [*]
   exact ih.out (ts.length-(k+1)) _ _ (by omega) ⟨k+1,by omega,rfl,rfl,HST,by simp[*]⟩
 ·have hltI:¬(k:Int)<(ts.length:Int):=by omega
  have hRN:RES=none:=by rw[HR.out,Ex (by omega)];rfl
  subst hRN
  iterate 8 all_goals try first|apply spl<;>intro h|simp (disch:=first|assumption|omega|simp) [*]
  exact⟨_,⟨rfl,rfl⟩,fun b hb=>Ab hb⟩
end Go.Ai
end
section
namespace Go.Ai
open Go.Proofs Go.Proofs.Tryz
set_option maxRecDepth 10000
set_option maxHeartbeats 40000000
def a3c (w:Wd) : Wq->Bool->Wq
 | [],p=>if p then [] else [w]
 | x :: l,p=>(if Bl w x<0/\p=false then [w] else [])++x :: a3c w l (p || decide (Bl w x<=0))
theorem c6m {w:Wd} : ∀ (l:Wq),a3c w l true=l
 | []=>rfl
 | x :: l=>by
  unfold a3c;rw[if_neg (by simp),g4a,c6m l];rfl
theorem c6n {w:Wd} : ∀ (l:Wq),a3c w l false=Bk w l
 | []=>rfl
 | x :: l=>by
  unfold a3c Bk;rw[g4n];by_cases h1:Bl w x<0
  ·rw[if_pos ⟨h1,rfl⟩,if_pos h1,decide_eq_true (by omega),c6m];rfl
  ·rw[if_neg (fun h=>h1 h.1),if_neg h1];by_cases h2:Bl w x=0
   ·rw[if_pos h2,decide_eq_true (by omega),c6m];rfl
   ·rw[if_neg h2,decide_eq_false (by omega),c6n l];rfl
theorem RowsW.snoc {g:Gb} {n:Nat} {l:Wq} {svs:List AV} (h:RowsW g n l svs) {x:Wd} {q:AV} (hq:Ak g n x q) : RowsW g n (l++[x]) (svs++[q]):=by
 refine⟨by simp[h.1],fun k hk=>?_⟩;have hl:=h.1;rw[Dr,Em] at hk;by_cases h2:k<l.length
 ·obtain⟨sv,e1,e2⟩:=h.2 k h2;exact⟨sv,by rw[Ew (by omega)];exact e1,by rw[Ey h2];exact e2⟩
 ·have e:k=l.length:=by omega
  subst e;exact⟨q,by rw[<- hl,Eu (Dp _)];simp,by rw[g3l (Dp _)];simpa using hq⟩
theorem f8o {l:Wq} (hll:l.length<=100000) {w:Wd} (hwl:w.length<=1000) (hwls:∀ x∈l,x.length<=1000) (g:Gb) (n:Nat) (lv wv:AV) (h1:Bt g n l lv) (hw:Ak g n w wv) :
  WC 0 prog 71 [lv,wv] ⟨.fn g,n⟩ fun r=>∃ ov g' n' B cs,r=.ret ov ⟨.fn g',n'⟩/\n<=n'/\(∀ b,b<n->g' b=g b)/\Bh g' n n' B ov (Bk w l).length 1 cs/\RowsW g n (Bk w l) cs:=by
 have hlen:=@Am prog _ _ _ _ _ h1.choose_spec.1;have h1w:oneC wv=true:=hw.one;have hcw:cellsOf wv=[wv]:=hw.cell;have h2w:allOne [wv]=true:=by simp[h1w]
 have HL:=Aa.mk h1;have HW:=Aa.mk hw;have HWL:=Aa.mk hwls;have HIN:=Aa.mk (c6n (w:=w) l);clear h1 hw hwls;generalize Bk w l=RES at *;refine ent [] func71 rfl (by decide +kernel) (by kernel_rfl) ?_
 iterate 8 all_goals try first|apply spl<;>intro h|simp (disch:=first|assumption|omega|simp) [*]
 refine LX.ind (fun m gf H'=>∃ (k n' B:Nat) (gL:Gb) (p:Bool) (out:Wq) (ov:AV) (cs:List AV),k<=l.length/\m=l.length-k/\H'=⟨.fn gL,n'⟩/\n<=n'/\Aa (∀ b,b<n->gL b=g b)/\Aa (RES=out++a3c w (l.drop k) p)/\out.length<=2*k/\Aa (Bh gL n n' B ov out.length 1 cs)/\Aa (RowsW g n out cs) /\
  gf 0=some lv/\gf 1=some wv/\gf 5=some ov/\gf 6=some (.lit (.bool p))/\gf 7=some (.li k)) (m0:=l.length) ?_ ?_
 ·exact⟨0,n,0,g,false,[],.nl,[],Du _,rfl,rfl,Dp _,⟨fun _ _=>rfl⟩,⟨HIN.out.symm⟩,by simp,⟨.inl ⟨rfl,rfl,rfl⟩⟩,⟨⟨rfl,fun k h=>by cases h⟩⟩,by simp[*]⟩
 clear HIN;rintro m gf H' ⟨k,n',B,gL,p,out,ov,cs,hk,rfl,rfl,hn',HG,HRES,hol,HGR,HRW,w0,w1,w5,w6,w7⟩ ih;refine rnd [] (by decide +kernel) ?_;by_cases hlt:k<l.length
 ·have hltI:(k:Int)<(l.length:Int):=by omega
  obtain⟨a,off,q,ha,hia,hcell0,hq⟩:=HL.out.at hlt;have hcell:Bd (some (false,1)) (gL a) (off+k)=some q:=(congrArg (fun z=>Bd (some (false,1)) z (off+k)) (HG.out a ha)).trans hcell0;have h1q:oneC q=true:=hq.one;have hcq:cellsOf q=[q]:=hq.cell;have h2q:allOne [q]=true:=by simp[h1q]
  have HC:=Aa.mk (d6p w l[k] (by omega) (by have:=HWL.out _ (Dt hlt);omega) gL n' wv q (Ag.mono hn' HG.out HW.out) (Ag.mono hn' HG.out hq));have HST:=Aa.mk (HRES.out.trans (show out++a3c w (l.drop k) p=out++((if Bl w l[k] < 0/\p=false then [w] else [])++l[k] :: a3c w (l.drop (k+1)) (p || decide (Bl w l[k]<=0))) from by rw[Ef hlt];rfl));have HR1:=Aa.mk (HRW.out.snoc hq);have HR2:=Aa.mk ((HRW.out.snoc HW.out).snoc hq);have hcl:cs.length=out.length:=HRW.out.1;have hol2:out.length<=200000:=by omega
  have hcl2:(cs++[wv]).length=(out.length+1)*1:=by simp[hcl]
  clear hcell0 hq HRW HRES;generalize Bl w l[k]=c at *;generalize l[k]=x at *
  iterate 8 all_goals try first|apply spl<;>intro h|simp (disch:=first|assumption|omega|simp) [*]
  refine WC.mono HC.out ?_;rintro _ rfl;clear HC;rcases g5e c 0 with hc|hc|hc
  ·have hc1:¬c=0:=by omega
   have hc2:c<=0:=by omega
   cases p with
   | true =>
    rw[if_neg (by simp),g4a] at HST;rcases HGR.out with⟨ho,hc0,hs0⟩|⟨ho,hs0,hB1,hB2,hB3,hB4⟩
    ·subst hs0;have HZ:=Aa.mk (And.intro ho hc0);clear ho hc0
     iterate 8 all_goals try first|apply spl<;>intro h|simp (disch:=first|assumption|omega|simp) [*]
     refine ih.out (l.length-(k+1)) _ _ (by omega) ⟨k+1,n'+1+1,n'+1,_,true,out++[x],.slq (n'+1) 0 (out++[x]).length 0,cs++[q],by omega,rfl,rfl,by omega,⟨fun b hb=>?_⟩,⟨by rw[HST.out];simp⟩,by simp;omega,⟨.inr ⟨by simp,rfl,by omega,by omega,?_,by simp;omega⟩⟩,HR1,by simp[*],by simp[*],by simp[HZ.out.1, *],by simp[*]⟩
     ·simp (disch:=omega) only[Ab,Ae];exact HG.out b hb
     ·rw[HZ.out.2];simp (disch:=omega) [Ab,Ae,Af, *]
    ·subst hs0
     iterate 8 all_goals try first|apply spl<;>intro h|simp (disch:=first|assumption|omega|simp) [*]
     refine ih.out (l.length-(k+1)) _ _ (by omega) ⟨k+1,n'+1+1,n'+1,_,true,out++[x],.slq (n'+1) 0 (out++[x]).length 0,cs++[q],by omega,rfl,rfl,by omega,⟨fun b hb=>?_⟩,⟨by rw[HST.out];simp⟩,by simp;omega,⟨.inr ⟨by simp,rfl,by omega,by omega,?_,by simp;omega⟩⟩,HR1,by simp[*]⟩
     ·simp (disch:=omega) only[Ab,Ae];exact HG.out b hb
     ·simp (disch:=omega) [Ab,Ae,Af, *]
   | false =>
    rw[if_pos ⟨hc,rfl⟩,g4n,decide_eq_true hc2] at HST;rcases HGR.out with⟨ho,hc0,hs0⟩|⟨ho,hs0,hB1,hB2,hB3,hB4⟩
    ·subst hs0;have HZ:=Aa.mk (And.intro ho hc0);clear ho hc0
     iterate 8 all_goals try first|apply spl<;>intro h|simp (disch:=first|assumption|omega|simp) [*]
     refine ih.out (l.length-(k+1)) _ _ (by omega) ⟨k+1,n'+1+1+1+1,n'+1+1+1,_,true,out++[w]++[x],.slq (n'+1+1+1) 0 (out++[w]++[x]).length 0,cs++[wv]++[q],by omega,rfl,rfl,by omega,⟨fun b hb=>?_⟩,⟨by rw[HST.out];simp⟩,by simp;omega,⟨.inr ⟨by simp,rfl,by omega,by omega,?_,by simp;omega⟩⟩,HR2,by simp[*],by simp[*],by simp[HZ.out.1, *],by simp[*]⟩
     ·simp (disch:=omega) only[Ab,Ae];exact HG.out b hb
     ·rw[HZ.out.2];simp (disch:=omega) [Ab,Ae,Af, *]
    ·subst hs0
     iterate 8 all_goals try first|apply spl<;>intro h|simp (disch:=first|assumption|omega|simp) [*]
     refine ih.out (l.length-(k+1)) _ _ (by omega) ⟨k+1,n'+1+1+1+1,n'+1+1+1,_,true,out++[w]++[x],.slq (n'+1+1+1) 0 (out++[w]++[x]).length 0,cs++[wv]++[q],by omega,rfl,rfl,by omega,⟨fun b hb=>?_⟩,⟨by rw[HST.out];simp⟩,by simp;omega,⟨.inr ⟨by simp,rfl,by omega,by omega,?_,by simp;omega⟩⟩,HR2,by simp[*]⟩
     ·simp (disch:=omega) only[Ab,Ae];exact HG.out b hb
     ·simp (disch:=omega) [Ab,Ae,Af, *]
  ·have hc1:¬c<0:=by omega
   have hc2:c<=0:=by omega
   rw[if_neg (fun h=>hc1 h.1),decide_eq_true hc2,g4d] at HST;subst hc
   cases p with
   | true =>
    rcases HGR.out with⟨ho,hc0,hs0⟩|⟨ho,hs0,hB1,hB2,hB3,hB4⟩
    ·subst hs0;have HZ:=Aa.mk (And.intro ho hc0);clear ho hc0
     iterate 8 all_goals try first|apply spl<;>intro h|simp (disch:=first|assumption|omega|simp) [*]
     refine ih.out (l.length-(k+1)) _ _ (by omega) ⟨k+1,n'+1+1,n'+1,_,true,out++[x],.slq (n'+1) 0 (out++[x]).length 0,cs++[q],by omega,rfl,rfl,by omega,⟨fun b hb=>?_⟩,⟨by rw[HST.out];simp⟩,by simp;omega,⟨.inr ⟨by simp,rfl,by omega,by omega,?_,by simp;omega⟩⟩,HR1,by simp[*],by simp[*],by simp[HZ.out.1, *],by simp[*]⟩
     ·simp (disch:=omega) only[Ab,Ae];exact HG.out b hb
     ·rw[HZ.out.2];simp (disch:=omega) [Ab,Ae,Af, *]
    ·subst hs0
     iterate 8 all_goals try first|apply spl<;>intro h|simp (disch:=first|assumption|omega|simp) [*]
     refine ih.out (l.length-(k+1)) _ _ (by omega) ⟨k+1,n'+1+1,n'+1,_,true,out++[x],.slq (n'+1) 0 (out++[x]).length 0,cs++[q],by omega,rfl,rfl,by omega,⟨fun b hb=>?_⟩,⟨by rw[HST.out];simp⟩,by simp;omega,⟨.inr ⟨by simp,rfl,by omega,by omega,?_,by simp;omega⟩⟩,HR1,by simp[*]⟩
     ·simp (disch:=omega) only[Ab,Ae];exact HG.out b hb
     ·simp (disch:=omega) [Ab,Ae,Af, *]
   | false =>
    rcases HGR.out with⟨ho,hc0,hs0⟩|⟨ho,hs0,hB1,hB2,hB3,hB4⟩
    ·subst hs0;have HZ:=Aa.mk (And.intro ho hc0);clear ho hc0
     iterate 8 all_goals try first|apply spl<;>intro h|simp (disch:=first|assumption|omega|simp) [*]
     refine ih.out (l.length-(k+1)) _ _ (by omega) ⟨k+1,n'+1+1,n'+1,_,true,out++[x],.slq (n'+1) 0 (out++[x]).length 0,cs++[q],by omega,rfl,rfl,by omega,⟨fun b hb=>?_⟩,⟨by rw[HST.out];simp⟩,by simp;omega,⟨.inr ⟨by simp,rfl,by omega,by omega,?_,by simp;omega⟩⟩,HR1,by simp[*],by simp[*],by simp[HZ.out.1, *],by simp[*]⟩
     ·simp (disch:=omega) only[Ab,Ae];exact HG.out b hb
     ·rw[HZ.out.2];simp (disch:=omega) [Ab,Ae,Af, *]
    ·subst hs0
     iterate 8 all_goals try first|apply spl<;>intro h|simp (disch:=first|assumption|omega|simp) [*]
     refine ih.out (l.length-(k+1)) _ _ (by omega) ⟨k+1,n'+1+1,n'+1,_,true,out++[x],.slq (n'+1) 0 (out++[x]).length 0,cs++[q],by omega,rfl,rfl,by omega,⟨fun b hb=>?_⟩,⟨by rw[HST.out];simp⟩,by simp;omega,⟨.inr ⟨by simp,rfl,by omega,by omega,?_,by simp;omega⟩⟩,HR1,by simp[*]⟩
     ·simp (disch:=omega) only[Ab,Ae];exact HG.out b hb
     ·simp (disch:=omega) [Ab,Ae,Af, *]
  ·have hc1:¬c<0:=by omega
   have hc2:¬c<=0:=by omega
   have hc3:¬c=0:=by omega
   rw[if_neg (fun h=>hc1 h.1),decide_eq_false hc2,g3v] at HST
   cases p with
   | true =>
    rcases HGR.out with⟨ho,hc0,hs0⟩|⟨ho,hs0,hB1,hB2,hB3,hB4⟩
    ·subst hs0;have HZ:=Aa.mk (And.intro ho hc0);clear ho hc0
     iterate 8 all_goals try first|apply spl<;>intro h|simp (disch:=first|assumption|omega|simp) [*]
     refine ih.out (l.length-(k+1)) _ _ (by omega) ⟨k+1,n'+1+1,n'+1,_,true,out++[x],.slq (n'+1) 0 (out++[x]).length 0,cs++[q],by omega,rfl,rfl,by omega,⟨fun b hb=>?_⟩,⟨by rw[HST.out];simp⟩,by simp;omega,⟨.inr ⟨by simp,rfl,by omega,by omega,?_,by simp;omega⟩⟩,HR1,by simp[*],by simp[*],by simp[HZ.out.1, *],by simp[*]⟩
     ·simp (disch:=omega) only[Ab,Ae];exact HG.out b hb
     ·rw[HZ.out.2];simp (disch:=omega) [Ab,Ae,Af, *]
    ·subst hs0
     iterate 8 all_goals try first|apply spl<;>intro h|simp (disch:=first|assumption|omega|simp) [*]
     refine ih.out (l.length-(k+1)) _ _ (by omega) ⟨k+1,n'+1+1,n'+1,_,true,out++[x],.slq (n'+1) 0 (out++[x]).length 0,cs++[q],by omega,rfl,rfl,by omega,⟨fun b hb=>?_⟩,⟨by rw[HST.out];simp⟩,by simp;omega,⟨.inr ⟨by simp,rfl,by omega,by omega,?_,by simp;omega⟩⟩,HR1,by simp[*]⟩
     ·simp (disch:=omega) only[Ab,Ae];exact HG.out b hb
     ·simp (disch:=omega) [Ab,Ae,Af, *]
   | false =>
    rcases HGR.out with⟨ho,hc0,hs0⟩|⟨ho,hs0,hB1,hB2,hB3,hB4⟩
    ·subst hs0;have HZ:=Aa.mk (And.intro ho hc0);clear ho hc0
     iterate 8 all_goals try first|apply spl<;>intro h|simp (disch:=first|assumption|omega|simp) [*]
     refine ih.out (l.length-(k+1)) _ _ (by omega) ⟨k+1,n'+1+1,n'+1,_,false,out++[x],.slq (n'+1) 0 (out++[x]).length 0,cs++[q],by omega,rfl,rfl,by omega,⟨fun b hb=>?_⟩,⟨by rw[HST.out];simp⟩,by simp;omega,⟨.inr ⟨by simp,rfl,by omega,by omega,?_,by simp;omega⟩⟩,HR1,by simp[*],by simp[*],by simp[HZ.out.1, *],by simp[*]⟩
     ·simp (disch:=omega) only[Ab,Ae];exact HG.out b hb
     ·rw[HZ.out.2];simp (disch:=omega) [Ab,Ae,Af, *]
    ·subst hs0
     iterate 8 all_goals try first|apply spl<;>intro h|simp (disch:=first|assumption|omega|simp) [*]
     refine ih.out (l.length-(k+1)) _ _ (by omega) ⟨k+1,n'+1+1,n'+1,_,false,out++[x],.slq (n'+1) 0 (out++[x]).length 0,cs++[q],by omega,rfl,rfl,by omega,⟨fun b hb=>?_⟩,⟨by rw[HST.out];simp⟩,by simp;omega,⟨.inr ⟨by simp,rfl,by omega,by omega,?_,by simp;omega⟩⟩,HR1,by simp[*]⟩
     ·simp (disch:=omega) only[Ab,Ae];exact HG.out b hb
     ·simp (disch:=omega) [Ab,Ae,Af, *]
 ·have hltI:¬(k:Int)<(l.length:Int):=by omega
  have hcl:cs.length=out.length:=HRW.out.1;have hol2:out.length<=200000:=by omega
  have HR1:=Aa.mk (HRW.out.snoc HW.out);rw[Ex (by omega)] at HRES
  cases p with
  | true =>
   have hRE:RES=out:=by rw[HRES.out];simp[a3c]
   subst hRE
   iterate 8 all_goals try first|apply spl<;>intro h|simp (disch:=first|assumption|omega|simp) [*]
   exact⟨_,_,_,⟨rfl,rfl,rfl⟩,hn',HG.out,B,cs,HGR.out,HRW.out⟩
  | false =>
   have hRE:RES=out++[w]:=by rw[HRES.out];simp[a3c]
   subst hRE;rcases HGR.out with⟨ho,hc0,hs0⟩|⟨ho,hs0,hB1,hB2,hB3,hB4⟩
   ·subst hs0;subst hc0
    iterate 8 all_goals try first|apply spl<;>intro h|simp (disch:=first|assumption|omega|simp) [*]
    exact⟨_,_,_,⟨rfl,rfl,rfl⟩,by omega,fun b hb=>by simp (disch:=omega) only[Ab];exact HG.out b hb,n'+1,[wv],.inr ⟨by omega,rfl,by omega,by omega,Af,rfl⟩,HR1.out⟩
   ·subst hs0
    iterate 8 all_goals try first|apply spl<;>intro h|simp (disch:=first|assumption|omega|simp) [*]
    exact⟨_,_,_,⟨rfl,rfl,rfl⟩,by omega,fun b hb=>by simp (disch:=omega) only[Ab,Ae];exact HG.out b hb,n'+1,cs++[wv],.inr ⟨by omega,rfl,by omega,by omega,Af,by simp;omega⟩,HR1.out⟩
end Go.Ai
end
section
namespace Go.Ai
open Go.Proofs Go.Proofs.Tryz
set_option maxRecDepth 10000
set_option maxHeartbeats 40000000
theorem Bh.listv {g g0:Gb} {lo n B:Nat} {l:Wq} {sv:AV} {cs:List AV} (h:Bh g lo n B sv l.length 1 cs) (hn:lo<=n) (hg:∀ b,b<lo->g b=g0 b) (hr:RowsW g0 lo l cs) : Bt g n l sv:=by
 refine⟨cs,Ag.ext (Dp _) (fun a x _ hx=>?_) h.slice,hr.ext hn fun a x ha hx=>(hg a ha).trans hx⟩;split at hx
 ·exact hx
 ·cases hx
theorem c6o {w:Wd} : ∀ {l:Wq},(Bk w l).length<=l.length+1
 | []=>Dp _
 | x :: l=>by
  have:=@c6o w l;unfold Bk;split
  ·simp
  ·split
   ·simp
   ·simp;omega
theorem f8p {w r:Wd} {i:Nat} {L:Wq} (h1:i<w.length) (h2:i<r.length) : nodW L (w.take i) (w.drop i) (r.drop i)=if r[i] = -1 then L else nodW (Bk (w.take (i+1)) L) (w.take (i+1)) (w.drop (i+1)) (r.drop (i+1)):=by
 rw[Ef h1,Ef h2,Cr h1];rfl
theorem f8q {w r:Wd} {i:Nat} {L:Wq} (h1:¬i<w.length) : nodW L (w.take i) (w.drop i) (r.drop i)=L:=by
 rw[Ex (by omega)];cases r.drop i<;>rfl
theorem f8r {ts:Lq} {k:Nat} (h:k<ts.length) : Bv (ts.take (k+1))=nodW (Bv (ts.take k)) [] ts[k].1 ts[k].2:=by
 unfold Bv;rw[Cr h,g6c];rfl
theorem f8s {I O:Int} {ts:Lq} (hS:c0c ts) (hL2:∀ t∈ts,t.2.length=t.1.length) (g:Gb) (n:Nat) (sv:AV) (hT:a3b g n ts sv) :
  WC 0 prog 73 [.agg [.li I,.li O,sv]] ⟨.fn g,n⟩ fun r=>∃ ov g' n',r=.ret ov ⟨.fn g',n'⟩/\n<=n'/\(∀ b,b<n->g' b=g b)/\Bt g' n' (Bv ts) ov/\(Bv ts).length<=1+300*ts.length/\∀ x∈Bv ts,x.length<=300:=by
 have hlen:=@Am prog _ _ _ _ _ hT.choose_spec.1;have h1s:=hT.choose_spec.1.one;have hone:allOne [.li I,.li O,sv]=true:=by simp[h1s]
 have hsl:=hS.len;have HS:=Aa.mk hS;have HL2:=Aa.mk hL2;have HT:=Aa.mk hT;clear hS hL2 hT;refine ent [] func73 rfl (by decide +kernel) (by kernel_rfl) ?_
 iterate 8 all_goals try first|apply spl<;>intro h|simp (disch:=first|assumption|omega|simp) [*]
 refine LX.ind (fun m gf H'=>∃ (k n' : Nat) (gL:Gb) (lv:AV),k<=ts.length/\m=ts.length-k/\H'=⟨.fn gL,n'⟩/\n+1+1+1<=n'/\Aa (∀ b,b<n->gL b=g b)/\gL n=some (.cells [.li I,.li O,sv] true 0)/\Aa (Bt gL n' (Bv (ts.take k)) lv)/\(Bv (ts.take k)).length<=1+300*k/\Aa (∀ x∈Bv (ts.take k),x.length<=300) /\
  gf 1=some (.ptr n 0)/\gf 3=some lv/\gf 4=some (.li k)) (m0:=ts.length) ?_ ?_
 ·refine⟨0,_,_,.sl (n+1+1) 0 1 1,Du _,rfl,rfl,Dp _,⟨fun b hb=>?_⟩,?_,⟨[.sl (n+1) 0 0 0],?_,rfl,fun k hk=>?_⟩,?_,⟨fun x hx=>?_⟩,by simp[*]⟩
  ·simp (disch:=omega) only[Ab]
  ·simp (disch:=omega) only[Ab,Af]
  ·exact a2v Af (by omega)
  ·have e:k=0:=by simp[Bv] at hk;omega
   subst e;refine⟨.sl (n+1) 0 0 0,rfl,?_⟩;exact a2v (cs:=[]) (own:=true) (z:=0) (by simp (disch:=omega) only[Ab,Af]) (by omega)
  ·simp[Bv]
  ·have e:x=[]:=by simpa[Bv] using hx
   rw[e];simp
 rintro m gf H' ⟨k,n',gL,lv,hk,rfl,rfl,hn',HG,hgn,HLV,hlL,HWL,w1,w3,w4⟩ ih;refine rnd [] (by decide +kernel) ?_;by_cases hlt:k<ts.length
 ·have hltI:(k:Int)<(ts.length:Int):=by omega
  obtain⟨a2,off,s1,s2,HAT0,hc1,hc2⟩:=(HT.out.mono (show n<=n' by omega) HG.out).at hlt;have HAT:=Aa.mk HAT0;clear HAT0;have hia:∀ {H:Mem} {ev:Ev} {o:Oper} {ty:TypeId},iaS prog H ev o ty (some (none,2)) (some sv) (some (.li (k:Int)))=.val (.ptr a2 (off+k*2)) H:=fun {H ev o ty}=>HAT.out.ia;have han:a2<n':=HAT.out.an;have hagg:=HAT.out.agg;have h1s1:oneC s1=true:=HAT.out.r1.one;have h1s2:oneC s2=true:=HAT.out.r2.one;have hone2:allOne [s1,s2]=true:=by simp[h1s1,h1s2]
  have hw1:=HS.out.w1 _ (Dt hlt);have hl2:=HL2.out _ (Dt hlt);have HSTP:=Aa.mk (f8r hlt);have hl1:=@Am prog _ _ _ _ _ HAT.out.r1;have HR1:=Aa.mk HAT.out.r1;have HR2:=Aa.mk HAT.out.r2;have HC1:=Aa.mk hc1;clear HAT hc1 hc2;generalize ts[k]=t at *;obtain⟨RES,hRE⟩ : ∃ x,x=Bv (ts.take (k+1)):=⟨_,rfl⟩;rw[<- hRE] at HSTP;have HRE:=Aa.mk hRE;clear hRE;generalize Bv (ts.take k)=L0 at *
  iterate 8 all_goals try first|apply spl<;>intro h|simp (disch:=first|assumption|omega|simp) [*]
  refine LX.ind (fun m gf H'=>∃ (i n2:Nat) (g2:Gb) (lv:AV) (L:Wq),i<=t.1.length/\m=t.1.length-i/\H'=⟨.fn g2,n2⟩/\n'+1<=n2/\Aa (∀ b,b<n'->g2 b=gL b)/\g2 n'=some (.cells [s1,s2] true 0)/\Aa (Bt g2 n2 L lv)/\L.length<=1+300*k+i/\Aa (∀ x∈L,x.length<=300)/\Aa (RES=nodW L (t.1.take i) (t.1.drop i) (t.2.drop i)) /\
   gf 1=some (.ptr n 0)/\gf 3=some lv/\gf 4=some (.li k)/\gf 5=some (.ptr n' 0)/\gf 6=some (.li i)) (m0:=t.1.length) ?_ ?_
  ·exact⟨0,n'+1,_,lv,L0,Du _,rfl,rfl,Dp _,⟨fun b hb=>Ab hb⟩,Af,⟨HLV.out.mono (Dy n') fun b hb=>Ab hb⟩,by omega,HWL,HSTP,by simp[*]⟩
  clear w1 w3 w4 HLV HWL HSTP hia hagg;rintro m gf H' ⟨i,n2,g2,lv2,L,hi,rfl,rfl,hn2,HG2,hgt,HLV,hlL2,HWL,HRES,w1,w3,w4,w5,w6⟩ ih2;have hgn2:=(HG2.out n (by omega)).trans hgn;refine rnd [] (by decide +kernel) ?_;by_cases hli:i<t.1.length
  ·have hliI:(i:Int)<(t.1.length:Int):=by omega
   have hli2:i<t.2.length:=by omega
   obtain⟨a3,o3,ha3,hia3,hc3⟩:=Ak.at (Ag.mono (Dp n') HG2.out HR2.out) hli2;have HST:=Aa.mk (HRES.out.trans (f8p hli hli2));obtain⟨cut,hcut,hcv⟩:=Ag.cut HR1.out HC1.out el57 (k:=i+1) (sz:=1) hli (by omega);have htl:(t.1.take (i+1)).length=i+1:=by rw[Dw];omega
   have hcv2:Ak gL n' (t.1.take (i+1)) cut:=by
    unfold Ak;rw[htl,show wdC (t.1.take (i+1))=(wdC t.1).take ((i+1)*1) by simp[wdC]];exact hcv
   rw[show ((i+1:Nat) : Int)=(i:Int)+1 by omega] at hcut;have HAD:=Aa.mk (f8o (l:=L) (w:=t.1.take (i+1)) (by omega) (by omega) (fun x hx=>by have:=HWL.out x hx;omega) g2 n2 lv2 cut HLV.out (Ag.mono (by omega) HG2.out hcv2));have HIM:Aa (∀ x∈Bk (t.1.take (i+1)) L,x.length<=300):=⟨fun x hx=>by
    rcases b2k.1 hx with h|h
    ·rw[h];omega
    ·exact HWL.out x h⟩
   have hil:=@c6o (t.1.take (i+1)) L;clear hcv hcv2;generalize t.2[i]=o at *;by_cases ho:o = -1
   ·rw[if_pos ho] at HST;have hRL:=HST.out;subst hRL;subst ho
    iterate 8 all_goals try first|apply spl<;>intro h|simp (disch:=first|assumption|omega|simp) [*]
    exact ih.out (ts.length-(k+1)) _ _ (by omega) ⟨k+1,n2,g2,lv2,by omega,rfl,rfl,by omega,⟨fun b hb=>(HG2.out b (by omega)).trans (HG.out b hb)⟩,hgn2,⟨by rw[<- HRE.out];exact HLV.out⟩,by rw[<- HRE.out];omega,⟨by rw[<- HRE.out];exact HWL.out⟩,by simp[*]⟩
   ·rw[if_neg ho] at HST;generalize Bk (t.1.take (i+1)) L=L2 at *
    iterate 8 all_goals try first|apply spl<;>intro h|simp (disch:=first|assumption|omega|simp) [*]
    refine WC.mono HAD.out ?_;rintro _ ⟨ov,g3,n3,B,cs,rfl,hn3,hg3,hgr,hrw⟩;have HG3:=Aa.mk hg3;have HLN:Aa (Bt g3 n3 L2 ov):=⟨hgr.listv hn3 hg3 hrw⟩;clear hg3 hgr hrw
    iterate 8 all_goals try first|apply spl<;>intro h|simp (disch:=first|assumption|omega|simp) [*]
    exact ih2.out (t.1.length-(i+1)) _ _ (by omega) ⟨i+1,n3,g3,ov,L2,by omega,rfl,rfl,by omega,⟨fun b hb=>(HG3.out b (by omega)).trans (HG2.out b hb)⟩,(HG3.out n' (by omega)).trans hgt,HLN,by omega,HIM,HST,by simp[*]⟩
  ·have hliI:¬(i:Int)<(t.1.length:Int):=by omega
   have hRL:=HRES.out.trans (f8q hli);subst hRL
   iterate 8 all_goals try first|apply spl<;>intro h|simp (disch:=first|assumption|omega|simp) [*]
   exact ih.out (ts.length-(k+1)) _ _ (by omega) ⟨k+1,n2,g2,lv2,by omega,rfl,rfl,by omega,⟨fun b hb=>(HG2.out b (by omega)).trans (HG.out b hb)⟩,hgn2,⟨by rw[<- HRE.out];exact HLV.out⟩,by rw[<- HRE.out];omega,⟨by rw[<- HRE.out];exact HWL.out⟩,by simp[*]⟩
 ·have hltI:¬(k:Int)<(ts.length:Int):=by omega
  rw[Eo (by omega)] at HLV HWL hlL
  iterate 8 all_goals try first|apply spl<;>intro h|simp (disch:=first|assumption|omega|simp) [*]
  exact⟨_,_,_,⟨rfl,rfl,rfl⟩,by omega,HG.out,HLV.out,by omega,HWL.out⟩
end Go.Ai
end
section
namespace Go.Ai
open Go.Proofs Go.Proofs.Tryz
set_option maxRecDepth 10000
set_option maxHeartbeats 40000000
variable {g:Gb} {n:Nat}
def RowsG (g:Gb) (n:Nat) (rows:Tq) (svs:List AV) : Prop:=svs.length=rows.length/\∀ (k:Nat) (h:k<rows.length),∃ sv,svs[k]?=some sv/\Ag g n sv rows[k].length (Aq rows[k])
def De (g:Gb) (n:Nat) (rows:Tq) (tv:AV) : Prop:=∃ svs,Ag g n tv rows.length svs/\RowsG g n rows svs
theorem RowsG.snoc {l:Tq} {svs:List AV} (h:RowsG g n l svs) {x:List (Int×Int)} {q:AV} (hq:Ag g n q x.length (Aq x)) : RowsG g n (l++[x]) (svs++[q]):=by
 refine⟨by simp[h.1],fun k hk=>?_⟩;have hl:=h.1;rw[Dr,Em] at hk;by_cases h2:k<l.length
 ·obtain⟨sv,e1,e2⟩:=h.2 k h2;exact⟨sv,by rw[Ew (by omega)];exact e1,by rw[Ey h2];exact e2⟩
 ·have e:k=l.length:=by omega
  subst e;exact⟨q,by rw[<- hl,Eu (Dp _)];simp,by rw[g3l (Dp _)];simpa using hq⟩
theorem RowsG.ext {g': Gb} {n': Nat} {l:Tq} {svs:List AV} (h:RowsG g n l svs) (hn:n<=n') (hg:∀ a x,a<n->g a=some x->g' a=some x) : RowsG g' n' l svs :=
 ⟨h.1,fun k hk=>let ⟨sv,h1,h2⟩:=h.2 k hk;⟨sv,h1,Ag.ext hn hg h2⟩⟩
theorem De.mono {g': Gb} {n': Nat} {rows:Tq} {tv:AV} (h:De g n rows tv) (hn:n<=n') (hg:∀ a,a<n->g' a=g a) : De g' n' rows tv :=
 let ⟨svs,h1,h2⟩:=h;⟨svs,h1.mono hn hg,h2.ext hn fun a x ha hx=>(hg a ha).trans hx⟩
theorem RowsC.tree {lo I B:Nat} {rows:Tq} {bs:List Nat} (h:RowsC g lo n I rows bs) (hB:B<n) (hg:g B=some (.cells (Cs I bs) true 0)) : De g n rows (.sl B 0 rows.length rows.length):=by
 refine⟨Cs I bs,a2v hg hB,by rw[b4d];exact h.len,fun k hk=>?_⟩;have hk2:k<bs.length:=by have:=h.len;omega
 obtain⟨e1,e2,e3,e4⟩:=h.at' k hk2 hk;refine⟨.sl bs[k] 0 I I,by rw[Dv (by rw[b4d];exact hk2),c6i hk2],?_⟩;rw[e4];exact a2v e3 e2
theorem De.at {rows:Tq} {tv:AV} (h:De g n rows tv) {k:Nat} (hk:k<rows.length) : ∃ a off q,a<n/\(∀ {H:Mem} {ev:Ev} {o:Oper} {t:TypeId},iaS prog H ev o t (some (none,1)) (some tv) (some (.li (k:Int)))=.val (.ptr a (off+k)) H)/\Bd (some (false,1)) (g a) (off+k)=some q/\Ag g n q rows[k].length (Aq rows[k]):=by
 obtain⟨svs,h1,h2,h3⟩:=h;obtain⟨q,e1,e2⟩:=h3 k hk;obtain⟨a,off,ha,hrow,hia⟩:=h1.ia (P:=prog) hk 1;simp only[El] at hia;have hc:=hrow.one (k:=k) (s:=1) (by omega);rw[(Ea.1 e1).2] at hc;exact⟨a,off,q,ha,hia,hc,e2⟩
theorem b4e {row:List (Int×Int)} {q:AV} (h:Ag g n q row.length (Aq row)) {i:Nat} (hi:i<row.length) : ∃ a off,a<n/\(∀ {H:Mem} {ev:Ev} {o:Oper} {t:TypeId},iaS prog H ev o t (some (none,2)) (some q) (some (.li (i:Int)))=.val (.ptr a (off+i*2)) H)/\Bd (some (true,2)) (g a) (off+i*2)=some (.agg [.lit (.int .i64 row[i].1),.lit (.int .i64 row[i].2)]):=by
 obtain⟨a,off,ha,hrow,hia⟩:=h.ia (P:=prog) hi 2;have hc:=hrow.agg (k:=i*2) (s:=2) (by rw[rowC_len];omega);rw[rowC_at row i hi] at hc;exact⟨a,off,ha,hia,hc⟩
theorem f8t {H:Mem} {ev:Ev} {d:Option Tmp} {ty rt:TypeId} {p:String} {af:Array Edge} {g:Option (Nat×Bool)} {x y:Operand} {a b a' b': Int} (hx:ev x=some (.agg [.li a,.li b])) (hy:ev y=some (.agg [.li a',.li b'])) :
  a2u prog H ev ⟨d,.binOp .neq 97 x y rt,ty,p,af,g⟩ .neq 97 (some (.agg [.li a,.li b])) (some (.agg [.li a',.li b']))=.val (.lit (.bool (!(decide (a=a') && decide (b=b'))))) H:=by
 show Bq prog H ev ⟨d,.binOp .neq 97 x y rt,ty,p,af,g⟩ .neq 97 (some (.agg [.li a,.li b])) (some (.agg [.li a',.li b']))=_;refine b1q rfl ?_;have h1:(Op.operands (.binOp .neq 97 x y rt)).toList=[x,y]:=rfl;unfold Ba;dsimp only;rw[h1];have l1:toLit (.agg [.li a,.li b])=some (.agg #[.int .i64 a,.int .i64 b]):=rfl;have l2:toLit (.agg [.li a',.li b'])=some (.agg #[.int .i64 a',.int .i64 b']):=rfl;simp only[g5t,List.all_nil,hx,hy,l1,l2,g4o,if_true];have h2:∀ ρ:Operand->Value,ρ x=.agg #[.int .i64 a,.int .i64 b]->ρ y=.agg #[.int .i64 a',.int .i64 b']->Ao prog (execOp ρ ⟨d,.binOp .neq 97 x y rt,ty,p,af,g⟩)=some (.value (.bool (!(decide (a=a') && decide (b=b'))))):=by
  intro ρ e1 e2;refine b1r e1 e2 ?_ ?_
  ·unfold eqGuard;kernel_rfl
  ·show Ao prog (do pure (Value.bool (!(<- Op.equal 97 _ _))))=_;exact(Bs (f7i a b a' b')).trans rfl
 rw[h2 _ (by simp only[hx,l1]) (by simp only[hy,l2])]
attribute [simp] f8t
theorem f8u {rows:Tq} (hl:rows.length<=100000) (hI:∀ r∈rows,r.length<=1000) (g:Gb) (n:Nat) (tv uv:AV) (h1:De g n rows tv) (h2:De g n rows uv) :
  WC 0 prog 33 [.agg [.li 0,.li 0,tv],.agg [.li 0,.li 0,uv]] ⟨.fn g,n⟩ fun r=>∃ g',r=.ret (.lit (.bool true)) ⟨.fn g',n+1+1⟩/\∀ b,b<n->g' b=g b:=by
 have hlen1:=@Am prog _ _ _ _ _ h1.choose_spec.1;have hlen2:=@Am prog _ _ _ _ _ h2.choose_spec.1;have ho1:=h1.choose_spec.1.one;have ho2:=h2.choose_spec.1.one;have hone1:allOne [.li 0,.li 0,tv]=true:=by simp[ho1]
 have hone2:allOne [.li 0,.li 0,uv]=true:=by simp[ho2]
 have H1:=Aa.mk h1;have H2:=Aa.mk h2;have HI:=Aa.mk hI;clear h1 h2 hI;refine ent pl33 func33 rfl (by decide +kernel) (by kernel_rfl) ?_
 iterate 8 all_goals try first|apply spl<;>intro h|simp (disch:=first|assumption|omega|simp) [*]
 refine LX.ind (fun m gf H'=>∃ (k:Nat) (gL:Gb),k<=rows.length/\m=rows.length-k/\H'=⟨.fn gL,n+1+1⟩/\Aa (∀ b,b<n->gL b=g b)/\gL n=some (.cells [.li 0,.li 0,tv] true 0)/\gL (n+1)=some (.cells [.li 0,.li 0,uv] true 0)/\gf 2=some (.ptr n 0)/\gf 3=some (.ptr (n+1) 0)/\gf 5=some (.li k)) (m0:=rows.length) ?_ ?_
 ·exact⟨0,_,Du _,rfl,rfl,⟨fun b hb=>by simp (disch:=omega) only[Ab]⟩,by simp (disch:=omega) only[Ab,Af],Af,by simp[*]⟩
 rintro m gf H' ⟨k,gL,hk,rfl,rfl,HG,hg1,hg2,w2,w3,w5⟩ ih;refine rnd pl33 (by decide +kernel) ?_;by_cases hlt:k<rows.length
 ·have hltI:(k:Int)<(rows.length:Int):=by omega
  obtain⟨a1,o1,q1,ha1,hia1,hc1,hq1⟩:=De.at (n:=n) (H1.out.mono (Dp n) HG.out) hlt;obtain⟨a2,o2,q2,ha2,hia2,hc2,hq2⟩:=De.at (n:=n) (H2.out.mono (Dp n) HG.out) hlt;have hql1:=@Am prog _ _ _ _ _ hq1;have hql2:=@Am prog _ _ _ _ _ hq2;have hrl:=HI.out _ (Dt hlt);have HQ1:=Aa.mk hq1;have HQ2:=Aa.mk hq2;clear hq1 hq2;generalize rows[k]=row at *
  iterate 8 all_goals try first|apply spl<;>intro h|simp (disch:=first|assumption|omega|simp) [*]
  refine LX.ind (fun m gf H'=>∃ i:Nat,i<=row.length/\m=row.length-i/\H'=⟨.fn gL,n+1+1⟩/\gf 2=some (.ptr n 0)/\gf 3=some (.ptr (n+1) 0)/\gf 5=some (.li k)/\gf 6=some (.li i)) (m0:=row.length) ?_ ?_
  ·exact⟨0,Du _,rfl,rfl,by simp[*]⟩
  clear w2 w3 w5;rintro m gf H' ⟨i,hi,rfl,rfl,w2,w3,w5,w6⟩ ih2;refine rnd pl33 (by decide +kernel) ?_;by_cases hli:i<row.length
  ·have hliI:(i:Int)<(row.length:Int):=by omega
   obtain⟨a3,o3,ha3,hia3,hc3⟩:=b4e HQ1.out hli;obtain⟨a4,o4,ha4,hia4,hc4⟩:=b4e HQ2.out hli;generalize row[i]=e at *
   iterate 8 all_goals try first|apply spl<;>intro h|simp (disch:=first|assumption|omega|simp) [*]
   exact ih2.out (row.length-(i+1)) _ _ (by omega) ⟨i+1,by omega,rfl,rfl,by simp[*]⟩
  ·have hliI:¬(i:Int)<(row.length:Int):=by omega
   iterate 8 all_goals try first|apply spl<;>intro h|simp (disch:=first|assumption|omega|simp) [*]
   exact ih.out (rows.length-(k+1)) _ _ (by omega) ⟨k+1,gL,by omega,rfl,rfl,HG,hg1,hg2,by simp[*]⟩
 ·have hltI:¬(k:Int)<(rows.length:Int):=by omega
  iterate 8 all_goals try first|apply spl<;>intro h|simp (disch:=first|assumption|omega|simp) [*]
  exact HG.out
end Go.Ai
end
section
namespace Go.Ai
open Go.Proofs Go.Proofs.Tryz
set_option maxRecDepth 10000
set_option maxHeartbeats 40000000
theorem f8v {I O:Int} {rows:Tq} (hl:rows.length<=100000) (hI:∀ r∈rows,r.length<=1000) (g:Gb) (n:Nat) (tv uv:AV) (h1:De g n rows tv) (h2:De g n rows uv) :
  WC 0 prog 76 [.agg [.li I,.li O,tv],.agg [.li I,.li O,uv]] ⟨.fn g,n⟩ fun r=>∃ g',r=.ret (.lit (.bool true)) ⟨.fn g',n+1+1+1+1⟩/\∀ b,b<n->g' b=g b:=by
 have ho1:=h1.choose_spec.1.one;have ho2:=h2.choose_spec.1.one;have hct:=h1.choose_spec.1.cell;have hcu:=h2.choose_spec.1.cell;have hone1:allOne [.li I,.li O,tv]=true:=by simp[ho1]
 have hone2:allOne [.li I,.li O,uv]=true:=by simp[ho2]
 have HM:=Aa.mk fun (gX:Gb) (hX:∀ b,b<n->gX b=g b)=>f8u hl hI gX (n+1+1) tv uv (h1.mono (by omega) hX) (h2.mono (by omega) hX);clear h1 h2 hI;refine ent [] func76 rfl (by decide +kernel) (by kernel_rfl) ?_
 iterate 8 all_goals try first|apply spl<;>intro h|simp (disch:=first|assumption|omega|simp) [*]
 refine WC.mono (HM.out _ fun b hb=>by simp (disch:=omega) only[Ab]) ?_;rintro _ ⟨gX,rfl,hX⟩;have HX:Aa (∀ b,b<n->gX b=g b):=⟨fun b hb=>(hX b (by omega)).trans (by simp (disch:=omega) only[Ab])⟩;have hb1:=hX n (by omega);have hb2:=hX (n+1) (by omega);simp (disch:=omega) only[Ab,Af] at hb1 hb2;clear hX
 iterate 8 all_goals try first|apply spl<;>intro h|simp (disch:=first|assumption|omega|simp) [*]
 exact HX.out
end Go.Ai
end

