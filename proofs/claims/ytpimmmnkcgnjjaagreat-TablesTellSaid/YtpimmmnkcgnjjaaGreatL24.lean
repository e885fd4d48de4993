/- A small verified interpreter over names, its proofs, and what was proved with it. No condition. -/
import Derived.Test.YtpimmmnkcgnjjaaGreatL23
import Derived.Test.YtpimmmnkcgnjjaaGreatL09
import Derived.Test.YtpimmmnkcgnjjaaGreatL12
import Derived.Test.YtpimmmnkcgnjjaaGreatL06
set_option linter.all false
set_option linter.deprecated false
section
namespace Go.Ai
open Go.Proofs Go.Proofs.Tryz
set_option maxRecDepth 10000
set_option maxHeartbeats 40000000
variable {g g':Gb} {n n':Nat} {L:List AV} {sv:AV} {ws:Wq}
structure a5x (g:Gb) (n:Nat) (l:Wq) (sv:AV) : Prop where
 len:l.length<=1000000
 words:∀ w∈l,w.length<=1000000
 ex:∃ svs,Ag g n sv l.length svs/\RowsW g n l svs/\∀ q∈svs,Bf q
structure b2q (g:Gb) (n:Nat) (T:Tq) (sv:AV) : Prop where
 len:T.length<=1000000
 rows:∀ r∈T,r.length<=1000000
 ex:∃ svs,Ag g n sv T.length svs/\RowsK g n T svs
theorem a5x.mono {l:Wq} (h:a5x g n l sv) (hn:n<=n') (hg:∀ a,a<n->g' a=g a) : a5x g' n' l sv :=
 ⟨h.len,h.words,let ⟨svs,h1,h2,h3⟩:=h.ex;⟨svs,h1.mono hn hg,h2.ext hn fun a x ha hx=>(hg a ha).trans hx,h3⟩⟩
theorem b2q.mono {l:Tq} (h:b2q g n l sv) (hn:n<=n') (hg:∀ a,a<n->g' a=g a) : b2q g' n' l sv :=
 ⟨h.len,h.rows,let ⟨svs,h1,h2⟩:=h.ex;⟨svs,h1.mono hn hg,h2.ext hn fun a x ha hx=>(hg a ha).trans hx⟩⟩
theorem mkI93:mkI prog 22=some (.nl):=by kernel_rfl
theorem mkI163:mkI prog 160=some (.lit (.bool false)):=by kernel_rfl
theorem g1l {H:Mem} {l:List AV} {z:Nat} {ag:Bool} {a off:Nat} {v:AV} (hv:oneC v=true) (h:off<l.length) :
  stS (some (ag,1)) (some (.cells l true z)) H a off [v]=.skip (H.upd a (.cells (l.set off v) true z)):=by
 refine(c3p (size:=1) rfl (by simp[hv]) h).trans ?_;have e:a9p l off [v]=l.set off v:=by
  unfold a9p;rw[List.set_eq_take_append_cons_drop,if_pos h];simp
 rw[e]
theorem g1m {H:Mem} {l:List AV} {z:Nat} {ag:Bool} {a off:Nat} {b:Bool} (h:off<l.length) :
  stS (some (ag,1)) (some (.cells l true z)) H a off [.lit (.bool b)]=.skip (H.upd a (.cells (l.set off (.lit (.bool b))) true z)):=g1l rfl h
def bvC (l:List Bool) : List AV:=l.map fun b=>.lit (.bool b)
theorem g1n (l:List Bool) : (bvC l).length=l.length:=by simp[bvC]
theorem d8n (l:List Bool) (t:Nat) (b:Bool) : (bvC l).set t (.lit (.bool b))=bvC (l.set t b):=by simp[bvC,List.map_set]
theorem c7j (l:List Bool) {m:Nat} (h:m<l.length) (h' : m<(bvC l).length) : (bvC l)[m]'h'=.lit (.bool (l.getD m false)):=by
 simp[bvC,Dx,h]
def a7f (g:Gb) (lo hi:Nat) (ws:Wq) (L:List AV) : Prop :=
 L.length=ws.length/\∀ (m:Nat),m<ws.length->∃ sv,L[m]?=some sv/\((ws.getD m []=[]/\sv=.nl)\/(ws.getD m []≠[]/\∃ a,lo<=a/\a<hi/\sv=.slq a 0 (ws.getD m []).length 0/\g a=some (.cells (wdC (ws.getD m [])) true 1)))
theorem a7f.ext {lo hi hi': Nat} (h:a7f g lo hi ws L) (hh:hi<=hi') (hg:∀ a,lo<=a->a<hi->g' a=g a) : a7f g' lo hi' ws L :=
 ⟨h.1,fun m hm=>let ⟨sv,h1,h2⟩:=h.2 m hm;⟨sv,h1,h2.imp id fun⟨h3,a,h4,h5,h6,h7⟩=>⟨h3,a,h4,by omega,h6,(hg a h4 h5).trans h7⟩⟩⟩
theorem a7f.set {lo hi:Nat} (h:a7f g lo hi ws L) {t a:Nat} {w:Wd} (hw:w≠[]) (h1:lo<=a) (h2:a<hi) (h3:g a=some (.cells (wdC w) true 1)) : a7f g lo hi (ws.set t w) (L.set t (.slq a 0 w.length 0)):=by
 refine⟨by rw[Ed,Ed,h.1],fun m hm=>?_⟩;rw[Ed] at hm;by_cases e:t=m
 ·subst e;refine⟨_,g3x (by rw[h.1];exact hm),?_⟩;rw[a8g,if_pos ⟨rfl,hm⟩];exact .inr ⟨hw,a,h1,h2,rfl,h3⟩
 ·obtain⟨sv,h4,h5⟩:=h.2 m hm;refine⟨sv,by rw[g2z e];exact h4,?_⟩;rw[a8g,if_neg (fun h=>e h.1)];exact h5
theorem a7f.list {lo:Nat} (h:a7f g lo n ws L) {B:Nat} (hB:B<n) (hg:g B=some (.cells L true 0)) (hl:ws.length<=1000000) (hw:∀ w∈ws,w.length<=1000000) : a5x g n ws (.sl B 0 ws.length ws.length):=by
 refine⟨hl,hw,L,a2v hg hB,⟨h.1,fun k hk=>?_⟩,fun q hq=>?_⟩
 ·obtain⟨sv,h1,h2⟩:=h.2 k hk;have e:ws.getD k []=ws[k]:=by rw[Dx,Dv hk];rfl
  rw[e] at h2;refine⟨sv,h1,?_⟩;rcases h2 with⟨h3,rfl⟩|⟨h3,a,h4,h5,rfl,h6⟩
  ·rw[h3];exact .inl ⟨rfl,rfl,.inl rfl⟩
  ·exact .inr ⟨a,0,h5,.inr ⟨0,rfl⟩,⟨_,_,_,h6,by simp[*]⟩⟩
 ·obtain⟨k,hk,rfl⟩:=Ez.1 hq;obtain⟨sv,h1,h2⟩:=h.2 k (by rw[<- h.1];exact hk);rw[Dv hk] at h1;cases h1;rcases h2 with⟨h3,h4⟩|⟨h3,a,h4,h5,h6,h7⟩
  ·rw[h4];intro a o n c e;cases e
  ·rw[h6];intro a o n c e;cases e
structure a7g (g gL:Gb) (n n' : Nat) (len:Nat) (st:WSt) (L:List AV) : Prop where
 lt:n+3<=n'
 keep:∀ b,b<n->gL b=g b
 words:a7f gL (n+3) n' st.out L
 lo:st.out.length=len
 ls:st.seen.length=len
 cnt:st.many=st.seen.count true
 short:∀ m,(st.out.getD m []).length<=len
def kN (T:Tq) (k r many:Nat) : Option WSt->Option WSt
 | none=>none
 | some s=>if s.many=many then some s else wR T k (r+1) s
def kI (r:Nat) (rows:Tq) (n:Nat) : Option WSt->Option WSt
 | none=>none
 | some s=>wN r rows n s
theorem g1o (T:Tq) (k r:Nat) (st:WSt) : wR T (k+1) r st=kN T k r st.many (wN r T 0 st):=rfl
theorem g1p (r:Nat) (row:List (Int×Int)) (l:Tq) (n:Nat) (st:WSt) : wN r (row :: l) n st=kI r l (n+1) (wI r n row 0 st):=rfl
theorem a7g.many_le {gL:Gb} {len:Nat} {st:WSt} (h:a7g g gL n n' len st L) : st.many<=len:=by
 rw[h.cnt,<- h.ls];exact List.count_le_length
theorem b0n.to {r:List (Int×Int)} (h:b0n g n r sv) {i:Nat} (hi:i<r.length) :
  ∃ a off,a<n/\(∀ {H:Mem} {ev:Ev} {o:Oper} {t:TypeId},iaS prog H ev o t (some (none,2)) (some sv) (some (.li (i:Int)))=.val (.ptr a (off+i*2)) H)/\Bd (some (false,1)) (g a) (off+i*2)=some (.lit (.int .i64 r[i].1)):=by
 obtain⟨a,off,ha,hrow,hia⟩:=Ag.ia (P:=prog) h hi 2;refine⟨a,off,ha,hia,?_⟩;have hk:i*2<(r.flatMap edC).length:=by rw[c4a (sz:=2) _ (fun _ _=>rfl)];omega
 have h1:=hrow.one (k:=i*2) (s:=1) hk;have h2:=c3z (sz:=2) r i hi (f:=edC) (fun _ _=>rfl);have h3:(r.flatMap edC)[i*2]?=some (.lit (.int .i64 r[i].1)):=by
  have h4:(((r.flatMap edC).drop (i*2)).take 2)[0]?=some (.lit (.int .i64 r[i].1)):=by rw[h2];rfl
  simpa using h4
 rw[(Ea.1 h3).2] at h1;exact h1
theorem a7g.put {gN:Gb} {n3 len:Nat} {s:WSt} (h:a7g g gN n n3 len s L) {t:Nat} (ht:t<len) (hs:s.seen.getD t false=false) {w:Wd} {lw:Nat} (hlw:w.length=lw) (hw:0<lw) (hwl:lw<=len)
  {gX:Gb} {nX A:Nat} (hnX:n3<=nX) (hA1:n3<=A) (hA2:A<nX) (hAg:gX A=some (.cells (wdC w) true 1)) (hold:∀ b,b<n3->b≠n+1->b≠n+1+1->gX b=gN b) :
  a7g g gX n nX len ⟨s.out.set t w,s.seen.set t true,s.many+1⟩ (L.set t (.slq A 0 lw 0)):=by
 have hlt:=h.lt;refine⟨by omega,fun b hb=>(hold b (by omega) (by omega) (by omega)).trans (h.keep b hb),?_,by rw[Ed];exact h.lo,by rw[Ed];exact h.ls,?_,fun m=>?_⟩
 ·have h2:=(h.words.ext (g':=gX) (hi':=nX) hnX fun a h1 h2=>hold a h2 (by omega) (by omega)).set (t:=t) (a:=A) (w:=w) (by intro e;rw[e] at hlw;simp at hlw;omega) (by omega) hA2 hAg;rw[hlw] at h2;exact h2
 ·show s.many+1=(s.seen.set t true).count true;rw[count_set _ _ (by rw[h.ls];exact ht) hs,h.cnt]
 ·show ((s.out.set t w).getD m []).length<=len;rw[a8g];split
  ·omega
  ·exact h.short m
def a8t (n:Nat) (g:Gb) : Gb:=fun a=>if n<=a then g a else none
theorem a5x.low {l:Wq} (h:a5x (a8t n g) n' l sv) : a5x g n' l sv :=
 have hg:∀ a x,a<n'->a8t n g a=some x->g a=some x:=fun a x _ hx=>by
  unfold a8t at hx;split at hx
  ·exact hx
  ·cases hx
 ⟨h.len,h.words,let ⟨svs,h1,h2,h3⟩:=h.ex;⟨svs,Ag.ext (Dp _) hg h1,h2.ext (Dp _) hg,h3⟩⟩
theorem a7g.list {gL:Gb} {len:Nat} {st:WSt} (h:a7g g gL n n' len st L) (hg:gL (n+1)=some (.cells L true 0)) (hl:len<=1000000) : a5x (a8t n gL) n' st.out (.sl (n+1) 0 len len):=by
 have hlt:=h.lt;have hw2:a7f (a8t n gL) (n+3) n' st.out L:=h.words.ext (Dp _) fun a h1 _=>if_pos (by omega);have h2:=hw2.list (B:=n+1) (by omega) ((if_pos (by omega)).trans hg) (by rw[h.lo];exact hl) fun w hw=>by
  obtain⟨k,hk,rfl⟩:=Ez.1 hw;have:=h.short k;rw[Dx,Dv hk] at this;exact Ec this hl
 rw[h.lo] at h2;exact h2
def c7k (len:Nat) : Option WSt->Wq
 | none=>[]
 | some s=>if s.many<len then [] else s.out
theorem g1q (T:Tq) : Ax T=c7k T.length (wR T T.length 0 (Di T.length)):=by
 unfold Ax c7k;cases wR T T.length 0 (Di T.length)<;>rfl
theorem g1r (I O:Int) (T:Tq) (hok:∀ r∈T,(r.length:Int)=I/\∀ e∈r,okE T.length O e=true) (h1:1<=T.length) (g:Gb) (n:Nat) (sv:AV) (hT:b2q g n T sv) :
  WC 0 prog 70 [.agg [.li I,.li O,sv]] ⟨.fn g,n⟩ fun r=>∃ g' n' wv,r=.ret wv ⟨.fn g',n'⟩/\n<=n'/\(∀ b,b<n->g' b=g b)/\a5x (a8t n g') n' (Ax T) wv:=by
 obtain⟨svs,hsv,hr⟩:=hT.ex;have hlen:=@Am prog _ _ _ _ _ hsv;have h1s:=hsv.one;have hone:allOne [.li I,.li O,sv]=true:=by simp[h1s]
 have hl:=hT.len;have HS:=Aa.mk hsv;have HR:=Aa.mk hr;have HT:=Aa.mk hT;have HOK:=Aa.mk hok;clear hsv hr hT hok;have h1I:¬(T.length:Int)=0:=by omega
 have hn0:¬T.length=0:=by omega
 have s22:=mkI93;have s160:=mkI163;have hsb:=@g1m;have hsq:=@d3s;have hrl:0<(List.replicate T.length (AV.lit (.bool false))).length:=by simp;omega
 obtain⟨V,hV⟩ : ∃ V,V=wR T T.length 0 (Di T.length):=⟨_,rfl⟩;have HRW:Aa (Ax T=c7k T.length V):=⟨by rw[hV];exact g1q T⟩;have HV0:=Aa.mk hV;clear hV;refine ent [] func70 rfl (by decide +kernel) (by kernel_rfl) ?_
 iterate 8 all_goals try first|apply spl<;>intro h|simp (disch:=first|assumption|omega|simp) [*]
 refine LX.ind (fun m gf H'=>∃ (r n' : Nat) (gL:Gb) (st:WSt) (L:List AV),r<=T.length/\m=T.length-r/\H'=⟨.fn gL,n'⟩/\gL n=some (.cells [.li I,.li O,sv] true 0)/\gL (n+1)=some (.cells L true 0)/\gL (n+1+1)=some (.cells (bvC st.seen) true 0) /\
  Aa (a7g g gL n n' T.length st L)/\Aa (V=wR T (T.length-r) r st) /\
  gf 1=some (.ptr n 0)/\gf 3=some (.sl (n+1) 0 T.length T.length)/\gf 4=some (.sl (n+1+1) 0 T.length T.length)/\gf 5=some (.li st.many)/\gf 6=some (.li r)) (m0:=T.length) ?_ ?_
 ·refine⟨0,_,_,Di T.length,List.replicate T.length (.nl),Du _,rfl,rfl,(Ab (by omega)).trans ((Ab (by omega)).trans Af),(Ab (by omega)).trans Af,Af.trans ?_,⟨?_⟩,HV0,by simp,by simp,by simp,by simp[Di],by simp⟩
  ·simp[Di,bvC,List.map_set]
  ·refine⟨by omega,fun b hb=>(Ab (by omega)).trans ((Ab (by omega)).trans (Ab (by omega))),⟨by simp[Di],fun m hm=>⟨.nl,?_,.inl ⟨?_,rfl⟩⟩⟩,by simp[Di],by simp[Di],?_,fun m=>?_⟩
   ·have:m<T.length:=by simpa[Di] using hm
    rw[g2w,if_pos this]
   ·show (List.replicate T.length ([] : Wd)).getD m []=[];rw[Dx,g2w];split<;>rfl
   ·show 1=((List.replicate T.length false).set 0 true).count true;rw[count_set _ _ (by simp;omega) (by rw[Dx,g2w];split<;>rfl)];simp[List.count_replicate]
   ·show ((List.replicate T.length ([] : Wd)).getD m []).length<=T.length;rw[Dx,g2w];split<;>simp
 rintro m gf H' ⟨r,n',gL,st,L,hr,rfl,rfl,hgn,hgo,hgs,HM,HV,w1,w3,w4,w5,w6⟩ ih;refine rnd [] (by decide +kernel) ?_;by_cases hlt:r<T.length
 ·have hltI:(r:Int)<(T.length:Int):=by omega
  have hv:=HV.out;rw[show T.length-r=(T.length-(r+1))+1 by omega,g1o] at hv;have HV2:=Aa.mk hv;clear hv HV
  iterate 8 all_goals try first|apply spl<;>intro h|simp (disch:=first|assumption|omega|simp) [*]
  refine LX.ind (fun m gf H'=>∃ (k n2:Nat) (gM:Gb) (s2:WSt) (L2:List AV),k<=T.length/\m=T.length-k/\H'=⟨.fn gM,n2⟩/\gM n=some (.cells [.li I,.li O,sv] true 0)/\gM (n+1)=some (.cells L2 true 0)/\gM (n+1+1)=some (.cells (bvC s2.seen) true 0) /\
   Aa (a7g g gM n n2 T.length s2 L2)/\Aa (V=kN T (T.length-(r+1)) r st.many (wN r (T.drop k) k s2)) /\
   gf 1=some (.ptr n 0)/\gf 3=some (.sl (n+1) 0 T.length T.length)/\gf 4=some (.sl (n+1+1) 0 T.length T.length)/\gf 5=some (.li s2.many)/\gf 6=some (.li r)/\gf 7=some (.li st.many)/\gf 8=some (.li k)) (m0:=T.length) ?_ ?_
  ·exact⟨0,n',gL,st,L,Du _,rfl,rfl,hgn,hgo,hgs,HM,HV2,by simp[*]⟩
  clear w1 w3 w4 w5 w6 hgn hgo hgs HV2;rintro m gf H' ⟨k,n2,gM,s2,L2,hk,rfl,rfl,hgn,hgo,hgs,HM2,HV2,w1,w3,w4,w5,w6,w7,w8⟩ ihN;refine rnd [] (by decide +kernel) ?_;by_cases hlt2:k<T.length
  ·have hlt2I:(k:Int)<(T.length:Int):=by omega
   obtain⟨q1,hw1,hrep⟩:=HR.out.2 k hlt2;obtain⟨a2,off,ha2,hrow,hia⟩:=HS.out.ia (P:=prog) hlt2 1;simp only[El] at hia;have hkl:k<svs.length:=(Ea.1 hw1).1;have HCELL:Aa (∀ gX:Gb,(∀ b,b<n->gX b=g b)->Bd (some (false,1)) (gX a2) (off+k)=some q1):=⟨fun gX hX=>by
    have hcell:=(hrow.mono (hX a2 ha2)).one (k:=k) (s:=1) hkl
    rwa [(Ea.1 hw1).2] at hcell⟩
   have hv:=HV2.out;rw[Ef hlt2,g1p] at hv;have hokr:=HOK.out _ (Dt hlt2);have hrl2:=HT.out.rows _ (Dt hlt2);have HV3:=Aa.mk hv;have HREP:=Aa.mk hrep;clear hrow hrep hw1 ha2 hv HV2;generalize T[k]=row at *;obtain⟨hrowI,hoke⟩:=hokr;have HOKE:=Aa.mk hoke;clear hoke;have HLW:=Aa.mk (@Am prog _ _ _ _ _ HREP.out);have h1q:oneC q1=true:=HREP.out.one
   iterate 8 all_goals try first|apply spl<;>intro h|simp (disch:=first|assumption|omega|simp) [*]
   refine LX.ind (fun m gf H'=>∃ (i n3:Nat) (gN:Gb) (s3:WSt) (L3:List AV),i<=row.length/\m=row.length-i/\H'=⟨.fn gN,n3⟩/\gN n=some (.cells [.li I,.li O,sv] true 0)/\gN (n+1)=some (.cells L3 true 0)/\gN (n+1+1)=some (.cells (bvC s3.seen) true 0) /\
    Aa (a7g g gN n n3 T.length s3 L3)/\Aa (V=kN T (T.length-(r+1)) r st.many (kI r (T.drop (k+1)) (k+1) (wI r k (row.drop i) i s3))) /\
    gf 1=some (.ptr n 0)/\gf 3=some (.sl (n+1) 0 T.length T.length)/\gf 4=some (.sl (n+1+1) 0 T.length T.length)/\gf 5=some (.li s3.many)/\gf 6=some (.li r)/\gf 7=some (.li st.many)/\gf 8=some (.li k)/\gf 9=some (.li i)) (m0:=row.length) ?_ ?_
   ·exact⟨0,n2,gM,s2,L2,Du _,rfl,rfl,hgn,hgo,hgs,HM2,HV3,by simp[*]⟩
   clear w1 w3 w4 w5 w6 w7 w8 hgn hgo hgs HV3;rintro m gf H' ⟨i,n3,gN,s3,L3,hi,rfl,rfl,hgn,hgo,hgs,HM3,HV3,w1,w3,w4,w5,w6,w7,w8,w9⟩ ihI;refine rnd [] (by decide +kernel) ?_;have hcell:=HCELL.out gN HM3.out.keep;have hn3:=HM3.out.lt;have hL3:L3.length=T.length:=HM3.out.words.1.trans HM3.out.lo;have hS3:(bvC s3.seen).length=T.length:=(g1n _).trans HM3.out.ls;have hkS:k<(bvC s3.seen).length:=by omega
   have hkL:k<L3.length:=by omega
   have hvS:(bvC s3.seen)[k]'hkS=.lit (.bool (s3.seen.getD k false)):=c7j _ (by rw[HM3.out.ls];exact hlt2) hkS;by_cases hlt3:i<row.length
   ·have hlt3I:(i:Int)<I:=by omega
    cases hsn:s3.seen.getD k false with
    | false =>
     rw[hsn] at hvS;have HX:Aa (wI r k (row.drop i) i s3=some s3):=⟨by rw[Ef hlt3];unfold wI;rw[if_neg (by rw[hsn];simp)]⟩
     iterate 8 all_goals try first|apply spl<;>intro h|simp (disch:=first|assumption|omega|simp) [*]
     refine ihN.out (T.length-(k+1)) _ _ (by omega) ⟨k+1,n3,gN,s3,L3,by omega,rfl,rfl,hgn,hgo,hgs,HM3,⟨HV3.out.trans (by rw[HX.out];rfl)⟩,by simp[*]⟩
    | true =>
     rw[hsn] at hvS;obtain⟨svk,hLk,halt⟩:=HM3.out.words.2 k (by rw[HM3.out.lo];exact hlt2);have hLv:L3[k]'hkL=svk:=(Ea.1 hLk).2;clear hLk;rcases halt with⟨hw0,rfl⟩|⟨hwne,a,ha1,ha2,rfl,hga⟩
     ·by_cases hr0:r=0
      ·subst hr0;have HLWK:Aa ((s3.out.getD k []).length=0):=⟨by rw[hw0];rfl⟩;have HW0:=Aa.mk hw0;clear hw0;obtain⟨a3,of3,ha3,hia3,hc3⟩:=b0n.to HREP.out hlt3;rw[<- HM3.out.keep a3 ha3] at hc3;have hoe:=HOKE.out _ (Dt hlt3);have hdr:row.drop i=row[i] :: row.drop (i+1):=Ef hlt3;have hv:=HV3.out;rw[hdr] at hv;unfold wI at hv;rw[if_pos ⟨hsn,HLWK.out⟩] at hv;have HV4:=Aa.mk hv;clear hv hdr;generalize row[i]=e at *;obtain⟨to,eo⟩:=e;dsimp only at hc3;by_cases e1:to = -1
       ·subst e1;have HX:Aa (V=kN T (T.length-(0+1)) 0 st.many (kI 0 (T.drop (k+1)) (k+1) (wI 0 k (row.drop (i+1)) (i+1) s3))):=⟨HV4.out.trans (by rw[if_pos rfl])⟩
        iterate 8 all_goals try first|apply spl<;>intro h|simp (disch:=first|assumption|omega|simp) [*]
        exact ihI.out (row.length-(i+1)) _ _ (by omega) ⟨i+1,n3,gN,s3,L3,by omega,rfl,rfl,hgn,hgo,hgs,HM3,HX,by simp[*]⟩
       obtain⟨t,rfl⟩ : ∃ t:Nat,to=(t:Int):=by
        unfold okE at hoe;rcases g4b.1 hoe with h|h
        ·exact⟨to.toNat,by have:=(of_decide_eq_true h).1;dsimp only at this;omega⟩
        ·exact absurd (of_decide_eq_true h).1 e1
       have htT:t<T.length:=by
        unfold okE at hoe;rcases g4b.1 hoe with h|h
        ·have:=(of_decide_eq_true h).2.1;dsimp only at this;omega
        ·exact absurd (of_decide_eq_true h).1 e1
       have htS:t<(bvC s3.seen).length:=by omega
       have htL:t<L3.length:=by omega
       have hvT:(bvC s3.seen)[t]'htS=.lit (.bool (s3.seen.getD t false)):=c7j _ (by rw[HM3.out.ls];exact htT) htS;have HV5:=HV4.out;rw[if_neg e1,show ((t:Int)).toNat=t by omega] at HV5;clear hoe
       cases hsn2:s3.seen.getD t false with
       | true =>
        rw[hsn2,if_pos rfl] at HV5;have HNIL:Aa (Ax T=[]):=⟨by rw[HRW.out,HV5];rfl⟩;rw[hsn2] at hvT;clear HV5
        iterate 8 all_goals try first|apply spl<;>intro h|simp (disch:=first|assumption|omega|simp) [*]
        exact⟨gN,n3,.nl,by simp,by omega,HM3.out.keep,by rw[HNIL.out];exact⟨by simp,by simp,[],.inl ⟨rfl,rfl,.inl rfl⟩,⟨rfl,fun k hk=>by simp at hk⟩,by simp⟩⟩
       | false =>
        rw[hsn2,if_neg (by decide)] at HV5;rw[hsn2] at hvT;have HV6:=Aa.mk HV5;clear HV5;have hmm:s3.many<=T.length:=HM3.out.many_le
        iterate 8 all_goals try first|apply spl<;>intro h|simp (disch:=first|assumption|omega|simp) [*]
        refine ihI.out (row.length-(i+1)) _ _ (by omega) ⟨i+1,n3+1+1+1,_,⟨s3.out.set t (s3.out.getD k []++[(i:Int)]),s3.seen.set t true,s3.many+1⟩,L3.set t (.slq (n3+1+1) 0 1 0),by omega,rfl,rfl,?_,Af,?_,⟨?_⟩,HV6,by simp[*]⟩
        ·rw[Ab (by omega),Ab (by omega),Ab (by omega),Ab (by omega),Ab (by omega)];exact hgn
        ·rw[Ae (by omega),Ab (by omega),Ab (by omega),Ab (by omega),Af,d8n]
        ·refine HM3.out.put htT hsn2 (by rw[Dr,HLWK.out];rfl) (by omega) (by omega) (by omega) (by omega) (by omega) ?_ fun b h1 h2 h3=>by rw[Ae (by omega),Ab (by omega),Ab (by omega),Ab (by omega),Ae (by omega)]
         rw[Ae (by omega),Af];rw[HW0.out];rfl
      ·have hr0I:¬(0:Int)=(r:Int):=by omega
       have HX:Aa (wI r k (row.drop i) i s3=some s3):=⟨by rw[Ef hlt3];unfold wI;rw[if_neg (by rw[hw0];rintro⟨-,h⟩;exact hr0 h.symm)]⟩;clear hw0
       iterate 8 all_goals try first|apply spl<;>intro h|simp (disch:=first|assumption|omega|simp) [*]
       refine ihN.out (T.length-(k+1)) _ _ (by omega) ⟨k+1,n3,gN,s3,L3,by omega,rfl,rfl,hgn,hgo,hgs,HM3,⟨HV3.out.trans (by rw[HX.out];rfl)⟩,by simp[*]⟩
     ·by_cases hlw:(s3.out.getD k []).length=r
      ·have HLWK:=Aa.mk hlw;rw[hlw] at hLv;have HGA:=Aa.mk hga;have hga2:∃ CS,Aa (CS=wdC (s3.out.getD k []))/\gN a=some (.cells CS true 1):=⟨_,⟨rfl⟩,hga⟩;obtain⟨CS,HCS,hga3⟩:=hga2;have hCSl:CS.length=r:=by rw[HCS.out,Bi];exact hlw
       have hCS1:allOne CS=true:=by rw[HCS.out];exact wdC_one _
       have hr1:0<r:=by rw[<- hlw];exact g3n.2 hwne
       clear hga hlw;obtain⟨r1,hr1e⟩ : ∃ r1,r=r1+1:=⟨r-1,by omega⟩;subst hr1e;have htk:CS.take (r1+1)=CS:=Eo (by omega);obtain⟨a3,of3,ha3,hia3,hc3⟩:=b0n.to HREP.out hlt3;rw[<- HM3.out.keep a3 ha3] at hc3;have hoe:=HOKE.out _ (Dt hlt3);have hdr:row.drop i=row[i] :: row.drop (i+1):=Ef hlt3;have hv:=HV3.out;rw[hdr] at hv;unfold wI at hv;rw[if_pos ⟨hsn,HLWK.out⟩] at hv;have HV4:=Aa.mk hv;clear hv hdr;generalize row[i]=e at *;obtain⟨to,eo⟩:=e;dsimp only at hc3;by_cases e1:to = -1
       ·subst e1;have HX:Aa (V=kN T (T.length-((r1+1)+1)) (r1+1) st.many (kI (r1+1) (T.drop (k+1)) (k+1) (wI (r1+1) k (row.drop (i+1)) (i+1) s3))):=⟨HV4.out.trans (by rw[if_pos rfl])⟩
        iterate 8 all_goals try first|apply spl<;>intro h|simp (disch:=first|assumption|omega|simp) [*]
        exact ihI.out (row.length-(i+1)) _ _ (by omega) ⟨i+1,n3,gN,s3,L3,by omega,rfl,rfl,hgn,hgo,hgs,HM3,HX,by simp[*]⟩
       obtain⟨t,rfl⟩ : ∃ t:Nat,to=(t:Int):=by
        unfold okE at hoe;rcases g4b.1 hoe with h|h
        ·exact⟨to.toNat,by have:=(of_decide_eq_true h).1;dsimp only at this;omega⟩
        ·exact absurd (of_decide_eq_true h).1 e1
       have htT:t<T.length:=by
        unfold okE at hoe;rcases g4b.1 hoe with h|h
        ·have:=(of_decide_eq_true h).2.1;dsimp only at this;omega
        ·exact absurd (of_decide_eq_true h).1 e1
       have htS:t<(bvC s3.seen).length:=by omega
       have htL:t<L3.length:=by omega
       have hvT:(bvC s3.seen)[t]'htS=.lit (.bool (s3.seen.getD t false)):=c7j _ (by rw[HM3.out.ls];exact htT) htS;have HV5:=HV4.out;rw[if_neg e1,show ((t:Int)).toNat=t by omega] at HV5;clear hoe
       cases hsn2:s3.seen.getD t false with
       | true =>
        rw[hsn2,if_pos rfl] at HV5;have HNIL:Aa (Ax T=[]):=⟨by rw[HRW.out,HV5];rfl⟩;rw[hsn2] at hvT;clear HV5
        iterate 8 all_goals try first|apply spl<;>intro h|simp (disch:=first|assumption|omega|simp) [*]
        exact⟨gN,n3,.nl,by simp,by omega,HM3.out.keep,by rw[HNIL.out];exact⟨by simp,by simp,[],.inl ⟨rfl,rfl,.inl rfl⟩,⟨rfl,fun k hk=>by simp at hk⟩,by simp⟩⟩
       | false =>
        rw[hsn2,if_neg (by decide)] at HV5;rw[hsn2] at hvT;have HV6:=Aa.mk HV5;clear HV5;have hmm:s3.many<=T.length:=HM3.out.many_le
        iterate 8 all_goals try first|apply spl<;>intro h|simp (disch:=first|assumption|omega|simp) [*]
        refine ihI.out (row.length-(i+1)) _ _ (by omega) ⟨i+1,n3+1+1+1+1,_,⟨s3.out.set t (s3.out.getD k []++[(i:Int)]),s3.seen.set t true,s3.many+1⟩,L3.set t (.slq (n3+1+1+1) 0 (r1+1+1) 0),by omega,rfl,rfl,?_,Af,?_,⟨?_⟩,HV6,by simp[*]⟩
        ·rw[Ab (by omega),Ab (by omega),Ab (by omega),Ab (by omega),Ab (by omega),Ab (by omega),Ab (by omega)];exact hgn
        ·rw[Ae (by omega),Ab (by omega),Ab (by omega),Ab (by omega),Ab (by omega),Ab (by omega),Af,d8n]
        ·refine HM3.out.put htT hsn2 (by rw[Dr,HLWK.out];rfl) (by omega) (by omega) (by omega) (by omega) (by omega) ?_ fun b h1 h2 h3=>by rw[Ae (by omega),Ab (by omega),Ab (by omega),Ab (by omega),Ab (by omega),Ab (by omega),Ae (by omega)]
         rw[Ae (by omega),Af];rw[HCS.out];simp[wdC]
      ·have hlwI:¬(((s3.out.getD k []).length:Nat) : Int)=(r:Int):=by omega
       have HX:Aa (wI r k (row.drop i) i s3=some s3):=⟨by rw[Ef hlt3];unfold wI;rw[if_neg (fun h=>hlw h.2)]⟩;generalize (s3.out.getD k []).length=lw at *;clear hwne
       iterate 8 all_goals try first|apply spl<;>intro h|simp (disch:=first|assumption|omega|simp) [*]
       refine ihN.out (T.length-(k+1)) _ _ (by omega) ⟨k+1,n3,gN,s3,L3,by omega,rfl,rfl,hgn,hgo,hgs,HM3,⟨HV3.out.trans (by rw[HX.out];rfl)⟩,by simp[*]⟩
   ·have hlt3I:¬(i:Int)<I:=by omega
    have HX:Aa (wI r k (row.drop i) i s3=some s3):=⟨by rw[g3d.2 (by omega)];rfl⟩
    iterate 8 all_goals try first|apply spl<;>intro h|simp (disch:=first|assumption|omega|simp) [*]
    refine ihN.out (T.length-(k+1)) _ _ (by omega) ⟨k+1,n3,gN,s3,L3,by omega,rfl,rfl,hgn,hgo,hgs,HM3,⟨HV3.out.trans (by rw[HX.out];rfl)⟩,by simp[*]⟩
  ·have hlt2I:¬(k:Int)<(T.length:Int):=by omega
   have hk2:k=T.length:=by omega
   have hv:=HV2.out;rw[hk2,g3h] at hv;have hv2:V=if s2.many=st.many then some s2 else wR T (T.length-(r+1)) (r+1) s2:=hv;clear hv HV2 hk2;by_cases hmm:s2.many=st.many
   ·rw[if_pos hmm] at hv2;have HVV:=Aa.mk hv2;have hmI:(st.many:Int)=(s2.many:Int):=by omega
    rw[hmI] at w7;clear hv2 hmm hmI;by_cases hfin:s2.many<T.length
    ·have hfinI:(s2.many:Int)<(T.length:Int):=by omega
     have HNIL:Aa (Ax T=[]):=⟨by rw[HRW.out,HVV.out];exact if_pos hfin⟩
     iterate 8 all_goals try first|apply spl<;>intro h|simp (disch:=first|assumption|omega|simp) [*]
     exact⟨gM,n2,.nl,by simp,by have:=HM2.out.lt;omega,HM2.out.keep,by rw[HNIL.out];exact⟨by simp,by simp,[],.inl ⟨rfl,rfl,.inl rfl⟩,⟨rfl,fun k hk=>by simp at hk⟩,by simp⟩⟩
    ·have hfinI:¬(s2.many:Int)<(T.length:Int):=by omega
     have HSOME:Aa (Ax T=s2.out):=⟨by rw[HRW.out,HVV.out];exact if_neg hfin⟩
     iterate 8 all_goals try first|apply spl<;>intro h|simp (disch:=first|assumption|omega|simp) [*]
     exact⟨gM,n2,.sl (n+1) 0 T.length T.length,by simp,by have:=HM2.out.lt;omega,HM2.out.keep,by rw[HSOME.out];exact HM2.out.list hgo hl⟩
   ·rw[if_neg hmm] at hv2;have HVV:=Aa.mk hv2;have hmI:¬(s2.many:Int)=(st.many:Int):=by omega
    clear hv2 hmm
    iterate 8 all_goals try first|apply spl<;>intro h|simp (disch:=first|assumption|omega|simp) [*]
    exact ih.out (T.length-(r+1)) _ _ (by omega) ⟨r+1,n2,gM,s2,L2,by omega,rfl,rfl,hgn,hgo,hgs,HM2,HVV,by simp[*]⟩
 ·have hltI:¬(r:Int)<(T.length:Int):=by omega
  have hv:=HV.out;rw[show T.length-r=0 by omega] at hv;have HVV:Aa (V=some st):=⟨hv⟩;clear hv HV;by_cases hfin:st.many<T.length
  ·have hfinI:(st.many:Int)<(T.length:Int):=by omega
   have HNIL:Aa (Ax T=[]):=⟨by rw[HRW.out,HVV.out];exact if_pos hfin⟩
   iterate 8 all_goals try first|apply spl<;>intro h|simp (disch:=first|assumption|omega|simp) [*]
   exact⟨gL,n',.nl,by simp,by have:=HM.out.lt;omega,HM.out.keep,by rw[HNIL.out];exact⟨by simp,by simp,[],.inl ⟨rfl,rfl,.inl rfl⟩,⟨rfl,fun k hk=>by simp at hk⟩,by simp⟩⟩
  ·have hfinI:¬(st.many:Int)<(T.length:Int):=by omega
   have HSOME:Aa (Ax T=st.out):=⟨by rw[HRW.out,HVV.out];exact if_neg hfin⟩
   iterate 8 all_goals try first|apply spl<;>intro h|simp (disch:=first|assumption|omega|simp) [*]
   exact⟨gL,n',.sl (n+1) 0 T.length T.length,by simp,by have:=HM.out.lt;omega,HM.out.keep,by rw[HSOME.out];exact HM.out.list hgo hl⟩
end Go.Ai
end

