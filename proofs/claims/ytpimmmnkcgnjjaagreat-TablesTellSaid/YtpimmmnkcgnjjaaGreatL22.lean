/- A small verified interpreter over names, its proofs, and what was proved with it. No condition. -/
import Derived.Test.YtpimmmnkcgnjjaaGreatL21
import Derived.Test.YtpimmmnkcgnjjaaGreatL09
set_option linter.all false
set_option linter.deprecated false
section
namespace Go.Ai
open Go.Proofs Go.Proofs.Tryz
set_option maxRecDepth 10000
set_option maxHeartbeats 40000000
variable {cs:List AV} {g:Gb} {n:Nat}
theorem slT22:a6y prog 22=true:=by kernel_rfl
theorem slT23:a6y prog 23=true:=by kernel_rfl
attribute [simp] slT22 slT23
theorem d7v {len:Nat} (h0:0<len) (hl:len<=100000) (hcs:cs.length=len*1) (g:Gb) (n:Nat) (sv:AV) (hv:Ag g n sv len cs) :
  WC 0 prog 54 [sv] ⟨.fn g,n⟩ fun r=>∃ g',r=.ret (.slq (n+1) 0 len 0) ⟨.fn g',n+1+1⟩/\(∀ x,x<n->g' x=g x)/\g' (n+1)=some (.cells cs true 1):=by
 obtain⟨a2,blk,ha2,hga2,hap⟩:=Ag.ap0 (P:=prog) (sz:=1) hv h0 (by omega) hcs;rcases hv with⟨h1,_⟩|⟨a,off,ha,⟨c,rfl⟩|⟨c,rfl⟩,hrow⟩
 ·omega
 all_goals
  clear hrow;refine ent [] func54 rfl (by decide +kernel) (by kernel_rfl) ?_
  iterate 8 all_goals try first|apply spl<;>intro h|simp (disch:=first|assumption|omega|simp) [*]
  intro x hx;simp (disch:=omega) only[Ab]
theorem g0r {len:Nat} (h0:0<len) (hl:len<=100000) (hcs:cs.length=len*1) (g:Gb) (n:Nat) (sv:AV) (hv:Ag g n sv len cs) :
  WC 0 prog 120 [sv] ⟨.fn g,n⟩ fun r=>∃ g',r=.ret (.slq (n+1) 0 len 0) ⟨.fn g',n+1+1⟩/\(∀ x,x<n->g' x=g x)/\g' (n+1)=some (.cells cs true 1):=by
 obtain⟨a2,blk,ha2,hga2,hap⟩:=Ag.ap0 (P:=prog) (sz:=1) hv h0 (by omega) hcs;rcases hv with⟨h1,_⟩|⟨a,off,ha,⟨c,rfl⟩|⟨c,rfl⟩,hrow⟩
 ·omega
 all_goals
  clear hrow;refine ent [] func120 rfl (by decide +kernel) (by kernel_rfl) ?_
  iterate 8 all_goals try first|apply spl<;>intro h|simp (disch:=first|assumption|omega|simp) [*]
  intro x hx;simp (disch:=omega) only[Ab]
theorem g0s {len:Nat} (h0:0<len) (hl:len<=100000) (hcs:cs.length=len*2) (g:Gb) (n:Nat) (sv:AV) (hv:Ag g n sv len cs) :
  WC 0 prog 122 [sv] ⟨.fn g,n⟩ fun r=>∃ g',r=.ret (.slq (n+1) 0 len 0) ⟨.fn g',n+1+1⟩/\(∀ x,x<n->g' x=g x)/\g' (n+1)=some (.cells cs true 2):=by
 obtain⟨a2,blk,ha2,hga2,hap⟩:=Ag.ap0 (P:=prog) (sz:=2) hv h0 (by omega) hcs;rcases hv with⟨h1,_⟩|⟨a,off,ha,⟨c,rfl⟩|⟨c,rfl⟩,hrow⟩
 ·omega
 all_goals
  clear hrow;refine ent [] func122 rfl (by decide +kernel) (by kernel_rfl) ?_
  iterate 8 all_goals try first|apply spl<;>intro h|simp (disch:=first|assumption|omega|simp) [*]
  intro x hx;simp (disch:=omega) only[Ab]
theorem d7w {len a:Nat} (h0:0<len) (H:Mem) : WC 0 prog 53 [.slq a 0 len 0] H fun r=>r=.ret (.sl a 0 len len) H:=by
 refine WC.ofFn ?_;refine ent [] func53 rfl (by decide +kernel) (by kernel_rfl) ?_
 iterate 8 all_goals try first|apply spl<;>intro h|simp (disch:=first|assumption|omega|simp) [*]
theorem g0t {len a:Nat} (h0:0<len) (H:Mem) : WC 0 prog 123 [.slq a 0 len 0] H fun r=>r=.ret (.sl a 0 len len) H:=by
 refine WC.ofFn ?_;refine ent [] func123 rfl (by decide +kernel) (by kernel_rfl) ?_
 iterate 8 all_goals try first|apply spl<;>intro h|simp (disch:=first|assumption|omega|simp) [*]
structure CpK {β:Type} (R:(Gb)->Nat->β->AV->Prop) (g:Gb) (lo n:Nat) (l:List β) (k:Nat) (cs svs:List AV) : Prop where
 len:cs.length=l.length
 new:∀ (j:Nat) (h:j<l.length),j<k->∃ q,cs[j]?=some q/\R (Co lo g) n l[j] q
 old:∀ j,k<=j->cs[j]?=svs[j]?
theorem CpK.step {β:Type} {R:(Gb)->Nat->β->AV->Prop} (hm:∀ {g g' : Gb} {n n' : Nat} {x:β} {q:AV},R g n x q->n<=n'->(∀ a z,a<n->g a=some z->g' a=some z)->R g' n' x q)
  {g g' : Gb} {lo n n' : Nat} {l:List β} {k:Nat} {cs svs:List AV} (h:CpK R g lo n l k cs svs) (hn:n<=n') (hg:∀ a,lo<=a->a<n->g' a=g a) (hk:k<l.length) {q:AV} (hq:R (Co lo g') n' l[k] q) : CpK R g' lo n' l (k+1) (cs.set k q) svs:=by
 have hl:=h.len;refine⟨by rw[Ed];exact hl,fun j hj hjk=>?_,fun j hj=>?_⟩
 ·by_cases e:j=k
  ·subst e;exact⟨q,by rw[g3x (by omega)],hq⟩
  ·obtain⟨q',e1,e2⟩:=h.new j hj (by omega);refine⟨q',by rw[g2z (by omega)];exact e1,hm e2 hn fun a z ha hz=>?_⟩;obtain⟨h1,h2⟩:=a8n hz;rw[a0r h1,hg a h1 ha];exact h2
 ·rw[g2z (by omega)];exact h.old j (by omega)
theorem CpK.keep {β:Type} {R:(Gb)->Nat->β->AV->Prop} (hm:∀ {g g' : Gb} {n n' : Nat} {x:β} {q:AV},R g n x q->n<=n'->(∀ a z,a<n->g a=some z->g' a=some z)->R g' n' x q)
  {g g' : Gb} {lo n n' : Nat} {l:List β} {k:Nat} {cs svs:List AV} (h:CpK R g lo n l k cs svs) (hn:n<=n') (hg:∀ a,lo<=a->a<n->g' a=g a) : CpK R g' lo n' l k cs svs :=
 ⟨h.len,fun j hj hjk=>let ⟨q,e1,e2⟩:=h.new j hj hjk;⟨q,e1,hm e2 hn fun a z ha hz=>by
  obtain⟨h1,h2⟩:=a8n hz;rw[a0r h1,hg a h1 ha];exact h2⟩,h.old⟩
def WCR (g:Gb) (n:Nat) (w:Wd) (q:AV) : Prop:=Ak g n w q/\Bf q
theorem WCR.m {g': Gb} {n': Nat} {x:Wd} {q:AV} (h:WCR g n x q) (hn:n<=n') (hg:∀ a z,a<n->g a=some z->g' a=some z) : WCR g' n' x q:=⟨Ag.ext hn hg h.1,h.2⟩
def ERR (g:Gb) (n:Nat) (r:List (Int×Int)) (q:AV) : Prop:=Ag g n q r.length (Aq r)
theorem ERR.m {g': Gb} {n': Nat} {x:List (Int×Int)} {q:AV} (h:ERR g n x q) (hn:n<=n') (hg:∀ a z,a<n->g a=some z->g' a=some z) : ERR g' n' x q:=Ag.ext hn hg h
theorem CpK.rowsW {lo k:Nat} {l:Wq} {svs:List AV} (h:CpK WCR g lo n l k cs svs) (hk:l.length<=k) : RowsW (Co lo g) n l cs/\∀ q∈cs,Bf q:=by
 refine⟨⟨h.len,fun j hj=>?_⟩,fun q hq=>?_⟩
 ·obtain⟨q,e1,e2⟩:=h.new j hj (by omega);exact⟨q,e1,e2.1⟩
 ·obtain⟨j,hj,rfl⟩:=Ez.1 hq;obtain⟨q,e1,e2⟩:=h.new j (by rw[<- h.len];exact hj) (by have:=h.len;omega);rw[Dv hj] at e1;rw[Option.some.inj e1];exact e2.2
theorem CpK.rowsG {lo k:Nat} {l:Tq} {svs:List AV} (h:CpK ERR g lo n l k cs svs) (hk:l.length<=k) : RowsG (Co lo g) n l cs :=
 ⟨h.len,fun j hj=>let ⟨q,e1,e2⟩:=h.new j hj (by omega);⟨q,e1,e2⟩⟩
theorem a1i.cap {len:Nat} {rv:AV} (h:a1i len rv) : Bf rv:=by
 intro a o n c e;rcases h with⟨_,rfl⟩|⟨a',o',rfl⟩
 ·cases e
 ·cases e;exact Dp _
theorem g0u {I:Nat} {S E:Wq} {T:Tq} (hI1:1<=I) (hI:I<=16) (hS0:0<S.length) (hSl:S.length<=1000) (hSw:∀ w∈S,w.length<=1000) (hE0:0<E.length) (hEl:E.length<=1000) (hEw:∀ w∈E,w.length<=1000) (hT0:0<T.length) (hTl:T.length<=100000) (hTr:∀ r∈T,r.length=I) (c0 c1 c4 c5:AV) (hc:allOne [c0,c1,c4,c5]=true) (g:Gb) (n:Nat) (sv ev tv:AV) (h:a2a g n S E T sv ev tv) :
  WC 0 prog 69 [.agg [c0,c1,sv,ev,c4,c5,tv]] ⟨.fn g,n⟩ fun r=>∃ b1 b2 b3 g' n',r=.ret (.agg [c0,c1,.sl b1 0 S.length S.length,.sl b2 0 E.length E.length,c4,c5,.sl b3 0 T.length T.length]) ⟨.fn g',n'⟩/\n<=n'/\(∀ b,b<n->g' b=g b)/\a2a (Co n g') n' S E T (.sl b1 0 S.length S.length) (.sl b2 0 E.length E.length) (.sl b3 0 T.length T.length):=by
 have h1s:=h.s.one;have h1e:=h.e.one;have h1t:=h.t.choose_spec.1.one;have hone:allOne [c0,c1,sv,ev,c4,c5,tv]=true:=by
  simp only[c3q,Ds] at hc |-;simp[hc,h1s,h1e,h1t]
 obtain⟨ss,hs1,hs2,hs3⟩:=h.s;obtain⟨es,he1,he2,he3⟩:=h.e;obtain⟨ts,ht1,ht2⟩:=h.t;have hsl:ss.length=S.length*1:=by rw[hs2.1];omega
 have hel:es.length=E.length*1:=by rw[he2.1];omega
 have htl:ts.length=T.length*1:=by rw[ht2.1];omega
 have HCS:=Aa.mk fun (gX:Gb) (n2:Nat) (hn:n<=n2) (hX:∀ b,b<n->gX b=g b)=>d7v hS0 (by omega) hsl gX n2 sv (hs1.mono hn hX);have HCE:=Aa.mk fun (gX:Gb) (n2:Nat) (hn:n<=n2) (hX:∀ b,b<n->gX b=g b)=>d7v hE0 (by omega) hel gX n2 ev (he1.mono hn hX);have HCT:=Aa.mk fun (gX:Gb) (n2:Nat) (hn:n<=n2) (hX:∀ b,b<n->gX b=g b)=>g0r hT0 (by omega) htl gX n2 tv (ht1.mono hn hX);have HS2:=Aa.mk hs2;have HE2:=Aa.mk he2;have HT2:=Aa.mk ht2;clear h hs1 hs2 hs3 he1 he2 he3 ht1 ht2;simp only[c3q,Ds] at hc;have HC:=Aa.mk hc;have h1c0:oneC c0=true:=hc.1;clear hc;refine ent pl69 func69 rfl (by decide +kernel) (by kernel_rfl) ?_
 iterate 8 all_goals try first|apply spl<;>intro h|simp (disch:=first|assumption|omega|simp) [*]
 refine WC.mono (HCS.out _ _ (by omega) fun b hb=>?_) ?_
 ·simp (disch:=omega) only[Ab]
 rintro _ ⟨g1,rfl,hg1,hb1⟩;have HG1:Aa (∀ b,b<n->g1 b=g b):=⟨fun b hb=>(hg1 b (by omega)).trans (by simp (disch:=omega) only[Ab])⟩;have hn1:g1 n=some (.cells [c0,c1,sv,ev,c4,c5,tv] true 0):=(hg1 n (by omega)).trans (by simp (disch:=omega) only[Ab,Af]);have HZ1:=Aa.mk ((hg1 (n+1) (by omega)).trans Af);clear hg1 HCS
 iterate 8 all_goals try first|apply spl<;>intro h|simp (disch:=first|assumption|omega|simp) [*]
 refine WC.mono (HCE.out _ _ (by omega) HG1.out) ?_;rintro _ ⟨g2,rfl,hg2,hb2⟩;have HG2:Aa (∀ b,b<n->g2 b=g b):=⟨fun b hb=>(hg2 b (by omega)).trans (HG1.out b hb)⟩;have hn2:=(hg2 n (by omega)).trans hn1;have HZ2:=Aa.mk ((hg2 (n+1) (by omega)).trans HZ1.out);have hb12:=(hg2 (n+1+1+1) (by omega)).trans hb1;clear hg2 HCE hn1 hb1 HZ1
 iterate 8 all_goals try first|apply spl<;>intro h|simp (disch:=first|assumption|omega|simp) [*]
 refine WC.mono (HCT.out _ _ (by omega) HG2.out) ?_;rintro _ ⟨g3,rfl,hg3,hb3⟩;have HG3:Aa (∀ b,b<n->g3 b=g b):=⟨fun b hb=>(hg3 b (by omega)).trans (HG2.out b hb)⟩;have hn3:=(hg3 n (by omega)).trans hn2;have HZ3:=Aa.mk ((hg3 (n+1) (by omega)).trans HZ2.out);have hb13:=(hg3 (n+1+1+1) (by omega)).trans hb12;have hb23:=(hg3 (n+1+1+1+1+1) (by omega)).trans hb2;clear hg3 HCT hn2 hb12 hb2 HZ2 HG1 HG2
 iterate 8 all_goals try first|apply spl<;>intro h|simp (disch:=first|assumption|omega|simp) [*]
 have hnc:(n+1+1+1+1+1+1+1+1)<=n+1+1+1+1+1+1+1+1:=Dp _;have HG:Aa (∀ b,b<n->Aj g3 n (some (.cells [c0,c1,.slq (n+1+1+1) 0 S.length 0,.slq (n+1+1+1+1+1) 0 E.length 0,c4,c5,.slq (n+1+1+1+1+1+1+1) 0 T.length 0] true 0)) b=g b):=⟨fun b hb=>(Ab hb).trans (HG3.out b hb)⟩;have hbx:Aj g3 n (some (.cells [c0,c1,.slq (n+1+1+1) 0 S.length 0,.slq (n+1+1+1+1+1) 0 E.length 0,c4,c5,.slq (n+1+1+1+1+1+1+1) 0 T.length 0] true 0)) n=_:=Af;have HZ:Aa (Aj g3 n (some (.cells [c0,c1,.slq (n+1+1+1) 0 S.length 0,.slq (n+1+1+1+1+1) 0 E.length 0,c4,c5,.slq (n+1+1+1+1+1+1+1) 0 T.length 0] true 0)) (n+1)=some (.cells [.li 0,.li 0,.nl,.nl,.li 0,.li 0,.nl] true 0)):=⟨(Ae (by omega)).trans HZ3.out⟩;have hb1:Aj g3 n (some (.cells [c0,c1,.slq (n+1+1+1) 0 S.length 0,.slq (n+1+1+1+1+1) 0 E.length 0,c4,c5,.slq (n+1+1+1+1+1+1+1) 0 T.length 0] true 0)) (n+1+1+1)=some (.cells ss true 1):=(Ae (by omega)).trans hb13;have hb2:Aj g3 n (some (.cells [c0,c1,.slq (n+1+1+1) 0 S.length 0,.slq (n+1+1+1+1+1) 0 E.length 0,c4,c5,.slq (n+1+1+1+1+1+1+1) 0 T.length 0] true 0)) (n+1+1+1+1+1)=some (.cells es true 1):=(Ae (by omega)).trans hb23;have hb3' : Aj g3 n (some (.cells [c0,c1,.slq (n+1+1+1) 0 S.length 0,.slq (n+1+1+1+1+1) 0 E.length 0,c4,c5,.slq (n+1+1+1+1+1+1+1) 0 T.length 0] true 0)) (n+1+1+1+1+1+1+1)=some (.cells ts true 1):=(Ae (by omega)).trans hb3;replace hb3:=hb3';clear hb3' hn3 HZ3 hb13 hb23 HG3;refine LX.cut (K:=a8h 0 fun gf gN nc=>∃ cs,(n+1+1+1+1+1+1+1+1)<=nc/\Aa (∀ b,b<n->gN b=g b)/\gN n=some (.cells [c0,c1,.slq (n+1+1+1) 0 S.length 0,.slq (n+1+1+1+1+1) 0 E.length 0,c4,c5,.slq (n+1+1+1+1+1+1+1) 0 T.length 0] true 0)/\Aa (gN (n+1)=some (.cells [.li 0,.li 0,.nl,.nl,.li 0,.li 0,.nl] true 0))/\gN (n+1+1+1)=some (.cells cs true 1)/\gN (n+1+1+1+1+1)=some (.cells es true 1)/\gN (n+1+1+1+1+1+1+1)=some (.cells ts true 1)/\Aa (CpK WCR gN (n+1+1+1+1+1+1+1+1) nc S S.length cs ss)/\gf 1=some (.ptr n 0)/\gf 2=some (.ptr (n+1) 0)) ?_ ?_
 rotate_left
 ·skip
  rintro _ ⟨gf,gN,nc,rfl,cs,hnc,HG,hbx,HZ,hb1,hb2,hb3,HC0,w1,w2⟩
  iterate 8 all_goals try first|apply spl<;>intro h|simp (disch:=first|assumption|omega|simp) [*]
  refine LX.cut (K:=a8h 2 fun gf gN nc=>∃ cs ces,(n+1+1+1+1+1+1+1+1)<=nc/\Aa (∀ b,b<n->gN b=g b)/\gN n=some (.cells [c0,c1,.slq (n+1+1+1) 0 S.length 0,.slq (n+1+1+1+1+1) 0 E.length 0,c4,c5,.slq (n+1+1+1+1+1+1+1) 0 T.length 0] true 0)/\Aa (gN (n+1)=some (.cells [.li 0,.li 0,.nl,.nl,.li 0,.li 0,.nl] true 0))/\gN (n+1+1+1)=some (.cells cs true 1)/\gN (n+1+1+1+1+1)=some (.cells ces true 1)/\gN (n+1+1+1+1+1+1+1)=some (.cells ts true 1)/\Aa (CpK WCR gN (n+1+1+1+1+1+1+1+1) nc S S.length cs ss)/\Aa (CpK WCR gN (n+1+1+1+1+1+1+1+1) nc E E.length ces es)/\gf 1=some (.ptr n 0)/\gf 2=some (.ptr (n+1) 0)) ?_ ?_
  rotate_left
  ·skip
   rintro _ ⟨gf,gN,nc,rfl,cs,ces,hnc,HG,hbx,HZ,hb1,hb2,hb3,HC0,HC1,w1,w2⟩
   iterate 8 all_goals try first|apply spl<;>intro h|simp (disch:=first|assumption|omega|simp) [*]
   refine LX.cut (K:=a8h 4 fun gf gN nc=>∃ cs ces cts,(n+1+1+1+1+1+1+1+1)<=nc/\Aa (∀ b,b<n->gN b=g b)/\gN n=some (.cells [c0,c1,.slq (n+1+1+1) 0 S.length 0,.slq (n+1+1+1+1+1) 0 E.length 0,c4,c5,.slq (n+1+1+1+1+1+1+1) 0 T.length 0] true 0)/\Aa (gN (n+1)=some (.cells [.li 0,.li 0,.nl,.nl,.li 0,.li 0,.nl] true 0))/\gN (n+1+1+1)=some (.cells cs true 1)/\gN (n+1+1+1+1+1)=some (.cells ces true 1)/\gN (n+1+1+1+1+1+1+1)=some (.cells cts true 1)/\Aa (CpK WCR gN (n+1+1+1+1+1+1+1+1) nc S S.length cs ss)/\Aa (CpK WCR gN (n+1+1+1+1+1+1+1+1) nc E E.length ces es)/\Aa (CpK ERR gN (n+1+1+1+1+1+1+1+1) nc T T.length cts ts)/\gf 1=some (.ptr n 0)/\gf 2=some (.ptr (n+1) 0)) ?_ ?_
   rotate_left
   ·skip
    rintro _ ⟨gf,gN,nc,rfl,cs,ces,cts,hnc,HG,hbx,HZ,hb1,hb2,hb3,HC0,HC1,HC2,w1,w2⟩
    iterate 8 all_goals try first|apply spl<;>intro h|simp (disch:=first|assumption|omega|simp) [*]
    refine WC.mono (d7w hS0 _) ?_;rintro _ rfl
    iterate 8 all_goals try first|apply spl<;>intro h|simp (disch:=first|assumption|omega|simp) [*]
    refine WC.mono (d7w hE0 _) ?_;rintro _ rfl
    iterate 8 all_goals try first|apply spl<;>intro h|simp (disch:=first|assumption|omega|simp) [*]
    refine WC.mono (g0t hT0 _) ?_;rintro _ rfl;have hz:=HZ.out;clear HZ;have hof:allOne [c0,c1,.sl (n+1+1+1) 0 S.length S.length,.sl (n+1+1+1+1+1) 0 E.length E.length,c4,c5,.sl (n+1+1+1+1+1+1+1) 0 T.length T.length]=true:=by
     have h:=HC.out;simp[h.1,h.2.1,h.2.2.1,h.2.2.2]
    have HOF:=Aa.mk hof
    iterate 8 all_goals try first|apply spl<;>intro h|simp (disch:=first|assumption|omega|simp) [*]
    have hr0:=HC0.out.rowsW (Dp _);have hr1:=HC1.out.rowsW (Dp _);have hr2:=HC2.out.rowsG (Dp _);have hGF:∀ (A B:Option Blk) (a:Nat) (z:Blk),Co (n+1+1+1+1+1+1+1+1) gN a=some z->Co n (Aj (Aj gN n A) (n+1) B) a=some z:=fun A B a z hz=>by
     obtain⟨e1,e2⟩:=a8n hz;rw[a0r (by omega),Ae (by omega),Ae (by omega)];exact e2
    refine⟨_,_,_,_,_,⟨⟨rfl,rfl,rfl⟩,rfl,rfl⟩,by omega,fun b hb=>?_,⟨⟨_,a2v (own:=true) (z:=1) ?_ (by omega),hr0.1.ext (Dp _) fun a z _ hz=>hGF _ _ a z hz,hr0.2⟩,⟨_,a2v (own:=true) (z:=1) ?_ (by omega),hr1.1.ext (Dp _) fun a z _ hz=>hGF _ _ a z hz,hr1.2⟩,⟨_,a2v (own:=true) (z:=1) ?_ (by omega),hr2.ext (Dp _) fun a z _ hz=>hGF _ _ a z hz⟩⟩⟩
    ·rw[Ae (by omega),Ae (by omega)];exact HG.out b hb
    ·rw[a0r (by omega),Ae (by omega),Ae (by omega)];exact hb1
    ·rw[a0r (by omega),Ae (by omega),Ae (by omega)];exact hb2
    ·rw[a0r (by omega),Ae (by omega),Ae (by omega)];exact hb3
   refine LX.ind (fun m gf H'=>∃ (k nc:Nat) (gN:Gb) (cc:List AV),k<=T.length/\m=T.length-k/\H'=⟨.fn gN,nc⟩/\(n+1+1+1+1+1+1+1+1)<=nc/\Aa (∀ b,b<n->gN b=g b)/\gN n=some (.cells [c0,c1,.slq (n+1+1+1) 0 S.length 0,.slq (n+1+1+1+1+1) 0 E.length 0,c4,c5,.slq (n+1+1+1+1+1+1+1) 0 T.length 0] true 0)/\Aa (gN (n+1)=some (.cells [.li 0,.li 0,.nl,.nl,.li 0,.li 0,.nl] true 0))/\gN (n+1+1+1)=some (.cells cs true 1)/\gN (n+1+1+1+1+1)=some (.cells ces true 1)/\gN (n+1+1+1+1+1+1+1)=some (.cells cc true 1)/\Aa (CpK WCR gN (n+1+1+1+1+1+1+1+1) nc S S.length cs ss)/\Aa (CpK WCR gN (n+1+1+1+1+1+1+1+1) nc E E.length ces es)/\Aa (CpK ERR gN (n+1+1+1+1+1+1+1+1) nc T k cc ts)/\gf 1=some (.ptr n 0)/\gf 2=some (.ptr (n+1) 0)/\gf 57=some (.slq (n+1+1+1+1+1+1+1) 0 T.length 0)/\gf 58=some (.li T.length)/\gf 59=some (.li k)) (m0:=T.length) ?_ ?_
   ·exact⟨0,nc,gN,ts,Du _,rfl,rfl,hnc,HG,hbx,HZ,hb1,hb2,hb3,HC0,HC1,⟨⟨HT2.out.1,fun q h hq=>by omega,fun _ _=>rfl⟩⟩,by simp[*]⟩
   clear hnc HG hbx HZ hb1 hb2 hb3 w1 w2 HC0 HC1;rintro m gf H' ⟨k,nc,gN,cc,hk,rfl,rfl,hnc,HG,hbx,HZ,hb1,hb2,hb3,HC0,HC1,HCK,w1,w2,wa,wb,wc⟩ ih;refine rnd pl69 (by decide +kernel) ?_;by_cases hlt:k<T.length
   ·have hltI:(k:Int)<(T.length:Int):=by omega
    obtain⟨qv,hq1,hq2⟩:=HT2.out.2 k hlt;have hkc:k<cc.length:=by rw[HCK.out.len];exact hlt
    have hcv:cc[k]'hkc=qv:=by
     have h5:=HCK.out.old k (Dp _);rw[hq1,Dv hkc] at h5;exact Option.some.inj h5
    have HST:=Aa.mk fun (gF:Gb) (nF:Nat) (q:AV) (h1:nc<=nF) (h2:∀ a,(n+1+1+1+1+1+1+1+1)<=a->a<nc->gF a=gN a) (h3:ERR (Co (n+1+1+1+1+1+1+1+1) gF) nF T[k] q)=>HCK.out.step (R:=ERR) (fun a b c=>ERR.m a b c) h1 h2 hlt h3;have hxI:=hTr _ (Dt hlt);have HCL:=Aa.mk (g0s (len:=T[k].length) (by omega) (by omega) (by rw[rowC_len]) gN nc qv (Ag.mono (by omega) HG.out hq2));clear hq1 hq2 HCK;generalize T[k]=x at *
    iterate 8 all_goals try first|apply spl<;>intro h|simp (disch:=first|assumption|omega|simp) [*]
    refine WC.mono HCL.out ?_;rintro _ ⟨g5,rfl,hg5,hcl⟩;have hbx5:=(hg5 n (by omega)).trans hbx;have hb15:=(hg5 (n+1+1+1) (by omega)).trans hb1;have hb25:=(hg5 (n+1+1+1+1+1) (by omega)).trans hb2;have hb35:=(hg5 (n+1+1+1+1+1+1+1) (by omega)).trans hb3;have HZ5:=Aa.mk ((hg5 (n+1) (by omega)).trans HZ.out);have HG5:=Aa.mk hg5;have HC5:=Aa.mk hcl;clear hg5 hcl hbx hb1 hb2 hb3 HCL
    iterate 8 all_goals try first|apply spl<;>intro h|simp (disch:=first|assumption|omega|simp) [*]
    refine WC.mono (d6m (by omega) _) ?_;rintro _ rfl
    iterate 8 all_goals try first|apply spl<;>intro h|simp (disch:=first|assumption|omega|simp) [*]
    refine ih.out (T.length-(k+1)) _ _ (by omega) ⟨k+1,nc+1+1,_,cc.set k (.sl (nc+1) 0 I I),by omega,rfl,rfl,by omega,⟨fun b hb=>?_⟩,?_,⟨?_⟩,?_,?_,Af,⟨HC0.out.keep (R:=WCR) (fun a b c=>WCR.m a b c) (by omega) fun a h1 h2=>(Ae (by omega)).trans (HG5.out a h2)⟩,⟨HC1.out.keep (R:=WCR) (fun a b c=>WCR.m a b c) (by omega) fun a h1 h2=>(Ae (by omega)).trans (HG5.out a h2)⟩,⟨HST.out _ _ _ (by omega) (fun a h1 h2=>(Ae (by omega)).trans (HG5.out a h2)) (by
     have h9:ERR (Co (n+1+1+1+1+1+1+1+1) (Aj g5 (n+1+1+1+1+1+1+1) (some (.cells (cc.set k (.sl (nc+1) 0 I I)) true 1)))) (nc+1+1) x (.sl (nc+1) 0 x.length x.length):=a2v ((a0r (by omega)).trans ((Ae (by omega)).trans HC5.out)) (by omega);rw[hxI] at h9;exact h9)⟩,by simp[*]⟩
    ·rw[Ae (by omega)];exact(HG5.out b (by omega)).trans (HG.out b hb)
    ·rw[Ae (by omega)];exact hbx5
    ·rw[Ae (by omega)];exact HZ5.out
    ·rw[Ae (by omega)];exact hb15
    ·rw[Ae (by omega)];exact hb25
   ·have hltI:¬(k:Int)<(T.length:Int):=by omega
    have hke:k=T.length:=by omega
    have HCF:Aa (CpK ERR gN (n+1+1+1+1+1+1+1+1) nc T T.length cc ts):=⟨by have:=HCK.out;rw[hke] at this;exact this⟩;clear HCK hke
    iterate 8 all_goals try first|apply spl<;>intro h|simp (disch:=first|assumption|omega|simp) [*]
  refine LX.ind (fun m gf H'=>∃ (k nc:Nat) (gN:Gb) (cc:List AV),k<=E.length/\m=E.length-k/\H'=⟨.fn gN,nc⟩/\(n+1+1+1+1+1+1+1+1)<=nc/\Aa (∀ b,b<n->gN b=g b)/\gN n=some (.cells [c0,c1,.slq (n+1+1+1) 0 S.length 0,.slq (n+1+1+1+1+1) 0 E.length 0,c4,c5,.slq (n+1+1+1+1+1+1+1) 0 T.length 0] true 0)/\Aa (gN (n+1)=some (.cells [.li 0,.li 0,.nl,.nl,.li 0,.li 0,.nl] true 0))/\gN (n+1+1+1)=some (.cells cs true 1)/\gN (n+1+1+1+1+1)=some (.cells cc true 1)/\gN (n+1+1+1+1+1+1+1)=some (.cells ts true 1)/\Aa (CpK WCR gN (n+1+1+1+1+1+1+1+1) nc S S.length cs ss)/\Aa (CpK WCR gN (n+1+1+1+1+1+1+1+1) nc E k cc es)/\gf 1=some (.ptr n 0)/\gf 2=some (.ptr (n+1) 0)/\gf 40=some (.slq (n+1+1+1+1+1) 0 E.length 0)/\gf 41=some (.li E.length)/\gf 42=some (.li k)) (m0:=E.length) ?_ ?_
  ·exact⟨0,nc,gN,es,Du _,rfl,rfl,hnc,HG,hbx,HZ,hb1,hb2,hb3,HC0,⟨⟨HE2.out.1,fun q h hq=>by omega,fun _ _=>rfl⟩⟩,by simp[*]⟩
  clear hnc HG hbx HZ hb1 hb2 hb3 w1 w2 HC0;rintro m gf H' ⟨k,nc,gN,cc,hk,rfl,rfl,hnc,HG,hbx,HZ,hb1,hb2,hb3,HC0,HCK,w1,w2,wa,wb,wc⟩ ih;refine rnd pl69 (by decide +kernel) ?_;by_cases hlt:k<E.length
  ·have hltI:(k:Int)<(E.length:Int):=by omega
   obtain⟨qv,hq1,hq2⟩:=HE2.out.2 k hlt;have hkc:k<cc.length:=by rw[HCK.out.len];exact hlt
   have hcv:cc[k]'hkc=qv:=by
    have h5:=HCK.out.old k (Dp _);rw[hq1,Dv hkc] at h5;exact Option.some.inj h5
   have HST:=Aa.mk fun (gF:Gb) (nF:Nat) (q:AV) (h1:nc<=nF) (h2:∀ a,(n+1+1+1+1+1+1+1+1)<=a->a<nc->gF a=gN a) (h3:WCR (Co (n+1+1+1+1+1+1+1+1) gF) nF E[k] q)=>HCK.out.step (R:=WCR) (fun a b c=>WCR.m a b c) h1 h2 hlt h3;have HCL:=Aa.mk (d5w E[k] (by have:=hEw _ (Dt hlt);omega) gN nc qv (Ag.mono (by omega) HG.out hq2));clear hq1 hq2 HCK;generalize E[k]=x at *
   iterate 8 all_goals try first|apply spl<;>intro h|simp (disch:=first|assumption|omega|simp) [*]
   refine WC.mono HCL.out ?_;rintro _ ⟨sv1,g5,n5,rfl,hn5,hg5,hcl⟩;have hbx5:=(hg5 n (by omega)).trans hbx;have hb15:=(hg5 (n+1+1+1) (by omega)).trans hb1;have hb25:=(hg5 (n+1+1+1+1+1) (by omega)).trans hb2;have hb35:=(hg5 (n+1+1+1+1+1+1+1) (by omega)).trans hb3;have HZ5:=Aa.mk ((hg5 (n+1) (by omega)).trans HZ.out);have HG5:=Aa.mk hg5;have HC5:=Aa.mk hcl;clear hg5 hcl hbx hb1 hb2 hb3 HCL
   iterate 8 all_goals try first|apply spl<;>intro h|simp (disch:=first|assumption|omega|simp) [*]
   refine WC.mono (d7e x g5 nc n5 sv1 HC5.out) ?_;rintro _ ⟨sv3,rfl,hf3,ht3⟩;have h1z:=hf3.rep.one;have hcz:=hf3.rep.cell;have HF3:=Aa.mk hf3;have HT3:=Aa.mk ht3;clear hf3 ht3
   iterate 8 all_goals try first|apply spl<;>intro h|simp (disch:=first|assumption|omega|simp) [*]
   refine ih.out (E.length-(k+1)) _ _ (by omega) ⟨k+1,n5,_,cc.set k sv3,by omega,rfl,rfl,by omega,⟨fun b hb=>?_⟩,?_,⟨?_⟩,?_,Af,?_,⟨HC0.out.keep (R:=WCR) (fun a b c=>WCR.m a b c) (by omega) fun a h1 h2=>(Ae (by omega)).trans (HG5.out a h2)⟩,⟨HST.out _ _ _ (by omega) (fun a h1 h2=>(Ae (by omega)).trans (HG5.out a h2)) (by
    obtain⟨gk,q1,q2⟩:=HF3.out;refine⟨Ag.ext (Dp _) (fun a z _ hz=>?_) q2,HT3.out.cap⟩;obtain⟨e1,e2,e3⟩:=q1 a z hz;rw[a0r (by omega),Ae (by omega)];exact e1)⟩,by simp[*]⟩
   ·rw[Ae (by omega)];exact(HG5.out b (by omega)).trans (HG.out b hb)
   ·rw[Ae (by omega)];exact hbx5
   ·rw[Ae (by omega)];exact HZ5.out
   ·rw[Ae (by omega)];exact hb15
   ·rw[Ae (by omega)];exact hb35
  ·have hltI:¬(k:Int)<(E.length:Int):=by omega
   have hke:k=E.length:=by omega
   have HCF:Aa (CpK WCR gN (n+1+1+1+1+1+1+1+1) nc E E.length cc es):=⟨by have:=HCK.out;rw[hke] at this;exact this⟩;clear HCK hke
   iterate 8 all_goals try first|apply spl<;>intro h|simp (disch:=first|assumption|omega|simp) [*]
 refine LX.ind (fun m gf H'=>∃ (k nc:Nat) (gN:Gb) (cc:List AV),k<=S.length/\m=S.length-k/\H'=⟨.fn gN,nc⟩/\(n+1+1+1+1+1+1+1+1)<=nc/\Aa (∀ b,b<n->gN b=g b)/\gN n=some (.cells [c0,c1,.slq (n+1+1+1) 0 S.length 0,.slq (n+1+1+1+1+1) 0 E.length 0,c4,c5,.slq (n+1+1+1+1+1+1+1) 0 T.length 0] true 0)/\Aa (gN (n+1)=some (.cells [.li 0,.li 0,.nl,.nl,.li 0,.li 0,.nl] true 0))/\gN (n+1+1+1)=some (.cells cc true 1)/\gN (n+1+1+1+1+1)=some (.cells es true 1)/\gN (n+1+1+1+1+1+1+1)=some (.cells ts true 1)/\Aa (CpK WCR gN (n+1+1+1+1+1+1+1+1) nc S k cc ss)/\gf 1=some (.ptr n 0)/\gf 2=some (.ptr (n+1) 0)/\gf 24=some (.slq (n+1+1+1) 0 S.length 0)/\gf 25=some (.li S.length)/\gf 26=some (.li k)) (m0:=S.length) ?_ ?_
 ·exact⟨0,_,_,ss,Du _,rfl,rfl,hnc,HG,hbx,HZ,hb1,hb2,hb3,⟨⟨HS2.out.1,fun q h hq=>by omega,fun _ _=>rfl⟩⟩,by simp[*]⟩
 clear hnc HG hbx HZ hb1 hb2 hb3;rintro m gf H' ⟨k,nc,gN,cc,hk,rfl,rfl,hnc,HG,hbx,HZ,hb1,hb2,hb3,HCK,w1,w2,wa,wb,wc⟩ ih;refine rnd pl69 (by decide +kernel) ?_;by_cases hlt:k<S.length
 ·have hltI:(k:Int)<(S.length:Int):=by omega
  obtain⟨qv,hq1,hq2⟩:=HS2.out.2 k hlt;have hkc:k<cc.length:=by rw[HCK.out.len];exact hlt
  have hcv:cc[k]'hkc=qv:=by
   have h5:=HCK.out.old k (Dp _);rw[hq1,Dv hkc] at h5;exact Option.some.inj h5
  have HST:=Aa.mk fun (gF:Gb) (nF:Nat) (q:AV) (h1:nc<=nF) (h2:∀ a,(n+1+1+1+1+1+1+1+1)<=a->a<nc->gF a=gN a) (h3:WCR (Co (n+1+1+1+1+1+1+1+1) gF) nF S[k] q)=>HCK.out.step (R:=WCR) (fun a b c=>WCR.m a b c) h1 h2 hlt h3;have HCL:=Aa.mk (d5w S[k] (by have:=hSw _ (Dt hlt);omega) gN nc qv (Ag.mono (by omega) HG.out hq2));clear hq1 hq2 HCK;generalize S[k]=x at *
  iterate 8 all_goals try first|apply spl<;>intro h|simp (disch:=first|assumption|omega|simp) [*]
  refine WC.mono HCL.out ?_;rintro _ ⟨sv1,g5,n5,rfl,hn5,hg5,hcl⟩;have hbx5:=(hg5 n (by omega)).trans hbx;have hb15:=(hg5 (n+1+1+1) (by omega)).trans hb1;have hb25:=(hg5 (n+1+1+1+1+1) (by omega)).trans hb2;have hb35:=(hg5 (n+1+1+1+1+1+1+1) (by omega)).trans hb3;have HZ5:=Aa.mk ((hg5 (n+1) (by omega)).trans HZ.out);have HG5:=Aa.mk hg5;have HC5:=Aa.mk hcl;clear hg5 hcl hbx hb1 hb2 hb3 HCL
  iterate 8 all_goals try first|apply spl<;>intro h|simp (disch:=first|assumption|omega|simp) [*]
  refine WC.mono (d7e x g5 nc n5 sv1 HC5.out) ?_;rintro _ ⟨sv3,rfl,hf3,ht3⟩;have h1z:=hf3.rep.one;have hcz:=hf3.rep.cell;have HF3:=Aa.mk hf3;have HT3:=Aa.mk ht3;clear hf3 ht3
  iterate 8 all_goals try first|apply spl<;>intro h|simp (disch:=first|assumption|omega|simp) [*]
  refine ih.out (S.length-(k+1)) _ _ (by omega) ⟨k+1,n5,_,cc.set k sv3,by omega,rfl,rfl,by omega,⟨fun b hb=>?_⟩,?_,⟨?_⟩,Af,?_,?_,⟨HST.out _ _ _ (by omega) (fun a h1 h2=>(Ae (by omega)).trans (HG5.out a h2)) (by
   obtain⟨gk,q1,q2⟩:=HF3.out;refine⟨Ag.ext (Dp _) (fun a z _ hz=>?_) q2,HT3.out.cap⟩;obtain⟨e1,e2,e3⟩:=q1 a z hz;rw[a0r (by omega),Ae (by omega)];exact e1)⟩,by simp[*]⟩
  ·rw[Ae (by omega)];exact(HG5.out b (by omega)).trans (HG.out b hb)
  ·rw[Ae (by omega)];exact hbx5
  ·rw[Ae (by omega)];exact HZ5.out
  ·rw[Ae (by omega)];exact hb25
  ·rw[Ae (by omega)];exact hb35
 ·have hltI:¬(k:Int)<(S.length:Int):=by omega
  have hke:k=S.length:=by omega
  have HCF:Aa (CpK WCR gN (n+1+1+1+1+1+1+1+1) nc S S.length cc ss):=⟨by have:=HCK.out;rw[hke] at this;exact this⟩;clear HCK hke
  iterate 8 all_goals try first|apply spl<;>intro h|simp (disch:=first|assumption|omega|simp) [*]
end Go.Ai
end

