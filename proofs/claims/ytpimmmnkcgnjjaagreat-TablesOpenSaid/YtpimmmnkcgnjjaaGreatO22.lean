/- A small verified interpreter over names, its proofs, and what was proved with it. No condition. -/
import Derived.Test.YtpimmmnkcgnjjaaGreatO10
import Derived.Test.YtpimmmnkcgnjjaaGreatO20
import Derived.Test.YtpimmmnkcgnjjaaGreatO05
import Derived.Test.YtpimmmnkcgnjjaaGreatO09
import Derived.Test.YtpimmmnkcgnjjaaGreatO21
set_option linter.all false
set_option linter.deprecated false
section
namespace Go.Ai
set_option maxRecDepth 10000
end Go.Ai
end
section
namespace Go.Ai
open Go.Proofs Go.Proofs.Tryz
set_option maxRecDepth 10000
set_option maxHeartbeats 40000000
end Go.Ai
end
section
namespace Go.Ai
open Go.Proofs Go.Proofs.Tryz
set_option maxRecDepth 10000
set_option maxHeartbeats 40000000
end Go.Ai
end
section
namespace Go.Ai
open Go.Proofs Go.Proofs.Tryz
set_option maxRecDepth 10000
set_option maxHeartbeats 40000000
theorem c7m (a b:Wd) (hal:a.length<=1000000) (hbl:b.length<=1000000) (g:Gb) (n:Nat) (sa sb:AV) (ha:Aj g n a sa) (hb:Aj g n b sb) :
  WC 0 prog 61 [sa,sb] ⟨.fn g,n⟩ fun r=>r=.ret (.li (Bh a b)) ⟨.fn g,n⟩:=by
 have hla:=@Am prog _ _ _ _ _ ha;have hlb:=@Am prog _ _ _ _ _ hb;have HA:=Aa.mk ha;have HB:=Aa.mk hb;clear ha hb;obtain⟨ret,hret⟩ : ∃ c,c=Bh a b:=⟨_,rfl⟩;rw[<- hret];unfold Bh at hret;by_cases t1:a.length<b.length
 ·have t1I:(a.length:Int)<(b.length:Int):=by omega
  have t0I:¬((a.length:Int)=(b.length:Int)):=by omega
  have hr:ret = -1:=by rw[hret,if_pos t1]
  clear hret;refine ent pl61 func61 rfl (by decide +kernel) (by kernel_rfl) ?_
  iterate 6 all_goals try first|apply spl<;>intro h|simp (disch:=first|assumption|omega|simp) [*]
 rw[if_neg t1] at hret;by_cases t2:b.length<a.length
 ·have t2I:(b.length:Int)<(a.length:Int):=by omega
  have t0I:¬((a.length:Int)=(b.length:Int)):=by omega
  have t1I:¬(a.length:Int)<(b.length:Int):=by omega
  have hr:ret=1:=by rw[hret,if_pos t2]
  clear hret;refine ent pl61 func61 rfl (by decide +kernel) (by kernel_rfl) ?_
  iterate 6 all_goals try first|apply spl<;>intro h|simp (disch:=first|assumption|omega|simp) [*]
 rw[if_neg t2] at hret;have hL:b.length=a.length:=by omega
 have HL:=Aa.mk hL;have HRET:=Aa.mk hret;rw[hL] at hlb;clear t1 t2 hL hbl hret;refine ent pl61 func61 rfl (by decide +kernel) (by kernel_rfl) ?_
 iterate 6 all_goals try first|apply spl<;>intro h|simp (disch:=first|assumption|omega|simp) [*]
 refine LX.ind (fun m gf H'=>∃ (k:Nat),k<=a.length/\m=a.length-k/\H'=⟨.fn g,n⟩/\Aa (ret=lexC (a.drop k) (b.drop k))/\gf 0=some sa/\gf 1=some sb/\gf 5=some (.li k)) (m0:=a.length) ?_ ?_
 ·exact⟨0,Dt _,rfl,rfl,HRET,by simp[*]⟩
 rintro m gf H' ⟨k,hk,rfl,rfl,HPRE,w0,w1,w5⟩ ih;refine rnd pl61 (by decide +kernel) ?_;by_cases hlt:k<a.length
 ·have hltI:(k:Int)<(a.length:Int):=by omega
  have hltb:k<b.length:=by rw[HL.out];exact hlt
  obtain⟨a2,off,ha2,hrow,hia⟩:=Af.ia (P:=prog) HA.out hlt 1;obtain⟨b2,ofb,hb2,hrob,hib⟩:=Af.ia (P:=prog) HB.out hltb 1;simp only[Ea] at hia hib;have hca:=hrow.one (k:=k) (s:=1) (by rw[Bl];exact hlt);have hcb:=hrob.one (k:=k) (s:=1) (by rw[Bl];exact hltb);rw[(Eb.1 (a7a a k hlt)).2] at hca;rw[(Eb.1 (a7a b k hltb)).2] at hcb;have hp:=HPRE.out;rw[El hlt,El hltb] at hp;have HP:=Aa.mk hp;clear hp HPRE hrow hrob ha2 hb2;generalize a[k]=u at *;generalize b[k]=v at *;clear hltb;by_cases t1:u<v
  ·have hr:ret = -1:=by rw[HP.out];unfold lexC;rw[if_pos t1]
   iterate 6 all_goals try first|apply spl<;>intro h|simp (disch:=first|assumption|omega|simp) [*]
  by_cases t2:v<u
  ·have hr:ret=1:=by rw[HP.out];unfold lexC;rw[if_neg t1,if_pos t2]
   iterate 6 all_goals try first|apply spl<;>intro h|simp (disch:=first|assumption|omega|simp) [*]
  ·have HUV:Aa (ret=lexC (a.drop (k+1)) (b.drop (k+1))):=⟨by rw[HP.out];show (if u<v then -1 else if v<u then 1 else lexC (a.drop (k+1)) (b.drop (k+1)))=_;rw[if_neg t1,if_neg t2]⟩
   iterate 6 all_goals try first|apply spl<;>intro h|simp (disch:=first|assumption|omega|simp) [*]
   exact ih.out (a.length-(k+1)) _ _ (by omega) ⟨k+1,by omega,rfl,rfl,HUV,by simp[*]⟩
 ·have hltI:¬(k:Int)<(a.length:Int):=by omega
  have hk2:k=a.length:=by omega
  have hr:ret=0:=by
   rw[HPRE.out,hk2,g4t,<- HL.out,g4t];rfl
  clear hk2
  iterate 6 all_goals try first|apply spl<;>intro h|simp (disch:=first|assumption|omega|simp) [*]
theorem c7n (a:Wd) : Bh a a=0:=by
 unfold Bh;rw[if_neg (Nat.lt_irrefl _),if_neg (Nat.lt_irrefl _)]
 induction a with
 | nil=>rfl
 | cons x a ih =>
  unfold lexC;rw[if_neg (Int.lt_irrefl _),if_neg (Int.lt_irrefl _)];exact ih
end Go.Ai
end
section
namespace Go.Ai
set_option maxRecDepth 10000
theorem d7t {a b:Wd} (h:SL a b) : 0<Bh b a:=by
 rcases g6a (Bh b a) 0 with h1|h1|h1
 ·exact absurd (h.trans (a3w.1 h1)) SL.irrefl
 ·rw[b4o h1] at h;exact absurd h SL.irrefl
 ·exact h1
theorem d7u {w:Wd} : ∀ {l:Wq} {k:Nat},k<=l.length->(∀ j (h:j<l.length),j<k->SL l[j] w)->(∀ h:k<l.length,SL w l[k])->Bv w l=l.take k++w :: l.drop k
 | [],k,hk,_,_=>by simp[Bv]
 | x :: l,0,_,_,h2=>by
  have:SL w x:=h2 (by simp);unfold Bv;rw[if_pos (a3w.2 this)];rfl
 | x :: l,k+1,hk,h1,h2=>by
  have h3:SL x w:=h1 0 (by simp) (by omega);have h4:=d7t h3;unfold Bv;rw[if_neg (by omega),if_neg (by omega),d7u (k:=k) (by simpa using hk) (fun j hj hjk=>h1 (j+1) (by simpa using hj) (by omega)) (fun h=>h2 (by simpa using h))];rfl
theorem d7v {w:Wd} : ∀ {l:Wq},Dl l->w∈l->Bv w l=l
 | [],_,h=>by cases h
 | x :: l,hs,h=>by
  obtain⟨h1,h2⟩:=c1i.1 hs;unfold Bv;rcases Dv.1 h with rfl|h
  ·rw[c7n,if_neg (by omega),if_pos rfl]
  ·have h4:=d7t (h1 w h);rw[if_neg (by omega),if_neg (by omega),d7v h2 h]
def a0i (l:Wq) : Wq:=l.foldl (fun a w=>Bv w a) []
theorem c1y {l:Wq} {w:Wd} : a0i (l++[w])=Bv w (a0i l):=by unfold a0i;rw[List.foldl_append];rfl
theorem g2a (l:Wq) : Dl (a0i l):=by
 refine b8b (P:=fun l=>Dl (a0i l)) (fun a b ha=>by cases ha) (fun l x ih=>?_) l;rw[c1y];exact c6v ih
theorem b8c {l:Wq} {x:Wd} : x∈a0i l↔x∈l:=by
 refine b8b (P:=fun l=>x∈a0i l↔x∈l) Iff.rfl (fun l y ih=>?_) l;rw[c1y,b7x,ih,Ed,Ek,or_comm]
theorem d7w {w:Wd} : ∀ {l:Wq},(Bv w l).length<=l.length+1
 | []=>by simp[Bv]
 | x :: l=>by
  have:=d7w (w:=w) (l:=l);unfold Bv;split
  ·simp
  ·split<;>simp<;>omega
theorem d7x (l:Wq) : (a0i l).length<=l.length:=by
 refine b8b (P:=fun l=>(a0i l).length<=l.length) (Dm _) (fun l y ih=>?_) l;rw[c1y];have:=d7w (w:=y) (l:=a0i l);simp;omega
end Go.Ai
end
section
namespace Go.Ai
open Go.Proofs Go.Proofs.Tryz
set_option maxRecDepth 10000
set_option maxHeartbeats 40000000
theorem g2b {a b:Wd} (hal:a.length<=10000) (hbl:b.length<=10000) (g:Gb) (n:Nat) (sa sb:AV) (ha:Aj g n a sa) (hb:Aj g n b sb) (hcb:Bm sb) :
  WC 0 prog 113 [sa,sb] ⟨.fn g,n⟩ fun r=>r=.ret (.lit (.bool (decide (a.length<b.length/\b.take a.length=a)))) ⟨.fn g,n⟩:=by
 have hla:=@Am prog _ _ _ _ _ ha;have hlb:=@Am prog _ _ _ _ _ hb;obtain⟨ret,hret⟩ : ∃ c,c=decide (a.length<b.length/\b.take a.length=a):=⟨_,rfl⟩;rw[<- hret];by_cases hlt:a.length<b.length
 ·have hltI:(a.length:Int)<(b.length:Int):=by omega
  obtain⟨pv,hcut,hpr,hpc⟩:=Af.cutP (P:=prog) hb hcb (t:=65) (by kernel_rfl) (k:=a.length) (sz:=1) (by omega);have hpw:Aj g n (b.take a.length) pv:=by
   have h:Af g n pv a.length ((wdC b).take (a.length*1)):=hpr;have e:(wdC b).take (a.length*1)=wdC (b.take a.length):=by simp[wdC,List.map_take]
   have e2:(b.take a.length).length=a.length:=by rw[Du];omega
   rw[e] at h;unfold Aj;rw[e2];exact h
  have HC:=Aa.mk (c7m a (b.take a.length) (by omega) (by rw[Du];omega) g n sa pv ha hpw);have hr:ret=decide (Bh a (b.take a.length)=0):=by
   rw[hret,decide_eq_decide];constructor
   ·rintro⟨_,h⟩;rw[h];exact c7n a
   ·intro h;exact⟨hlt,(b4o h).symm⟩
  clear hret hpr hpw hpc ha hb;generalize Bh a (b.take a.length)=c at *;refine ent [] func113 rfl (by decide +kernel) (by kernel_rfl) ?_
  iterate 8 all_goals try first|apply spl<;>intro h|simp (disch:=first|assumption|omega|simp) [*]
  refine WC.mono HC.out ?_;rintro _ rfl
  iterate 8 all_goals try first|apply spl<;>intro h|simp (disch:=first|assumption|omega|simp) [*]
 ·have hltI:¬(a.length:Int)<(b.length:Int):=by omega
  have hr:ret=false:=by rw[hret,decide_eq_false];omega
  clear hret ha hb;refine ent [] func113 rfl (by decide +kernel) (by kernel_rfl) ?_
  iterate 8 all_goals try first|apply spl<;>intro h|simp (disch:=first|assumption|omega|simp) [*]
theorem Bi.at {g:Gb} {n:Nat} {l:Wq} {lv:AV} (h:Bi g n l lv) {k:Nat} (hk:k<l.length) : ∃ a off q,a<n/\(∀ {H:Mem} {ev:Ev} {o:Oper} {t:TypeId},iaS prog H ev o t (some (none,1)) (some lv) (some (.li (k:Int)))=.val (.ptr a (off+k)) H)/\Be (some (false,1)) (g a) (off+k)=some q/\Aj g n l[k] q/\Bm q:=by
 obtain⟨svs,h1,h2,h3⟩:=h;obtain⟨q,e1,e2⟩:=h2.2 k hk;obtain⟨a,off,ha,hrow,hia⟩:=h1.ia (P:=prog) hk 1;simp only[Ea] at hia;have hkl:k<svs.length:=(Eb.1 e1).1;have hcell:=hrow.one (k:=k) (s:=1) hkl;rw[(Eb.1 e1).2] at hcell;exact⟨a,off,q,ha,hia,hcell,e2,h3 q (En e1)⟩
theorem g2c {l:Wq} {w:Wd} {k:Nat} (h:k<l.length) : a2o (l.take (k+1)) w=(a2o (l.take k) w || decide (w.length<(l[k]).length/\(l[k]).take w.length=w)):=by
 unfold a2o;rw[g4c h,List.any_append];simp
theorem g2d {l:Wq} (hll:l.length<=10000) (hwl:∀ w∈l,w.length<=10000) (g:Gb) (n:Nat) (lv:AV) (hl:Bi g n l lv) :
  WC 0 prog 64 [lv] ⟨.fn g,n⟩ fun r=>∃ ov g' n' B cs,r=.ret ov ⟨.fn g',n'⟩/\n<=n'/\(∀ b,b<n->g' b=g b)/\Bc g' n n' B ov (b3b l).length 1 cs/\RowsW g n (b3b l) cs/\∀ q∈cs,Bm q:=by
 have hlen:=@Am prog _ _ _ _ _ hl.choose_spec.1;have HL:=Aa.mk hl;have HW:=Aa.mk hwl;clear hl hwl;refine ent pl64 func64 rfl (by decide +kernel) (by kernel_rfl) ?_
 iterate 8 all_goals try first|apply spl<;>intro h|simp (disch:=first|assumption|omega|simp) [*]
 refine LX.ind (fun m gf H'=>∃ (k n2 B:Nat) (gL:Gb) (ov:AV) (cs:List AV) (out:Wq),k<=l.length/\m=l.length-k/\H'=⟨.fn gL,n2⟩/\n<=n2/\Aa (∀ b,b<n->gL b=g b)/\out.length<=k/\Aa (out=(l.take k).filter fun w=>!a2o l w)/\Aa (Bc gL n n2 B ov out.length 1 cs)/\Aa (RowsW g n out cs/\∀ q∈cs,Bm q) /\
  gf 0=some lv/\gf 3=some ov/\gf 4=some (.li k)) (m0:=l.length) ?_ ?_
 ·exact⟨0,n,0,g,.nl,[],[],Dt _,rfl,rfl,Dm _,⟨fun _ _=>rfl⟩,Dm _,⟨by simp⟩,⟨.inl ⟨rfl,rfl,rfl⟩⟩,⟨⟨rfl,fun k h=>by cases h⟩,by simp⟩,by simp[*]⟩
 rintro m gf H' ⟨k,n2,B,gL,ov,cs,out,hk,rfl,rfl,hn2,HG,hok,HO,HGR,HR,w0,w3,w4⟩ ih;refine rnd pl64 (by decide +kernel) ?_;by_cases hlt:k<l.length
 ·have hltI:(k:Int)<(l.length:Int):=by omega
  obtain⟨a2,o2,qv,ha2,hia2,hc2,hq,hqc⟩:=HL.out.at hlt;rw[<- HG.out a2 ha2] at hc2;have h1q:=hq.one;have hcq:=hq.cell;have h2q:allOne [qv]=true:=by simp[h1q]
  have hwk:=HW.out _ (Ds hlt);have HQ:=Aa.mk hq;have HQC:=Aa.mk hqc;have HTK:Aa ((l.take (k+1)).filter (fun w=>!a2o l w)=(l.take k).filter (fun w=>!a2o l w)++(if a2o l l[k] then [] else [l[k]])):=⟨by
   rw[g4c hlt,List.filter_append];cases h:a2o l l[k]<;>simp[h]⟩
  clear hq hqc;generalize l[k]=w at *
  iterate 8 all_goals try first|apply spl<;>intro h|simp (disch:=first|assumption|omega|simp) [*]
  refine LX.ind (fun m gf H'=>∃ (j:Nat),j<=l.length/\m=l.length-j/\H'=⟨.fn gL,n2⟩/\gf 0=some lv/\gf 3=some ov/\gf 4=some (.li k)/\gf 5=some (.lit (.bool (a2o (l.take j) w)))/\gf 6=some (.li j)) (m0:=l.length) ?_ ?_
  ·exact⟨0,Dt _,rfl,rfl,by simp[*],by simp[*],by simp[*],by simp[a2o],by simp⟩
  clear w0 w3 w4;rintro m2 gf2 H2 ⟨j,hj,rfl,rfl,w0,w3,w4,w5,w6⟩ ih2;refine rnd pl64 (by decide +kernel) ?_;by_cases hjl:j<l.length
  ·have hjI:(j:Int)<(l.length:Int):=by omega
   obtain⟨a3,o3,pv,ha3,hia3,hc3,hp,hpc⟩:=HL.out.at hjl;rw[<- HG.out a3 ha3] at hc3;have hwj:=HW.out _ (Ds hjl);have HC:=Aa.mk (g2b (a:=w) (b:=l[j]) hwk hwj gL n2 qv pv (Af.mono hn2 HG.out HQ.out) (Af.mono hn2 HG.out hp) hpc);have HST:=Aa.mk (g2c (w:=w) hjl);clear hp hpc;generalize decide (w.length<(l[j]).length/\(l[j]).take w.length=w)=d at *;generalize hfp:a2o (l.take j) w=p at *
   cases p with
   | true =>
    rw[g6t] at HST;clear HC
    iterate 8 all_goals try first|apply spl<;>intro h|simp (disch:=first|assumption|omega|simp) [*]
    exact ih2.out (l.length-(j+1)) _ _ (by omega) ⟨j+1,by omega,rfl,rfl,by simp[*],by simp[*],by simp[*],by simp[HST.out],by simp⟩
   | false =>
    rw[g5p] at HST
    iterate 8 all_goals try first|apply spl<;>intro h|simp (disch:=first|assumption|omega|simp) [*]
    refine WC.mono HC.out ?_;rintro _ rfl
    iterate 8 all_goals try first|apply spl<;>intro h|simp (disch:=first|assumption|omega|simp) [*]
    all_goals
     exact ih2.out (l.length-(j+1)) _ _ (by omega) ⟨j+1,by omega,rfl,rfl,by simp[*],by simp[*],by simp[*],by simp[HST.out,h],by simp⟩
  ·have hjI:¬(j:Int)<(l.length:Int):=by omega
   rw[Ee (by omega)] at w5;clear ih2
   cases hf:a2o l w with
   | true =>
    rw[hf] at w5 HTK;have HO2:Aa (out=(l.take (k+1)).filter fun w=>!a2o l w):=⟨by rw[HTK.out,HO.out];simp⟩;clear HO HTK hf
    iterate 8 all_goals try first|apply spl<;>intro h|simp (disch:=first|assumption|omega|simp) [*]
    exact ih.out (l.length-(k+1)) _ _ (by omega) ⟨k+1,n2,B,gL,ov,cs,out,by omega,rfl,rfl,hn2,HG,by omega,HO2,HGR,HR,by simp[*]⟩
   | false =>
    rw[hf] at w5 HTK;have HO2:Aa (out++[w]=(l.take (k+1)).filter fun w=>!a2o l w):=⟨by rw[HTK.out,HO.out];simp⟩;have HR2:Aa (RowsW g n (out++[w]) (cs++[qv])/\∀ q∈cs++[qv],Bm q):=⟨HR.out.1.snoc HQ.out,fun q hq=>by
     rcases Ed.1 hq with h|h
     ·exact HR.out.2 q h
     ·rw[Ek.1 h];exact HQC.out⟩
    have hcl:cs.length=out.length:=HR.out.1.1;have hcl1:cs.length=out.length*1:=by omega
    clear HO HTK hf;rcases HGR.out with⟨h6,hc6,hs6⟩|⟨h6,hs6,hC1,hC2,hC3,hC4⟩
    ·subst hs6;have HZ:=Aa.mk (And.intro h6 hc6);clear h6 hc6
     iterate 8 all_goals try first|apply spl<;>intro h|simp (disch:=first|assumption|omega|simp) [*]
     refine ih.out (l.length-(k+1)) _ _ (by omega) ⟨k+1,n2+1+1,n2+1,_,.slq (n2+1) 0 (out.length+1) 0,cs++[qv],out++[w],by omega,rfl,rfl,by omega,⟨fun b hb=>?_⟩,by simp;omega,HO2,⟨?_⟩,HR2,by simp[*],by simp[HZ.out.1],by simp⟩
     ·simp (disch:=omega) only[Ad,Ae];exact HG.out b hb
     ·rw[Dr,Ef];refine .mk ?_ (by omega) (by omega) (by simp;omega);rw[HZ.out.2];simp (disch:=omega) only[Ad,Ae,Ag];rfl
    ·subst hs6
     iterate 8 all_goals try first|apply spl<;>intro h|simp (disch:=first|assumption|omega|simp) [*]
     refine ih.out (l.length-(k+1)) _ _ (by omega) ⟨k+1,n2+1+1,n2+1,_,.slq (n2+1) 0 (out.length+1) 0,cs++[qv],out++[w],by omega,rfl,rfl,by omega,⟨fun b hb=>?_⟩,by simp;omega,HO2,⟨?_⟩,HR2,by simp[*]⟩
     ·simp (disch:=omega) only[Ad,Ae];exact HG.out b hb
     ·rw[Dr,Ef];refine .mk ?_ (by omega) (by omega) (by simp;omega);simp (disch:=omega) only[Ad,Ae,Ag]
 ·have hltI:¬(k:Int)<(l.length:Int):=by omega
  have hr:out=b3b l:=by rw[HO.out,Ee (by omega)];rfl
  clear HO ih;subst hr
  iterate 8 all_goals try first|apply spl<;>intro h|simp (disch:=first|assumption|omega|simp) [*]
  exact⟨_,_,_,⟨rfl,rfl,rfl⟩,hn2,HG.out,_,_,HGR.out,HR.out.1,HR.out.2⟩
end Go.Ai
end

