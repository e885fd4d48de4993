/- A small verified interpreter over names, its proofs, and what was proved with it. No condition. -/
import Derived.Shelf.SlSortCmp.WholeK
import Derived.Test.YtpimmmnkcgnjjaaGreatProg
import Derived.Test.YtpimmmnkcgnjjaaGreatL12
import Derived.Test.YtpimmmnkcgnjjaaGreatL22
import Derived.Test.YtpimmmnkcgnjjaaGreatL05
import Derived.Test.YtpimmmnkcgnjjaaGreatL10
import Derived.Test.YtpimmmnkcgnjjaaGreatL20
import Derived.Test.YtpimmmnkcgnjjaaGreatL07
import Derived.Test.YtpimmmnkcgnjjaaGreatL06
set_option linter.all false
set_option linter.deprecated false
section
namespace Go.Ai
set_option maxRecDepth 10000
end Go.Ai
end
section
namespace Go.Ai
open Go.Proofs Go.Proofs.Tryz
set_option maxRecDepth 10000
set_option maxHeartbeats 40000000
def zeroTab:AV:=.agg [.li 0,.li 0,.nl,.nl,.li 0,.li 0,.nl]
def c7f (I:Nat) (O:Int) (er:Int) (S E:Wq) (T:Tq) (g:Gb) (n:Nat) (rv:AV) : Prop :=
 (er≠0/\rv=zeroTab)\/(er=0/\∃ sv ev tv,rv=.agg [.li I,.li O,sv,ev,.li I,.li O,tv]/\a2a g n S E T sv ev tv/\a1i S.length sv/\a1i E.length ev)
end Go.Ai
end
section
namespace Go.Ai
open Go.Proofs Go.Proofs.Tryz
set_option maxRecDepth 10000
set_option maxHeartbeats 40000000
end Go.Ai
end
section
namespace Go.Ai
open Go.Proofs Go.Proofs.Tryz
set_option maxRecDepth 10000
set_option maxHeartbeats 40000000
theorem g0v (a b:Wd) (hal:a.length<=1000000) (hbl:b.length<=1000000) (g:Gb) (n:Nat) (sa sb:AV) (ha:Ak g n a sa) (hb:Ak g n b sb) :
  WC 0 prog 61 [sa,sb] ⟨.fn g,n⟩ fun r=>r=.ret (.li (Bl a b)) ⟨.fn g,n⟩:=by
 have hla:=@Am prog _ _ _ _ _ ha;have hlb:=@Am prog _ _ _ _ _ hb;have HA:=Aa.mk ha;have HB:=Aa.mk hb;clear ha hb;obtain⟨ret,hret⟩ : ∃ c,c=Bl a b:=⟨_,rfl⟩;rw[<- hret];unfold Bl at hret;by_cases t1:a.length<b.length
 ·have t1I:(a.length:Int)<(b.length:Int):=by omega
  have t0I:¬((a.length:Int)=(b.length:Int)):=by omega
  have hr:ret = -1:=by rw[hret,if_pos t1]
  clear hret;refine ent pl61 func61 rfl (by decide +kernel) (by kernel_rfl) ?_
  iterate 6 all_goals try first|apply spl<;>intro h|simp (disch:=first|assumption|omega|simp) [*]
 rw[if_neg t1] at hret;by_cases t2:b.length<a.length
 ·have t2I:(b.length:Int)<(a.length:Int):=by omega
  have t0I:¬((a.length:Int)=(b.length:Int)):=by omega
  have t1I:¬(a.length:Int)<(b.length:Int):=by omega
  have hr:ret=1:=by rw[hret,if_pos t2]
  clear hret;refine ent pl61 func61 rfl (by decide +kernel) (by kernel_rfl) ?_
  iterate 6 all_goals try first|apply spl<;>intro h|simp (disch:=first|assumption|omega|simp) [*]
 rw[if_neg t2] at hret;have hL:b.length=a.length:=by omega
 have HL:=Aa.mk hL;have HRET:=Aa.mk hret;rw[hL] at hlb;clear t1 t2 hL hbl hret;refine ent pl61 func61 rfl (by decide +kernel) (by kernel_rfl) ?_
 iterate 6 all_goals try first|apply spl<;>intro h|simp (disch:=first|assumption|omega|simp) [*]
 refine LX.ind (fun m gf H'=>∃ (k:Nat),k<=a.length/\m=a.length-k/\H'=⟨.fn g,n⟩/\Aa (ret=lexC (a.drop k) (b.drop k))/\gf 0=some sa/\gf 1=some sb/\gf 5=some (.li k)) (m0:=a.length) ?_ ?_
 ·exact⟨0,Du _,rfl,rfl,HRET,by simp[*]⟩
 rintro m gf H' ⟨k,hk,rfl,rfl,HPRE,w0,w1,w5⟩ ih;refine rnd pl61 (by decide +kernel) ?_;by_cases hlt:k<a.length
 ·have hltI:(k:Int)<(a.length:Int):=by omega
  have hltb:k<b.length:=by rw[HL.out];exact hlt
  obtain⟨a2,off,ha2,hrow,hia⟩:=Ag.ia (P:=prog) HA.out hlt 1;obtain⟨b2,ofb,hb2,hrob,hib⟩:=Ag.ia (P:=prog) HB.out hltb 1;simp only[El] at hia hib;have hca:=hrow.one (k:=k) (s:=1) (by rw[Bi];exact hlt);have hcb:=hrob.one (k:=k) (s:=1) (by rw[Bi];exact hltb);rw[(Ea.1 (a4c a k hlt)).2] at hca;rw[(Ea.1 (a4c b k hltb)).2] at hcb;have hp:=HPRE.out;rw[Ef hlt,Ef hltb] at hp;have HP:=Aa.mk hp;clear hp HPRE hrow hrob ha2 hb2;generalize a[k]=u at *;generalize b[k]=v at *;clear hltb;by_cases t1:u<v
  ·have hr:ret = -1:=by rw[HP.out];unfold lexC;rw[if_pos t1]
   iterate 6 all_goals try first|apply spl<;>intro h|simp (disch:=first|assumption|omega|simp) [*]
  by_cases t2:v<u
  ·have hr:ret=1:=by rw[HP.out];unfold lexC;rw[if_neg t1,if_pos t2]
   iterate 6 all_goals try first|apply spl<;>intro h|simp (disch:=first|assumption|omega|simp) [*]
  ·have HUV:Aa (ret=lexC (a.drop (k+1)) (b.drop (k+1))):=⟨by rw[HP.out];show (if u<v then -1 else if v<u then 1 else lexC (a.drop (k+1)) (b.drop (k+1)))=_;rw[if_neg t1,if_neg t2]⟩
   iterate 6 all_goals try first|apply spl<;>intro h|simp (disch:=first|assumption|omega|simp) [*]
   exact ih.out (a.length-(k+1)) _ _ (by omega) ⟨k+1,by omega,rfl,rfl,HUV,by simp[*]⟩
 ·have hltI:¬(k:Int)<(a.length:Int):=by omega
  have hk2:k=a.length:=by omega
  have hr:ret=0:=by
   rw[HPRE.out,hk2,g3h,<- HL.out,g3h];rfl
  clear hk2
  iterate 6 all_goals try first|apply spl<;>intro h|simp (disch:=first|assumption|omega|simp) [*]
theorem g0w (a:Wd) : Bl a a=0:=by
 unfold Bl;rw[if_neg (Nat.lt_irrefl _),if_neg (Nat.lt_irrefl _)]
 induction a with
 | nil=>rfl
 | cons x a ih =>
  unfold lexC;rw[if_neg (Int.lt_irrefl _),if_neg (Int.lt_irrefl _)];exact ih
theorem d7x {a b:Wq} (hal:a.length<=100000) (hbl:b.length<=100000) (haw:∀ w∈a,w.length<=1000000) (hbw:∀ w∈b,w.length<=1000000) (g:Gb) (n:Nat) (av bv:AV) (ha:Bt g n a av) (hb:Bt g n b bv) :
  WC 0 prog 17 [av,bv] ⟨.fn g,n⟩ fun r=>r=.ret (.lit (.bool (decide (a=b)))) ⟨.fn g,n⟩:=by
 have hlena:=@Am prog _ _ _ _ _ ha.choose_spec.1;have hlenb:=@Am prog _ _ _ _ _ hb.choose_spec.1;have HA:=Aa.mk ha;have HB:=Aa.mk hb;have HC:=Aa.mk fun (x y:Wd) (hx:x∈a) (hy:y∈b) (xv yv:AV) (h1:Ak g n x xv) (h2:Ak g n y yv)=>g0v x y (haw x hx) (hbw y hy) g n xv yv h1 h2;clear ha hb haw hbw;obtain⟨ret,hret⟩ : ∃ x,x=decide (a=b):=⟨_,rfl⟩;rw[<- hret];have HRET:=Aa.mk hret;clear hret;by_cases hl:a.length=b.length
 ·have hlI:(a.length:Int)=(b.length:Int):=by omega
  refine ent pl17 func17 rfl (by decide +kernel) (by kernel_rfl) ?_
  iterate 8 all_goals try first|apply spl<;>intro h|simp (disch:=first|assumption|omega|simp) [*]
  refine LX.ind (fun m gf H'=>∃ k:Nat,k<=b.length/\m=b.length-k/\H'=⟨.fn g,n⟩/\Aa (a.take k=b.take k)/\gf 0=some av/\gf 1=some bv/\gf 5=some (.li k)) (m0:=b.length) ?_ ?_
  ·exact⟨0,Du _,rfl,rfl,⟨by simp⟩,by simp[*]⟩
  rintro m gf H' ⟨k,hk,rfl,rfl,HT,w0,w1,w5⟩ ih;refine rnd pl17 (by decide +kernel) ?_;by_cases hlt:k<b.length
  ·have hltI:(k:Int)<(b.length:Int):=by omega
   have hlta:k<a.length:=by omega
   obtain⟨a2,o2,qa,ha2,hia2,hc2,hqa⟩:=HA.out.at hlta;obtain⟨a3,o3,qb,ha3,hia3,hc3,hqb⟩:=HB.out.at hlt;have HCC:=Aa.mk (HC.out a[k] b[k] (Dt hlta) (Dt hlt) qa qb hqa hqb);have HTA:=Aa.mk (Cr hlta);have HTB:=Aa.mk (Cr hlt);clear hqa hqb;generalize a[k]=x at *;generalize b[k]=y at *
   iterate 8 all_goals try first|apply spl<;>intro h|simp (disch:=first|assumption|omega|simp) [*]
   refine WC.mono HCC.out ?_;rintro _ rfl;by_cases hxy:x=y
   ·subst hxy;rw[g0w]
    iterate 8 all_goals try first|apply spl<;>intro h|simp (disch:=first|assumption|omega|simp) [*]
    exact ih.out (b.length-(k+1)) _ _ (by omega) ⟨k+1,by omega,rfl,rfl,⟨by rw[HTA.out,HTB.out,HT.out]⟩,by simp[*]⟩
   ·have hr:ret=false:=by
     rw[HRET.out];refine decide_eq_false fun h=>hxy ?_;have h1:=HTA.out;rw[h,HTB.out,<- h,HT.out] at h1;have:=List.append_cancel_left h1;simpa using this.symm
    have hcz:¬Bl x y=0:=fun h=>hxy (c0i h);subst hr
    iterate 8 all_goals try first|apply spl<;>intro h|simp (disch:=first|assumption|omega|simp) [*]
  ·have hltI:¬(k:Int)<(b.length:Int):=by omega
   have hr:ret=true:=by
    rw[HRET.out];refine decide_eq_true ?_;have:=HT.out
    rwa [Eo (by omega),Eo (by omega)] at this
   subst hr
   iterate 8 all_goals try first|apply spl<;>intro h|simp (disch:=first|assumption|omega|simp) [*]
 ·have hlI:¬(a.length:Int)=(b.length:Int):=by omega
  have hr:ret=false:=by rw[HRET.out];exact decide_eq_false fun h=>hl (by rw[h])
  subst hr;refine ent pl17 func17 rfl (by decide +kernel) (by kernel_rfl) ?_
  iterate 8 all_goals try first|apply spl<;>intro h|simp (disch:=first|assumption|omega|simp) [*]
theorem g0x {I O:Int} {S E:Wq} {T:Tq} (hSl:S.length<=100000) (hSw:∀ w∈S,w.length<=1000000) (hEl:E.length<=100000) (hEw:∀ w∈E,w.length<=1000000) (hTl:T.length<=100000) (hTw:∀ r∈T,r.length<=1000) (g:Gb) (n:Nat) (s1 s2 e1 e2 t1 t2:AV) (hs1:Bt g n S s1) (hs2:Bt g n S s2) (he1:Bt g n E e1) (he2:Bt g n E e2) (ht1:De g n T t1) (ht2:De g n T t2) :
  WC 0 prog 26 [.agg [.li I,.li O,s1,e1,.li I,.li O,t1],.agg [.li I,.li O,s2,e2,.li I,.li O,t2]] ⟨.fn g,n⟩ fun r=>∃ g' n',r=.ret (.lit (.bool true)) ⟨.fn g',n'⟩/\n<=n'/\∀ b,b<n->g' b=g b:=by
 have ho1:allOne [.li I,.li O,s1,e1,.li I,.li O,t1]=true:=by simp[hs1.choose_spec.1.one,he1.choose_spec.1.one,ht1.choose_spec.1.one]
 have ho2:allOne [.li I,.li O,s2,e2,.li I,.li O,t2]=true:=by simp[hs2.choose_spec.1.one,he2.choose_spec.1.one,ht2.choose_spec.1.one]
 have HS:=Aa.mk fun (gX:Gb) (hX:∀ b,b<n->gX b=g b)=>d7x hSl hSl hSw hSw gX (n+1+1) s1 s2 (hs1.mono (by omega) hX) (hs2.mono (by omega) hX);have HE:=Aa.mk fun (gX:Gb) (hX:∀ b,b<n->gX b=g b)=>d7x hEl hEl hEw hEw gX (n+1+1) e1 e2 (he1.mono (by omega) hX) (he2.mono (by omega) hX);have HT:=Aa.mk fun (gX:Gb) (hX:∀ b,b<n->gX b=g b)=>f8v (I:=I) (O:=O) hTl hTw gX (n+1+1) t1 t2 (ht1.mono (by omega) hX) (ht2.mono (by omega) hX);simp only[decide_true] at HS HE;clear hs1 hs2 he1 he2 ht1 ht2 hSw hEw hTw;refine ent [] func26 rfl (by decide +kernel) (by kernel_rfl) ?_
 iterate 8 all_goals try first|apply spl<;>intro h|simp (disch:=first|assumption|omega|simp) [*]
 refine WC.mono (HS.out _ fun b hb=>by simp (disch:=omega) only[Ab]) ?_;rintro _ rfl
 iterate 8 all_goals try first|apply spl<;>intro h|simp (disch:=first|assumption|omega|simp) [*]
 refine WC.mono (HE.out _ fun b hb=>by simp (disch:=omega) only[Ab]) ?_;rintro _ rfl
 iterate 8 all_goals try first|apply spl<;>intro h|simp (disch:=first|assumption|omega|simp) [*]
 refine WC.mono (HT.out _ fun b hb=>by simp (disch:=omega) only[Ab]) ?_;rintro _ ⟨g2,rfl,hg2⟩;have HG2:=Aa.mk hg2;clear hg2
 iterate 8 all_goals try first|apply spl<;>intro h|simp (disch:=first|assumption|omega|simp) [*]
 exact⟨_,_,⟨rfl,rfl⟩,by omega,fun b hb=>(HG2.out b (by omega)).trans (by simp (disch:=omega) only[Ab])⟩
end Go.Ai
end
section
namespace Go.Ai
open Go.Proofs Go.Proofs.Tryz
set_option maxRecDepth 10000
set_option maxHeartbeats 40000000
variable {rv:AV} {l:Nat}
theorem c7f.seven {I:Nat} {O:Int} {er:Int} {S E:Wq} {T:Tq} {g:Gb} {n:Nat} (h:c7f I O er S E T g n rv) : ∃ a0 a1 a2 a3 a4 a5 a6,rv=.agg [a0,a1,a2,a3,a4,a5,a6]/\allOne [a0,a1,a2,a3,a4,a5,a6]=true/\((er≠0/\a2=.nl)\/(er=0/\a0=.li I/\a1=.li O/\a4=.li I/\a5=.li O/\a2a g n S E T a2 a3 a6/\a1i S.length a2/\a1i E.length a3)):=by
 rcases h with⟨h1,rfl⟩|⟨h1,sv,ev,tv,rfl,h2,h3,h4⟩
 ·exact⟨_,_,_,_,_,_,_,rfl,rfl,.inl ⟨h1,rfl⟩⟩
 ·exact⟨_,_,_,_,_,_,_,rfl,by simp[h2.s.one,h2.e.one,h2.t.choose_spec.1.one],.inr ⟨h1,rfl,rfl,rfl,rfl,h2,h3,h4⟩⟩
theorem a1i.len (h:a1i l rv) : ∀ {H:Mem} {ev:Ev} {o:Oper} {c:Call} {e:TypeId},a5m prog H ev o c (some (.slice e)) (some [rv])=.val (.li l) H:=by
 intro H ev o c e;rcases h with⟨rfl,rfl⟩|⟨a,o',rfl⟩
 ·exact d1w
 ·exact d1v
theorem a1i.capS (h:a1i l rv) {H:Mem} {ev:Ev} {o:Oper} {e:TypeId} : Go.Ai.capS prog H ev o (some (.slice e)) (some rv)=.val (.li l) H:=by
 rcases h with⟨rfl,rfl⟩|⟨a,o',rfl⟩
 ·exact b9n
 ·exact c4u
theorem a1i.lenA (h:a1i l rv) : ∀ (H:Mem) (ev:Ev) (o:Oper) (c:Call) (e:TypeId),a5m prog H ev o c (some (.slice e)) (some [rv])=.val (.li l) H:=fun _ _ _ _ _=>h.len
theorem a1i.capA (h:a1i l rv) : ∀ (H:Mem) (ev:Ev) (o:Oper) (e:TypeId),Go.Ai.capS prog H ev o (some (.slice e)) (some rv)=.val (.li l) H:=fun _ _ _ _=>h.capS
end Go.Ai
end
section
namespace Go.Ai
open Go.Proofs Go.Proofs.Tryz
set_option maxRecDepth 10000
set_option maxHeartbeats 40000000
def cI (x y:Int) : Int:=if x<y then -1 else if y<x then 1 else 0
theorem d7y (x:Int) (g:Gb) (n:Nat) : WC 0 prog 158 [.li x] ⟨.fn g,n⟩ fun r=>r=.ret (.lit (.bool false)) ⟨.fn g,n⟩:=by
 refine ent [] func158 rfl (by decide +kernel) (by kernel_rfl) ?_
 iterate 8 all_goals try first|apply spl<;>intro h|simp (disch:=first|assumption|omega|simp) [*]
theorem d7z (x y:Int) (g:Gb) (n:Nat) : WC 0 prog 140 [.li x,.li y] ⟨.fn g,n⟩ fun r=>r=.ret (.li (cI x y)) ⟨.fn g,n⟩:=by
 obtain⟨ret,hret⟩ : ∃ c,c=cI x y:=⟨_,rfl⟩;rw[<- hret];unfold cI at hret;have H1:=Aa.mk (d7y x g n);have H2:=Aa.mk (d7y y g n);rcases g5e x y with h|h|h
 ·rw[if_pos h] at hret;refine ent [] func140 rfl (by decide +kernel) (by kernel_rfl) ?_
  iterate 8 all_goals try first|apply spl<;>intro h|simp (disch:=first|assumption|omega|simp) [*]
  refine WC.mono H1.out ?_;rintro _ rfl
  iterate 8 all_goals try first|apply spl<;>intro h|simp (disch:=first|assumption|omega|simp) [*]
  refine WC.mono H2.out ?_;rintro _ rfl
  iterate 8 all_goals try first|apply spl<;>intro h|simp (disch:=first|assumption|omega|simp) [*]
 ·subst h;rw[if_neg (by omega),if_neg (by omega)] at hret;refine ent [] func140 rfl (by decide +kernel) (by kernel_rfl) ?_
  iterate 8 all_goals try first|apply spl<;>intro h|simp (disch:=first|assumption|omega|simp) [*]
  refine WC.mono H1.out ?_;rintro _ rfl
  iterate 8 all_goals try first|apply spl<;>intro h|simp (disch:=first|assumption|omega|simp) [*]
  refine WC.mono H2.out ?_;rintro _ rfl
  iterate 8 all_goals try first|apply spl<;>intro h|simp (disch:=first|assumption|omega|simp) [*]
 ·have h3:¬x<y:=by omega
  rw[if_neg h3,if_pos h] at hret;refine ent [] func140 rfl (by decide +kernel) (by kernel_rfl) ?_
  iterate 8 all_goals try first|apply spl<;>intro h|simp (disch:=first|assumption|omega|simp) [*]
  refine WC.mono H1.out ?_;rintro _ rfl
  iterate 8 all_goals try first|apply spl<;>intro h|simp (disch:=first|assumption|omega|simp) [*]
  refine WC.mono H2.out ?_;rintro _ rfl
  iterate 8 all_goals try first|apply spl<;>intro h|simp (disch:=first|assumption|omega|simp) [*]
theorem g0y (x y:Int) (g:Gb) (n B:Nat) (hB:g B=some (.cells [.li x,.li y] true 0)) (hBn:B<n) : WC 0 prog 139 [.sl B 0 2 2] ⟨.fn g,n⟩ fun r=>r=.ret (.li (if x=0 then y else x)) ⟨.fn g,n⟩:=by
 obtain⟨ret,hret⟩ : ∃ c,c=if x=0 then y else x:=⟨_,rfl⟩;rw[<- hret];have HRT:=Aa.mk hret;clear hret;refine ent [] func139 rfl (by decide +kernel) (by kernel_rfl) ?_
 iterate 8 all_goals try first|apply spl<;>intro h|simp (disch:=first|assumption|omega|simp) [*]
 refine LX.ind (fun m gf H'=>∃ k:Nat,k<=2/\m=2-k/\H'=⟨.fn g,n⟩/\(k=1->x=0)/\(k=2->x=0/\y=0)/\gf 3=some (.li 0)/\gf 6=some (.sl B 0 2 2)/\gf 7=some (.li 2)/\gf 8=some (.li k)) (m0:=2) ?_ ?_
 ·exact⟨0,by omega,rfl,rfl,fun h=>by omega,fun h=>by omega,by simp[*]⟩
 rintro m gf H' ⟨k,hk,rfl,rfl,h1,h2,w3,w6,w7,w8⟩ ih;have HX:=Aa.mk (And.intro h1 h2);clear h1 h2;refine rnd [] (by decide +kernel) ?_;rcases (by omega:k=0\/k=1\/k=2) with rfl|rfl|rfl
 ·have w8' : gf 8=some (.li 0):=w8;clear w8 hk;by_cases hx:x=0
  ·have HX0:=Aa.mk hx;subst hx
   iterate 8 all_goals try first|apply spl<;>intro h|simp (disch:=first|assumption|omega|simp) [*]
   exact ih.out 1 _ _ (by omega) ⟨1,by omega,rfl,rfl,fun _=>rfl,fun h=>by omega,by simp[*]⟩
  ·have hr:ret=x:=by rw[HRT.out,if_neg hx]
   subst hr
   iterate 8 all_goals try first|apply spl<;>intro h|simp (disch:=first|assumption|omega|simp) [*]
 ·have w8' : gf 8=some (.li 1):=w8;have hx:=HX.out.1 rfl;clear w8 hk;subst hx;have hr:ret=y:=by rw[HRT.out,if_pos rfl]
  clear HRT HX;by_cases hy:y=0
  ·subst hy
   iterate 8 all_goals try first|apply spl<;>intro h|simp (disch:=first|assumption|omega|simp) [*]
   exact ih.out 0 _ _ (by omega) ⟨2,by omega,rfl,rfl,fun h=>by omega,fun _=>⟨rfl,rfl⟩,by simp[*]⟩
  ·subst hr
   iterate 8 all_goals try first|apply spl<;>intro h|simp (disch:=first|assumption|omega|simp) [*]
 ·have w8' : gf 8=some (.li 2):=w8;obtain⟨hx,hy⟩:=HX.out.2 rfl;clear w8 hk;have hr:ret=0:=by rw[HRT.out,hx,hy];rfl
  subst hr
  iterate 8 all_goals try first|apply spl<;>intro h|simp (disch:=first|assumption|omega|simp) [*]
def slcM:Wd->Wd->Int
 | [],[]=>0
 | [],_ :: _=>-1
 | _ :: _,[]=>1
 | x :: a,y :: b=>if cI x y=0 then slcM a b else cI x y
theorem slcM_lex:∀ (a b:Wd),a.length=b.length->slcM a b=lexC a b
 | [],[],_=>rfl
 | [],_ :: _,h=>by cases h
 | _ :: _,[],h=>by cases h
 | x :: a,y :: b,h=>by
  show (if cI x y=0 then slcM a b else cI x y)=if x<y then -1 else if y<x then 1 else lexC a b;rw[slcM_lex a b (by simpa using h)];unfold cI;by_cases h1:x<y
  ·simp[h1]
  ·by_cases h2:y<x
   ·simp[h1,h2]
   ·simp[h1,h2]
theorem g0z (a b:Wd) (hal:a.length<=1000000) (hbl:b.length<=1000000) (g:Gb) (n:Nat) (sa sb:AV) (ha:Ak g n a sa) (hb:Ak g n b sb) :
  WC 0 prog 141 [sa,sb] ⟨.fn g,n⟩ fun r=>r=.ret (.li (slcM a b)) ⟨.fn g,n⟩:=by
 have hla:=@Am prog _ _ _ _ _ ha;have hlb:=@Am prog _ _ _ _ _ hb;have HA:=Aa.mk ha;have HB:=Aa.mk hb;clear ha hb;obtain⟨ret,hret⟩ : ∃ c,c=slcM a b:=⟨_,rfl⟩;rw[<- hret];have HRET:=Aa.mk hret;clear hret;refine ent [] func141 rfl (by decide +kernel) (by kernel_rfl) ?_
 iterate 8 all_goals try first|apply spl<;>intro h|simp (disch:=first|assumption|omega|simp) [*]
 refine LX.ind (fun m gf H'=>∃ k:Nat,k<=a.length/\k<=b.length/\m=a.length-k/\H'=⟨.fn g,n⟩/\Aa (ret=slcM (a.drop k) (b.drop k))/\gf 0=some sa/\gf 1=some sb/\gf 9=some sa/\gf 10=some (.li a.length)/\gf 11=some (.li k)) (m0:=a.length) ?_ ?_
 ·exact⟨0,Du _,Du _,rfl,rfl,⟨HRET.out⟩,by simp[*]⟩
 clear HRET;rintro m gf H' ⟨k,hk,hk2,rfl,rfl,HR,w0,w1,w9,w10,w11⟩ ih;refine rnd [] (by decide +kernel) ?_;by_cases hlt:k<a.length
 ·have hltI:(k:Int)<(a.length:Int):=by omega
  obtain⟨a1,o1,ha1,hia1,hc1⟩:=Ak.at HA.out hlt;have HDA:Aa (a.drop k=a[k] :: a.drop (k+1)):=⟨Ef hlt⟩;by_cases hlt2:k<b.length
  ·have hlt2I:¬(b.length:Int)<=(k:Int):=by omega
   obtain⟨a2,o2,ha2,hia2,hc2⟩:=Ak.at HB.out hlt2;have HST:Aa (ret=if cI a[k] b[k]=0 then slcM (a.drop (k+1)) (b.drop (k+1)) else cI a[k] b[k]):=⟨by
    rw[HR.out,HDA.out,Ef hlt2];rfl⟩
   have HC:=Aa.mk (d7z a[k] b[k] g n);clear HR HDA;generalize cI a[k] b[k]=c at *;generalize a[k]=x at *;generalize b[k]=y at *
   iterate 8 all_goals try first|apply spl<;>intro h|simp (disch:=first|assumption|omega|simp) [*]
   refine WC.mono HC.out ?_;rintro _ rfl;by_cases hc:c=0
   ·rw[if_pos hc] at HST;subst hc
    iterate 8 all_goals try first|apply spl<;>intro h|simp (disch:=first|assumption|omega|simp) [*]
    exact ih.out (a.length-(k+1)) _ _ (by omega) ⟨k+1,by omega,by omega,rfl,rfl,HST,by simp[*]⟩
   ·rw[if_neg hc] at HST;have hr:=HST.out;subst hr
    iterate 8 all_goals try first|apply spl<;>intro h|simp (disch:=first|assumption|omega|simp) [*]
  ·have hlt2I:(b.length:Int)<=(k:Int):=by omega
   have hr:ret=1:=by rw[HR.out,HDA.out,Ex (by omega:b.length<=k)];rfl
   subst hr
   iterate 8 all_goals try first|apply spl<;>intro h|simp (disch:=first|assumption|omega|simp) [*]
 ·have hltI:¬(k:Int)<(a.length:Int):=by omega
  have hka:k=a.length:=by omega
  by_cases hlt2:k<b.length
  ·have hlt2I:(a.length:Int)<(b.length:Int):=by omega
   have hr:ret = -1:=by rw[HR.out,Ex (by omega:a.length<=k),Ef hlt2];rfl
   subst hr
   iterate 8 all_goals try first|apply spl<;>intro h|simp (disch:=first|assumption|omega|simp) [*]
  ·have hlt2I:¬(a.length:Int)<(b.length:Int):=by omega
   have hr:ret=0:=by rw[HR.out,Ex (by omega:a.length<=k),Ex (by omega:b.length<=k)];rfl
   subst hr
   iterate 8 all_goals try first|apply spl<;>intro h|simp (disch:=first|assumption|omega|simp) [*]
theorem g1a (a b:Wd) : (if cI (a.length:Int) (b.length:Int)=0 then slcM a b else cI (a.length:Int) (b.length:Int))=Bl a b:=by
 unfold Bl;rcases g6b a.length b.length with h|h|h
 ·have:cI (a.length:Int) (b.length:Int) = -1:=by unfold cI;rw[if_pos (by omega)]
  rw[this,if_neg (by decide),if_pos h]
 ·have:cI (a.length:Int) (b.length:Int)=0:=by unfold cI;rw[if_neg (by omega),if_neg (by omega)]
  rw[this,if_pos rfl,slcM_lex a b h,if_neg (by omega),if_neg (by omega)]
 ·have:cI (a.length:Int) (b.length:Int)=1:=by unfold cI;rw[if_neg (by omega),if_pos (by omega)]
  rw[this,if_neg (by decide),if_neg (by omega),if_pos h]
theorem g1b (a b:Wd) (hal:a.length<=1000000) (hbl:b.length<=1000000) (g:Gb) (n:Nat) (sa sb:AV) (ha:Ak g n a sa) (hb:Ak g n b sb) :
  WC 0 prog 110 [sa,sb] ⟨.fn g,n⟩ fun r=>r=.ret (.li (Bl a b)) ⟨.fn g,n⟩:=by
 refine WC.drop1 rfl ?_;have hla:=@Am prog _ _ _ _ _ ha;have hlb:=@Am prog _ _ _ _ _ hb;have HC:=Aa.mk (g0z a b hal hbl g n sa sb ha hb);have HL:=Aa.mk (d7z a.length b.length g n);have HOR:=Aa.mk (g1a a b);clear ha hb;generalize Bl a b=ret at *;generalize slcM a b=c2 at *;generalize cI (a.length:Int) (b.length:Int)=c1 at *;refine ent [] func110 rfl (by decide +kernel) (by kernel_rfl) ?_
 iterate 8 all_goals try first|apply spl<;>intro h|simp (disch:=first|assumption|omega|simp) [*]
 refine WC.mono HL.out ?_;rintro _ rfl
 iterate 8 all_goals try first|apply spl<;>intro h|simp (disch:=first|assumption|omega|simp) [*]
 refine WC.mono HC.out ?_;rintro _ rfl
 iterate 8 all_goals try first|apply spl<;>intro h|simp (disch:=first|assumption|omega|simp) [*]
 refine WC.mono (g0y c1 c2 _ _ n Af (by omega)) ?_;rintro _ rfl;rw[HOR.out]
 iterate 8 all_goals try first|apply spl<;>intro h|simp (disch:=first|assumption|omega|simp) [*]
 exact⟨Dy n,fun b hb=>Ab hb⟩
end Go.Ai
end
section
namespace Go.Ai
open Go.Proofs Go.Proofs.Tryz
set_option maxRecDepth 10000
set_option maxHeartbeats 40000000
theorem b4j (l:Wd) (i:Nat) : (wdC l)[i]?=l[i]?.map fun (x:Int)=>AV.li x:=by unfold wdC;simp
def a0p (l:Wd) (k:Nat) : Wd:=(List.range l.length).map fun p=>if p<k\/l.length-k<=p then l.getD (l.length-1-p) 0 else l.getD p 0
theorem b0t (l:Wd) (k:Nat) : (a0p l k).length=l.length:=by unfold a0p;simp
theorem b0u (l:Wd) (k i:Nat) (h:i<l.length) : (a0p l k)[i]?=some (if i<k\/l.length-k<=i then l.getD (l.length-1-i) 0 else l.getD i 0):=by
 unfold a0p;simp[h]
theorem d8a (l:Wd) : a0p l 0=l:=by
 refine g4r fun i=>?_;by_cases h:i<l.length
 ·rw[b0u l 0 i h];have:¬(i<0\/l.length-0<=i):=by omega
  rw[if_neg this,Dx,Dv h];rfl
 ·rw[g2k (by rw[b0t];omega),g2k (by omega)]
theorem d8b (l:Wd) (k:Nat) (h:l.length<=2*k+1) : a0p l k=l.reverse:=by
 refine g4r fun i=>?_;by_cases hi:i<l.length
 ·rw[b0u l k i hi,List.getElem?_reverse hi];have hg:l.getD (l.length-1-i) 0=l[l.length-1-i]'(by omega):=by
   rw[Dx,Dv (by omega)];rfl
  rw[Dv (by omega),<- hg];split
  ·rfl
  ·rename_i hc;have:i=l.length-1-i:=by omega
   rw[<- this]
 ·rw[g2k (by rw[b0t];omega),g2k (by rw[g4h];omega)]
theorem d8c (l:Wd) (k:Nat) (h:2*k+1<l.length) : ((wdC (a0p l k)).set k (.li (l.getD (l.length-1-k) 0))).set (l.length-1-k) (.li (l.getD k 0))=wdC (a0p l (k+1)):=by
 refine g4r fun i=>?_;by_cases hi:i<l.length
 ·rw[b4j,b0u l (k+1) i hi];by_cases h1:l.length-1-k=i
  ·subst h1;rw[g3x (by rw[Ed,Bi,b0t];exact hi)];have:l.length-1-k<k+1\/l.length-(k+1)<=l.length-1-k:=by omega
   rw[if_pos this,show l.length-1-(l.length-1-k)=k by omega];rfl
  ·rw[g2z h1];by_cases h2:k=i
   ·subst h2;rw[g3x (by rw[Bi,b0t];exact hi)];have:k<k+1\/l.length-(k+1)<=k:=by omega
    rw[if_pos this];rfl
   ·rw[g2z h2,b4j,b0u l k i hi];by_cases h3:i<k\/l.length-k<=i
    ·have:i<k+1\/l.length-(k+1)<=i:=by omega
     rw[if_pos h3,if_pos this]
    ·have:¬(i<k+1\/l.length-(k+1)<=i):=by omega
     rw[if_neg h3,if_neg this]
 ·rw[g2k (by simp[Bi,b0t];omega),g2k (by simp[Bi,b0t];omega)]
theorem c0q (a d z m:Nat) (l:Wd) (hl:l.length<=1000000) (g:Gb) (hg:g a=some (.cells (wdC l) true z)) (ha:a<m) :
  WC 0 prog 117 [.slq a 0 l.length d] ⟨.fn g,m⟩ fun r=>∃ u g',r=.ret u ⟨.fn g',m⟩/\g' a=some (.cells (wdC l.reverse) true z)/\∀ b,b≠a->g' b=g b:=by
 refine ent pl117 func117 rfl (by decide +kernel) (by kernel_rfl) ?_
 iterate 6 all_goals try first|apply spl<;>intro h|simp (disch:=first|assumption|omega|simp) [*]
 refine LX.ind (fun q gf H'=>∃ (k:Nat) (gL:Gb),2*k<=l.length+1/\q=l.length-k/\H'=⟨.fn gL,m⟩/\gL a=some (.cells (wdC (a0p l k)) true z)/\(∀ b,b≠a->gL b=g b) /\
  gf 0=some (.slq a 0 l.length d)/\gf 2=some (.li (k:Int))/\gf 3=some (.li ((l.length:Int)-1-k))) (m0:=l.length) ?_ ?_
 ·exact⟨0,g,by omega,by omega,rfl,by rw[d8a];exact hg,fun _ _=>rfl,by simp[*]⟩
 rintro q gf H' ⟨k,gL,hk,rfl,rfl,hgL,hot,w0,w2,w3⟩ ih;have HO:=Aa.mk hot;have HL:=Aa.mk hgL;clear hot hgL;refine rnd pl117 (by decide +kernel) ?_;by_cases hlt:2*k+1<l.length
 ·have hltI:(k:Int)<(l.length:Int)-1-k:=by omega
  have e1:((l.length:Int)-1-k).toNat=l.length-1-k:=by omega
  have hgL:=HL.out;have c1:(wdC (a0p l k))[k]?=some (.li (l.getD k 0)):=by
   rw[b4j,b0u l k k (by omega),if_neg (by omega)];rfl
  have c2:(wdC (a0p l k))[l.length-1-k]?=some (.li (l.getD (l.length-1-k) 0)):=by
   rw[b4j,b0u l k _ (by omega),if_neg (by omega)];rfl
  have h5:(wdC (a0p l k)).length=l.length:=by rw[Bi,b0t]
  have h6:k<(wdC (a0p l k)).length:=by omega
  have h7:l.length-1-k<(wdC (a0p l k)).length:=by omega
  have hsw:=d8c l k hlt;rw[Dv h6,Option.some.injEq] at c1;rw[Dv h7,Option.some.injEq] at c2;generalize wdC (a0p l k)=L at *;generalize l.getD k 0=v1 at *;generalize l.getD (l.length-1-k) 0=v2 at *;have h8:l.length-1-k<(L.set k (.li v2)).length:=by rw[Ed];exact h7
  have HS:=Aa.mk hsw;clear hsw
  iterate 6 all_goals try first|apply spl<;>intro h|simp (disch:=first|assumption|omega|simp) [*]
  refine ih.out (l.length-(k+1)) _ _ (by omega) ⟨k+1,_,by omega,rfl,rfl,?_,?_,?_,?_,?_⟩
  ·rw[<- HS.out];simp
  ·intro b hb;rw[<- HO.out b hb];exact if_neg hb
  ·simp[*]
  ·simp
  ·simp;omega
 ·have hltI:¬(k:Int)<(l.length:Int)-1-k:=by omega
  iterate 6 all_goals try first|apply spl<;>intro h|simp (disch:=first|assumption|omega|simp) [*]
  exact⟨_,gL,⟨rfl,rfl⟩,by rw[HL.out,d8b l k (by omega)],fun b hb=>HO.out b hb⟩
theorem c0r (a d z m:Nat) (l:Wd) (hl:l.length<=1000000) (g:Gb) (hg:g a=some (.cells (wdC l) true z)) (ha:a<m) :
  WC 0 prog 117 [.sl a 0 l.length d] ⟨.fn g,m⟩ fun r=>∃ u g',r=.ret u ⟨.fn g',m⟩/\g' a=some (.cells (wdC l.reverse) true z)/\∀ b,b≠a->g' b=g b:=by
 refine ent pl117 func117 rfl (by decide +kernel) (by kernel_rfl) ?_
 iterate 6 all_goals try first|apply spl<;>intro h|simp (disch:=first|assumption|omega|simp) [*]
 refine LX.ind (fun q gf H'=>∃ (k:Nat) (gL:Gb),2*k<=l.length+1/\q=l.length-k/\H'=⟨.fn gL,m⟩/\gL a=some (.cells (wdC (a0p l k)) true z)/\(∀ b,b≠a->gL b=g b) /\
  gf 0=some (.sl a 0 l.length d)/\gf 2=some (.li (k:Int))/\gf 3=some (.li ((l.length:Int)-1-k))) (m0:=l.length) ?_ ?_
 ·exact⟨0,g,by omega,by omega,rfl,by rw[d8a];exact hg,fun _ _=>rfl,by simp[*]⟩
 rintro q gf H' ⟨k,gL,hk,rfl,rfl,hgL,hot,w0,w2,w3⟩ ih;have HO:=Aa.mk hot;have HL:=Aa.mk hgL;clear hot hgL;refine rnd pl117 (by decide +kernel) ?_;by_cases hlt:2*k+1<l.length
 ·have hltI:(k:Int)<(l.length:Int)-1-k:=by omega
  have e1:((l.length:Int)-1-k).toNat=l.length-1-k:=by omega
  have hgL:=HL.out;have c1:(wdC (a0p l k))[k]?=some (.li (l.getD k 0)):=by
   rw[b4j,b0u l k k (by omega),if_neg (by omega)];rfl
  have c2:(wdC (a0p l k))[l.length-1-k]?=some (.li (l.getD (l.length-1-k) 0)):=by
   rw[b4j,b0u l k _ (by omega),if_neg (by omega)];rfl
  have h5:(wdC (a0p l k)).length=l.length:=by rw[Bi,b0t]
  have h6:k<(wdC (a0p l k)).length:=by omega
  have h7:l.length-1-k<(wdC (a0p l k)).length:=by omega
  have hsw:=d8c l k hlt;rw[Dv h6,Option.some.injEq] at c1;rw[Dv h7,Option.some.injEq] at c2;generalize wdC (a0p l k)=L at *;generalize l.getD k 0=v1 at *;generalize l.getD (l.length-1-k) 0=v2 at *;have h8:l.length-1-k<(L.set k (.li v2)).length:=by rw[Ed];exact h7
  have HS:=Aa.mk hsw;clear hsw
  iterate 6 all_goals try first|apply spl<;>intro h|simp (disch:=first|assumption|omega|simp) [*]
  refine ih.out (l.length-(k+1)) _ _ (by omega) ⟨k+1,_,by omega,rfl,rfl,?_,?_,?_,?_,?_⟩
  ·rw[<- HS.out];simp
  ·intro b hb;rw[<- HO.out b hb];exact if_neg hb
  ·simp[*]
  ·simp
  ·simp;omega
 ·have hltI:¬(k:Int)<(l.length:Int)-1-k:=by omega
  iterate 6 all_goals try first|apply spl<;>intro h|simp (disch:=first|assumption|omega|simp) [*]
  exact⟨_,gL,⟨rfl,rfl⟩,by rw[HL.out,d8b l k (by omega)],fun b hb=>HO.out b hb⟩
theorem c0s (m:Nat) (g:Gb) : WC 0 prog 117 [.nl] ⟨.fn g,m⟩ fun r=>∃ u,r=.ret u ⟨.fn g,m⟩:=by
 refine ent pl117 func117 rfl (by decide +kernel) (by kernel_rfl) ?_
 iterate 6 all_goals try first|apply spl<;>intro h|simp (disch:=first|assumption|omega|simp) [*]
 refine LX.ind (fun q gf H'=>H'=⟨.fn g,m⟩/\gf 2=some (.li 0)/\gf 3=some (.li (-1))) (m0:=0) ?_ ?_
 ·exact⟨rfl,by simp[*]⟩
 rintro q gf H' ⟨rfl,w2,w3⟩ ih;refine rnd pl117 (by decide +kernel) ?_
 iterate 6 all_goals try first|apply spl<;>intro h|simp (disch:=first|assumption|omega|simp) [*]
end Go.Ai
end
section
namespace Go.Proofs
open Go.Shelf
def Tryz.sortT_ren:Go.Shelf.Ren:=⟨fun|6=>118|15=>138|14=>142|28=>156|29=>157|20=>159|21=>160|22=>161|23=>162|24=>163|25=>164|26=>165|27=>166|46=>172|47=>168|48=>169|49=>173|50=>174|57=>176|n=>n,fun|22=>52|24=>84|25=>118|3=>3|39=>172|0=>0|53=>189|55=>191|4=>4|46=>183|45=>182|50=>120|5=>5|9=>9|66=>197|70=>201|76=>205|77=>206|n=>n,fun|n=>n⟩
theorem Tryz.sortT:Go.Proofs.SlLaysF0.n6 Tryz.prog Tryz.sortT_ren:={
 mixed:=by kernel_rfl
 f6:=⟨Tryz.f118.name,by decide,Tryz.func118.trans (congrArg some (by kernel_rfl))⟩
 f14:=⟨Tryz.f142.name,by decide,Tryz.func142.trans (congrArg some (by kernel_rfl))⟩
 f15:=Tryz.func138.trans (congrArg some (by kernel_rfl))
 f20:=⟨Tryz.f159.name,by decide,Tryz.func159.trans (congrArg some (by kernel_rfl))⟩
 f21:=⟨Tryz.f160.name,by decide,Tryz.func160.trans (congrArg some (by kernel_rfl))⟩
 f22:=⟨Tryz.f161.name,by decide,Tryz.func161.trans (congrArg some (by kernel_rfl))⟩
 f23:=⟨Tryz.f162.name,by decide,Tryz.func162.trans (congrArg some (by kernel_rfl))⟩
 f24:=⟨Tryz.f163.name,by decide,Tryz.func163.trans (congrArg some (by kernel_rfl))⟩
 f25:=⟨Tryz.f164.name,by decide,Tryz.func164.trans (congrArg some (by kernel_rfl))⟩
 f26:=⟨Tryz.f165.name,by decide,Tryz.func165.trans (congrArg some (by kernel_rfl))⟩
 f27:=⟨Tryz.f166.name,by decide,Tryz.func166.trans (congrArg some (by kernel_rfl))⟩
 f28:=Tryz.func156.trans (congrArg some (by kernel_rfl))
 f29:=Tryz.func157.trans (congrArg some (by kernel_rfl))
 f46:=⟨Tryz.f172.name,by decide,Tryz.func172.trans (congrArg some (by kernel_rfl))⟩
 f47:=Tryz.func168.trans (congrArg some (by kernel_rfl))
 f48:=Tryz.func169.trans (congrArg some (by kernel_rfl))
 f49:=⟨Tryz.f173.name,by decide,Tryz.func173.trans (congrArg some (by kernel_rfl))⟩
 f50:=⟨Tryz.f174.name,by decide,Tryz.func174.trans (congrArg some (by kernel_rfl))⟩
 f57:=⟨Tryz.f176.name,by decide,Tryz.func176.trans (congrArg some (by kernel_rfl))⟩
 t0:=Tryz.underlying0
 a0:=Tryz.isAgg0
 z0:=Tryz.sizeOf0
 v0:=Tryz.zeroValue0
 t3:=Tryz.underlying3
 a3:=Tryz.isAgg3
 z3:=Tryz.sizeOf3
 v3:=Tryz.zeroValue3
 t4:=Tryz.underlying4
 a4:=Tryz.isAgg4
 z4:=Tryz.sizeOf4
 v4:=Tryz.zeroValue4
 t5:=Tryz.underlying5
 a5:=Tryz.isAgg5
 z5:=Tryz.sizeOf5
 v5:=Tryz.zeroValue5
 t9:=Tryz.underlying9
 a9:=Tryz.isAgg9
 z9:=Tryz.sizeOf9
 v9:=Tryz.zeroValue9
 t22:=Tryz.underlying52
 a22:=Tryz.isAgg52
 z22:=Tryz.sizeOf52
 v22:=Tryz.zeroValue52
 t25:=Tryz.underlying118
 a25:=Tryz.isAgg118
 z25:=Tryz.sizeOf118
 v25:=Tryz.zeroValue118
 t39:=Tryz.underlying172
 a39:=Tryz.isAgg172
 z39:=Tryz.sizeOf172
 v39:=Tryz.zeroValue172
 t45:=Tryz.underlying182
 a45:=Tryz.isAgg182
 z45:=Tryz.sizeOf182
 v45:=Tryz.zeroValue182
 t46:=Tryz.underlying183
 a46:=Tryz.isAgg183
 z46:=Tryz.sizeOf183
 v46:=Tryz.zeroValue183
 t50:=Tryz.underlying120
 a50:=Tryz.isAgg120
 z50:=Tryz.sizeOf120
 v50:=Tryz.zeroValue120
 t53:=Tryz.underlying189
 a53:=Tryz.isAgg189
 z53:=Tryz.sizeOf189
 v53:=Tryz.zeroValue189
 t55:=Tryz.underlying191
 a55:=Tryz.isAgg191
 z55:=Tryz.sizeOf191
 v55:=Tryz.zeroValue191
 t66:=Tryz.underlying197
 a66:=Tryz.isAgg197
 z66:=Tryz.sizeOf197
 v66:=Tryz.zeroValue197
 t70:=Tryz.underlying201
 a70:=Tryz.isAgg201
 z70:=Tryz.sizeOf201
 v70:=Tryz.zeroValue201
 t76:=Tryz.underlying205
 a76:=Tryz.isAgg205
 z76:=Tryz.sizeOf205
 v76:=Tryz.zeroValue205
 t77:=Tryz.underlying206
 a77:=Tryz.isAgg206
 z77:=Tryz.sizeOf206
 v77:=Tryz.zeroValue206 }
end Go.Proofs
end
section
namespace Go.Ai
open Go.Proofs Go.Proofs.Tryz Go.RowKit Go.Shelf
set_option maxRecDepth 10000
set_option maxHeartbeats 40000000
theorem g1c (a b:Wd) (hal:a.length<=1000000) (hbl:b.length<=1000000) (g:Gb) (n:Nat) (sa ra sb rb:AV) (ha:Ak g n a sa) (hb:Ak g n b sb) (h1:oneC ra=true) (h2:oneC rb=true) :
  WC 0 prog 119 [.agg [sa,ra],.agg [sb,rb]] ⟨.fn g,n⟩ fun r=>∃ g' n',r=.ret (.li (Bl a b)) ⟨.fn g',n'⟩:=by
 have h3:=ha.one;have h4:=hb.one;have hone:allOne [sa,ra]=true:=by simp[h3,h1]
 have hone2:allOne [sb,rb]=true:=by simp[h4,h2]
 have HC:=Aa.mk fun (gX:Gb) (hX:∀ b,b<n->gX b=g b)=>g1b a b hal hbl gX (n+1+1) sa sb (Ag.mono (by omega) hX ha) (Ag.mono (by omega) hX hb);clear ha hb;refine ent [] func119 rfl (by decide +kernel) (by kernel_rfl) ?_
 iterate 8 all_goals try first|apply spl<;>intro h|simp (disch:=first|assumption|omega|simp) [*]
 refine WC.mono (HC.out _ fun b hb=>by simp (disch:=omega) only[Ab]) ?_;rintro _ rfl
 iterate 8 all_goals try first|apply spl<;>intro h|simp (disch:=first|assumption|omega|simp) [*]
theorem Bj.froz {g:Gb} {lo n B:Nat} {w:Wd} {sv:AV} (h:Bj g lo n B w sv) : Ak (froz B g) n w sv:=by
 obtain⟨gk,h1,h2⟩:=h;rcases h2 with h2|⟨a,off,h3,h4,l,own,z,e1,e2,e3⟩
 ·exact .inl h2
 ·obtain⟨q1,_,_,q2⟩:=h1 a _ e1;exact .inr ⟨a,off,h3,h4,l,false,z,f6w q2 q1,e2,e3⟩
theorem g1d (key:Nat->Wd) : Go.Sort.SWO (ltOf fun i j=>Bl (key i) (key j)):=by
 have hl:∀ i j,ltOf (fun i j=>Bl (key i) (key j)) i j=decide (Bl (key i) (key j)<0):=fun i j=>rfl;refine⟨fun x=>?_,fun x y z h1 h2=>?_,fun x y z h1 h2=>?_⟩
 ·rw[hl,decide_eq_false];intro h;exact SL.irrefl (a4s.1 h)
 ·rw[hl,decide_eq_true_eq] at h1 h2 |-;exact a4s.2 ((a4s.1 h1).trans (a4s.1 h2))
 ·rw[hl,decide_eq_false_iff_not] at h1 h2 |-;intro h3;have h3:=a4s.1 h3;rcases g5e (Bl (key x) (key y)) 0 with h|h|h
  ·exact h1 h
  ·rw[c0i h] at h3;exact h2 (a4s.2 h3)
  ·exact h2 (a4s.2 ((c6e h).trans h3))
theorem pairs_of:∀ (m:Nat) (cs:List AV),cs.length=m*2->∃ its:List (List AV),its.length=m/\its.flatten=cs/\∀ k (h:k<its.length),∃ s1 s2,its[k]=[s1,s2]/\cs[k*2]?=some s1/\cs[k*2+1]?=some s2
  | 0, cs, h => ⟨[], rfl, by have : cs = [] := g5f (by omega)
                             rw[this];rfl,fun k h=>by cases h⟩
  | m+1,[],h=>by simp at h
  | m+1,[_],h=>by simp at h;omega
  | m+1,a :: b :: cs,h=>by
    obtain⟨its,h1,h2,h3⟩:=pairs_of m cs (by simp at h;omega);refine⟨[a,b] :: its,by simp[h1],by simp[h2],fun k hk=>?_⟩
    cases k with
    | zero=>exact⟨a,b,rfl,rfl,rfl⟩
    | succ k =>
      obtain⟨s1,s2,e1,e2,e3⟩:=h3 k (by simpa using hk);refine⟨s1,s2,by simpa using e1,?_,?_⟩
      · rw[show (k+1)*2=k*2+2 by omega];simpa using e2
      · rw[show (k+1)*2+1=(k*2+1)+2 by omega];simpa using e3
theorem g1e {us:Lq} {cs:List AV} {g:Gb} {lo n B z c:Nat} (hrf:RowsF g lo n B us cs) (hgB:g B=some (.cells cs true z)) (hpos:0<us.length) (hlen:us.length<=100000) (hw:∀ u∈us,u.1.length<=1000000) :
  WC 0 prog 118 [.sl B 0 us.length c,.lit (.func (.func 119) #[] #[])] ⟨.fn g,n⟩ fun r=>∃ (us' : Lq) (cs' : List AV),us'.Perm us/\(∀ (i j:Nat) (_:i<j) (hj:j<us'.length),¬ Bl us'[j].1 (us'[i]'(by omega)).1<0)/\r=.ret (.tup []) ⟨.fn (Aj g B (some (.cells cs' true z))),n⟩/\RowsF (Aj g B (some (.cells cs' true z))) lo n B us' cs'/\∀ v∈cs',v∈cs:=by
 obtain⟨its,p1,p2,p3⟩:=pairs_of us.length cs hrf.1;have hit:∀ (k:Nat) (h:k<its.length),∃ s1 s2,its[k]=[s1,s2]/\Bj g lo n B (us[k]'(by omega)).1 s1/\Bj g lo n B (us[k]'(by omega)).2 s2:=by
  intro k h;obtain⟨s1,s2,e1,e2,e3⟩:=p3 k h;obtain⟨t1,t2,f1,f2,f3,f4⟩:=hrf.2 k (by omega);rw[e2] at f1;rw[e3] at f2;cases f1;cases f2;exact⟨s1,s2,e1,f3,f4⟩
 have h:=WC.sortK (G:=0) sortT 2 (by decide) isAgg84 sizeOf84 119 (enters_of func119 (by kernel_rfl) rfl) (its:=its) (fun x hx=>by
   obtain⟨k,hk,rfl⟩:=g3m hx;obtain⟨s1,s2,e1,e2,e3⟩:=hit k hk;rw[e1];exact⟨rfl,by simp[e2.rep.one,e3.rep.one]⟩) (fun i j=>Bl (us.getD i ([],[])).1 (us.getD j ([],[])).1) (g1d fun i=>(us.getD i ([],[])).1) (g:=g) (n:=n) (Bn:=B) (z:=z) (by rw[p2];exact hgB) (sv:=.sl B 0 us.length c) (.inl ⟨c,by rw[p1]⟩) (by omega) (by omega) (fun i j hi hj=>by
   obtain⟨s1,s2,e1,e2,e3⟩:=hit i hi;obtain⟨t1,t2,f1,f2,f3⟩:=hit j hj;rw[e1,f1,(a4w (d:=([],[])) (show i<us.length by omega)).2,(a4w (d:=([],[])) (show j<us.length by omega)).2];exact g1c _ _ (hw _ (Dt _)) (hw _ (Dt _)) _ n s1 s2 t1 t2 e2.froz f2.froz e3.rep.one f3.rep.one)
 refine WC.mono h ?_;rintro _ ⟨is,hp,hs,rfl⟩;rw[p1] at hp;have hil:is.length=us.length:=by rw[hp.length_eq,List.length_range]
 have hlt:∀ i∈is,i<us.length:=fun i hi=>g4l.1 (hp.mem_iff.1 hi);have hg2:∀ i,i<us.length->us.getD i ([],[])=us.getD i ([],[]):=fun _ _=>rfl;refine⟨is.map fun i=>us.getD i ([],[]),_,?_,fun i j hij hj=>?_,rfl,⟨?_,fun k hk=>?_⟩,fun v hv=>?_⟩
 ·have:=hp.map fun i=>us.getD i ([],[]);refine this.trans (List.Perm.of_eq ?_);apply List.ext_getElem
  ·simp
  ·intro k h1 h2;rw[g2m,List.getElem_range,(a4w (by omega)).2]
 ·rw[g2m,g2m];rw[Ee] at hj;exact hs i j hij hj
 ·rw[c0a (k:=2)]
  ·simp
  ·intro x hx;obtain⟨i,hi,rfl⟩:=Ei.1 hx;obtain⟨s1,s2,e1,_⟩:=hit i (by have:=hlt i hi;omega);rw[Dx,Dv (by have:=hlt i hi;omega)];show (its[i]'_).length=2;rw[e1];rfl
 ·rw[Ee] at hk;have hik:=hlt _ (Dt hk);obtain⟨s1,s2,e1,e2,e3⟩:=hit is[k] (by omega);have hgd:its.getD is[k] []=[s1,s2]:=by
   rw[Dx,Dv (by omega)];exact e1
  have hfl:=fun t (ht:t<2)=>b9z (k:=2) (is.map fun i=>its.getD i []) (fun x hx=>by
   obtain⟨i,hi,rfl⟩:=Ei.1 hx;obtain⟨s1,s2,e1,_⟩:=hit i (by have:=hlt i hi;omega);rw[Dx,Dv (by have:=hlt i hi;omega)];show (its[i]'_).length=2;rw[e1];rfl) k (by simpa using hk) t ht
  refine⟨s1,s2,?_,?_,?_,?_⟩
  ·have:=hfl 0 (by decide);rw[g2m,hgd] at this;exact this
  ·have:=hfl 1 (by decide);rw[g2m,hgd] at this;exact this
  ·rw[g2m,(a4w (by omega)).2];exact e2.keep (Dp _) (Dp _) (.inr (.inl rfl)) fun a _ _ h=>Ae h
  ·rw[g2m,(a4w (by omega)).2];exact e3.keep (Dp _) (Dp _) (.inr (.inl rfl)) fun a _ _ h=>Ae h
 ·obtain⟨x,hx,hv⟩:=List.mem_flatten.1 hv;obtain⟨i,hi,rfl⟩:=Ei.1 hx;have hil2:i<its.length:=by have:=hlt i hi;omega
  rw[Dx,Dv hil2] at hv;rw[<- p2];exact List.mem_flatten.2 ⟨_,Dt hil2,hv⟩
end Go.Ai
end
section
namespace Go.Ai
open Go.Proofs Go.Proofs.Tryz
set_option maxRecDepth 10000
set_option maxHeartbeats 40000000

def AnsV (g:Gb) (lo n:Nat) (r:Option (Wd)) (rv:AV) : Prop:=match r with
 | none=>rv=.nl
 | some r=>∃ B,lo<=B/\B<n/\rv=.sl B 0 r.length r.length/\g B=some (.cells (wdC r) true 0)
end Go.Ai
end
section
namespace Go.Ai
set_option maxRecDepth 10000
variable {T:Tq} {W:Wq} {n:Nat} {s:Nat×Int}
structure Lab (T:Tq) (W:Wq) : Prop where
 len:W.length=T.length
 nil:W.getD 0 []=[]
 ed:∀ p j t,EdT T p j t->t<T.length/\1<=t/\p<t/\W.getD t []=W.getD p []++[(j:Int)]
 src:∀ t,1<=t->t<T.length->∃ p j,EdT T p j t
 inc:∀ a b,a<b->b<T.length->SL (W.getD a []) (W.getD b [])
theorem g1f {O:Int} (hok:∀ r∈T,∀ e∈r,okE T.length O e=true) (h1:1<=T.length) : (Ax T).getD 0 []=[]:=by
 cases hs:wR T T.length 0 (Di T.length) with
 | none=>grind[Ax]
 | some s =>
  have hr0:Ax T=if s.many<T.length then [] else s.out:=by grind[Ax]
  by_cases hm:s.many<T.length
  ·grind
  rw[hr0,if_neg hm];have hs0:∀ m,Sn (Di T.length) m->m=0:=fun m hm=>by
   have h2:((List.replicate T.length false).set 0 true).getD m false=true:=hm;grind
  have ho0:∀ m,(Di T.length).out.getD m []=[]:=fun m=>by
   show (List.replicate T.length ([] : Wd)).getD m []=[];grind
  have hinv0:a6z T (Di T.length):=by
   refine⟨by simp[Di],by simp[Di],?_,ho0 0,?_,fun m hm h=>absurd (hs0 m hm) h⟩
   ·show ((List.replicate T.length false).set 0 true).getD 0 false=true;grind
   ·show 1=((List.replicate T.length false).set 0 true).count true;grind
  obtain⟨a1,a2⟩:=c5a hok T.length 0 _ s rfl hinv0 (fun m hm=>by grind) (fun m hm h=>by omega) (by show 0+1<=1;omega) hs;exact a1.o0
theorem g1g {I O:Int} (h:a1q I O T=0) : Lab T (Ax T):=by
 have hr:=f6c I O T;rw[h] at hr;unfold a1q at h;by_cases c1:I > 16\/O > 16\/T.length > 65537
 ·grind
 rw[if_neg c1] at h;by_cases c2:I<1\/O<1\/T.length<1
 ·grind
 rw[if_neg c2] at h;by_cases c3:goT I O T 0 1=some T.length
 ·have hok:=fun r hr=>(b3t c3 (Dp _) (Dp _) r hr).2;unfold c4y at hr;rw[if_neg c1,if_neg c2] at hr;have h1:1<=T.length:=by omega
  have hr2:(Ax T).length=T.length/\b6g (Ax T)=true:=by
   grind
  obtain⟨hl,hin⟩:=hr2;obtain⟨l1,l2⟩:=d4a hok h1 hl;have hinc:=d3v hin;rw[hl] at hinc;refine⟨hl,g1f hok h1,fun p j t hE=>?_,l2,hinc⟩;obtain⟨a1,a2,a3⟩:=l1 p j t hE;refine⟨a1,a2,?_,a3⟩;by_cases hpt:p<t
  ·grind
  ·have hl2:((Ax T).getD t []).length<=((Ax T).getD p []).length:=by
    by_cases e:t=p
    ·grind
    ·exact(hinc t p (by omega) hE.lt).le
   grind
 grind
theorem Lab.inj (h:Lab T W) {a b:Nat} (ha:a<T.length) (hb:b<T.length) (he:W.getD a []=W.getD b []) : a=b:=by
 rcases g6b a b with h1|h1|h1
 ·have:=h.inc a b h1 hb;grind[SL.irrefl]
 ·grind
 ·have:=h.inc b a h1 ha;grind[SL.irrefl]
theorem Lab.uniq (h:Lab T W) {p j p' j' t:Nat} (h1:EdT T p j t) (h2:EdT T p' j' t) : p=p'/\j=j':=by
 obtain⟨_,_,a3,a4⟩:=h.ed p j t h1;obtain⟨_,_,b3,b4⟩:=h.ed p' j' t h2;rw[a4] at b4;obtain⟨e1,e2⟩:=a7c b4;exact⟨h.inj h1.lt h2.lt e1,by omega⟩
theorem Lab.le (h:Lab T W) : ∀ (n t:Nat),t<=n->t<T.length->(W.getD t []).length<=t
 | 0,t,ht,_=>by
  have:t=0:=by omega
  subst this;rw[h.nil];grind
 | n+1,t,ht,hl=>by
  by_cases h0:t=0
  ·subst h0;rw[h.nil];grind
  ·obtain⟨p,j,hE⟩:=h.src t (by omega) hl;obtain⟨_,_,e3,e4⟩:=h.ed p j t hE;have:=h.le n p (by omega) hE.lt;grind
def Cb (n:Nat) : List (Int×Int)->Nat->List (Nat×Int)
 | [],_=>[]
 | e :: l,i=>(if e.1 = -1/\e.2 = -2 then [(n,(i:Int))] else [])++Cb n l (i+1)
def Dm (row:List (Int×Int)) : Bool:=row.all fun e=>decide (e.1 = -1/\¬e.2 = -2)
def a1j (n:Nat) (row:List (Int×Int)) : List (Nat×Int):=Cb n row 0++if Dm row=true then [(n,-1)] else []
def endsM:Tq->Nat->List (Nat×Int)
 | [],_=>[]
 | r :: l,n=>a1j n r++endsM l (n+1)
theorem c0t (n:Nat) : ∀ (a b:List (Int×Int)) (i:Nat),Cb n (a++b) i=Cb n a i++Cb n b (i+a.length)
 | [],b,i=>by rfl
 | e :: a,b,i=>by
  show _++Cb n (a++b) (i+1)=(_++Cb n a (i+1))++_;rw[c0t n a b (i+1),Er,Ek,show i+1+a.length=i+(a.length+1) by omega]
theorem d8d {i:Nat} {row:List (Int×Int)} (h:i<row.length) : Cb n (row.take (i+1)) 0=Cb n (row.take i) 0++if (row[i]).1 = -1/\(row[i]).2 = -2 then [(n,(i:Int))] else []:=by
 rw[Cr h,c0t,Dw,Fa (by omega),g2n];simp[Cb]
theorem d8e {i:Nat} {row:List (Int×Int)} (h:i<row.length) : Dm (row.take (i+1))=(Dm (row.take i) && decide ((row[i]).1 = -1/\¬(row[i]).2 = -2)):=by
 grind[Dm,Cr]
theorem endsM_app:∀ (a b:Tq) (n:Nat),endsM (a++b) n=endsM a n++endsM b (n+a.length)
 | [],b,n=>by rfl
 | r :: a,b,n=>by
  show a1j n r++endsM (a++b) (n+1)=(a1j n r++endsM a (n+1))++_;rw[endsM_app a b (n+1),Er,Ek,show n+1+a.length=n+(a.length+1) by omega]
theorem d8f (h:n<T.length) : endsM (T.take (n+1)) 0=endsM (T.take n) 0++a1j n T[n]:=by
 rw[Cr h,endsM_app,Dw,Fa (by omega),g2n];simp[endsM]
theorem d8g (T:Tq) (n:Nat) : ∃ r,endsM T 0=endsM (T.take n) 0++r:=by
 grind[List.take_append_drop,endsM_app]
def eW (W:Wq) (s:Nat×Int) : Wd:=W.getD s.1 []++if s.2 = -1 then [] else [s.2]
def Ce (W:Wq) : List (Nat×Int)->Nat
 | []=>0
 | s :: l=>(eW W s).length+Ce W l
theorem c0u (W:Wq) : ∀ (a b:List (Nat×Int)),Ce W (a++b)=Ce W a+Ce W b
 | [],b=>by simp[Ce]
 | s :: a,b=>by
  show (eW W s).length+Ce W (a++b)=((eW W s).length+Ce W a)+Ce W b;rw[c0u W a b];omega
theorem d8h {k:Nat} : ∀ {l:List (Nat×Int)},(∀ s∈l,(eW W s).length<=k)->Ce W l<=l.length*k
 | [],_=>by simp[Ce]
 | s :: l,h=>by
  have h1:=h s (by simp);have h2:=d8h (l:=l) fun x hx=>h x (by grind)
  (simp_all[Ce];grind)
theorem c0v : ∀ {row:List (Int×Int)} {i:Nat},s∈Cb n row i↔∃ k,∃ h:k<row.length,row[k].1 = -1/\row[k].2 = -2/\s=(n,((i+k:Nat) : Int))
 | [],i=>by simp[Cb]
 | e :: row,i=>by
  (simp_all[Cb,c0v];grind)
theorem d8i : ∀ {T:Tq} {n:Nat},s∈endsM T n↔∃ k,∃ h:k<T.length,s∈a1j (n+k) T[k]
 | [],n=>by simp[endsM]
 | r :: T,n=>by
  unfold endsM;rw[Eg,d8i];constructor
  ·rintro (h|⟨k,hk,h1⟩)
   ·exact⟨0,by simp,h⟩
   ·exact⟨k+1,by simpa using hk,by rw[show n+(k+1)=n+1+k by omega];simpa using h1⟩
  ·rintro⟨k,hk,h1⟩
   cases k with
   | zero=>exact .inl h1
   | succ k=>exact .inr ⟨k,by simpa using hk,by rw[show n+1+k=n+(k+1) by omega];simpa using h1⟩
theorem a8s : s∈endsM T 0↔(∃ k,∃ h:k<T.length,∃ i,∃ hi:i<(T[k]).length,(T[k])[i]=(-1,-2)/\s=(k,(i:Int)))\/(∃ k,∃ h:k<T.length,Dm T[k]=true/\s=(k,-1)):=by
 rw[d8i];constructor
 ·rintro⟨k,hk,h⟩;rw[g2n] at h;unfold a1j at h;rcases Eg.1 h with h|h
  ·obtain⟨i,hi,h1,h2,h3⟩:=c0v.1 h;grind
  grind
 (simp_all[c0v,a1j];grind)
end Go.Ai
end
section
namespace Go.Ai
open Go.Proofs Go.Proofs.Tryz
set_option maxRecDepth 10000
set_option maxHeartbeats 40000000
def a3d (l:List (Nat×Int)) : List AV:=l.flatMap fun s=>[.li ((s.1:Nat) : Int),.li s.2]
theorem d8j (l:List (Nat×Int)) (s:Nat×Int) : a3d (l++[s])=a3d l++[.li ((s.1:Nat) : Int),.li s.2]:=by
 unfold a3d;rw[g5u];simp
theorem b2p (l:List (Nat×Int)) : (a3d l).length=l.length*2:=by
 induction l with
 | nil=>rfl
 | cons s l ih=>unfold a3d at *;rw[g4m,Dr,ih,Ek];simp;omega
theorem g1h {I:Nat} {O:Int} {T:Tq} {W:Wq} (hI1:1<=I) (hI2:I<=16) (h0:0<T.length) (hl:T.length<=65537) (hgo:goT I O T 0 1=some T.length) (hLab:Lab T W) (hE:(endsM T 0).length<=1024) (hW:∀ t,t<T.length->(W.getD t []).length<=256) (hS:Ce W (endsM T 0)<=65536) (g:Gb) (n:Nat) (tv:AV) (hT:De g n T tv) :
  WC 0 prog 116 [.agg [.li I,.li O,tv]] ⟨.fn g,n⟩ fun r=>∃ g' n' B ov,r=.ret (.tup [ov,.lit (.bool true)]) ⟨.fn g',n'⟩/\n<=n'/\(∀ b,b<n->g' b=g b)/\Bh g' n n' B ov (endsM T 0).length 2 (a3d (endsM T 0)):=by
 have hlen:=@Am prog _ _ _ _ _ hT.choose_spec.1;have h1t:=hT.choose_spec.1.one;have hone:allOne [.li I,.li O,tv]=true:=by simp[h1t]
 have HOK:=Aa.mk (okT_of hgo);have HT:=Aa.mk hT;have HLB:=Aa.mk hLab;have HW:=Aa.mk hW;have HPR:=Aa.mk fun k=>d8g T k;have HSM:=Aa.mk fun (a r:List (Nat×Int)) (h:endsM T 0=a++r)=>(show a.length<=1024/\Ce W a<=65536 from ⟨by rw[h,Dr] at hE;omega,by rw[h,c0u] at hS;omega⟩);have HST:=Aa.mk fun (k:Nat) (h:k<T.length)=>d8f h;obtain⟨E,hEE⟩ : ∃ E,E=endsM T 0:=⟨_,rfl⟩;rw[<- hEE] at hE |-;have HEE:=Aa.mk hEE;clear hT hgo hLab hW hS hE hEE;have hW2:(T.length:Int)<=1048576:=by omega
 refine ent pl116 func116 rfl (by decide +kernel) (by kernel_rfl) ?_
 iterate 8 all_goals try first|apply spl<;>intro h|simp (disch:=first|assumption|omega|simp) [*]
 refine LX.ind (fun m gf H'=>∃ (k n2 B:Nat) (gL:Gb) (ov:AV) (D:List AV) (out:List (Nat×Int)),k<=T.length/\m=T.length-k/\H'=⟨.fn gL,n2⟩/\n+1+1<=n2/\Aa (∀ b,b<n->gL b=g b)/\gL n=some (.cells [.li I,.li O,tv] true 0)/\gL (n+1)=some (.cells D true 0)/\D.length=T.length/\Aa (∀ t,t<T.length->(t=0\/∃ p j,EdT T p j t/\p<k)->D[t]?=some (.lit (.int .i64 (((W.getD t []).length:Nat) : Int))))/\Aa (out=endsM (T.take k) 0)/\Aa (Bh gL (n+1+1) n2 B ov out.length 2 (a3d out)) /\
  gf 1=some (.ptr n 0)/\gf 4=some (.sl (n+1) 0 T.length T.length)/\gf 5=some ov/\gf 6=some (.li ((Ce W out:Nat) : Int))/\gf 17=some tv/\gf 18=some (.li T.length)/\gf 19=some (.li k)) (m0:=T.length) ?_ ?_
 ·refine⟨0,_,0,_,_,_,[],Du _,rfl,rfl,Dp _,⟨fun b hb=>?_⟩,?_,Af,?_,⟨fun t ht h=>?_⟩,⟨rfl⟩,⟨.inl ⟨rfl,rfl,rfl⟩⟩,by simp,by simp,by simp,by simp[Ce],by simp[*]⟩
  ·simp (disch:=omega) only[Ab]
  ·simp (disch:=omega) only[Ab,Af]
  ·simp
  ·rcases h with rfl|⟨p,j,_,hp⟩
   ·rw[HLB.out.nil,g2w,if_pos ht];rfl
   ·omega
 rintro m gf H' ⟨k,n2,B,gL,ov,D,out,hk,rfl,rfl,hn2,HG,hgn,hgD,hD,HD,HOUT,HGR,w1,w4,w5,w6,w17,w18,w19⟩ ih;refine rnd pl116 (by decide +kernel) ?_;by_cases hlt:k<T.length
 ·have hltI:(k:Int)<(T.length:Int):=by omega
  obtain⟨a2,o2,q,ha2,hia2,hc2,hq⟩:=HT.out.at hlt;rw[<- HG.out a2 ha2] at hc2;have h1q:oneC q=true:=hq.one;have hlq:=@Am prog _ _ _ _ _ hq;have HO1:=Aa.mk (HOK.out _ (Dt hlt));have hrl:(T[k]).length=I:=by have:=HO1.out.1;omega
  have hrl16:(T[k]).length<=16:=by omega
  have HES:=Aa.mk (HST.out k hlt);have HPX:Aa (∀ i,i<=(T[k]).length->∃ r,E=(out++Cb k ((T[k]).take i) 0)++r):=⟨fun i hi=>by
   obtain⟨r,hr⟩:=HPR.out (k+1);rw[HES.out,<- HOUT.out] at hr;have h2:Cb k T[k] 0=Cb k ((T[k]).take i) 0++Cb k ((T[k]).drop i) (0+((T[k]).take i).length):=by rw[<- c0t,g3b]
   refine⟨Cb k ((T[k]).drop i) (0+((T[k]).take i).length)++((if Dm T[k]=true then [(k,-1)] else [])++r),?_⟩;rw[HEE.out,hr];unfold a1j;rw[h2];simp only[Er]⟩
  have HBD:Aa (∀ a r,E=a++r->a.length<=1024/\Ce W a<=65536):=⟨fun a r h=>HSM.out a r (HEE.out ▸ h)⟩;have HPY:Aa (∃ r,E=(out++a1j k T[k])++r):=⟨by
   obtain⟨r,hr⟩:=HPR.out (k+1);rw[HES.out,<- HOUT.out] at hr;exact⟨r,HEE.out.trans hr⟩⟩
  rw[<- HOUT.out] at HES;have HEDT:Aa (∀ (i:Nat) (h:i<(T[k]).length) (t:Nat),(T[k])[i].1=(t:Int)->EdT T k i t):=⟨fun i h t ht=>⟨_,by rw[Dx,Dv hlt];simp[h],ht⟩⟩;have HEDI:Aa (∀ (j t:Nat),EdT T k j t->∃ h:j<(T[k]).length,(T[k])[j].1=(t:Int)):=⟨fun j t ⟨e,h1,h2⟩=>by
   rw[Dx,Dv hlt] at h1;obtain⟨h3,h4⟩:=Ea.1 h1;exact⟨h3,by rw[<- h2];exact congrArg _ h4⟩⟩
  have HQ:=Aa.mk hq;have hDk:D[k]?=some (.lit (.int .i64 (((W.getD k []).length:Nat) : Int))):=HD.out k hlt (by
   by_cases h:k=0
   ·exact .inl h
   ·obtain⟨p,j,hE⟩:=HLB.out.src k (by omega) hlt;exact .inr ⟨p,j,hE,(HLB.out.ed p j k hE).2.2.1⟩)
  have hWk:=HW.out k hlt;clear hq hrl;generalize T[k]=row at *
  iterate 8 all_goals try first|apply spl<;>intro h|simp (disch:=first|assumption|omega|simp) [*]
  refine LX.ind (fun m gf H'=>∃ (i n3 B:Nat) (gI:Gb) (ov:AV) (D:List AV) (oi:List (Nat×Int)),i<=row.length/\m=row.length-i/\H'=⟨.fn gI,n3⟩/\n2<=n3/\Aa (∀ b,b<n->gI b=gL b)/\gI n=some (.cells [.li I,.li O,tv] true 0)/\gI (n+1)=some (.cells D true 0)/\D.length=T.length/\D[k]?=some (.lit (.int .i64 (((W.getD k []).length:Nat) : Int)))/\Aa (∀ t,t<T.length->(t=0\/∃ p j,EdT T p j t/\(p<k\/p=k/\j<i))->D[t]?=some (.lit (.int .i64 (((W.getD t []).length:Nat) : Int))))/\Aa (oi=out++Cb k (row.take i) 0)/\oi.length<=1024/\Ce W oi<=65536/\Aa (Bh gI (n+1+1) n3 B ov oi.length 2 (a3d oi)) /\
   gf 1=some (.ptr n 0)/\gf 4=some (.sl (n+1) 0 T.length T.length)/\gf 5=some ov/\gf 6=some (.li ((Ce W oi:Nat) : Int))/\gf 7=some (.li k)/\gf 9=some (.lit (.bool (Dm (row.take i))))/\gf 17=some tv/\gf 18=some (.li T.length)/\gf 19=some (.li k) /\
   gf 24=some q/\gf 25=some (.li row.length)/\gf 26=some (.li i)) (m0:=row.length) ?_ ?_
  ·have hob:out.length<=1024/\Ce W out<=65536:=by
    obtain⟨r,hr⟩:=HPR.out k;rw[<- HOUT.out] at hr;exact HSM.out _ _ hr
   exact⟨0,n2,B,gL,ov,D,out,Du _,rfl,rfl,Dp _,⟨fun _ _=>rfl⟩,hgn,hgD,hD,hDk,⟨fun t ht h=>HD.out t ht (h.imp id fun⟨p,j,h1,h2⟩=>⟨p,j,h1,by omega⟩)⟩,⟨by simp[Cb]⟩,hob.1,hob.2,HGR,by simp[*],by simp[*],by simp[*],by simp[*],by simp[*],by simp[Dm],by simp[*]⟩
  clear hgn hgD hD hDk HD HGR w1 w4 w5 w6 w17 w18 w19;rintro m gf H' ⟨i,n3,B,gI,ov,D,oi,hi,rfl,rfl,hn3,HGI,hgn,hgD,hD,hDk,HD,HOI,hoi1,hoi2,HGR,w1,w4,w5,w6,w7,w9,w17,w18,w19,w24,w25,w26⟩ ih2;refine rnd pl116 (by decide +kernel) ?_;by_cases hil:i<row.length
  ·have hilI:(i:Int)<(row.length:Int):=by omega
   obtain⟨a3,o3,ha3,hia3,hc3⟩:=b4e HQ.out hil;rw[<- HG.out a3 ha3,<- HGI.out a3 ha3] at hc3;have HE1:=Aa.mk (HO1.out.2 _ (Dt hil));have HRS:=Aa.mk (d8d (n:=k) hil);have HLS:=Aa.mk (d8e hil);have HED:=Aa.mk fun t ht=>HEDT.out i hil t ht;have HDI:Aa (∀ j t,EdT T k j t->(k<k\/k=k/\j<i+1)->¬ j<i->((row[i]).1=(t:Int))):=⟨fun j t hE h1 h2=>by
    obtain⟨h3,h4⟩:=HEDI.out j t hE;have:j=i:=by omega
    subst this;exact h4⟩
   generalize row[i]=e at *;obtain⟨to,eo⟩:=e;dsimp only at HE1 HRS HLS HED HDI hc3;by_cases ht:to = -1
   ·subst ht;by_cases ho:eo = -2
    ·subst ho;rw[if_pos ⟨rfl,rfl⟩] at HRS;have HLF:Aa (Dm (row.take (i+1))=false):=⟨by rw[HLS.out];simp⟩;have HON:Aa (oi++[(k,(i:Int))]=out++Cb k (row.take (i+1)) 0):=⟨by rw[HRS.out,HOI.out,Er]⟩;have hB2:(oi++[(k,(i:Int))]).length<=1024/\Ce W (oi++[(k,(i:Int))])<=65536:=by
      obtain⟨r,hr⟩:=HPX.out (i+1) (by omega);rw[<- HON.out] at hr;exact HBD.out _ _ hr
     have HSW:Aa (Ce W (oi++[(k,(i:Int))])=Ce W oi+((W.getD k []).length+1)):=⟨by
      rw[c0u];show Ce W oi+((W.getD k []++if (i:Int) = -1 then [] else [(i:Int)]).length+0)=_;rw[if_neg (by omega),Dr];rfl⟩
     have HB2:=Aa.mk hB2;have hsw1:Ce W oi+((W.getD k []).length+1)<=65536:=by rw[<- HSW.out];exact hB2.2
     have HEC:=Aa.mk (d8j oi (k,(i:Int)));have hel:=b2p oi;have hel2:(a3d oi++[AV.li ((k:Nat) : Int),AV.li (i:Int)]).length=(oi.length+1)*2:=by rw[Dr,hel];simp;omega
     have HDN:Aa (∀ t,t<T.length->(t=0\/∃ p j,EdT T p j t/\(p<k\/p=k/\j<i+1))->D[t]?=some (.lit (.int .i64 (((W.getD t []).length:Nat) : Int)))):=⟨fun t ht h=>HD.out t ht (h.imp id fun⟨p,j,h1,h2⟩=>⟨p,j,h1,by
      by_cases h3:p<k
      ·exact .inl h3
      ·have hpk:p=k:=by omega
       subst hpk;refine .inr ⟨rfl,?_⟩;by_cases hji:j<i
       ·exact hji
       ·have:=HDI.out j t h1 (by omega) hji;omega⟩)⟩
     have hDkl:k<D.length:=by omega
     have hDk2:D[k]'hDkl=.lit (.int .i64 (((W.getD k []).length:Nat) : Int)):=(Ea.1 hDk).2;clear hB2;generalize hWl:(W.getD k []).length=wl at *;rcases HGR.out with⟨hk0,hc0,hs0⟩|⟨hk0,hs0,hB1,hB2,hB3,hB4⟩
     ·subst hs0;have HZ:=Aa.mk (And.intro hk0 hc0);clear hk0 hc0
      iterate 8 all_goals try first|apply spl<;>intro h|simp (disch:=first|assumption|omega|simp) [*]
      refine ih2.out (row.length-(i+1)) _ _ (by omega) ⟨i+1,_,n3+1+1,_,.slq (n3+1+1) 0 (oi++[(k,(i:Int))]).length 0,D,oi++[(k,(i:Int))],by omega,rfl,rfl,by omega,⟨fun b hb=>?_⟩,?_,?_,hD,hDk,HDN,HON,HB2.out.1,HB2.out.2,⟨.inr ⟨?_,rfl,by omega,by omega,?_,?_⟩⟩,by simp[*],by simp[*],by simp[HZ.out.1],by simp[*,HSW.out],by simp[*],by simp[HLF.out],by simp[*]⟩
      ·simp (disch:=omega) only[Ab,Ae];exact HGI.out b hb
      ·simp (disch:=omega) only[Ab,Ae];exact hgn
      ·simp (disch:=omega) only[Ab,Ae];exact hgD
      ·simp
      ·rw[HEC.out,HZ.out.2];simp (disch:=omega) only[Ab,Ae,Af];rfl
      ·rw[b2p]
     ·subst hs0
      iterate 8 all_goals try first|apply spl<;>intro h|simp (disch:=first|assumption|omega|simp) [*]
      refine ih2.out (row.length-(i+1)) _ _ (by omega) ⟨i+1,_,n3+1+1,_,.slq (n3+1+1) 0 (oi++[(k,(i:Int))]).length 0,D,oi++[(k,(i:Int))],by omega,rfl,rfl,by omega,⟨fun b hb=>?_⟩,?_,?_,hD,hDk,HDN,HON,HB2.out.1,HB2.out.2,⟨.inr ⟨?_,rfl,by omega,by omega,?_,?_⟩⟩,by simp[*],by simp[*],by simp,by simp[*,HSW.out],by simp[*],by simp[HLF.out],by simp[*]⟩
      ·simp (disch:=omega) only[Ab,Ae];exact HGI.out b hb
      ·simp (disch:=omega) only[Ab,Ae];exact hgn
      ·simp (disch:=omega) only[Ab,Ae];exact hgD
      ·simp
      ·rw[HEC.out];simp (disch:=omega) only[Ab,Ae,Af]
      ·rw[b2p]
    ·rw[if_neg (fun h=>ho h.2),Ej] at HRS;have HLF:Aa (Dm (row.take (i+1))=Dm (row.take i)):=⟨by rw[HLS.out];simp[ho]⟩;have HDN:Aa (∀ t,t<T.length->(t=0\/∃ p j,EdT T p j t/\(p<k\/p=k/\j<i+1))->D[t]?=some (.lit (.int .i64 (((W.getD t []).length:Nat) : Int)))):=⟨fun t ht h=>HD.out t ht (h.imp id fun⟨p,j,h1,h2⟩=>⟨p,j,h1,by
      by_cases h3:p<k
      ·exact .inl h3
      ·have hpk:p=k:=by omega
       subst hpk;refine .inr ⟨rfl,?_⟩;by_cases hji:j<i
       ·exact hji
       ·have:=HDI.out j t h1 (by omega) hji;omega⟩)⟩
     rw[<- HRS.out] at HOI
     iterate 8 all_goals try first|apply spl<;>intro h|simp (disch:=first|assumption|omega|simp) [*]
     refine ih2.out (row.length-(i+1)) _ _ (by omega) ⟨i+1,_,B,_,ov,D,oi,by omega,rfl,rfl,by omega,⟨fun b hb=>?_⟩,?_,?_,hD,hDk,HDN,HOI,hoi1,hoi2,⟨Bh.keep HGR.out (by omega) fun h1 h2=>?_⟩,by simp[*],by simp[*],by simp[*],by simp[*],by simp[*],by simp[HLF.out, *],by simp[*]⟩
     ·simp (disch:=omega) only[Ab,Ae];exact HGI.out b hb
     ·simp (disch:=omega) only[Ab,Ae];exact hgn
     ·simp (disch:=omega) only[Ab,Ae];exact hgD
     ·simp (disch:=omega) only[Ab,Ae]
   ·obtain⟨t,rfl⟩ : ∃ t:Nat,to=t:=⟨to.toNat,by have:=HE1.out;omega⟩;have htl:t<T.length:=by have:=HE1.out;omega
    have hEd:=HED.out t rfl;have HEL:=Aa.mk (HLB.out.ed k i t hEd);rw[if_neg (fun h=>ht h.1),Ej] at HRS;have HLF:Aa (Dm (row.take (i+1))=false):=⟨by rw[HLS.out];simp[ht]⟩;have hDkl:k<D.length:=by omega
    have hDk2:D[k]'hDkl=.lit (.int .i64 (((W.getD k []).length:Nat) : Int)):=(Ea.1 hDk).2;have htD:t<D.length:=by omega
    have hktI:¬t=k:=by have:=HEL.out.2.2.1;omega
    have HDN:Aa (∀ u,u<T.length->(u=0\/∃ p j,EdT T p j u/\(p<k\/p=k/\j<i+1))->(D.set t (.lit (.int .i64 ((((W.getD k []).length:Nat) : Int)+1))))[u]?=some (.lit (.int .i64 (((W.getD u []).length:Nat) : Int)))):=⟨fun u hu h=>by
     by_cases hut:t=u
     ·subst hut;rw[g3x htD,HEL.out.2.2.2,Dr];simp
     ·rw[g2z hut];refine HD.out u hu (h.imp id fun⟨p,j,h1,h2⟩=>⟨p,j,h1,?_⟩);by_cases h3:p<k
      ·exact .inl h3
      ·have hpk:p=k:=by omega
       subst hpk;refine .inr ⟨rfl,?_⟩;by_cases hji:j<i
       ·exact hji
       ·have:=HDI.out j u h1 (by omega) hji;omega⟩
    have HDS:Aa ((D.set t (.lit (.int .i64 ((((W.getD k []).length:Nat) : Int)+1)))).length=T.length/\(D.set t (.lit (.int .i64 ((((W.getD k []).length:Nat) : Int)+1))))[k]?=some (.lit (.int .i64 (((W.getD k []).length:Nat) : Int)))):=⟨by rw[Ed];exact hD,by rw[g2z hktI];exact hDk⟩;rw[<- HRS.out] at HOI;clear HDI HED;generalize hWl:(W.getD k []).length=wl at *
    iterate 8 all_goals try first|apply spl<;>intro h|simp (disch:=first|assumption|omega|simp) [*]
    refine ih2.out (row.length-(i+1)) _ _ (by omega) ⟨i+1,_,B,_,ov,D.set t (.li ((wl:Int)+1)),oi,by omega,rfl,rfl,by omega,⟨fun b hb=>?_⟩,?_,?_,HDS.out.1,HDS.out.2,HDN,HOI,hoi1,hoi2,⟨Bh.keep HGR.out (by omega) fun h1 h2=>?_⟩,by simp[*],by simp[*],by simp[*],by simp[*],by simp[*],by simp[HLF.out],by simp[*]⟩
    ·simp (disch:=omega) only[Ab,Ae];exact HGI.out b hb
    ·simp (disch:=omega) only[Ab,Ae];exact hgn
    ·simp (disch:=omega) only[Ab,Ae,Af]
    ·simp (disch:=omega) only[Ab,Ae]
  ·have hilI:¬(i:Int)<(row.length:Int):=by omega
   have hir:i=row.length:=by omega
   have HRT:Aa (row.take i=row):=⟨by rw[hir,Ep]⟩;rw[HRT.out] at HOI w9;have HDN:Aa (∀ t,t<T.length->(t=0\/∃ p j,EdT T p j t/\p<k+1)->D[t]?=some (.lit (.int .i64 (((W.getD t []).length:Nat) : Int)))):=⟨fun t ht h=>HD.out t ht (h.imp id fun⟨p,j,h1,h2⟩=>⟨p,j,h1,by
    by_cases h3:p<k
    ·exact .inl h3
    ·have hpk:p=k:=by omega
     subst hpk;obtain⟨h4,_⟩:=HEDI.out j t h1;exact .inr ⟨rfl,by omega⟩⟩)⟩
   have hDkl:k<D.length:=by omega
   have hDk2:D[k]'hDkl=.lit (.int .i64 (((W.getD k []).length:Nat) : Int)):=(Ea.1 hDk).2;have hel:=b2p oi;clear HD HEDI HEDT HPX hia2 hlq;by_cases hlb:Dm row=true
   ·have HON:Aa (oi++[(k,-1)]=endsM (T.take (k+1)) 0):=⟨by rw[HES.out,HOI.out];unfold a1j;rw[if_pos hlb,Er]⟩;have hB2:(oi++[(k,-1)]).length<=1024/\Ce W (oi++[(k,-1)])<=65536:=by
     obtain⟨r,hr⟩:=HPY.out;rw[<- HES.out,<- HON.out] at hr;exact HBD.out _ _ hr
    have HSW:Aa (Ce W (oi++[(k,-1)])=Ce W oi+(W.getD k []).length):=⟨by
     rw[c0u];show Ce W oi+((W.getD k []++if (-1:Int) = -1 then [] else [-1]).length+0)=_;rw[if_pos rfl,Ej];rfl⟩
    have HB2:=Aa.mk hB2;have hsw1:Ce W oi+(W.getD k []).length<=65536:=by rw[<- HSW.out];exact hB2.2
    have hoi3:oi.length+1<=1024:=by have:=hB2.1;rw[Dr,Em] at this;exact this
    have HEC:=Aa.mk (d8j oi (k,-1));have hel2:(a3d oi++[AV.li ((k:Nat) : Int),AV.li (-1)]).length=(oi.length+1)*2:=by rw[Dr,hel];simp;omega
    rw[hlb] at w9;clear hB2 hoi1 hoi2;generalize hWl:(W.getD k []).length=wl at *;rcases HGR.out with⟨hk0,hc0,hs0⟩|⟨hk0,hs0,hB1,hB2,hB3,hB4⟩
    ·subst hs0;have HZ:=Aa.mk (And.intro hk0 hc0);clear hk0 hc0
     iterate 8 all_goals try first|apply spl<;>intro h|simp (disch:=first|assumption|omega|simp) [*]
     all_goals try (exfalso;omega)
     refine ih.out (T.length-(k+1)) _ _ (by omega) ⟨k+1,_,n3+1,_,.slq (n3+1) 0 (oi++[(k,-1)]).length 0,D,oi++[(k,-1)],by omega,rfl,rfl,by omega,⟨fun b hb=>?_⟩,?_,?_,hD,HDN,HON,⟨.inr ⟨?_,rfl,by omega,by omega,?_,?_⟩⟩,by simp[*],by simp[*],by simp[HZ.out.1],by simp[*,HSW.out],by simp[*]⟩
     ·simp (disch:=omega) only[Ab,Ae];exact(HGI.out b hb).trans (HG.out b hb)
     ·simp (disch:=omega) only[Ab,Ae];exact hgn
     ·simp (disch:=omega) only[Ab,Ae];exact hgD
     ·simp
     ·rw[HEC.out,HZ.out.2];simp (disch:=omega) only[Ab,Ae,Af];rfl
     ·rw[b2p]
    ·subst hs0
     iterate 8 all_goals try first|apply spl<;>intro h|simp (disch:=first|assumption|omega|simp) [*]
     all_goals try (exfalso;omega)
     refine ih.out (T.length-(k+1)) _ _ (by omega) ⟨k+1,_,n3+1,_,.slq (n3+1) 0 (oi++[(k,-1)]).length 0,D,oi++[(k,-1)],by omega,rfl,rfl,by omega,⟨fun b hb=>?_⟩,?_,?_,hD,HDN,HON,⟨.inr ⟨?_,rfl,by omega,by omega,?_,?_⟩⟩,by simp[*],by simp[*],by simp,by simp[*,HSW.out],by simp[*]⟩
     ·simp (disch:=omega) only[Ab,Ae];exact(HGI.out b hb).trans (HG.out b hb)
     ·simp (disch:=omega) only[Ab,Ae];exact hgn
     ·simp (disch:=omega) only[Ab,Ae];exact hgD
     ·simp
     ·rw[HEC.out];simp (disch:=omega) only[Ab,Ae,Af]
     ·rw[b2p]
   ·have hlb:Dm row=false:=by simpa using hlb
    have HON:Aa (oi=endsM (T.take (k+1)) 0):=⟨by rw[HES.out,HOI.out];unfold a1j;rw[hlb];simp⟩;rw[hlb] at w9;have hlo:=Bh.slice HGR.out;have hlo2:=@Am prog _ _ _ _ _ hlo;generalize hWl:(W.getD k []).length=wl at *
    iterate 8 all_goals try first|apply spl<;>intro h|simp (disch:=first|assumption|omega|simp) [*]
    all_goals try (exfalso;omega)
    refine ih.out (T.length-(k+1)) _ _ (by omega) ⟨k+1,_,B,_,ov,D,oi,by omega,rfl,rfl,by omega,⟨fun b hb=>?_⟩,?_,?_,hD,HDN,HON,HGR,by simp[*]⟩
    ·exact(HGI.out b hb).trans (HG.out b hb)
    ·exact hgn
    ·exact hgD
 ·have hltI:¬(k:Int)<(T.length:Int):=by omega
  have hkT:k=T.length:=by omega
  have hoE:out=E:=by rw[HOUT.out,hkT,Ep];exact HEE.out.symm
  subst hoE
  iterate 8 all_goals try first|apply spl<;>intro h|simp (disch:=first|assumption|omega|simp) [*]
  refine⟨_,_,B,_,⟨rfl,rfl,rfl⟩,by omega,HG.out,?_⟩;rcases HGR.out with h|⟨a1,a2,a3,a4,a5,a6⟩
  ·exact .inl h
  ·exact .inr ⟨a1,a2,by omega,a4,a5,a6⟩
end Go.Ai
end
section
namespace Go.Ai
set_option maxRecDepth 10000
variable {T:Tq} {W:Wq} {p j t:Nat}
def Bb (T:Tq) : Int->Wd->Wd
 | _,[]=>[]
 | a,i :: w=>if ((T.getD a.toNat []).getD i.toNat (-1,-1)).1 = -1 then [-1] else ((T.getD a.toNat []).getD i.toNat (-1,-1)).2 :: Bb T ((T.getD a.toNat []).getD i.toNat (-1,-1)).1 w
theorem c7g {a i:Nat} {w:Wd} (ha:a<T.length) (hi:i<(T[a]).length) : Bb T ((a:Nat) : Int) (((i:Nat) : Int) :: w)=if (T[a][i]).1 = -1 then [-1] else (T[a][i]).2 :: Bb T (T[a][i]).1 w:=by
 grind[Bb]
def EdO (T:Tq) (p j t:Nat) (o:Int) : Prop:=∃ (hp:p<T.length) (hj:j<(T[p]).length),T[p][j]=(((t:Nat) : Int),o)
theorem EdT.out (h:EdT T p j t) : ∃ o,EdO T p j t o:=by
 have hp:=h.lt;obtain⟨e,h1,h2⟩:=h;rw[Dx,Dv hp] at h1;obtain⟨h3,h4⟩:=Ea.1 h1;have h5:T[p][j]=e:=h4;exact⟨e.2,hp,h3,by grind⟩
theorem EdO.ed {o:Int} (h:EdO T p j t o) : EdT T p j t:=by
 obtain⟨hp,hj,e⟩:=h;exact⟨_,by rw[Dx,Dv hp];exact Dv hj,by rw[e]⟩
theorem EdO.step {o:Int} (h:EdO T p j t o) (y:Wd) : Bb T ((p:Nat) : Int) (((j:Nat) : Int) :: y)=o :: Bb T ((t:Nat) : Int) y:=by
 obtain⟨hp,hj,e⟩:=h;simp_all[c7g]
theorem c7h (hL:Lab T W) : ∀ (n t:Nat),t<=n->t<T.length->∀ y,Bb T 0 (W.getD t []++y)=Bb T 0 (W.getD t [])++Bb T ((t:Nat) : Int) y
 | n,0,_,_,y=>by rw[hL.nil];rfl
 | 0,t+1,h,_,_=>by omega
 | n+1,t+1,h,hl,y=>by
  obtain⟨p,j,hE⟩:=hL.src (t+1) (by omega) hl;obtain⟨_,_,h3,h4⟩:=hL.ed p j _ hE;obtain⟨o,hO⟩:=hE.out;have i1:=c7h hL n p (by omega) hE.lt;rw[h4,Er,i1,i1];rw[List.singleton_append,hO.step,hO.step];simp[Bb]
theorem d8k (hL:Lab T W) {p j t:Nat} {o:Int} (h:EdO T p j t o) : Bb T 0 (W.getD t [])=Bb T 0 (W.getD p [])++[o]:=by
 obtain⟨_,_,_,h4⟩:=hL.ed p j t h.ed;rw[h4,c7h hL p p (Dp _) h.ed.lt,h.step];rfl
def bkM (T:Tq) (W:Wq) : Lq:=(endsM T 0).map fun s=>(eW W s,Bb T 0 (eW W s))
theorem d8l (hL:Lab T W) {k i:Nat} (hk:k<T.length) (hi:i<(T[k]).length) (h:T[k][i]=(-1,-2)) : Bb T 0 (eW W (k,(i:Int)))=Bb T 0 (W.getD k [])++[-1]:=by
 unfold eW;dsimp only;rw[if_neg (by omega),c7h hL k k (Dp _) hk,c7g hk hi,h,if_pos rfl]
theorem c7i {I O:Int} (hL:Lab T W) (h0:0<T.length) (hok:∀ r∈T,∀ e∈r,e.1 = -1\/(0<=e.1/\e.1<T.length)) : 0<(endsM T 0).length:=by
 have hk:T.length-1<T.length:=by omega
 have hne:∀ (i:Nat) (hi:i<(T[T.length-1]).length),(T[T.length-1][i]).1 = -1:=by
  intro i hi;rcases hok _ (Dt hk) _ (Dt hi) with h|h
  ·exact h
  ·obtain⟨t,ht⟩ : ∃ t:Nat,(T[T.length-1][i]).1=(t:Int):=⟨(T[T.length-1][i]).1.toNat,by omega⟩;have hE:EdT T (T.length-1) i t:=⟨_,by grind,ht⟩;have:=hL.ed _ _ _ hE;omega
 by_cases hr:∃ i,∃ hi:i<(T[T.length-1]).length,T[T.length-1][i]=(-1,-2)
 ·obtain⟨i,hi,h⟩:=hr;exact g3s (a8s.2 (.inl ⟨_,hk,i,hi,h,rfl⟩))
 ·refine g3s (a8s.2 (.inr ⟨_,hk,?_,rfl⟩));unfold Dm;rw[Eb];intro e he;obtain⟨i,hi,rfl⟩:=g3m he;grind
end Go.Ai
end
section
namespace Go.Ai
open Go.Proofs Go.Proofs.Tryz
set_option maxRecDepth 10000
set_option maxHeartbeats 40000000
def sumT:Lq->Nat
 | []=>0
 | t :: ts=>t.1.length+sumT ts
theorem sumT_app:∀ (a b:Lq),sumT (a++b)=sumT a+sumT b
 | [],b=>by simp[sumT]
 | t :: a,b=>by show t.1.length+sumT (a++b)=(t.1.length+sumT a)+sumT b;rw[sumT_app a b];omega
theorem g1i (ts:Lq) (k:Nat) : sumT (ts.take k)<=sumT ts:=by
 have:=sumT_app (ts.take k) (ts.drop k);rw[g3b] at this;omega
theorem g1j {I O:Int} {ts:Lq} (hI:I<=16) (hO:O<=16) (hl:ts.length<=1024) (hw:∀ t∈ts,t.1.length<=256) (hs:sumT ts<=65536) (g:Gb) (n:Nat) (sv:AV) (hT:a0w g n ts sv) :
  WC 0 prog 100 [.agg [.li I,.li O,sv]] ⟨.fn g,n⟩ fun r=>r=.ret (.lit (.bool true)) ⟨.fn g,n⟩:=by
 refine WC.drop1 rfl ?_;have hlen:=@Am prog _ _ _ _ _ hT.choose_spec.1;have h1s:=hT.choose_spec.1.one;have hone:allOne [.li I,.li O,sv]=true:=by simp[h1s]
 have HT:=Aa.mk hT;have HW:=Aa.mk hw;clear hT hw;refine ent [] func100 rfl (by decide +kernel) (by kernel_rfl) ?_
 iterate 8 all_goals try first|apply spl<;>intro h|simp (disch:=first|assumption|omega|simp) [*]
 refine LX.ind (fun m gf H'=>∃ (k st n' : Nat) (gL:Gb),k<=ts.length/\m=ts.length-k/\H'=⟨.fn gL,n'⟩/\n<n'/\Aa (∀ b,b<n->gL b=g b)/\gL n=some (.cells [.li I,.li O,sv] true 0) /\
  Aa (st=sumT (ts.take k))/\gf 1=some (.ptr n 0)/\gf 3=some (.li st)/\gf 7=some sv/\gf 8=some (.li ts.length)/\gf 9=some (.li k)) (m0:=ts.length) ?_ ?_
 ·exact⟨0,0,_,_,Du _,rfl,rfl,g4y n,⟨fun b hb=>Ab hb⟩,Af,⟨rfl⟩,by simp[*]⟩
 rintro m gf H' ⟨k,st,n',gL,hk,rfl,rfl,hn',HG,hgn,HST,w1,w3,w7,w8,w9⟩ ih;refine rnd [] (by decide +kernel) ?_;by_cases hlt:k<ts.length
 ·have hltI:(k:Int)<(ts.length:Int):=by omega
  obtain⟨a2,off,s1,s2,HAT0⟩:=(HT.out.mono (Fb hn') HG.out).at hlt;have HAT:=Aa.mk HAT0;clear HAT0;have hia:∀ {H:Mem} {ev:Ev} {o:Oper} {ty:TypeId},iaS prog H ev o ty (some (none,2)) (some sv) (some (.li (k:Int)))=.val (.ptr a2 (off+k*2)) H:=fun {H ev o ty}=>HAT.out.ia;have hcell:=HAT.out.agg;have hlw:=@Am prog _ _ _ _ _ HAT.out.r1;have h1a:=HAT.out.r1.one;have h1b:=HAT.out.r2.one;have hone2:allOne [s1,s2]=true:=by simp[h1a,h1b]
  have hwl:=HW.out _ (Dt hlt);have HSS:Aa (sumT (ts.take (k+1))=st+ts[k].1.length):=⟨by rw[Cr hlt,sumT_app,HST.out];rfl⟩;have hs1:st+ts[k].1.length<=65536:=by rw[<- HSS.out];exact Ec (g1i ts _) hs
  clear HAT;generalize ts[k]=t at *;have hbigI:¬256<(t.1.length:Int):=by omega
  have hk1:¬1024<=(k:Int):=by omega
  have hs1I:¬65536<(st:Int)+(t.1.length:Int):=by omega
  iterate 8 all_goals try first|apply spl<;>intro h|simp (disch:=first|assumption|omega|simp) [*]
  exact ih.out (ts.length-(k+1)) _ _ (by omega) ⟨k+1,st+t.1.length,_,_,by omega,rfl,rfl,by omega,⟨fun b hb=>(Ab (by omega)).trans (HG.out b hb)⟩,(Ab (by omega)).trans hgn,⟨HSS.out.symm⟩,by simp[*]⟩
 ·have hltI:¬(k:Int)<(ts.length:Int):=by omega
  iterate 8 all_goals try first|apply spl<;>intro h|simp (disch:=first|assumption|omega|simp) [*]
  exact⟨Fb hn',fun b hb=>HG.out b hb⟩
theorem endC_at:∀ (E:List (Nat×Int)) (k:Nat) (h:k<E.length),((a3d E).drop (k*2)).take 2=[.li ((E[k].1:Nat) : Int),.lit (.int .i64 E[k].2)]
 | e :: E,0,_=>rfl
 | e :: E,k+1,h=>by
  have:=endC_at E k (by simpa using h);have e1:a3d (e :: E)=[.li ((e.1:Nat) : Int),.li e.2]++a3d E:=rfl;rw[e1,show (k+1)*2=2+k*2 by omega,<- g3z];exact this
theorem g1k {g:Gb} {n:Nat} {E:List (Nat×Int)} {ov:AV} (h:Ag g n ov E.length (a3d E)) {k:Nat} (hk:k<E.length) : ∃ a off,a<n/\(∀ {H:Mem} {ev:Ev} {o:Oper} {t:TypeId},iaS prog H ev o t (some (none,2)) (some ov) (some (.li (k:Int)))=.val (.ptr a (off+k*2)) H)/\Bd (some (true,2)) (g a) (off+k*2)=some (.agg [.li ((E[k].1:Nat) : Int),.lit (.int .i64 E[k].2)]):=by
 obtain⟨a,off,ha,hrow,hia⟩:=h.ia (P:=prog) hk 2;have hc:=hrow.agg (k:=k*2) (s:=2) (by rw[b2p];omega);rw[endC_at E k hk] at hc;exact⟨a,off,ha,hia,hc⟩
theorem d8m {g:Gb} {n:Nat} {row:List (Int×Int)} {q:AV} (h:Ag g n q row.length (Aq row)) {i:Nat} (hi:i<row.length) : ∃ a off,a<n/\(∀ {H:Mem} {ev:Ev} {o:Oper} {t:TypeId},iaS prog H ev o t (some (none,2)) (some q) (some (.li (i:Int)))=.val (.ptr a (off+i*2)) H)/\Bd (some (false,1)) (g a) (off+i*2+1)=some (.lit (.int .i64 row[i].2)):=by
 obtain⟨a,off,ha,hrow,hia⟩:=h.ia (P:=prog) hi 2;have hc:=hrow.one (k:=i*2+1) (s:=1) (by rw[rowC_len];omega);have h2:=(b3p row i hi).2;rw[(Ea.1 h2).2] at hc;exact⟨a,off,ha,hia,by rw[g3u];exact hc⟩
end Go.Ai
end

