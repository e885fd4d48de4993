/- A small verified interpreter over names, its proofs, and what was proved with it. No condition. -/
import Derived.Test.YtpimmmnkcgnjjaaGreatP23
import Derived.Test.YtpimmmnkcgnjjaaGreatP09
set_option linter.all false
set_option linter.deprecated false
section
namespace Go.Ai
open Go.Proofs
set_option maxRecDepth 10000
set_option maxHeartbeats 40000000
theorem c12_w (a b:List Int) (hal:a.length≤1000000) (hbl:b.length≤1000000) (g:Nat→Option Blk) (n:Nat) (sa sb:AV) (ha:RepW g n a sa) (hb:RepW g n b sb) :
  WC 0 Tryz.prog 61 [sa,sb] ⟨.fn g,n⟩ fun r=>r=.ret (.lit (.int .i64 (cmpM a b))) ⟨.fn g,n⟩:=by
 have hla:=@lenV Tryz.prog _ _ _ _ _ ha
 have hlb:=@lenV Tryz.prog _ _ _ _ _ hb
 have HA:=Hide.mk ha
 have HB:=Hide.mk hb
 clear ha hb
 obtain ⟨ret,hret⟩ : ∃ c,c=cmpM a b:=⟨_,rfl⟩
 rw [← hret]
 unfold cmpM at hret
 by_cases t1:a.length < b.length
 ·have t1I:(a.length:Int) < (b.length:Int):=by omega
  have t0I:¬((a.length:Int)=(b.length:Int)):=by omega
  have hr:ret = -1:=by rw [hret,if_pos t1]
  clear hret
  refine WC.enterP (noO_ok _ _) hG pl61 Tryz.func61 rfl (by decide +kernel) (Nat.le_of_ble_eq_true (by kernel_rfl)) ?_
  iterate 6 (all_goals try (first | with_reducible refine splitI (fun h=>?_) (fun h=>?_) | with_reducible refine splitBI (fun h=>?_) (fun h=>?_) | simp (config:={ maxSteps:=1000000 }) (disch:=first | assumption | omega | (simp; done) | fail) [Tryz.results61, *]))
 rw [if_neg t1] at hret
 by_cases t2:b.length < a.length
 ·have t2I:(b.length:Int) < (a.length:Int):=by omega
  have t0I:¬((a.length:Int)=(b.length:Int)):=by omega
  have t1I:¬(a.length:Int) < (b.length:Int):=by omega
  have hr:ret=1:=by rw [hret,if_pos t2]
  clear hret
  refine WC.enterP (noO_ok _ _) hG pl61 Tryz.func61 rfl (by decide +kernel) (Nat.le_of_ble_eq_true (by kernel_rfl)) ?_
  iterate 6 (all_goals try (first | with_reducible refine splitI (fun h=>?_) (fun h=>?_) | with_reducible refine splitBI (fun h=>?_) (fun h=>?_) | simp (config:={ maxSteps:=1000000 }) (disch:=first | assumption | omega | (simp; done) | fail) [Tryz.results61, *]))
 rw [if_neg t2] at hret
 have hL:b.length=a.length:=by omega
 have HL:=Hide.mk hL
 have HRET:=Hide.mk hret
 rw [hL] at hlb
 clear t1 t2 hL hbl hret
 refine WC.enterP (noO_ok _ _) hG pl61 Tryz.func61 rfl (by decide +kernel) (Nat.le_of_ble_eq_true (by kernel_rfl)) ?_
 iterate 6 (all_goals try (first | with_reducible refine splitI (fun h=>?_) (fun h=>?_) | with_reducible refine splitBI (fun h=>?_) (fun h=>?_) | simp (config:={ maxSteps:=1000000 }) (disch:=first | assumption | omega | (simp; done) | fail) [Tryz.results61, *]))
 refine LX.ind (fun m gf H'=>∃ (k:Nat),k≤a.length∧m=a.length - k∧H'=⟨.fn g,n⟩∧Hide (ret=lexC (a.drop k) (b.drop k))∧gf 0=some sa∧gf 1=some sb∧gf 5=some (.lit (.int .i64 k))) (m0:=a.length) ?_ ?_
 ·exact ⟨0,Nat.zero_le _,rfl,rfl,HRET,by simp,by simp,by simp⟩
 rintro m gf H' ⟨k,hk,rfl,rfl,HPRE,w0,w1,w5⟩ ih
 refine LX.roundP (noO_ok _ _) hG pl61 (by decide +kernel) ?_
 by_cases hlt:k < a.length
 ·have hltI:(k:Int) < (a.length:Int):=by omega
  have hltb:k < b.length:=by rw [HL.out]; exact hlt
  obtain ⟨a2,off,ha2,hrow,hia⟩:=SliceV.ia (P:=Tryz.prog) HA.out hlt 1
  obtain ⟨b2,ofb,hb2,hrob,hib⟩:=SliceV.ia (P:=Tryz.prog) HB.out hltb 1
  simp only [Nat.mul_one] at hia hib
  have hca:=hrow.one (k:=k) (s:=1) (by rw [wdC_len]; exact hlt)
  have hcb:=hrob.one (k:=k) (s:=1) (by rw [wdC_len]; exact hltb)
  rw [(List.getElem?_eq_some_iff.1 (wdC_at a k hlt)).2] at hca
  rw [(List.getElem?_eq_some_iff.1 (wdC_at b k hltb)).2] at hcb
  have hp:=HPRE.out
  rw [List.drop_eq_getElem_cons hlt,List.drop_eq_getElem_cons hltb] at hp
  have HP:=Hide.mk hp
  clear hp HPRE hrow hrob ha2 hb2
  generalize a[k]=u at *
  generalize b[k]=v at *
  clear hltb
  by_cases t1:u < v
  ·have hr:ret = -1:=by rw [HP.out]; unfold lexC; rw [if_pos t1]
   iterate 6 (all_goals try (first | with_reducible refine splitI (fun h=>?_) (fun h=>?_) | with_reducible refine splitBI (fun h=>?_) (fun h=>?_) | simp (config:={ maxSteps:=1000000 }) (disch:=first | assumption | omega | (simp; done) | fail) [Tryz.results61, *]))
  by_cases t2:v < u
  ·have hr:ret=1:=by rw [HP.out]; unfold lexC; rw [if_neg t1,if_pos t2]
   iterate 6 (all_goals try (first | with_reducible refine splitI (fun h=>?_) (fun h=>?_) | with_reducible refine splitBI (fun h=>?_) (fun h=>?_) | simp (config:={ maxSteps:=1000000 }) (disch:=first | assumption | omega | (simp; done) | fail) [Tryz.results61, *]))
  ·have HUV:Hide (ret=lexC (a.drop (k+1)) (b.drop (k+1))):=⟨by rw [HP.out]; show (if u < v then -1 else if v < u then 1 else lexC (a.drop (k+1)) (b.drop (k+1)))=_; rw [if_neg t1,if_neg t2]⟩
   iterate 6 (all_goals try (first | with_reducible refine splitI (fun h=>?_) (fun h=>?_) | with_reducible refine splitBI (fun h=>?_) (fun h=>?_) | simp (config:={ maxSteps:=1000000 }) (disch:=first | assumption | omega | (simp; done) | fail) [Tryz.results61, *]))
   exact ih.out (a.length - (k+1)) _ _ (by omega) ⟨k+1,by omega,rfl,rfl,HUV,by simp [*],by simp [*],by simp⟩
 ·have hltI:¬(k:Int) < (a.length:Int):=by omega
  have hk2:k=a.length:=by omega
  have hr:ret=0:=by
   rw [HPRE.out,hk2,List.drop_length,← HL.out,List.drop_length]; rfl
  clear hk2
  iterate 6 (all_goals try (first | with_reducible refine splitI (fun h=>?_) (fun h=>?_) | with_reducible refine splitBI (fun h=>?_) (fun h=>?_) | simp (config:={ maxSteps:=1000000 }) (disch:=first | assumption | omega | (simp; done) | fail) [Tryz.results61, *]))
theorem cmpM_self (a:List Int) : cmpM a a=0:=by
 unfold cmpM
 rw [if_neg (Nat.lt_irrefl _),if_neg (Nat.lt_irrefl _)]
 induction a with
 | nil=>rfl
 | cons x a ih =>
  unfold lexC
  rw [if_neg (Int.lt_irrefl _),if_neg (Int.lt_irrefl _)]; exact ih
theorem L12Same_w {a b:List (List Int)} (hal:a.length≤100000) (hbl:b.length≤100000) (haw:∀ w∈a,w.length≤1000000) (hbw:∀ w∈b,w.length≤1000000) (g:Nat→Option Blk) (n:Nat) (av bv:AV) (ha:ListV g n a av) (hb:ListV g n b bv) :
  WC 0 Tryz.prog 17 [av,bv] ⟨.fn g,n⟩ fun r=>r=.ret (.lit (.bool (decide (a=b)))) ⟨.fn g,n⟩:=by
 have hlena:=@lenV Tryz.prog _ _ _ _ _ ha.choose_spec.1
 have hlenb:=@lenV Tryz.prog _ _ _ _ _ hb.choose_spec.1
 have HA:=Hide.mk ha
 have HB:=Hide.mk hb
 have HC:=Hide.mk fun (x y:List Int) (hx:x∈a) (hy:y∈b) (xv yv:AV) (h1:RepW g n x xv) (h2:RepW g n y yv)=>c12_w x y (haw x hx) (hbw y hy) g n xv yv h1 h2
 clear ha hb haw hbw
 obtain ⟨ret,hret⟩ : ∃ x,x=decide (a=b):=⟨_,rfl⟩
 rw [← hret]
 have HRET:=Hide.mk hret
 clear hret
 by_cases hl:a.length=b.length
 ·have hlI:(a.length:Int)=(b.length:Int):=by omega
  refine WC.enterP (noO_ok _ _) hG pl17 Tryz.func17 rfl (by decide +kernel) (Nat.le_of_ble_eq_true (by kernel_rfl)) ?_
  iterate 8 (all_goals try (first | with_reducible refine splitI (fun h=>?_) (fun h=>?_) | with_reducible refine splitBI (fun h=>?_) (fun h=>?_) | simp (config:={ maxSteps:=1000000 }) (disch:=first | assumption | omega | (simp; done) | fail) [Tryz.results17, *]))
  refine LX.ind (fun m gf H'=>∃ k:Nat,k≤b.length∧m=b.length - k∧H'=⟨.fn g,n⟩∧Hide (a.take k=b.take k)∧gf 0=some av∧gf 1=some bv∧gf 5=some (.lit (.int .i64 k))) (m0:=b.length) ?_ ?_
  ·exact ⟨0,Nat.zero_le _,rfl,rfl,⟨by simp⟩,by simp,by simp,by simp⟩
  rintro m gf H' ⟨k,hk,rfl,rfl,HT,w0,w1,w5⟩ ih
  refine LX.roundP (noO_ok _ _) hG pl17 (by decide +kernel) ?_
  by_cases hlt:k < b.length
  ·have hltI:(k:Int) < (b.length:Int):=by omega
   have hlta:k < a.length:=by omega
   obtain ⟨a2,o2,qa,ha2,hia2,hc2,hqa⟩:=HA.out.at hlta
   obtain ⟨a3,o3,qb,ha3,hia3,hc3,hqb⟩:=HB.out.at hlt
   have HCC:=Hide.mk (HC.out a[k] b[k] (List.getElem_mem hlta) (List.getElem_mem hlt) qa qb hqa hqb)
   have HTA:=Hide.mk (take_snoc hlta)
   have HTB:=Hide.mk (take_snoc hlt)
   clear hqa hqb
   generalize a[k]=x at *
   generalize b[k]=y at *
   iterate 8 (all_goals try (first | with_reducible refine splitI (fun h=>?_) (fun h=>?_) | with_reducible refine splitBI (fun h=>?_) (fun h=>?_) | simp (config:={ maxSteps:=1000000 }) (disch:=first | assumption | omega | (simp; done) | fail) [Tryz.results17, *]))
   refine WC.mono HCC.out ?_
   rintro _ rfl
   by_cases hxy:x=y
   ·subst hxy
    rw [cmpM_self]
    iterate 8 (all_goals try (first | with_reducible refine splitI (fun h=>?_) (fun h=>?_) | with_reducible refine splitBI (fun h=>?_) (fun h=>?_) | simp (config:={ maxSteps:=1000000 }) (disch:=first | assumption | omega | (simp; done) | fail) [Tryz.results17, *]))
    exact ih.out (b.length - (k+1)) _ _ (by omega) ⟨k+1,by omega,rfl,rfl,⟨by rw [HTA.out,HTB.out,HT.out]⟩,by simp [*],by simp [*],by simp⟩
   ·have hr:ret=false:=by
     rw [HRET.out]
     refine decide_eq_false fun h=>hxy ?_
     have h1:=HTA.out
     rw [h,HTB.out,← h,HT.out] at h1
     have:=List.append_cancel_left h1
     simpa using this.symm
    have hcz:¬cmpM x y=0:=fun h=>hxy (cmpM_zero h)
    subst hr
    iterate 8 (all_goals try (first | with_reducible refine splitI (fun h=>?_) (fun h=>?_) | with_reducible refine splitBI (fun h=>?_) (fun h=>?_) | simp (config:={ maxSteps:=1000000 }) (disch:=first | assumption | omega | (simp; done) | fail) [Tryz.results17, *]))
  ·have hltI:¬(k:Int) < (b.length:Int):=by omega
   have hr:ret=true:=by
    rw [HRET.out]
    refine decide_eq_true ?_
    have:=HT.out
    rwa [List.take_of_length_le (by omega),List.take_of_length_le (by omega)] at this
   subst hr
   iterate 8 (all_goals try (first | with_reducible refine splitI (fun h=>?_) (fun h=>?_) | with_reducible refine splitBI (fun h=>?_) (fun h=>?_) | simp (config:={ maxSteps:=1000000 }) (disch:=first | assumption | omega | (simp; done) | fail) [Tryz.results17, *]))
 ·have hlI:¬(a.length:Int)=(b.length:Int):=by omega
  have hr:ret=false:=by rw [HRET.out]; exact decide_eq_false fun h=>hl (by rw [h])
  subst hr
  refine WC.enterP (noO_ok _ _) hG pl17 Tryz.func17 rfl (by decide +kernel) (Nat.le_of_ble_eq_true (by kernel_rfl)) ?_
  iterate 8 (all_goals try (first | with_reducible refine splitI (fun h=>?_) (fun h=>?_) | with_reducible refine splitBI (fun h=>?_) (fun h=>?_) | simp (config:={ maxSteps:=1000000 }) (disch:=first | assumption | omega | (simp; done) | fail) [Tryz.results17, *]))
theorem TSame36_w {I O:Int} {S E:List (List Int)} {T:List (List (Int×Int))} (hSl:S.length≤100000) (hSw:∀ w∈S,w.length≤1000000) (hEl:E.length≤100000) (hEw:∀ w∈E,w.length≤1000000) (hTl:T.length≤100000) (hTw:∀ r∈T,r.length≤1000) (g:Nat→Option Blk) (n:Nat) (s1 s2 e1 e2 t1 t2:AV) (hs1:ListV g n S s1) (hs2:ListV g n S s2) (he1:ListV g n E e1) (he2:ListV g n E e2) (ht1:TreeV g n T t1) (ht2:TreeV g n T t2) :
  WC 0 Tryz.prog 26 [.agg [.lit (.int .i64 I),.lit (.int .i64 O),s1,e1,.lit (.int .i64 I),.lit (.int .i64 O),t1],.agg [.lit (.int .i64 I),.lit (.int .i64 O),s2,e2,.lit (.int .i64 I),.lit (.int .i64 O),t2]] ⟨.fn g,n⟩ fun r=>∃ g' n',r=.ret (.lit (.bool true)) ⟨.fn g',n'⟩∧n≤n'∧∀ b,b < n→g' b=g b:=by
 have ho1:allOne [.lit (.int .i64 I),.lit (.int .i64 O),s1,e1,.lit (.int .i64 I),.lit (.int .i64 O),t1]=true:=by simp [hs1.choose_spec.1.one,he1.choose_spec.1.one,ht1.choose_spec.1.one]
 have ho2:allOne [.lit (.int .i64 I),.lit (.int .i64 O),s2,e2,.lit (.int .i64 I),.lit (.int .i64 O),t2]=true:=by simp [hs2.choose_spec.1.one,he2.choose_spec.1.one,ht2.choose_spec.1.one]
 have HS:=Hide.mk fun (gX:Nat→Option Blk) (hX:∀ b,b < n→gX b=g b)=>L12Same_w hSl hSl hSw hSw gX (n+1+1) s1 s2 (hs1.mono (by omega) hX) (hs2.mono (by omega) hX)
 have HE:=Hide.mk fun (gX:Nat→Option Blk) (hX:∀ b,b < n→gX b=g b)=>L12Same_w hEl hEl hEw hEw gX (n+1+1) e1 e2 (he1.mono (by omega) hX) (he2.mono (by omega) hX)
 have HT:=Hide.mk fun (gX:Nat→Option Blk) (hX:∀ b,b < n→gX b=g b)=>TSame_w (I:=I) (O:=O) hTl hTw gX (n+1+1) t1 t2 (ht1.mono (by omega) hX) (ht2.mono (by omega) hX)
 simp only [decide_true] at HS HE
 clear hs1 hs2 he1 he2 ht1 ht2 hSw hEw hTw
 refine WC.enterP (noO_ok _ _) hG [] Tryz.func26 rfl (by decide +kernel) (Nat.le_of_ble_eq_true (by kernel_rfl)) ?_
 iterate 8 (all_goals try (first | with_reducible refine splitI (fun h=>?_) (fun h=>?_) | with_reducible refine splitBI (fun h=>?_) (fun h=>?_) | simp (config:={ maxSteps:=1000000 }) (disch:=first | assumption | omega | (simp; done) | fail) [Tryz.results26, *]))
 refine WC.mono (HS.out _ fun b hb=>by simp (disch:=omega) only [gput_lt]) ?_
 rintro _ rfl
 iterate 8 (all_goals try (first | with_reducible refine splitI (fun h=>?_) (fun h=>?_) | with_reducible refine splitBI (fun h=>?_) (fun h=>?_) | simp (config:={ maxSteps:=1000000 }) (disch:=first | assumption | omega | (simp; done) | fail) [Tryz.results26, *]))
 refine WC.mono (HE.out _ fun b hb=>by simp (disch:=omega) only [gput_lt]) ?_
 rintro _ rfl
 iterate 8 (all_goals try (first | with_reducible refine splitI (fun h=>?_) (fun h=>?_) | with_reducible refine splitBI (fun h=>?_) (fun h=>?_) | simp (config:={ maxSteps:=1000000 }) (disch:=first | assumption | omega | (simp; done) | fail) [Tryz.results26, *]))
 refine WC.mono (HT.out _ fun b hb=>by simp (disch:=omega) only [gput_lt]) ?_
 rintro _ ⟨g2,rfl,hg2⟩
 have HG2:=Hide.mk hg2
 clear hg2
 iterate 8 (all_goals try (first | with_reducible refine splitI (fun h=>?_) (fun h=>?_) | with_reducible refine splitBI (fun h=>?_) (fun h=>?_) | simp (config:={ maxSteps:=1000000 }) (disch:=first | assumption | omega | (simp; done) | fail) [Tryz.results26, *]))
 exact ⟨_,_,⟨rfl,rfl⟩,by omega,fun b hb=>(HG2.out b (by omega)).trans (by simp (disch:=omega) only [gput_lt])⟩
end Go.Ai
end
