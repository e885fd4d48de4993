/- A small verified interpreter over names, its proofs, and what was proved with it. No condition. -/
import Derived.Test.YtpimmmnkcgnjjaaGreatC08
import Derived.Test.YtpimmmnkcgnjjaaGreatC06
set_option linter.all false
set_option linter.deprecated false
section
namespace Go.Ai
open Go.Proofs
set_option maxRecDepth 10000
set_option maxHeartbeats 40000000
theorem rcmp2_w (a b:List Int) (hal:a.length≤1000000) (hbl:b.length≤1000000) (g:Nat→Option Blk) (n:Nat) (sa sb:AV) (ha:RepW g n a sa) (hb:RepW g n b sb) :
  WC 0 Tryz.prog 80 [sa,sb] ⟨.fn g,n⟩ fun r=>r=.ret (.lit (.int .i64 (cmpM a b))) ⟨.fn g,n⟩:=by
 have hla:=@lenV Tryz.prog _ _ _ _ _ ha
 have hlb:=@lenV Tryz.prog _ _ _ _ _ hb
 have HA:=Hide.mk ha
 have HB:=Hide.mk hb
 clear ha hb
 obtain ⟨ret,hret⟩ : ∃ c,c=cmpM a b:=⟨_,rfl⟩
 rw [← hret]
 unfold cmpM at hret
 by_cases t1:a.length < b.length
 ·have t1I:(a.length:Int) < (b.length:Int):=by omega
  have hr:ret = -1:=by rw [hret,if_pos t1]
  clear hret
  refine WC.enterP (noO_ok _ _) hG pl80 Tryz.func80 rfl (by decide +kernel) (Nat.le_of_ble_eq_true (by kernel_rfl)) ?_
  iterate 6 (all_goals try (first | with_reducible refine splitI (fun h=>?_) (fun h=>?_) | with_reducible refine splitBI (fun h=>?_) (fun h=>?_) | simp (config:={ maxSteps:=1000000 }) (disch:=first | assumption | omega | (simp; done) | fail) [Tryz.results80, *]))
 rw [if_neg t1] at hret
 by_cases t2:b.length < a.length
 ·have t2I:(b.length:Int) < (a.length:Int):=by omega
  have t1I:¬(a.length:Int) < (b.length:Int):=by omega
  have hr:ret=1:=by rw [hret,if_pos t2]
  clear hret
  refine WC.enterP (noO_ok _ _) hG pl80 Tryz.func80 rfl (by decide +kernel) (Nat.le_of_ble_eq_true (by kernel_rfl)) ?_
  iterate 6 (all_goals try (first | with_reducible refine splitI (fun h=>?_) (fun h=>?_) | with_reducible refine splitBI (fun h=>?_) (fun h=>?_) | simp (config:={ maxSteps:=1000000 }) (disch:=first | assumption | omega | (simp; done) | fail) [Tryz.results80, *]))
 rw [if_neg t2] at hret
 have hL:b.length=a.length:=by omega
 have HL:=Hide.mk hL
 have HRET:=Hide.mk hret
 rw [hL] at hlb
 clear t1 t2 hL hbl hret
 refine WC.enterP (noO_ok _ _) hG pl80 Tryz.func80 rfl (by decide +kernel) (Nat.le_of_ble_eq_true (by kernel_rfl)) ?_
 iterate 6 (all_goals try (first | with_reducible refine splitI (fun h=>?_) (fun h=>?_) | with_reducible refine splitBI (fun h=>?_) (fun h=>?_) | simp (config:={ maxSteps:=1000000 }) (disch:=first | assumption | omega | (simp; done) | fail) [Tryz.results80, *]))
 refine LX.ind (fun m gf H'=>∃ (k:Nat),k≤a.length∧m=a.length - k∧H'=⟨.fn g,n⟩∧Hide (ret=lexC (a.drop k) (b.drop k))∧gf 0=some sa∧gf 1=some sb∧gf 5=some (.lit (.int .i64 k))) (m0:=a.length) ?_ ?_
 ·exact ⟨0,Nat.zero_le _,rfl,rfl,HRET,by simp,by simp,by simp⟩
 rintro m gf H' ⟨k,hk,rfl,rfl,HPRE,w0,w1,w5⟩ ih
 refine LX.roundP (noO_ok _ _) hG pl80 (by decide +kernel) ?_
 by_cases hlt:k < a.length
 ·have hltI:(k:Int) < (a.length:Int):=by omega
  have hltb:k < b.length:=by rw [HL.out]; exact hlt
  obtain ⟨a2,off,ha2,hrow,hia⟩:=SliceV.ia (P:=Tryz.prog) HA.out hlt 1
  obtain ⟨b2,ofb,hb2,hrob,hib⟩:=SliceV.ia (P:=Tryz.prog) HB.out hltb 1
  simp only [Nat.mul_one] at hia hib
  have hca:=hrow.one (k:=k) (s:=1) (by rw [wdC_len]; exact hlt)
  have hcb:=hrob.one (k:=k) (s:=1) (by rw [wdC_len]; exact hltb)
  rw [(List.getElem?_eq_some_iff.1 (wdC_at a k hlt)).2] at hca
  rw [(List.getElem?_eq_some_iff.1 (wdC_at b k hltb)).2] at hcb
  have hp:=HPRE.out
  rw [List.drop_eq_getElem_cons hlt,List.drop_eq_getElem_cons hltb] at hp
  have HP:=Hide.mk hp
  clear hp HPRE hrow hrob ha2 hb2
  generalize a[k]=u at *
  generalize b[k]=v at *
  clear hltb
  by_cases t1:u < v
  ·have hr:ret = -1:=by rw [HP.out]; unfold lexC; rw [if_pos t1]
   iterate 6 (all_goals try (first | with_reducible refine splitI (fun h=>?_) (fun h=>?_) | with_reducible refine splitBI (fun h=>?_) (fun h=>?_) | simp (config:={ maxSteps:=1000000 }) (disch:=first | assumption | omega | (simp; done) | fail) [Tryz.results80, *]))
  by_cases t2:v < u
  ·have hr:ret=1:=by rw [HP.out]; unfold lexC; rw [if_neg t1,if_pos t2]
   iterate 6 (all_goals try (first | with_reducible refine splitI (fun h=>?_) (fun h=>?_) | with_reducible refine splitBI (fun h=>?_) (fun h=>?_) | simp (config:={ maxSteps:=1000000 }) (disch:=first | assumption | omega | (simp; done) | fail) [Tryz.results80, *]))
  ·have HUV:Hide (ret=lexC (a.drop (k+1)) (b.drop (k+1))):=⟨by rw [HP.out]; show (if u < v then -1 else if v < u then 1 else lexC (a.drop (k+1)) (b.drop (k+1)))=_; rw [if_neg t1,if_neg t2]⟩
   iterate 6 (all_goals try (first | with_reducible refine splitI (fun h=>?_) (fun h=>?_) | with_reducible refine splitBI (fun h=>?_) (fun h=>?_) | simp (config:={ maxSteps:=1000000 }) (disch:=first | assumption | omega | (simp; done) | fail) [Tryz.results80, *]))
   exact ih.out (a.length - (k+1)) _ _ (by omega) ⟨k+1,by omega,rfl,rfl,HUV,by simp [*],by simp [*],by simp⟩
 ·have hltI:¬(k:Int) < (a.length:Int):=by omega
  have hk2:k=a.length:=by omega
  have hr:ret=0:=by
   rw [HPRE.out,hk2,List.drop_length,← HL.out,List.drop_length]; rfl
  clear hk2
  iterate 6 (all_goals try (first | with_reducible refine splitI (fun h=>?_) (fun h=>?_) | with_reducible refine splitBI (fun h=>?_) (fun h=>?_) | simp (config:={ maxSteps:=1000000 }) (disch:=first | assumption | omega | (simp; done) | fail) [Tryz.results80, *]))
theorem mk22:mkI Tryz.prog 22=some (.lit (.slice none 0 0)):=by kernel_rfl
theorem mk160:mkI Tryz.prog 160=some (.lit (.bool false)):=by kernel_rfl
theorem stS_at {H:Mem} {l:List AV} {z:Nat} {ag:Bool} {a off:Nat} {v:AV} (hv:oneC v=true) (h:off < l.length) :
  stS (some (ag,1)) (some (.cells l true z)) H a off [v]=.skip (H.upd a (.cells (l.set off v) true z)):=by
 refine (stS_cells (size:=1) rfl (by simp [hv]) h).trans ?_
 have e:putL l off [v]=l.set off v:=by
  unfold putL
  rw [List.set_eq_take_append_cons_drop,if_pos h]
  simp
 rw [e]
theorem stS_bool {H:Mem} {l:List AV} {z:Nat} {ag:Bool} {a off:Nat} {b:Bool} (h:off < l.length) :
  stS (some (ag,1)) (some (.cells l true z)) H a off [.lit (.bool b)]=.skip (H.upd a (.cells (l.set off (.lit (.bool b))) true z)):=stS_at rfl h
theorem stS_slq {H:Mem} {l:List AV} {z:Nat} {ag:Bool} {a off b o m c:Nat} (h:off < l.length) :
  stS (some (ag,1)) (some (.cells l true z)) H a off [.slq b o m c]=.skip (H.upd a (.cells (l.set off (.slq b o m c)) true z)):=stS_at rfl h
end Go.Ai
end
