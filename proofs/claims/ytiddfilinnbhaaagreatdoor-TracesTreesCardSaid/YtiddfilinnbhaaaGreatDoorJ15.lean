/- A small verified interpreter over names, its proofs, and what was proved with it. No condition. -/
import Derived.Test.YtiddfilinnbhaaaGreatDoorJ14
set_option linter.all false
set_option linter.deprecated false
section
namespace Go.Ai
open Go.Proofs
set_option maxRecDepth 10000
set_option maxHeartbeats 40000000
theorem TreeW.keep {g g' : Nat→Option Blk} {n n' : Nat} {T:List (List (Int×Int))} {sv:AV} (h:TreeW g n T sv) (hn:n≤n') (hg:∀ b,b < n→g' b=g b) : TreeW g' n' T sv:=h.mono hn hg
theorem rCheckTree_w (I O:Int) (T:List (List (Int×Int))) (g:Nat→Option Blk) (n:Nat) (sv:AV) (hT:TreeW g n T sv) :
  WC 3 Tryz.prog 38 [.agg [.lit (.int .i64 I),.lit (.int .i64 O),sv]] ⟨.fn g,n⟩ fun r=>r=.ret (.lit (.int .i64 (treeErr I O T))) ⟨.fn g,n⟩:=by
 refine WC.drop1 rfl ?_
 obtain ⟨svs,hsv,hr⟩:=hT.ex
 have hl:=hT.len
 have hlen:=@lenV Tryz.prog _ _ _ _ _ hsv
 have h1s:=hsv.one
 have hone:allOne [.lit (.int .i64 I),.lit (.int .i64 O),sv]=true:=by simp [h1s]
 have HS:=Hide.mk hsv
 have HR:=Hide.mk hr
 have HT:=Hide.mk hT
 clear hsv hr hT
 obtain ⟨ret,hret⟩ : ∃ b,b=treeErr I O T:=⟨_,rfl⟩
 rw [← hret]
 rw [treeErr_eq] at hret
 unfold rTreeErr at hret
 by_cases t1:I > 16
 ·have hr:ret=3:=by rw [hret,if_pos (.inl t1)]
  clear hret
  refine WC.enterP (noO_ok _ _) hG pl38 Tryz.func38 rfl (by decide +kernel) (Nat.le_of_ble_eq_true (by kernel_rfl)) ?_
  iterate 8 (all_goals try (first | with_reducible refine splitI (fun h=>?_) (fun h=>?_) | with_reducible refine splitBI (fun h=>?_) (fun h=>?_) | simp (config:={ maxSteps:=1000000 }) (disch:=first | assumption | omega | (simp; done) | fail) [Tryz.results38, *]))
  all_goals exact ⟨Nat.le_succ n,fun b hb=>gput_lt hb⟩
 by_cases t2:O > 16
 ·have hr:ret=3:=by rw [hret,if_pos (.inr (.inl t2))]
  clear hret
  refine WC.enterP (noO_ok _ _) hG pl38 Tryz.func38 rfl (by decide +kernel) (Nat.le_of_ble_eq_true (by kernel_rfl)) ?_
  iterate 8 (all_goals try (first | with_reducible refine splitI (fun h=>?_) (fun h=>?_) | with_reducible refine splitBI (fun h=>?_) (fun h=>?_) | simp (config:={ maxSteps:=1000000 }) (disch:=first | assumption | omega | (simp; done) | fail) [Tryz.results38, *]))
  all_goals exact ⟨Nat.le_succ n,fun b hb=>gput_lt hb⟩
 by_cases t3:T.length > 65537
 ·have hr:ret=3:=by rw [hret,if_pos (.inr (.inr t3))]
  have t3I:65537 < (T.length:Int):=by omega
  clear hret
  refine WC.enterP (noO_ok _ _) hG pl38 Tryz.func38 rfl (by decide +kernel) (Nat.le_of_ble_eq_true (by kernel_rfl)) ?_
  iterate 8 (all_goals try (first | with_reducible refine splitI (fun h=>?_) (fun h=>?_) | with_reducible refine splitBI (fun h=>?_) (fun h=>?_) | simp (config:={ maxSteps:=1000000 }) (disch:=first | assumption | omega | (simp; done) | fail) [Tryz.results38, *]))
  all_goals exact ⟨Nat.le_succ n,fun b hb=>gput_lt hb⟩
 have t3I:¬65537 < (T.length:Int):=by omega
 rw [if_neg (by omega)] at hret
 by_cases t4:I < 1
 ·have hr:ret=1:=by rw [hret,if_pos (.inl t4)]
  clear hret
  refine WC.enterP (noO_ok _ _) hG pl38 Tryz.func38 rfl (by decide +kernel) (Nat.le_of_ble_eq_true (by kernel_rfl)) ?_
  iterate 8 (all_goals try (first | with_reducible refine splitI (fun h=>?_) (fun h=>?_) | with_reducible refine splitBI (fun h=>?_) (fun h=>?_) | simp (config:={ maxSteps:=1000000 }) (disch:=first | assumption | omega | (simp; done) | fail) [Tryz.results38, *]))
  all_goals exact ⟨Nat.le_succ n,fun b hb=>gput_lt hb⟩
 by_cases t5:O < 1
 ·have hr:ret=1:=by rw [hret,if_pos (.inr (.inl t5))]
  clear hret
  refine WC.enterP (noO_ok _ _) hG pl38 Tryz.func38 rfl (by decide +kernel) (Nat.le_of_ble_eq_true (by kernel_rfl)) ?_
  iterate 8 (all_goals try (first | with_reducible refine splitI (fun h=>?_) (fun h=>?_) | with_reducible refine splitBI (fun h=>?_) (fun h=>?_) | simp (config:={ maxSteps:=1000000 }) (disch:=first | assumption | omega | (simp; done) | fail) [Tryz.results38, *]))
  all_goals exact ⟨Nat.le_succ n,fun b hb=>gput_lt hb⟩
 by_cases t6:T.length < 1
 ·have hr:ret=1:=by rw [hret,if_pos (.inr (.inr t6))]
  have t6I:(T.length:Int) < 1:=by omega
  clear hret
  refine WC.enterP (noO_ok _ _) hG pl38 Tryz.func38 rfl (by decide +kernel) (Nat.le_of_ble_eq_true (by kernel_rfl)) ?_
  iterate 8 (all_goals try (first | with_reducible refine splitI (fun h=>?_) (fun h=>?_) | with_reducible refine splitBI (fun h=>?_) (fun h=>?_) | simp (config:={ maxSteps:=1000000 }) (disch:=first | assumption | omega | (simp; done) | fail) [Tryz.results38, *]))
  all_goals exact ⟨Nat.le_succ n,fun b hb=>gput_lt hb⟩
 have t6I:¬(T.length:Int) < 1:=by omega
 rw [if_neg (by omega)] at hret
 have HRET:=Hide.mk hret
 clear hret
 refine WC.enterP (noO_ok _ _) hG pl38 Tryz.func38 rfl (by decide +kernel) (Nat.le_of_ble_eq_true (by kernel_rfl)) ?_
 iterate 8 (all_goals try (first | with_reducible refine splitI (fun h=>?_) (fun h=>?_) | with_reducible refine splitBI (fun h=>?_) (fun h=>?_) | simp (config:={ maxSteps:=1000000 }) (disch:=first | assumption | omega | (simp; done) | fail) [Tryz.results38, *]))
 refine LX.ind (fun m gf H'=>∃ (k:Nat) (gL:Nat→Option Blk) (n' : Nat),k≤T.length∧m=T.length - k∧H'=⟨.fn gL,n'⟩∧n < n'∧Hide (∀ b,b < n→gL b=g b)∧gL n=some (.cells [.lit (.int .i64 I),.lit (.int .i64 O),sv] true 0) ∧
  Hide (∀ r∈T.take k,(r.length:Int)=I∧∀ e∈r,okE T.length O e=true)∧gf 1=some (.ptr n 0)∧gf 3=some (.lit (.int .i64 k))) (m0:=T.length) ?_ ?_
 ·exact ⟨0,_,_,Nat.zero_le _,rfl,rfl,by omega,⟨fun b hb=>gput_lt hb⟩,gput_eq,⟨by simp⟩,by simp,by simp⟩
 rintro m gf H' ⟨k,gL,n',hk,rfl,rfl,hn',HG,hgn,HA,w1,w3⟩ ih
 refine LX.roundP (noO_ok _ _) hG pl38 (by decide +kernel) ?_
 by_cases hlt:k < T.length
 ·have hltI:(k:Int) < (T.length:Int):=by omega
  obtain ⟨q1,hw1,hrep⟩:=HR.out.2 k hlt
  obtain ⟨a2,off,ha2,hrow,hia⟩:=HS.out.ia (P:=Tryz.prog) hlt 1
  simp only [Nat.mul_one] at hia
  have hkl:k < svs.length:=(List.getElem?_eq_some_iff.1 hw1).1
  have HCELL:Hide (∀ gX:Nat→Option Blk,(∀ b,b < n→gX b=g b)→loadB (some (false,1)) (gX a2) (off+k)=some q1):=⟨fun gX hX=>by
   have hcell:=(hrow.mono (hX a2 ha2)).one (k:=k) (s:=1) hkl
   rwa [(List.getElem?_eq_some_iff.1 hw1).2] at hcell⟩
  have hcell:=HCELL.out gL HG.out
  have hlw:=@lenV Tryz.prog _ _ _ _ _ hrep
  have HTT:Hide (T.take (k+1)=T.take k++[T[k]]):=⟨by rw [List.take_succ,List.getElem?_eq_getElem hlt]; rfl⟩
  have HMEM:=Hide.mk (List.getElem_mem hlt)
  have hrl:=HT.out.rows _ HMEM.out
  have HREP:=Hide.mk hrep
  clear hrow hrep hw1 ha2
  generalize T[k]=row at *
  have h1q:oneC q1=true:=HREP.out.one
  by_cases u1:(row.length:Int)=I
  ·subst u1
   iterate 8 (all_goals try (first | with_reducible refine splitI (fun h=>?_) (fun h=>?_) | with_reducible refine splitBI (fun h=>?_) (fun h=>?_) | simp (config:={ maxSteps:=1000000 }) (disch:=first | assumption | omega | (simp; done) | fail) [Tryz.results38, *]))
   refine LX.ind (fun m gf H'=>∃ (i:Nat) (gM:Nat→Option Blk) (n2:Nat),i≤row.length∧m=row.length - i∧H'=⟨.fn gM,n2⟩∧n < n2∧Hide (∀ b,b < n→gM b=g b)∧gM n=some (.cells [.lit (.int .i64 (row.length:Int)),.lit (.int .i64 O),sv] true 0) ∧
    Hide (∀ e∈row.take i,okE T.length O e=true)∧gf 1=some (.ptr n 0)∧gf 3=some (.lit (.int .i64 k))∧gf 4=some (.lit (.int .i64 i))) (m0:=row.length) ?_ ?_
   ·exact ⟨0,gL,n',Nat.zero_le _,rfl,rfl,hn',HG,hgn,⟨by simp⟩,by simp [*],by simp [*],by simp⟩
   clear hcell w1 w3 hgn
   rintro m gf H' ⟨i,gM,n2,hi,rfl,rfl,hn2,HGM,hgMn,HP,x1,x3,x4⟩ ih2
   have hcell:=HCELL.out gM HGM.out
   refine LX.roundP (noO_ok _ _) hG pl38 (by decide +kernel) ?_
   by_cases hlt2:i < row.length
   ·have hlt2I:(i:Int) < (row.length:Int):=by omega
    obtain ⟨a3,of3,ha3,hia3,hc3⟩:=RepE.at HREP.out hlt2
    rw [← HGM.out a3 ha3] at hc3
    have HTK:Hide (row.take (i+1)=row.take i++[row[i]]):=⟨by rw [List.take_succ,List.getElem?_eq_getElem hlt2]; rfl⟩
    have HE:=Hide.mk (List.getElem_mem hlt2)
    generalize row[i]=e at *
    obtain ⟨to,eo⟩:=e
    simp only [edC] at hc3
    by_cases c1:1≤to
    ·have d1:¬to = -1:=by omega
     by_cases c2:to < (T.length:Int)
     ·by_cases c3:0≤eo
      ·by_cases c4:eo < O
       ·have hok2:okE T.length O (to,eo)=true:=by unfold okE; rw [decide_eq_true (by dsimp only; omega:1≤(to,eo).1∧(to,eo).1 < (T.length:Int)∧0≤(to,eo).2∧(to,eo).2 < O),Bool.true_or]
        have HP2:Hide (∀ e∈row.take (i+1),okE T.length O e=true):=⟨fun e he=>by
         rw [HTK.out] at he
         rcases List.mem_append.1 he with h | h
         ·exact HP.out e h
         ·rw [List.mem_singleton.1 h]; exact hok2⟩
        clear hok2
        iterate 8 (all_goals try (first | with_reducible refine splitI (fun h=>?_) (fun h=>?_) | with_reducible refine splitBI (fun h=>?_) (fun h=>?_) | simp (config:={ maxSteps:=1000000 }) (disch:=first | assumption | omega | (simp; done) | fail) [Tryz.results38, *]))
        exact ih2.out (row.length - (i+1)) _ _ (by omega) ⟨i+1,_,_,by omega,rfl,rfl,by omega,⟨fun b hb=>(gput_lt (by omega)).trans (HGM.out b hb)⟩,(gput_lt (by omega)).trans hgMn,HP2,by simp [*],by simp [*],by simp⟩
       ·have hr:ret=1:=by
         rw [HRET.out,if_neg]
         intro h
         rw [Bool.and_eq_true,Bool.and_eq_true] at h
         have h2:=List.all_eq_true.1 h.1.1 row HMEM.out
         rw [Bool.and_eq_true] at h2
         have h3:=List.all_eq_true.1 h2.2 (to,eo) HE.out
         unfold okE at h3
         rcases Bool.or_eq_true_iff.1 h3 with h | h
         ·have h4:=of_decide_eq_true h; dsimp only at h4; omega
         ·have h4:=of_decide_eq_true h; dsimp only at h4; omega
        iterate 8 (all_goals try (first | with_reducible refine splitI (fun h=>?_) (fun h=>?_) | with_reducible refine splitBI (fun h=>?_) (fun h=>?_) | simp (config:={ maxSteps:=1000000 }) (disch:=first | assumption | omega | (simp; done) | fail) [Tryz.results38, *]))
        exact ⟨Nat.le_of_lt (Nat.lt_succ_of_lt hn2),fun b (hb:b < n)=>(gput_lt (by omega)).trans (HGM.out b hb)⟩
      ·have hr:ret=1:=by
        rw [HRET.out,if_neg]
        intro h
        rw [Bool.and_eq_true,Bool.and_eq_true] at h
        have h2:=List.all_eq_true.1 h.1.1 row HMEM.out
        rw [Bool.and_eq_true] at h2
        have h3:=List.all_eq_true.1 h2.2 (to,eo) HE.out
        unfold okE at h3
        rcases Bool.or_eq_true_iff.1 h3 with h | h
        ·have h4:=of_decide_eq_true h; dsimp only at h4; omega
        ·have h4:=of_decide_eq_true h; dsimp only at h4; omega
       iterate 8 (all_goals try (first | with_reducible refine splitI (fun h=>?_) (fun h=>?_) | with_reducible refine splitBI (fun h=>?_) (fun h=>?_) | simp (config:={ maxSteps:=1000000 }) (disch:=first | assumption | omega | (simp; done) | fail) [Tryz.results38, *]))
       exact ⟨Nat.le_of_lt (Nat.lt_succ_of_lt hn2),fun b (hb:b < n)=>(gput_lt (by omega)).trans (HGM.out b hb)⟩
     ·have hr:ret=1:=by
       rw [HRET.out,if_neg]
       intro h
       rw [Bool.and_eq_true,Bool.and_eq_true] at h
       have h2:=List.all_eq_true.1 h.1.1 row HMEM.out
       rw [Bool.and_eq_true] at h2
       have h3:=List.all_eq_true.1 h2.2 (to,eo) HE.out
       unfold okE at h3
       rcases Bool.or_eq_true_iff.1 h3 with h | h
       ·have h4:=of_decide_eq_true h; dsimp only at h4; omega
       ·have h4:=of_decide_eq_true h; dsimp only at h4; omega
      iterate 8 (all_goals try (first | with_reducible refine splitI (fun h=>?_) (fun h=>?_) | with_reducible refine splitBI (fun h=>?_) (fun h=>?_) | simp (config:={ maxSteps:=1000000 }) (disch:=first | assumption | omega | (simp; done) | fail) [Tryz.results38, *]))
      exact ⟨Nat.le_of_lt (Nat.lt_succ_of_lt hn2),fun b (hb:b < n)=>(gput_lt (by omega)).trans (HGM.out b hb)⟩
    ·by_cases d1:to = -1
     ·subst d1
      by_cases d2:eo = -1
      ·subst d2
       have hok2:okE T.length O ((-1:Int),(-1:Int))=true:=by unfold okE; rw [decide_eq_true (by dsimp only; omega:((-1:Int),(-1:Int)).1 = -1∧(((-1:Int),(-1:Int)).2 = -1∨((-1:Int),(-1:Int)).2 = -2)),Bool.or_true]
       have HP2:Hide (∀ e∈row.take (i+1),okE T.length O e=true):=⟨fun e he=>by
        rw [HTK.out] at he
        rcases List.mem_append.1 he with h | h
        ·exact HP.out e h
        ·rw [List.mem_singleton.1 h]; exact hok2⟩
       clear hok2
       iterate 8 (all_goals try (first | with_reducible refine splitI (fun h=>?_) (fun h=>?_) | with_reducible refine splitBI (fun h=>?_) (fun h=>?_) | simp (config:={ maxSteps:=1000000 }) (disch:=first | assumption | omega | (simp; done) | fail) [Tryz.results38, *]))
       exact ih2.out (row.length - (i+1)) _ _ (by omega) ⟨i+1,_,_,by omega,rfl,rfl,by omega,⟨fun b hb=>(gput_lt (by omega)).trans (HGM.out b hb)⟩,(gput_lt (by omega)).trans hgMn,HP2,by simp [*],by simp [*],by simp⟩
      ·by_cases d3:eo = -2
       ·subst d3
        have hok2:okE T.length O ((-1:Int),(-2:Int))=true:=by unfold okE; rw [decide_eq_true (by dsimp only; omega:((-1:Int),(-2:Int)).1 = -1∧(((-1:Int),(-2:Int)).2 = -1∨((-1:Int),(-2:Int)).2 = -2)),Bool.or_true]
        have HP2:Hide (∀ e∈row.take (i+1),okE T.length O e=true):=⟨fun e he=>by
         rw [HTK.out] at he
         rcases List.mem_append.1 he with h | h
         ·exact HP.out e h
         ·rw [List.mem_singleton.1 h]; exact hok2⟩
        clear hok2
        iterate 8 (all_goals try (first | with_reducible refine splitI (fun h=>?_) (fun h=>?_) | with_reducible refine splitBI (fun h=>?_) (fun h=>?_) | simp (config:={ maxSteps:=1000000 }) (disch:=first | assumption | omega | (simp; done) | fail) [Tryz.results38, *]))
        exact ih2.out (row.length - (i+1)) _ _ (by omega) ⟨i+1,_,_,by omega,rfl,rfl,by omega,⟨fun b hb=>(gput_lt (by omega)).trans (HGM.out b hb)⟩,(gput_lt (by omega)).trans hgMn,HP2,by simp [*],by simp [*],by simp⟩
       ·have hr:ret=1:=by
         rw [HRET.out,if_neg]
         intro h
         rw [Bool.and_eq_true,Bool.and_eq_true] at h
         have h2:=List.all_eq_true.1 h.1.1 row HMEM.out
         rw [Bool.and_eq_true] at h2
         have h3:=List.all_eq_true.1 h2.2 ((-1:Int),eo) HE.out
         unfold okE at h3
         rcases Bool.or_eq_true_iff.1 h3 with h | h
         ·have h4:=of_decide_eq_true h; dsimp only at h4; omega
         ·have h4:=of_decide_eq_true h; dsimp only at h4; omega
        iterate 8 (all_goals try (first | with_reducible refine splitI (fun h=>?_) (fun h=>?_) | with_reducible refine splitBI (fun h=>?_) (fun h=>?_) | simp (config:={ maxSteps:=1000000 }) (disch:=first | assumption | omega | (simp; done) | fail) [Tryz.results38, *]))
        exact ⟨Nat.le_of_lt (Nat.lt_succ_of_lt hn2),fun b (hb:b < n)=>(gput_lt (by omega)).trans (HGM.out b hb)⟩
     ·have hr:ret=1:=by
       rw [HRET.out,if_neg]
       intro h
       rw [Bool.and_eq_true,Bool.and_eq_true] at h
       have h2:=List.all_eq_true.1 h.1.1 row HMEM.out
       rw [Bool.and_eq_true] at h2
       have h3:=List.all_eq_true.1 h2.2 (to,eo) HE.out
       unfold okE at h3
       rcases Bool.or_eq_true_iff.1 h3 with h | h
       ·have h4:=of_decide_eq_true h; dsimp only at h4; omega
       ·have h4:=of_decide_eq_true h; dsimp only at h4; omega
      iterate 8 (all_goals try (first | with_reducible refine splitI (fun h=>?_) (fun h=>?_) | with_reducible refine splitBI (fun h=>?_) (fun h=>?_) | simp (config:={ maxSteps:=1000000 }) (disch:=first | assumption | omega | (simp; done) | fail) [Tryz.results38, *]))
      exact ⟨Nat.le_of_lt (Nat.lt_succ_of_lt hn2),fun b (hb:b < n)=>(gput_lt (by omega)).trans (HGM.out b hb)⟩
   ·have hlt2I:¬(i:Int) < (row.length:Int):=by omega
    have hi2:i=row.length:=by omega
    have HA2:Hide (∀ r∈T.take (k+1),(r.length:Int)=(row.length:Int)∧∀ e∈r,okE T.length O e=true):=⟨fun r hr=>by
     rw [HTT.out] at hr
     rcases List.mem_append.1 hr with h | h
     ·exact HA.out r h
     ·rw [List.mem_singleton.1 h]
      have:=HP.out
      rw [hi2,List.take_length] at this
      exact ⟨rfl,this⟩⟩
    clear hi2
    iterate 8 (all_goals try (first | with_reducible refine splitI (fun h=>?_) (fun h=>?_) | with_reducible refine splitBI (fun h=>?_) (fun h=>?_) | simp (config:={ maxSteps:=1000000 }) (disch:=first | assumption | omega | (simp; done) | fail) [Tryz.results38, *]))
    exact ih.out (T.length - (k+1)) _ _ (by omega) ⟨k+1,gM,n2,by omega,rfl,rfl,hn2,HGM,hgMn,HA2,by simp [*],by simp⟩
  ·have hr:ret=1:=by
    rw [HRET.out,if_neg]
    intro h
    rw [Bool.and_eq_true,Bool.and_eq_true] at h
    have h2:=List.all_eq_true.1 h.1.1 row HMEM.out
    rw [Bool.and_eq_true] at h2
    exact u1 (of_decide_eq_true h2.1)
   iterate 8 (all_goals try (first | with_reducible refine splitI (fun h=>?_) (fun h=>?_) | with_reducible refine splitBI (fun h=>?_) (fun h=>?_) | simp (config:={ maxSteps:=1000000 }) (disch:=first | assumption | omega | (simp; done) | fail) [Tryz.results38, *]))
   exact ⟨Nat.le_of_lt hn',fun b hb=>HG.out b hb⟩
 ·have hltI:¬(k:Int) < (T.length:Int):=by omega
  have hk2:k=T.length:=by omega
  have hall:∀ r∈T,(r.length:Int)=I∧∀ e∈r,okE T.length O e=true:=by
   have:=HA.out
   rw [hk2,List.take_length] at this
   exact this
  have hall2:(T.all fun r=>decide ((r.length:Int)=I) && r.all (okE T.length O))=true:=List.all_eq_true.2 fun r hr=>by
   rw [decide_eq_true (hall r hr).1,Bool.true_and]
   exact List.all_eq_true.2 (hall r hr).2
  have HRET2:Hide (ret=if (decide ((rWords T).length=T.length) && incW (rWords T))=true then 0 else 1):=⟨by rw [HRET.out,hall2,Bool.true_and]⟩
  have HWD:=Hide.mk (rWords_w I O T hall (by omega) gL n' sv (HT.out.keep (Nat.le_of_lt hn') HG.out))
  clear hall hall2 hk2 HA HRET
  iterate 8 (all_goals try (first | with_reducible refine splitI (fun h=>?_) (fun h=>?_) | with_reducible refine splitBI (fun h=>?_) (fun h=>?_) | simp (config:={ maxSteps:=1000000 }) (disch:=first | assumption | omega | (simp; done) | fail) [Tryz.results38, *]))
  refine WC.mono HWD.out ?_
  rintro _ ⟨g2,n2,wv,rfl,hn2,hg2,hWL⟩
  have hg2n:g2 n=some (.cells [.lit (.int .i64 I),.lit (.int .i64 O),sv] true 0):=(hg2 n hn').trans hgn
  have HG2:Hide (∀ b,b < n→g2 b=g b):=⟨fun b hb=>(hg2 b (by omega)).trans (HG.out b hb)⟩
  obtain ⟨wvs,hwv,hwr,hwc⟩:=hWL.ex
  have HWL:=Hide.mk hWL
  have HWV:=Hide.mk hwv
  have HWR:=Hide.mk hwr
  have h1w:=hwv.one
  have hlen2:=@lenV Tryz.prog _ _ _ _ _ hwv
  clear hg2 hWL hwr hwc hwv
  generalize rWords T=ws at *
  by_cases hwl:ws.length=T.length
  ·rw [hwl] at hlen2
   have HRET3:Hide (ret=if incW ws=true then 0 else 1):=⟨by rw [HRET2.out,decide_eq_true hwl,Bool.true_and]⟩
   have HWLE:=Hide.mk hwl
   clear hwl
   iterate 8 (all_goals try (first | with_reducible refine splitI (fun h=>?_) (fun h=>?_) | with_reducible refine splitBI (fun h=>?_) (fun h=>?_) | simp (config:={ maxSteps:=1000000 }) (disch:=first | assumption | omega | (simp; done) | fail) [Tryz.results38, *]))
   refine LX.ind (fun m gf H'=>∃ (k:Nat),k+1≤T.length∧m=T.length - k∧H'=⟨.fn g2,n2⟩∧Hide (∀ j,j < k→cmpM (ws.getD j []) (ws.getD (j+1) []) < 0)∧gf 1=some (.ptr n 0)∧gf 7=some wv∧gf 8=some (.lit (.int .i64 ((k:Int)+1)))) (m0:=T.length) ?_ ?_
   ·exact ⟨0,by omega,rfl,rfl,⟨fun j hj=>by omega⟩,by simp [*],by simp [*],by simp⟩
   clear w1 w3
   rintro m gf H' ⟨k,hk,rfl,rfl,HP,w1,w7,w8⟩ ih3
   refine LX.roundP (noO_ok _ _) hG pl38 (by decide +kernel) ?_
   by_cases hlt:k+1 < T.length
   ·have hltI:(k:Int)+1 < (T.length:Int):=by omega
    have hkw:k < ws.length:=by rw [HWLE.out]; omega
    have hkw2:k+1 < ws.length:=by rw [HWLE.out]; omega
    obtain ⟨q1,hw1,hrep⟩:=HWR.out.2 k hkw
    obtain ⟨q2,hw2,hrep2⟩:=HWR.out.2 (k+1) hkw2
    obtain ⟨a2,off,ha2,hrow,hia⟩:=HWV.out.ia (P:=Tryz.prog) hkw 1
    obtain ⟨a3,of3,ha3,hrow3,hia3⟩:=HWV.out.ia (P:=Tryz.prog) hkw2 1
    simp only [Nat.mul_one] at hia hia3
    have hcell:=hrow.one (k:=k) (s:=1) (List.getElem?_eq_some_iff.1 hw1).1
    rw [(List.getElem?_eq_some_iff.1 hw1).2] at hcell
    have hcell3:=hrow3.one (k:=k+1) (s:=1) (List.getElem?_eq_some_iff.1 hw2).1
    rw [(List.getElem?_eq_some_iff.1 hw2).2] at hcell3
    have hia4:∀ {H:Mem} {ev:Ev} {o:Oper} {t:TypeId},iaS Tryz.prog H ev o t (some (none,1)) (some wv) (some (.lit (.int .i64 ((k:Int)+1))))=.val (.ptr a3 (of3+(k+1))) H:=fun {H ev o t}=>hia3
    have HCMP:=Hide.mk (rcmp2_w ws[k] ws[k+1] (HWL.out.words _ (List.getElem_mem hkw)) (HWL.out.words _ (List.getElem_mem hkw2)) g2 n2 q1 q2 hrep hrep2)
    have HD:Hide (cmpM (ws.getD k []) (ws.getD (k+1) [])=cmpM ws[k] ws[k+1]):=⟨by rw [List.getD_eq_getElem?_getD,List.getElem?_eq_getElem hkw,List.getD_eq_getElem?_getD,List.getElem?_eq_getElem hkw2]; rfl⟩
    clear hrow hrow3 hrep hrep2 hw1 hw2 ha2 ha3 hia3
    generalize cmpM ws[k] ws[k+1]=z at *
    clear hkw hkw2
    iterate 8 (all_goals try (first | with_reducible refine splitI (fun h=>?_) (fun h=>?_) | with_reducible refine splitBI (fun h=>?_) (fun h=>?_) | simp (config:={ maxSteps:=1000000 }) (disch:=first | assumption | omega | (simp; done) | fail) [Tryz.results38, *]))
    refine WC.mono HCMP.out ?_
    rintro _ rfl
    by_cases hz:0≤z
    ·have hr:ret=1:=by
      rw [HRET3.out,if_neg]
      intro h
      have h2:=List.all_eq_true.1 h k (by rw [HWLE.out]; simp; omega)
      have h3:=of_decide_eq_true h2
      rw [HD.out] at h3
      omega
     iterate 8 (all_goals try (first | with_reducible refine splitI (fun h=>?_) (fun h=>?_) | with_reducible refine splitBI (fun h=>?_) (fun h=>?_) | simp (config:={ maxSteps:=1000000 }) (disch:=first | assumption | omega | (simp; done) | fail) [Tryz.results38, *]))
     exact ⟨by show n≤n2; omega,fun b hb=>HG2.out b hb⟩
    ·have HP2:Hide (∀ j,j < k+1→cmpM (ws.getD j []) (ws.getD (j+1) []) < 0):=⟨fun j hj=>by
      by_cases e:j=k
      ·subst e; rw [HD.out]; omega
      ·exact HP.out j (by omega)⟩
     iterate 8 (all_goals try (first | with_reducible refine splitI (fun h=>?_) (fun h=>?_) | with_reducible refine splitBI (fun h=>?_) (fun h=>?_) | simp (config:={ maxSteps:=1000000 }) (disch:=first | assumption | omega | (simp; done) | fail) [Tryz.results38, *]))
     exact ih3.out (T.length - (k+1)) _ _ (by omega) ⟨k+1,by omega,rfl,rfl,HP2,by simp [*],by simp [*],by simp⟩
   ·have hltI:¬(k:Int)+1 < (T.length:Int):=by omega
    have hr:ret=0:=by
     rw [HRET3.out,if_pos]
     refine List.all_eq_true.2 fun j hj=>?_
     have:j < ws.length - 1:=by simpa using hj
     rw [HWLE.out] at this
     exact decide_eq_true (HP.out j (by omega))
    iterate 8 (all_goals try (first | with_reducible refine splitI (fun h=>?_) (fun h=>?_) | with_reducible refine splitBI (fun h=>?_) (fun h=>?_) | simp (config:={ maxSteps:=1000000 }) (disch:=first | assumption | omega | (simp; done) | fail) [Tryz.results38, *]))
    exact ⟨by show n≤n2; omega,fun b hb=>HG2.out b hb⟩
  ·have hwlI:¬(ws.length:Int)=(T.length:Int):=by omega
   have hr:ret=1:=by
    rw [HRET2.out,if_neg]
    intro h
    rw [Bool.and_eq_true] at h
    exact hwl (of_decide_eq_true h.1)
   iterate 8 (all_goals try (first | with_reducible refine splitI (fun h=>?_) (fun h=>?_) | with_reducible refine splitBI (fun h=>?_) (fun h=>?_) | simp (config:={ maxSteps:=1000000 }) (disch:=first | assumption | omega | (simp; done) | fail) [Tryz.results38, *]))
   exact ⟨by show n≤n2; omega,fun b hb=>HG2.out b hb⟩
end Go.Ai
end
