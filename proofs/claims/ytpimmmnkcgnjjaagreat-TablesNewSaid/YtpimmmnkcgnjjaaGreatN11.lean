/- A small verified interpreter over names, its proofs, and what was proved with it. No condition. -/
import Derived.Test.YtpimmmnkcgnjjaaGreatN10
import Derived.Test.YtpimmmnkcgnjjaaGreatN09
import Derived.Test.YtpimmmnkcgnjjaaGreatN06
set_option linter.all false
set_option linter.deprecated false
section
namespace Go.Ai
open Go.Proofs
set_option maxRecDepth 10000
set_option maxHeartbeats 40000000
def edC (e:Int×Int) : List AV:=[.lit (.int .i64 e.1),.lit (.int .i64 e.2)]
def RepE (g:Nat→Option Blk) (n:Nat) (r:List (Int×Int)) (sv:AV) : Prop:=SliceV g n sv r.length (r.flatMap edC)
def RowsK (g:Nat→Option Blk) (n:Nat) (T:List (List (Int×Int))) (svs:List AV) : Prop:=svs.length=T.length∧∀ (k:Nat) (h:k < T.length),∃ sv,svs[k]?=some sv∧RepE g n T[k] sv
theorem RowsK.ext {g g' : Nat→Option Blk} {b b' : Nat} {l:List (List (Int×Int))} {svs:List AV} (h:RowsK g b l svs) (hb:b≤b') (hg:∀ a x,a < b→g a=some x→g' a=some x) : RowsK g' b' l svs :=
 ⟨h.1,fun k hk=>let ⟨sv,h1,h2⟩:=h.2 k hk; ⟨sv,h1,SliceV.ext hb hg h2⟩⟩
theorem RepE.at {g:Nat→Option Blk} {n:Nat} {r:List (Int×Int)} {sv:AV} (h:RepE g n r sv) {i:Nat} (hi:i < r.length) :
  ∃ a off,a < n∧(∀ {H:Mem} {ev:Ev} {o:Oper} {t:TypeId},iaS Tryz.prog H ev o t (some (none,2)) (some sv) (some (.lit (.int .i64 (i:Int))))=.val (.ptr a (off+i * 2)) H)∧loadB (some (true,2)) (g a) (off+i * 2)=some (.agg (edC r[i])):=by
 obtain ⟨a,off,ha,hrow,hia⟩:=SliceV.ia (P:=Tryz.prog) h hi 2
 refine ⟨a,off,ha,hia,?_⟩
 have:=hrow.agg (k:=i * 2) (s:=2) (by rw [flat_len (sz:=2) _ (fun _ _=>rfl)]; omega)
 rw [flat_at (sz:=2) r i hi (fun _ _=>rfl)] at this
 exact this
theorem goE_step {O:Int} {e:Int×Int} {l:List (Int×Int)} {nx:Nat} : goE O (e :: l) nx=match edOK O nx e with | none=>none | some k=>goE O l k:=rfl
def restT (I O:Int) (rows:List (List (Int×Int))) (n:Nat) (es:List (Int×Int)) (nx:Nat) : Option Nat:=match goE O es nx with | none=>none | some z=>goT I O rows (n+1) z
theorem restT_cons {I O:Int} {rows:List (List (Int×Int))} {n:Nat} {e:Int×Int} {es:List (Int×Int)} {nx:Nat} : restT I O rows n (e :: es) nx=match edOK O nx e with | none=>none | some k=>restT I O rows n es k:=by
 unfold restT
 rw [goE_step]
 cases edOK O nx e <;> rfl
theorem goT_cons {I O:Int} {r:List (Int×Int)} {rows:List (List (Int×Int))} {n nx:Nat} : goT I O (r :: rows) n nx=if (r.length:Int)=I∧n < nx then restT I O rows n r nx else none:=rfl
theorem CheckTree_w (I O:Int) (T:List (List (Int×Int))) (hl:T.length≤1000000) (hw:∀ r∈T,r.length≤1000000) (g:Nat→Option Blk) (n:Nat) (sv:AV) (svs:List AV) (hsv:SliceV g n sv T.length svs) (hr:RowsK g n T svs) :
  WC 0 Tryz.prog 91 [.agg [.lit (.int .i64 I),.lit (.int .i64 O),sv]] ⟨.fn g,n⟩ fun r=>r=.ret (.lit (.int .i64 (treeErr I O T))) ⟨.fn g,n⟩:=by
 refine WC.drop1 rfl ?_
 have hlen:=@lenV Tryz.prog _ _ _ _ _ hsv
 have h1s:=hsv.one
 have hone:allOne [.lit (.int .i64 I),.lit (.int .i64 O),sv]=true:=by simp [h1s]
 have HS:=Hide.mk hsv
 have HR:=Hide.mk hr
 have HW:=Hide.mk hw
 clear hsv hr hw
 obtain ⟨ret,hret⟩ : ∃ b,b=treeErr I O T:=⟨_,rfl⟩
 rw [← hret]
 unfold treeErr at hret
 by_cases t1:I > 16
 ·have hr:ret=3:=by rw [hret,if_pos (.inl t1)]
  clear hret
  refine WC.enterP (noO_ok _ _) hG [] Tryz.func91 rfl (by decide +kernel) (Nat.le_of_ble_eq_true (by kernel_rfl)) ?_
  iterate 8 all_goals try first|with_reducible refine splitI (fun h=>?_) fun h=>?_|with_reducible refine splitBI (fun h=>?_) fun h=>?_|simp (maxSteps:=999999) (disch:=first|assumption|omega|(simp;done)|fail) [Tryz.results91, *]
  all_goals exact ⟨Nat.le_succ n,fun b hb=>gput_lt hb⟩
 by_cases t2:O > 16
 ·have hr:ret=3:=by rw [hret,if_pos (.inr (.inl t2))]
  clear hret
  refine WC.enterP (noO_ok _ _) hG [] Tryz.func91 rfl (by decide +kernel) (Nat.le_of_ble_eq_true (by kernel_rfl)) ?_
  iterate 8 all_goals try first|with_reducible refine splitI (fun h=>?_) fun h=>?_|with_reducible refine splitBI (fun h=>?_) fun h=>?_|simp (maxSteps:=999999) (disch:=first|assumption|omega|(simp;done)|fail) [Tryz.results91, *]
  all_goals exact ⟨Nat.le_succ n,fun b hb=>gput_lt hb⟩
 by_cases t3:T.length > 65537
 ·have hr:ret=3:=by rw [hret,if_pos (.inr (.inr t3))]
  have t3I:65537 < (T.length:Int):=by omega
  clear hret
  refine WC.enterP (noO_ok _ _) hG [] Tryz.func91 rfl (by decide +kernel) (Nat.le_of_ble_eq_true (by kernel_rfl)) ?_
  iterate 8 all_goals try first|with_reducible refine splitI (fun h=>?_) fun h=>?_|with_reducible refine splitBI (fun h=>?_) fun h=>?_|simp (maxSteps:=999999) (disch:=first|assumption|omega|(simp;done)|fail) [Tryz.results91, *]
  all_goals exact ⟨Nat.le_succ n,fun b hb=>gput_lt hb⟩
 have t3I:¬65537 < (T.length:Int):=by omega
 rw [if_neg (by omega)] at hret
 by_cases t4:I < 1
 ·have hr:ret=1:=by rw [hret,if_pos (.inl t4)]
  clear hret
  refine WC.enterP (noO_ok _ _) hG [] Tryz.func91 rfl (by decide +kernel) (Nat.le_of_ble_eq_true (by kernel_rfl)) ?_
  iterate 8 all_goals try first|with_reducible refine splitI (fun h=>?_) fun h=>?_|with_reducible refine splitBI (fun h=>?_) fun h=>?_|simp (maxSteps:=999999) (disch:=first|assumption|omega|(simp;done)|fail) [Tryz.results91, *]
  all_goals exact ⟨Nat.le_succ n,fun b hb=>gput_lt hb⟩
 by_cases t5:O < 1
 ·have hr:ret=1:=by rw [hret,if_pos (.inr (.inl t5))]
  clear hret
  refine WC.enterP (noO_ok _ _) hG [] Tryz.func91 rfl (by decide +kernel) (Nat.le_of_ble_eq_true (by kernel_rfl)) ?_
  iterate 8 all_goals try first|with_reducible refine splitI (fun h=>?_) fun h=>?_|with_reducible refine splitBI (fun h=>?_) fun h=>?_|simp (maxSteps:=999999) (disch:=first|assumption|omega|(simp;done)|fail) [Tryz.results91, *]
  all_goals exact ⟨Nat.le_succ n,fun b hb=>gput_lt hb⟩
 by_cases t6:T.length < 1
 ·have hr:ret=1:=by rw [hret,if_pos (.inr (.inr t6))]
  have t6I:(T.length:Int) < 1:=by omega
  clear hret
  refine WC.enterP (noO_ok _ _) hG [] Tryz.func91 rfl (by decide +kernel) (Nat.le_of_ble_eq_true (by kernel_rfl)) ?_
  iterate 8 all_goals try first|with_reducible refine splitI (fun h=>?_) fun h=>?_|with_reducible refine splitBI (fun h=>?_) fun h=>?_|simp (maxSteps:=999999) (disch:=first|assumption|omega|(simp;done)|fail) [Tryz.results91, *]
  all_goals exact ⟨Nat.le_succ n,fun b hb=>gput_lt hb⟩
 have t6I:¬(T.length:Int) < 1:=by omega
 rw [if_neg (by omega)] at hret
 have HRET:=Hide.mk hret
 clear hret
 refine WC.enterP (noO_ok _ _) hG [] Tryz.func91 rfl (by decide +kernel) (Nat.le_of_ble_eq_true (by kernel_rfl)) ?_
 iterate 8 all_goals try first|with_reducible refine splitI (fun h=>?_) fun h=>?_|with_reducible refine splitBI (fun h=>?_) fun h=>?_|simp (maxSteps:=999999) (disch:=first|assumption|omega|(simp;done)|fail) [Tryz.results91, *]
 refine LX.ind (fun m gf H'=>∃ (k:Nat) (gL:Nat→Option Blk) (n' nx:Nat),k≤T.length∧m=T.length - k∧H'=⟨.fn gL,n'⟩∧n < n'∧Hide (∀ b,b < n→gL b=g b)∧gL n=some (.cells [.lit (.int .i64 I),.lit (.int .i64 O),sv] true 0) ∧
  Hide (goT I O T 0 1=goT I O (T.drop k) k nx)∧nx≤1+k * 1000000∧gf 1=some (.ptr n 0)∧gf 3=some (.lit (.int .i64 nx))∧gf 37=some sv∧gf 38=some (.lit (.int .i64 T.length))∧gf 39=some (.lit (.int .i64 k))) (m0:=T.length) ?_ ?_
 ·exact ⟨0,_,_,1,Nat.zero_le _,rfl,rfl,by omega,⟨fun b hb=>gput_lt hb⟩,gput_eq,⟨rfl⟩,by omega,by simp,by simp,by simp,by simp,by simp⟩
 rintro m gf H' ⟨k,gL,n',nx,hk,rfl,rfl,hn',HG,hgn,HV,hnx,w1,w3,w37,w38,w39⟩ ih
 refine LX.roundP (noO_ok _ _) hG [] (by decide +kernel) ?_
 by_cases hlt:k < T.length
 ·have hltI:(k:Int) < (T.length:Int):=by omega
  obtain ⟨q1,hw1,hrep⟩:=HR.out.2 k hlt
  obtain ⟨a2,off,ha2,hrow,hia⟩:=HS.out.ia (P:=Tryz.prog) hlt 1
  simp only [Nat.mul_one] at hia
  have hkl:k < svs.length:=(List.getElem?_eq_some_iff.1 hw1).1
  have hcell:=(hrow.mono (HG.out a2 ha2)).one (k:=k) (s:=1) hkl
  rw [(List.getElem?_eq_some_iff.1 hw1).2] at hcell
  have hlw:=@lenV Tryz.prog _ _ _ _ _ hrep
  have hdrop:T.drop k=T[k] :: T.drop (k+1):=List.drop_eq_getElem_cons hlt
  have hv:=HV.out
  rw [hdrop,goT_cons] at hv
  have hrl:=HW.out _ (List.getElem_mem hlt)
  have HREP:=Hide.mk hrep
  have HV2:=Hide.mk hv
  clear hrow hrep hw1 ha2 hdrop hv HV
  generalize T[k]=row at *
  have h1q:oneC q1=true:=HREP.out.one
  by_cases u1:(row.length:Int)=I
  ·subst u1
   by_cases u2:k < nx
   ·have u2I:¬(nx:Int)≤(k:Int):=by omega
    have hv:=HV2.out
    rw [if_pos ⟨rfl,u2⟩] at hv
    have HV3:=Hide.mk hv
    clear hv HV2
    iterate 8 all_goals try first|with_reducible refine splitI (fun h=>?_) fun h=>?_|with_reducible refine splitBI (fun h=>?_) fun h=>?_|simp (maxSteps:=999999) (disch:=first|assumption|omega|(simp;done)|fail) [Tryz.results91, *]
    refine LX.ind (fun m gf H'=>∃ (i:Nat) (gM:Nat→Option Blk) (n2 nz:Nat),i≤row.length∧m=row.length - i∧H'=⟨.fn gM,n2⟩∧n < n2∧Hide (∀ b,b < n→gM b=g b)∧gM n=some (.cells [.lit (.int .i64 (row.length:Int)),.lit (.int .i64 O),sv] true 0) ∧
     Hide (goT (row.length:Int) O T 0 1=restT (row.length:Int) O (T.drop (k+1)) k (row.drop i) nz)∧nz≤1+k * 1000000+i∧gf 1=some (.ptr n 0)∧gf 3=some (.lit (.int .i64 nz))∧gf 37=some sv∧gf 38=some (.lit (.int .i64 T.length))∧gf 39=some (.lit (.int .i64 k)) ∧
     gf 54=some q1∧gf 55=some (.lit (.int .i64 row.length))∧gf 56=some (.lit (.int .i64 i))) (m0:=row.length) ?_ ?_
    ·exact ⟨0,gL,n',nx,Nat.zero_le _,rfl,rfl,hn',HG,hgn,HV3,by omega,by simp [*],by simp [*],by simp [*],by simp [*],by simp [*],by simp [*],by simp [*],by simp⟩
    rintro m gf H' ⟨i,gM,n2,nz,hi,rfl,rfl,hn2,HGM,hgMn,HVM,hnz,x1,x3,x37,x38,x39,x54,x55,x56⟩ ih2
    refine LX.roundP (noO_ok _ _) hG [] (by decide +kernel) ?_
    by_cases hlt2:i < row.length
    ·have hlt2I:(i:Int) < (row.length:Int):=by omega
     obtain ⟨a3,of3,ha3,hia3,hc3⟩:=RepE.at HREP.out hlt2
     rw [← HGM.out a3 ha3] at hc3
     have hdr:row.drop i=row[i] :: row.drop (i+1):=List.drop_eq_getElem_cons hlt2
     have hv:=HVM.out
     rw [hdr,restT_cons] at hv
     have HV4:=Hide.mk hv
     clear hv HVM hdr
     generalize row[i]=e at *
     obtain ⟨to,out⟩:=e
     simp only [edC] at hc3
     by_cases e1:to = -1
     ·subst e1
      by_cases e2:out = -1
      ·subst e2
       have hv2:goT (row.length:Int) O T 0 1=restT (row.length:Int) O (T.drop (k+1)) k (row.drop (i+1)) nz:=by rw [HV4.out]; simp [edOK]
       iterate 8 all_goals try first|with_reducible refine splitI (fun h=>?_) fun h=>?_|with_reducible refine splitBI (fun h=>?_) fun h=>?_|simp (maxSteps:=999999) (disch:=first|assumption|omega|(simp;done)|fail) [Tryz.results91, *]
       refine ih2.out (row.length - (i+1)) _ _ (by omega) ⟨i+1,_,_,nz,by omega,rfl,rfl,by omega,⟨fun b hb=>(gput_lt (by omega)).trans (HGM.out b hb)⟩,(gput_lt (by omega)).trans hgMn,⟨hv2⟩,by omega,by simp [*],by simp [*],by simp [*],by simp [*],by simp [*],by simp [*],by simp [*],by simp [*]⟩
      ·by_cases e3:out = -2
       ·subst e3
        have hv2:goT (row.length:Int) O T 0 1=restT (row.length:Int) O (T.drop (k+1)) k (row.drop (i+1)) nz:=by rw [HV4.out]; simp [edOK]
        iterate 8 all_goals try first|with_reducible refine splitI (fun h=>?_) fun h=>?_|with_reducible refine splitBI (fun h=>?_) fun h=>?_|simp (maxSteps:=999999) (disch:=first|assumption|omega|(simp;done)|fail) [Tryz.results91, *]
        refine ih2.out (row.length - (i+1)) _ _ (by omega) ⟨i+1,_,_,nz,by omega,rfl,rfl,by omega,⟨fun b hb=>(gput_lt (by omega)).trans (HGM.out b hb)⟩,(gput_lt (by omega)).trans hgMn,⟨hv2⟩,by omega,by simp [*],by simp [*],by simp [*],by simp [*],by simp [*],by simp [*],by simp [*],by simp [*]⟩
       ·have e4:¬(-1:Int)=(nz:Int):=by omega
        have hv2:goT (row.length:Int) O T 0 1=none:=by rw [HV4.out]; simp [edOK,e2,e3,e4]
        have hr:ret=1:=by rw [HRET.out,hv2]; simp
        clear hv2
        iterate 8 all_goals try first|with_reducible refine splitI (fun h=>?_) fun h=>?_|with_reducible refine splitBI (fun h=>?_) fun h=>?_|simp (maxSteps:=999999) (disch:=first|assumption|omega|(simp;done)|fail) [Tryz.results91, *]
        exact ⟨Nat.le_of_lt (Nat.lt_succ_of_lt hn2),fun b (hb:b < n)=>(gput_lt (by omega)).trans (HGM.out b hb)⟩
     ·by_cases e4:to=(nz:Int)
      ·subst e4
       by_cases e5:0≤out
       ·by_cases e6:out < O
        ·have hv2:goT (row.length:Int) O T 0 1=restT (row.length:Int) O (T.drop (k+1)) k (row.drop (i+1)) (nz+1):=by rw [HV4.out]; simp [edOK,e1,e5,e6]
         iterate 8 all_goals try first|with_reducible refine splitI (fun h=>?_) fun h=>?_|with_reducible refine splitBI (fun h=>?_) fun h=>?_|simp (maxSteps:=999999) (disch:=first|assumption|omega|(simp;done)|fail) [Tryz.results91, *]
         refine ih2.out (row.length - (i+1)) _ _ (by omega) ⟨i+1,_,_,(nz+1),by omega,rfl,rfl,by omega,⟨fun b hb=>(gput_lt (by omega)).trans (HGM.out b hb)⟩,(gput_lt (by omega)).trans hgMn,⟨hv2⟩,by omega,by simp [*],by simp [*],by simp [*],by simp [*],by simp [*],by simp [*],by simp [*],by simp [*]⟩
        ·have hv2:goT (row.length:Int) O T 0 1=none:=by rw [HV4.out]; simp [edOK,e1,e6]
         have hr:ret=1:=by rw [HRET.out,hv2]; simp
         clear hv2
         iterate 8 all_goals try first|with_reducible refine splitI (fun h=>?_) fun h=>?_|with_reducible refine splitBI (fun h=>?_) fun h=>?_|simp (maxSteps:=999999) (disch:=first|assumption|omega|(simp;done)|fail) [Tryz.results91, *]
         exact ⟨Nat.le_of_lt (Nat.lt_succ_of_lt hn2),fun b (hb:b < n)=>(gput_lt (by omega)).trans (HGM.out b hb)⟩
       ·have hv2:goT (row.length:Int) O T 0 1=none:=by rw [HV4.out]; simp [edOK,e1,e5]
        have hr:ret=1:=by rw [HRET.out,hv2]; simp
        clear hv2
        iterate 8 all_goals try first|with_reducible refine splitI (fun h=>?_) fun h=>?_|with_reducible refine splitBI (fun h=>?_) fun h=>?_|simp (maxSteps:=999999) (disch:=first|assumption|omega|(simp;done)|fail) [Tryz.results91, *]
        exact ⟨Nat.le_of_lt (Nat.lt_succ_of_lt hn2),fun b (hb:b < n)=>(gput_lt (by omega)).trans (HGM.out b hb)⟩
      ·have hv2:goT (row.length:Int) O T 0 1=none:=by rw [HV4.out]; simp [edOK,e1,e4]
       have hr:ret=1:=by rw [HRET.out,hv2]; simp
       clear hv2
       iterate 8 all_goals try first|with_reducible refine splitI (fun h=>?_) fun h=>?_|with_reducible refine splitBI (fun h=>?_) fun h=>?_|simp (maxSteps:=999999) (disch:=first|assumption|omega|(simp;done)|fail) [Tryz.results91, *]
       exact ⟨Nat.le_of_lt (Nat.lt_succ_of_lt hn2),fun b (hb:b < n)=>(gput_lt (by omega)).trans (HGM.out b hb)⟩
    ·have hlt2I:¬(i:Int) < (row.length:Int):=by omega
     have hi2:i=row.length:=by omega
     have hv:=HVM.out
     rw [hi2,List.drop_length] at hv
     have HV4:=Hide.mk (show goT (row.length:Int) O T 0 1=goT (row.length:Int) O (T.drop (k+1)) (k+1) nz from hv)
     clear hv HVM hi2
     iterate 8 all_goals try first|with_reducible refine splitI (fun h=>?_) fun h=>?_|with_reducible refine splitBI (fun h=>?_) fun h=>?_|simp (maxSteps:=999999) (disch:=first|assumption|omega|(simp;done)|fail) [Tryz.results91, *]
     refine ih.out (T.length - (k+1)) _ _ (by omega) ⟨k+1,gM,n2,nz,by omega,rfl,rfl,hn2,HGM,hgMn,HV4,by omega,by simp [*],by simp [*],by simp [*],by simp [*],by simp [*]⟩
   ·have u2I:(nx:Int)≤(k:Int):=by omega
    have hv:=HV2.out
    rw [if_neg (fun h=>u2 h.2)] at hv
    have hr:ret=1:=by rw [HRET.out,hv]; simp
    clear hv
    iterate 8 all_goals try first|with_reducible refine splitI (fun h=>?_) fun h=>?_|with_reducible refine splitBI (fun h=>?_) fun h=>?_|simp (maxSteps:=999999) (disch:=first|assumption|omega|(simp;done)|fail) [Tryz.results91, *]
    exact ⟨Nat.le_of_lt hn',fun b hb=>HG.out b hb⟩
  ·have hv:=HV2.out
   rw [if_neg (fun h=>u1 h.1)] at hv
   have hr:ret=1:=by rw [HRET.out,hv]; simp
   clear hv
   iterate 8 all_goals try first|with_reducible refine splitI (fun h=>?_) fun h=>?_|with_reducible refine splitBI (fun h=>?_) fun h=>?_|simp (maxSteps:=999999) (disch:=first|assumption|omega|(simp;done)|fail) [Tryz.results91, *]
   exact ⟨Nat.le_of_lt hn',fun b hb=>HG.out b hb⟩
 ·have hltI:¬(k:Int) < (T.length:Int):=by omega
  have hk2:k=T.length:=by omega
  have hv:=HV.out
  rw [hk2,List.drop_length] at hv
  have hv' : goT I O T 0 1=some nx:=hv
  clear hk2 hv HV
  by_cases u3:nx=T.length
  ·rw [u3] at w3
   have hr:ret=0:=by rw [HRET.out,hv',u3]; simp
   clear hv' u3
   iterate 8 all_goals try first|with_reducible refine splitI (fun h=>?_) fun h=>?_|with_reducible refine splitBI (fun h=>?_) fun h=>?_|simp (maxSteps:=999999) (disch:=first|assumption|omega|(simp;done)|fail) [Tryz.results91, *]
   exact ⟨Nat.le_of_lt hn',fun b hb=>HG.out b hb⟩
  ·have u3I:¬(nx:Int)=(T.length:Int):=by omega
   have hr:ret=1:=by rw [HRET.out,hv',if_neg (fun h=>u3 (by injection h))]
   clear hv'
   iterate 8 all_goals try first|with_reducible refine splitI (fun h=>?_) fun h=>?_|with_reducible refine splitBI (fun h=>?_) fun h=>?_|simp (maxSteps:=999999) (disch:=first|assumption|omega|(simp;done)|fail) [Tryz.results91, *]
   exact ⟨Nat.le_of_lt hn',fun b hb=>HG.out b hb⟩
end Go.Ai
end
section
namespace Go.Ai
set_option maxRecDepth 10000
def ansM (rows:List (List (Int×Int))) : Int→List Int→Option (List Int)
 | _,[]=>some []
 | a,i :: w=>if ((rows.getD a.toNat []).getD i.toNat (-1,-1)).1 = -1 then (if ((rows.getD a.toNat []).getD i.toNat (-1,-1)).2 = -2 then some (List.replicate (w.length+1) (-1)) else none) else (ansM rows ((rows.getD a.toNat []).getD i.toNat (-1,-1)).1 w).map (((rows.getD a.toNat []).getD i.toNat (-1,-1)).2 :: ·)
theorem nod_nodes {I:Nat} {O:Int} {ts:List (List Int×List Int)} (hv:∀ t∈ts,validB I O t=true) (hc:Cons ts) : Nod (valT ts) (nodesM ts):=by
 obtain ⟨us,hN,_⟩:=tree_ok (I:=I) _ ts rfl hc hv
 exact ⟨(nodesM_ok hv).1.nodup,fun w=>nodesM_val hv hc w,hN.clo⟩
theorem idx_nil {ws:List (List Int)} (hs:Srt2 ws) (h:[]∈ws) : ws.idxOf []=0:=by
 obtain ⟨hl,hat⟩:=idx_at h
 by_cases h0:ws.idxOf []=0
 ·exact h0
 ·have h1:=hs 0 (ws.idxOf []) (by omega) hl (by omega)
  rw [hat] at h1
  have h2:=h1.le
  have h3:ws[0]=[]:=List.eq_nil_of_length_eq_zero (by simpa using h2)
  rw [h3] at h1
  exact absurd h1 SL.irrefl
end Go.Ai
end
section
namespace Go.Ai
open Go.Proofs
set_option maxRecDepth 10000
set_option maxHeartbeats 40000000
theorem long_w (l:List (List Int)) (hl:l.length≤1000000) (hw:∀ w∈l,w.length≤1000000) (g:Nat→Option Blk) (n:Nat) (sv:AV) (svs:List AV) (hsv:SliceV g n sv l.length svs) (hr:RowsW g n l svs) :
  WC 0 Tryz.prog 78 [sv] ⟨.fn g,n⟩ fun r=>r=.ret (.lit (.int .i64 (longM l:Nat))) ⟨.fn g,n⟩:=by
 have hlen:=@lenV Tryz.prog _ _ _ _ _ hsv
 have HS:=Hide.mk hsv
 have HR:=Hide.mk hr
 have HW:=Hide.mk hw
 clear hsv hr hw
 refine WC.enterP (noO_ok _ _) hG [] Tryz.func78 rfl (by decide +kernel) (Nat.le_of_ble_eq_true (by kernel_rfl)) ?_
 iterate 6 all_goals try first|with_reducible refine splitI (fun h=>?_) fun h=>?_|with_reducible refine splitBI (fun h=>?_) fun h=>?_|simp (maxSteps:=999999) (disch:=first|assumption|omega|(simp;done)|fail) [Tryz.results78, *]
 refine LX.ind (fun m gf H'=>∃ (k:Nat),k≤l.length∧m=l.length - k∧H'=⟨.fn g,n⟩∧gf 3=some (.lit (.int .i64 (longM (l.take k) : Nat)))∧gf 6=some sv∧gf 7=some (.lit (.int .i64 l.length))∧gf 8=some (.lit (.int .i64 k))) (m0:=l.length) ?_ ?_
 ·exact ⟨0,Nat.zero_le _,rfl,rfl,by simp [longM],by simp,by simp,by simp⟩
 rintro m gf H' ⟨k,hk,rfl,rfl,w3,w6,w7,w8⟩ ih
 refine LX.roundP (noO_ok _ _) hG [] (by decide +kernel) ?_
 by_cases hlt:k < l.length
 ·have hltI:(k:Int) < (l.length:Int):=by omega
  obtain ⟨w1,hw1,hrep⟩:=HR.out.2 k hlt
  obtain ⟨a2,off,ha2,hrow,hia⟩:=HS.out.ia (P:=Tryz.prog) hlt 1
  simp only [Nat.mul_one] at hia
  have hkl:k < svs.length:=(List.getElem?_eq_some_iff.1 hw1).1
  have hcell:=hrow.one (k:=k) (s:=1) hkl
  rw [(List.getElem?_eq_some_iff.1 hw1).2] at hcell
  have hlen1:=@lenV Tryz.prog _ _ _ _ _ hrep
  have htk:l.take (k+1)=l.take k++[l[k]]:=by rw [List.take_succ,List.getElem?_eq_getElem hlt]; rfl
  have hml:longM (l.take (k+1))=max (longM (l.take k)) l[k].length:=by rw [htk,longM_snoc]
  have hwl:=HW.out _ (List.getElem_mem hlt)
  have hmx:longM (l.take k)≤1000000:=longM_le fun w hw=>HW.out w (List.mem_of_mem_take hw)
  have HML:=Hide.mk hml
  clear hml htk hrow hrep hw1 ha2
  generalize l[k]=w at *
  have hdrop:∀ mm:Nat,mm=longM (l.take (k+1))→mm=longM (l.take (k+1)):=fun _ h=>h
  clear hdrop
  generalize hq:longM (l.take k)=q at *
  by_cases hm:q < w.length
  ·have hmI:(q:Int) < (w.length:Int):=by omega
   iterate 6 all_goals try first|with_reducible refine splitI (fun h=>?_) fun h=>?_|with_reducible refine splitBI (fun h=>?_) fun h=>?_|simp (maxSteps:=999999) (disch:=first|assumption|omega|(simp;done)|fail) [Tryz.results78, *]
   refine ih.out (l.length - (k+1)) _ _ (by omega) ⟨k+1,by omega,rfl,rfl,?_,by simp [*],by simp [*],by simp⟩
   rw [HML.out,Nat.max_eq_right (by omega)]; simp
  ·have hmI:¬(q:Int) < (w.length:Int):=by omega
   iterate 6 all_goals try first|with_reducible refine splitI (fun h=>?_) fun h=>?_|with_reducible refine splitBI (fun h=>?_) fun h=>?_|simp (maxSteps:=999999) (disch:=first|assumption|omega|(simp;done)|fail) [Tryz.results78, *]
   refine ih.out (l.length - (k+1)) _ _ (by omega) ⟨k+1,by omega,rfl,rfl,?_,by simp [*],by simp [*],by simp⟩
   rw [HML.out,Nat.max_eq_left (by omega)]; simp
 ·have hltI:¬(k:Int) < (l.length:Int):=by omega
  have hk2:k=l.length:=by omega
  rw [hk2,List.take_length] at w3
  clear hk2
  iterate 6 all_goals try first|with_reducible refine splitI (fun h=>?_) fun h=>?_|with_reducible refine splitBI (fun h=>?_) fun h=>?_|simp (maxSteps:=999999) (disch:=first|assumption|omega|(simp;done)|fail) [Tryz.results78, *]
theorem rlong_w (l:List (List Int)) (hl:l.length≤1000000) (hw:∀ w∈l,w.length≤1000000) (g:Nat→Option Blk) (n:Nat) (sv:AV) (svs:List AV) (hsv:SliceV g n sv l.length svs) (hr:RowsW g n l svs) :
  WC 0 Tryz.prog 55 [sv] ⟨.fn g,n⟩ fun r=>r=.ret (.lit (.int .i64 (longM l:Nat))) ⟨.fn g,n⟩:=by
 have hlen:=@lenV Tryz.prog _ _ _ _ _ hsv
 have HS:=Hide.mk hsv
 have HR:=Hide.mk hr
 have HW:=Hide.mk hw
 clear hsv hr hw
 refine WC.enterP (noO_ok _ _) hG [] Tryz.func55 rfl (by decide +kernel) (Nat.le_of_ble_eq_true (by kernel_rfl)) ?_
 iterate 6 all_goals try first|with_reducible refine splitI (fun h=>?_) fun h=>?_|with_reducible refine splitBI (fun h=>?_) fun h=>?_|simp (maxSteps:=999999) (disch:=first|assumption|omega|(simp;done)|fail) [Tryz.results55, *]
 refine LX.ind (fun m gf H'=>∃ (k:Nat),k≤l.length∧m=l.length - k∧H'=⟨.fn g,n⟩∧gf 3=some (.lit (.int .i64 (longM (l.take k) : Nat)))∧gf 0=some sv∧gf 4=some (.lit (.int .i64 k))) (m0:=l.length) ?_ ?_
 ·exact ⟨0,Nat.zero_le _,rfl,rfl,by simp [longM],by simp,by simp⟩
 rintro m gf H' ⟨k,hk,rfl,rfl,w3,w6,w8⟩ ih
 refine LX.roundP (noO_ok _ _) hG [] (by decide +kernel) ?_
 by_cases hlt:k < l.length
 ·have hltI:(k:Int) < (l.length:Int):=by omega
  obtain ⟨w1,hw1,hrep⟩:=HR.out.2 k hlt
  obtain ⟨a2,off,ha2,hrow,hia⟩:=HS.out.ia (P:=Tryz.prog) hlt 1
  simp only [Nat.mul_one] at hia
  have hkl:k < svs.length:=(List.getElem?_eq_some_iff.1 hw1).1
  have hcell:=hrow.one (k:=k) (s:=1) hkl
  rw [(List.getElem?_eq_some_iff.1 hw1).2] at hcell
  have hlen1:=@lenV Tryz.prog _ _ _ _ _ hrep
  have htk:l.take (k+1)=l.take k++[l[k]]:=by rw [List.take_succ,List.getElem?_eq_getElem hlt]; rfl
  have hml:longM (l.take (k+1))=max (longM (l.take k)) l[k].length:=by rw [htk,longM_snoc]
  have hwl:=HW.out _ (List.getElem_mem hlt)
  have hmx:longM (l.take k)≤1000000:=longM_le fun w hw=>HW.out w (List.mem_of_mem_take hw)
  have HML:=Hide.mk hml
  clear hml htk hrow hrep hw1 ha2
  generalize l[k]=w at *
  have hdrop:∀ mm:Nat,mm=longM (l.take (k+1))→mm=longM (l.take (k+1)):=fun _ h=>h
  clear hdrop
  generalize hq:longM (l.take k)=q at *
  by_cases hm:q < w.length
  ·have hmI:(q:Int) < (w.length:Int):=by omega
   iterate 6 all_goals try first|with_reducible refine splitI (fun h=>?_) fun h=>?_|with_reducible refine splitBI (fun h=>?_) fun h=>?_|simp (maxSteps:=999999) (disch:=first|assumption|omega|(simp;done)|fail) [Tryz.results55, *]
   refine ih.out (l.length - (k+1)) _ _ (by omega) ⟨k+1,by omega,rfl,rfl,?_,by simp [*],by simp⟩
   rw [HML.out,Nat.max_eq_right (by omega)]; simp
  ·have hmI:¬(q:Int) < (w.length:Int):=by omega
   iterate 6 all_goals try first|with_reducible refine splitI (fun h=>?_) fun h=>?_|with_reducible refine splitBI (fun h=>?_) fun h=>?_|simp (maxSteps:=999999) (disch:=first|assumption|omega|(simp;done)|fail) [Tryz.results55, *]
   refine ih.out (l.length - (k+1)) _ _ (by omega) ⟨k+1,by omega,rfl,rfl,?_,by simp [*],by simp⟩
   rw [HML.out,Nat.max_eq_left (by omega)]; simp
 ·have hltI:¬(k:Int) < (l.length:Int):=by omega
  have hk2:k=l.length:=by omega
  rw [hk2,List.take_length] at w3
  clear hk2
  iterate 6 all_goals try first|with_reducible refine splitI (fun h=>?_) fun h=>?_|with_reducible refine splitBI (fun h=>?_) fun h=>?_|simp (maxSteps:=999999) (disch:=first|assumption|omega|(simp;done)|fail) [Tryz.results55, *]
theorem rinputs_w (w:List Int) (hwl:w.length≤1000000) (q:Int) (g:Nat→Option Blk) (n:Nat) (sv:AV) (hsv:RepW g n w sv) :
  WC 0 Tryz.prog 56 [sv,.lit (.int .i64 q)] ⟨.fn g,n⟩ fun r=>r=.ret (.lit (.bool (w.all fun i=>decide (0≤i∧i < q)))) ⟨.fn g,n⟩:=by
 have hlen:=@lenV Tryz.prog _ _ _ _ _ hsv
 have HS:=Hide.mk hsv
 clear hsv
 obtain ⟨ret,hret⟩ : ∃ b,b=w.all fun i=>decide (0≤i∧i < q):=⟨_,rfl⟩
 rw [← hret]
 have HRET:=Hide.mk hret
 clear hret
 refine WC.enterP (noO_ok _ _) hG [] Tryz.func56 rfl (by decide +kernel) (Nat.le_of_ble_eq_true (by kernel_rfl)) ?_
 iterate 6 all_goals try first|with_reducible refine splitI (fun h=>?_) fun h=>?_|with_reducible refine splitBI (fun h=>?_) fun h=>?_|simp (maxSteps:=999999) (disch:=first|assumption|omega|(simp;done)|fail) [Tryz.results56, *]
 refine LX.ind (fun m gf H'=>∃ (k:Nat),k≤w.length∧m=w.length - k∧H'=⟨.fn g,n⟩∧(∀ i∈w.take k,0≤i∧i < q)∧gf 0=some sv∧gf 1=some (.lit (.int .i64 q))∧gf 5=some (.lit (.int .i64 k))) (m0:=w.length) ?_ ?_
 ·exact ⟨0,Nat.zero_le _,rfl,rfl,by simp,by simp,by simp,by simp⟩
 rintro m gf H' ⟨k,hk,rfl,rfl,hpre,w0,w1,w5⟩ ih
 have HPRE:=Hide.mk hpre
 clear hpre
 refine LX.roundP (noO_ok _ _) hG [] (by decide +kernel) ?_
 by_cases hlt:k < w.length
 ·have hltI:(k:Int) < (w.length:Int):=by omega
  obtain ⟨a2,off,ha2,hrow,hia⟩:=SliceV.ia (P:=Tryz.prog) HS.out hlt 1
  simp only [Nat.mul_one] at hia
  have hcell:=hrow.one (k:=k) (s:=1) (by rw [wdC_len]; exact hlt)
  have hval:(wdC w)[k]'(by rw [wdC_len]; exact hlt)=.lit (.int .i64 w[k]):=(List.getElem?_eq_some_iff.1 (wdC_at w k hlt)).2
  rw [hval] at hcell
  have htk:w.take (k+1)=w.take k++[w[k]]:=by rw [List.take_succ,List.getElem?_eq_getElem hlt]; rfl
  have HT:=Hide.mk htk
  have HM:=Hide.mk (List.getElem_mem hlt)
  clear htk hrow hval ha2
  generalize w[k]=x at *
  have bad:¬(0≤x∧x < q)→ret=false:=fun h=>by
   rw [HRET.out,List.all_eq_false]
   exact ⟨x,HM.out,by simpa using h⟩
  have HB:=Hide.mk bad
  clear bad
  by_cases t1:x < 0
  ·iterate 6 all_goals try first|with_reducible refine splitI (fun h=>?_) fun h=>?_|with_reducible refine splitBI (fun h=>?_) fun h=>?_|simp (maxSteps:=999999) (disch:=first|assumption|omega|(simp;done)|fail) [Tryz.results56, *]
   exact HB.out (by omega)
  by_cases t2:q≤x
  ·iterate 6 all_goals try first|with_reducible refine splitI (fun h=>?_) fun h=>?_|with_reducible refine splitBI (fun h=>?_) fun h=>?_|simp (maxSteps:=999999) (disch:=first|assumption|omega|(simp;done)|fail) [Tryz.results56, *]
   exact HB.out (by omega)
  ·iterate 6 all_goals try first|with_reducible refine splitI (fun h=>?_) fun h=>?_|with_reducible refine splitBI (fun h=>?_) fun h=>?_|simp (maxSteps:=999999) (disch:=first|assumption|omega|(simp;done)|fail) [Tryz.results56, *]
   refine ih.out (w.length - (k+1)) _ _ (by omega) ⟨k+1,by omega,rfl,rfl,fun i hi=>?_,by simp [*],by simp [*],by simp⟩
   rw [HT.out] at hi
   rcases List.mem_append.1 hi with h | h
   ·exact HPRE.out i h
   ·rw [List.mem_singleton.1 h]; omega
 ·have hltI:¬(k:Int) < (w.length:Int):=by omega
  have hk2:k=w.length:=by omega
  have hr:ret=true:=by
   rw [HRET.out,List.all_eq_true]
   intro i hi
   have:=HPRE.out i (by rw [hk2,List.take_length]; exact hi)
   simpa using this
  clear hk2
  iterate 6 all_goals try first|with_reducible refine splitI (fun h=>?_) fun h=>?_|with_reducible refine splitBI (fun h=>?_) fun h=>?_|simp (maxSteps:=999999) (disch:=first|assumption|omega|(simp;done)|fail) [Tryz.results56, *]
theorem rfind_w (l:List (List Int)) (hl:l.length≤1000000) (hw:∀ w∈l,w.length≤1000000) (x:List Int) (hx:x.length≤1000000) (g:Nat→Option Blk) (n:Nat) (sv sx:AV) (svs:List AV) (hsv:SliceV g n sv l.length svs) (hr:RowsW g n l svs) (hsx:RepW g n x sx) :
  WC 0 Tryz.prog 57 [sv,sx] ⟨.fn g,n⟩ fun r=>∃ z:Int,r=.ret (.lit (.int .i64 z)) ⟨.fn g,n⟩∧decide (0≤z)=decide (x∈l):=by
 have hlen:=@lenV Tryz.prog _ _ _ _ _ hsv
 have HS:=Hide.mk hsv
 have HR:=Hide.mk hr
 have HW:=Hide.mk hw
 have HX:=Hide.mk hsx
 clear hsv hr hw hsx
 obtain ⟨ret,hret⟩ : ∃ c,c=decide (x∈l):=⟨_,rfl⟩
 rw [← hret]
 have HRET:=Hide.mk hret
 clear hret
 refine WC.enterP (noO_ok _ _) hG [] Tryz.func57 rfl (by decide +kernel) (Nat.le_of_ble_eq_true (by kernel_rfl)) ?_
 iterate 6 all_goals try first|with_reducible refine splitI (fun h=>?_) fun h=>?_|with_reducible refine splitBI (fun h=>?_) fun h=>?_|simp (maxSteps:=999999) (disch:=first|assumption|omega|(simp;done)|fail) [Tryz.results57, *]
 refine LX.ind (fun m gf H'=>∃ (k:Nat),k≤l.length∧m=l.length - k∧H'=⟨.fn g,n⟩∧Hide (∀ w∈l.take k,w≠x)∧gf 0=some sv∧gf 1=some sx∧gf 5=some (.lit (.int .i64 k))) (m0:=l.length) ?_ ?_
 ·exact ⟨0,Nat.zero_le _,rfl,rfl,⟨by simp⟩,by simp,by simp,by simp⟩
 rintro m gf H' ⟨k,hk,rfl,rfl,HPRE,w0,w1,w5⟩ ih
 refine LX.roundP (noO_ok _ _) hG [] (by decide +kernel) ?_
 by_cases hlt:k < l.length
 ·have hltI:(k:Int) < (l.length:Int):=by omega
  obtain ⟨q1,hw1,hrep⟩:=HR.out.2 k hlt
  obtain ⟨a2,off,ha2,hrow,hia⟩:=HS.out.ia (P:=Tryz.prog) hlt 1
  simp only [Nat.mul_one] at hia
  have hkl:k < svs.length:=(List.getElem?_eq_some_iff.1 hw1).1
  have hcell:=hrow.one (k:=k) (s:=1) hkl
  rw [(List.getElem?_eq_some_iff.1 hw1).2] at hcell
  have htk:l.take (k+1)=l.take k++[l[k]]:=by rw [List.take_succ,List.getElem?_eq_getElem hlt]; rfl
  have hS:=rsame_w l[k] x (HW.out _ (List.getElem_mem hlt)) hx g n q1 sx hrep HX.out
  have HSM:=Hide.mk hS
  have HT:=Hide.mk htk
  have HM:=Hide.mk (List.getElem_mem hlt)
  clear htk hrow hrep hw1 ha2 hS
  generalize l[k]=w at *
  iterate 6 all_goals try first|with_reducible refine splitI (fun h=>?_) fun h=>?_|with_reducible refine splitBI (fun h=>?_) fun h=>?_|simp (maxSteps:=999999) (disch:=first|assumption|omega|(simp;done)|fail) [Tryz.results57, *]
  refine WC.mono HSM.out ?_
  rintro _ rfl
  by_cases he:w=x
  ·have hr:ret=true:=by rw [HRET.out]; exact decide_eq_true (he ▸ HM.out)
   have hd:decide (w=x)=true:=decide_eq_true he
   rw [hd]
   clear he
   iterate 6 all_goals try first|with_reducible refine splitI (fun h=>?_) fun h=>?_|with_reducible refine splitBI (fun h=>?_) fun h=>?_|simp (maxSteps:=999999) (disch:=first|assumption|omega|(simp;done)|fail) [Tryz.results57, *]
  ·have hd:decide (w=x)=false:=decide_eq_false he
   rw [hd]
   have HE:=Hide.mk he
   clear he
   iterate 6 all_goals try first|with_reducible refine splitI (fun h=>?_) fun h=>?_|with_reducible refine splitBI (fun h=>?_) fun h=>?_|simp (maxSteps:=999999) (disch:=first|assumption|omega|(simp;done)|fail) [Tryz.results57, *]
   refine ih.out (l.length - (k+1)) _ _ (by omega) ⟨k+1,by omega,rfl,rfl,⟨fun v hv=>?_⟩,by simp [*],by simp [*],by simp⟩
   rw [HT.out] at hv
   rcases List.mem_append.1 hv with h | h
   ·exact HPRE.out v h
   ·rw [List.mem_singleton.1 h]; exact HE.out
 ·have hltI:¬(k:Int) < (l.length:Int):=by omega
  have hk2:k=l.length:=by omega
  have hr:ret=false:=by
   rw [HRET.out]
   have h1:=HPRE.out
   rw [hk2,List.take_length] at h1
   exact decide_eq_false fun h=>h1 x h rfl
  clear hk2
  iterate 6 all_goals try first|with_reducible refine splitI (fun h=>?_) fun h=>?_|with_reducible refine splitBI (fun h=>?_) fun h=>?_|simp (maxSteps:=999999) (disch:=first|assumption|omega|(simp;done)|fail) [Tryz.results57, *]
def kb (i:Int) : AV:=.lit (.int .u8 (i+1))
def kCells (w:List Int) (k:Nat) : List AV:=(w.take k).map kb++List.replicate (w.length - k) (.lit (.int .u8 0))
theorem kCells_len (w:List Int) (k:Nat) (h:k≤w.length) : (kCells w k).length=w.length:=by
 unfold kCells; rw [List.length_append,List.length_map,List.length_take,List.length_replicate]; omega
theorem kCells_set (w:List Int) (k:Nat) (h:k < w.length) : (kCells w k).set k (kb w[k])=kCells w (k+1):=by
 unfold kCells
 have e1:((w.take k).map kb).length=k:=by rw [List.length_map,List.length_take]; omega
 rw [List.set_append_right _ _ (by omega),e1,Nat.sub_self,show w.length - k=(w.length - (k+1))+1 by omega,List.replicate_succ,List.set_cons_zero,List.take_succ,List.getElem?_eq_getElem h]
 simp only [Option.toList_some,List.map_append,List.map_cons,List.map_nil,List.append_assoc,List.cons_append,List.nil_append]
theorem kCells_all (w:List Int) : kCells w w.length=w.map kb:=by
 unfold kCells; rw [List.take_length,Nat.sub_self]; simp
def keyB (w:List Int) : List UInt8:=w.map fun i=>UInt8.ofNat (i+1).toNat
theorem bytes_key:∀ (w:List Int),bytesOf (w.map kb)=some (keyB w)
 | []=>rfl
 | i :: w=>by
  show bytesOf (.lit (.int .u8 (i+1)) :: w.map kb)=_
  rw [bytesOf_u8,bytes_key w,consB_some]; rfl
def keyS (w:List Int) : ByteArray:=⟨(keyB w).toArray⟩
theorem wrap_u8i {a:Int} (h1:0≤a) (h2:a≤255) : IntKind.u8.wrap a=a:=by
 have:=wrap_u8 (m:=a.toNat) (by omega)
 rwa [show (Int.ofNat a.toNat)=a by simp; omega] at this
theorem mk42:mkI Tryz.prog 42=some (.lit (.int .u8 0)):=by kernel_rfl
attribute [simp] mk42
theorem key_w (w:List Int) (hwl:w.length≤300) (hin:∀ i∈w,0≤i∧i < 16) (g:Nat→Option Blk) (n:Nat) (sv:AV) (hsv:RepW g n w sv) :
  WC 0 Tryz.prog 52 [sv] ⟨.fn g,n⟩ fun r=>r=.ret (.lit (.string (keyS w))) ⟨.fn g,n⟩:=by
 refine WC.drop1 rfl ?_
 have hlen:=@lenV Tryz.prog _ _ _ _ _ hsv
 have HS:=Hide.mk hsv
 have HIN:=Hide.mk hin
 clear hsv hin
 refine WC.enterP (noO_ok _ _) hG [] Tryz.func52 rfl (by decide +kernel) (Nat.le_of_ble_eq_true (by kernel_rfl)) ?_
 iterate 6 all_goals try first|with_reducible refine splitI (fun h=>?_) fun h=>?_|with_reducible refine splitBI (fun h=>?_) fun h=>?_|simp (maxSteps:=999999) (disch:=first|assumption|omega|(simp;done)|fail) [Tryz.results52, *]
 refine LX.ind (fun m gf H'=>∃ (k:Nat) (gL:Nat→Option Blk) (L:List AV),k≤w.length∧m=w.length - k∧H'=⟨.fn gL,n+1⟩∧Hide (∀ b,b < n→gL b=g b)∧gL n=some (.cells L true 0)∧Hide (L=kCells w k) ∧
  gf 3=some (.sl n 0 w.length w.length)∧gf 9=some sv∧gf 10=some (.lit (.int .i64 w.length))∧gf 11=some (.lit (.int .i64 k))) (m0:=w.length) ?_ ?_
 ·refine ⟨0,_,_,Nat.zero_le _,rfl,rfl,⟨fun b hb=>gput_lt hb⟩,gput_eq,⟨?_⟩,by simp,by simp,by simp,by simp⟩
  simp [kCells]
 rintro m gf H' ⟨k,gL,L,hk,rfl,rfl,HG,hgn,HL,w3,w9,w10,w11⟩ ih
 have hLl:L.length=w.length:=by rw [HL.out]; exact kCells_len w k hk
 refine LX.roundP (noO_ok _ _) hG [] (by decide +kernel) ?_
 by_cases hlt:k < w.length
 ·have hltI:(k:Int) < (w.length:Int):=by omega
  obtain ⟨a2,off,ha2,hrow,hia⟩:=SliceV.ia (P:=Tryz.prog) HS.out hlt 1
  simp only [Nat.mul_one] at hia
  have hcell:=(hrow.mono (HG.out a2 ha2)).one (k:=k) (s:=1) (by rw [wdC_len]; exact hlt)
  rw [(List.getElem?_eq_some_iff.1 (wdC_at w k hlt)).2] at hcell
  have hb:=HIN.out _ (List.getElem_mem hlt)
  have hset:=kCells_set w k hlt
  rw [← HL.out] at hset
  have HSET:=Hide.mk hset
  clear hset hrow
  generalize w[k]=x at *
  have hw8:IntKind.u8.wrap (x+1)=x+1:=wrap_u8i (by omega) (by omega)
  have hkL:k < L.length:=by omega
  iterate 6 all_goals try first|with_reducible refine splitI (fun h=>?_) fun h=>?_|with_reducible refine splitBI (fun h=>?_) fun h=>?_|simp (maxSteps:=999999) (disch:=first|assumption|omega|(simp;done)|fail) [Tryz.results52, *]
  refine ih.out (w.length - (k+1)) _ _ (by omega) ⟨k+1,_,L.set k (kb x),by omega,rfl,rfl,⟨fun b hb=>(gput_lt hb).trans (HG.out b hb)⟩,gput_eq,⟨HSET.out⟩,by simp [*],by simp [*],by simp [*],by simp⟩
 ·have hltI:¬(k:Int) < (w.length:Int):=by omega
  have hk2:k=w.length:=by omega
  have hby:bytesOf (List.take w.length L)=some (keyB w):=by rw [List.take_of_length_le (by omega),HL.out,hk2,kCells_all]; exact bytes_key w
  clear hk2
  iterate 6 all_goals try first|with_reducible refine splitI (fun h=>?_) fun h=>?_|with_reducible refine splitBI (fun h=>?_) fun h=>?_|simp (maxSteps:=999999) (disch:=first|assumption|omega|(simp;done)|fail) [Tryz.results52, *]
  exact ⟨_,⟨rfl,rfl⟩,Nat.le_succ n,fun b hb=>HG.out b hb⟩
theorem inSet_zip (s:ByteArray) (l:List ByteArray) (i:Nat) : inSet s (l.zipIdx i)=l.contains s:=by
 haveI:=ba_lawful
 induction l generalizing i with
 | nil=>rfl
 | cons b l ih =>
  have:=ih (i+1)
  unfold inSet at this ⊢
  rw [List.zipIdx_cons,List.any_cons,this,List.contains_cons]
  by_cases h:b=s
  ·subst h; simp
  ·have h2:¬(s=b):=fun e=>h e.symm
   simp [h,h2]
theorem wErr_okT {w:List Int} {q:Int} (h:wErr w q=0) : w.length≤256∧∀ i∈w,0≤i∧i < 16:=by
 unfold wErr at h
 split at h
 ·cases h
 ·rename_i h1
  split at h
  ·cases h
  ·rename_i h2
   have h3:inW w q=true:=by
    cases hb:inW w q with
    | true=>rfl
    | false=>exact absurd (.inr hb) h2
   refine ⟨by omega,fun i hi=>?_⟩
   have h4:=List.all_eq_true.1 h3 i hi
   have h5:0≤i∧i < q:=by simpa using h4
   omega
def keysW (l:List (List Int)) : List ByteArray:=l.map keyS
def accOK (q:Int) (S:List (List Int)) (k:Nat) (w:List Int) : Bool :=
 decide (k=0↔w.length=0) && decide (wErr w q=0) && !((keysW (S.take k)).contains (keyS w)) && (decide (k=0) || (keysW (S.take k)).contains (keyS (w.take (w.length - 1))))
def accB (q:Int) (S:List (List Int)) : Bool:=((List.range S.length).all fun j=>accOK q S j (S.getD j [])) && decide (0 < S.length)
theorem wdC_take (w:List Int) (m:Nat) : wdC (w.take m)=(wdC w).take m:=by simp [wdC,List.map_take]
theorem keys_snoc (l:List (List Int)) (w:List Int) {k:Nat} (h:l.length=k) : sset ((keysW (l++[w])).zipIdx)=sset ((keysW l).zipIdx++[(keyS w,k)]):=by
 unfold keysW
 rw [List.map_append,List.zipIdx_append,List.length_map,h]; simp
theorem access_w (q c1 c4 c5:Int) (c3 c6:AV) (h3:oneC c3=true) (h6:oneC c6=true) (S:List (List Int)) (hl:S.length≤1000000) (hw:∀ w∈S,w.length≤1000000) (g:Nat→Option Blk) (n:Nat) (sv:AV) (svs:List AV) (hsv:SliceV g n sv S.length svs) (hr:RowsW g n S svs) (hcap:∀ q∈svs,CapV q) :
  WC 0 Tryz.prog 88 [.agg [.lit (.int .i64 q),.lit (.int .i64 c1),sv,c3,.lit (.int .i64 c4),.lit (.int .i64 c5),c6]] ⟨.fn g,n⟩ fun r=>r=.ret (.lit (.bool (accB q S))) ⟨.fn g,n⟩:=by
 refine WC.drop1 rfl ?_
 have hlen:=@lenV Tryz.prog _ _ _ _ _ hsv
 have h1s:=hsv.one
 have hone:allOne [.lit (.int .i64 q),.lit (.int .i64 c1),sv,c3,.lit (.int .i64 c4),.lit (.int .i64 c5),c6]=true:=by simp [h1s,h3,h6]
 have HS:=Hide.mk hsv
 have HR:=Hide.mk hr
 have HW:=Hide.mk hw
 have HCAP:=Hide.mk hcap
 clear hsv hr hw hcap
 obtain ⟨ret,hret⟩ : ∃ b,b=accB q S:=⟨_,rfl⟩
 rw [← hret]
 have HRET:=Hide.mk hret
 clear hret
 refine WC.enterP (noO_ok _ _) hG [] Tryz.func88 rfl (by decide +kernel) (Nat.le_of_ble_eq_true (by kernel_rfl)) ?_
 iterate 8 all_goals try first|with_reducible refine splitI (fun h=>?_) fun h=>?_|with_reducible refine splitBI (fun h=>?_) fun h=>?_|simp (maxSteps:=999999) (disch:=first|assumption|omega|(simp;done)|fail) [Tryz.results88, *]
 refine LX.ind (fun m gf H'=>∃ (k:Nat) (gL:Nat→Option Blk),k≤S.length∧m=S.length - k∧H'=⟨.fn gL,n+1+1⟩∧Hide (∀ b,b < n→gL b=g b)∧gL n=some (.cells [.lit (.int .i64 q),.lit (.int .i64 c1),sv,c3,.lit (.int .i64 c4),.lit (.int .i64 c5),c6] true 0)∧gL (n+1)=some (.map (sset ((keysW (S.take k)).zipIdx)) k) ∧
  Hide (∀ j,j < k→accOK q S j (S.getD j [])=true)∧gf 1=some (.ptr n 0)∧gf 3=some (.map (n+1))∧gf 8=some sv∧gf 9=some (.lit (.int .i64 S.length))∧gf 10=some (.lit (.int .i64 k))) (m0:=S.length) ?_ ?_
 ·refine ⟨0,_,Nat.zero_le _,rfl,rfl,⟨fun b hb=>(gput_lt (by omega)).trans (gput_lt hb)⟩,(gput_lt (by omega)).trans gput_eq,gput_eq,⟨fun j hj=>by omega⟩,by simp,by simp,by simp,by simp,by simp⟩
 rintro m gf H' ⟨k,gL,hk,rfl,rfl,HG,hgn,hgm,HPRE,w1,w3,w8,w9,w10⟩ ih
 refine LX.roundP (noO_ok _ _) hG [] (by decide +kernel) ?_
 by_cases hlt:k < S.length
 ·have hltI:(k:Int) < (S.length:Int):=by omega
  obtain ⟨q1,hw1,hrep⟩:=HR.out.2 k hlt
  obtain ⟨a2,off,ha2,hrow,hia⟩:=HS.out.ia (P:=Tryz.prog) hlt 1
  simp only [Nat.mul_one] at hia
  have hkl:k < svs.length:=(List.getElem?_eq_some_iff.1 hw1).1
  have hcell:=(hrow.mono (HG.out a2 ha2)).one (k:=k) (s:=1) hkl
  rw [(List.getElem?_eq_some_iff.1 hw1).2] at hcell
  have hrep' : RepW gL (n+1+1) S[k] q1:=SliceV.mono (by omega) (fun a ha=>HG.out a ha) hrep
  have hlw:=@lenV Tryz.prog _ _ _ _ _ hrep
  have hgd:S.getD k []=S[k]:=by rw [List.getD_eq_getElem?_getD,List.getElem?_eq_getElem hlt]; rfl
  have htk:S.take (k+1)=S.take k++[S[k]]:=by rw [List.take_succ,List.getElem?_eq_getElem hlt]; rfl
  have hbad:accOK q S k S[k]=false→ret=false:=fun h=>by
   rw [HRET.out]
   unfold accB
   rw [Bool.and_eq_false_iff]
   left
   rw [List.all_eq_false]
   exact ⟨k,by simp [hlt],by rw [hgd,h]; simp⟩
  have hnext:accOK q S k S[k]=true→∀ j,j < k+1→accOK q S j (S.getD j [])=true:=fun h j hj=>by
   by_cases e:j=k
   ·subst e; rw [hgd]; exact h
   ·exact HPRE.out j (by omega)
  have hwl:=HW.out _ (List.getElem_mem hlt)
  have hcq:CapV q1:=HCAP.out q1 (List.mem_of_getElem? hw1)
  have HCQ:=Hide.mk hcq
  clear hcq
  have HREP:=Hide.mk hrep'
  have HT:=Hide.mk htk
  have HB:=Hide.mk hbad
  have HN:=Hide.mk hnext
  clear htk hrow hrep hrep' hw1 ha2 hbad hnext hgd
  generalize S[k]=w at *
  have hks:=Hide.mk (inSet_zip (keyS w) (keysW (S.take k)) 0)
  have HC:=Hide.mk (wCheck_w w hwl q gL (n+1+1) q1 HREP.out)
  have hbad1:¬(k=0↔w.length=0)→ret=false:=fun h=>HB.out (by unfold accOK; rw [decide_eq_false h,Bool.false_and,Bool.false_and,Bool.false_and])
  have HB1:=Hide.mk hbad1
  clear hbad1
  have hbad2:¬wErr w q=0→ret=false:=fun h=>HB.out (by unfold accOK; rw [decide_eq_false h,Bool.and_false,Bool.false_and,Bool.false_and])
  have HB2:=Hide.mk hbad2
  clear hbad2
  by_cases hk0:k=0
  ·subst hk0
   have hia0:∀ {H:Mem} {ev:Ev} {o:Oper} {t:TypeId},iaS Tryz.prog H ev o t (some (none,1)) (some sv) (some (.lit (.int .i64 0)))=.val (.ptr a2 off) H:=fun {H ev o t}=>hia
   have hcell0:loadB (some (false,1)) (gL a2) off=some q1:=hcell
   have hlt0:(0:Int) < (S.length:Int):=by omega
   clear hia hcell
   by_cases hw0:w.length=0
   ·have hwI:(w.length:Int)=0:=by omega
    iterate 8 all_goals try first|with_reducible refine splitI (fun h=>?_) fun h=>?_|with_reducible refine splitBI (fun h=>?_) fun h=>?_|simp (maxSteps:=999999) (disch:=first|assumption|omega|(simp;done)|fail) [Tryz.results88, *]
    refine WC.mono HC.out ?_
    rintro _ rfl
    by_cases he:wErr w q=0
    ·obtain ⟨hw256,hwin⟩:=wErr_okT he
     have HKEY:=Hide.mk (key_w w (by omega) hwin gL (n+1+1) q1 HREP.out)
     clear hwin
     have HEND:Hide (accOK q S 0 w=true):=⟨by
      unfold accOK
      rw [decide_eq_true (by omega:0=0↔w.length=0),decide_eq_true he,decide_eq_true rfl]; simp [keysW]⟩
     rw [he]
     have hgm0:gL (n+1)=some (Blk.map (sset []) 0):=hgm
     have hin0:inSet (keyS w) []=false:=rfl
     clear hgm
     iterate 8 all_goals try first|with_reducible refine splitI (fun h=>?_) fun h=>?_|with_reducible refine splitBI (fun h=>?_) fun h=>?_|simp (maxSteps:=999999) (disch:=first|assumption|omega|(simp;done)|fail) [Tryz.results88, *]
     refine WC.mono HKEY.out ?_
     rintro _ rfl
     iterate 8 all_goals try first|with_reducible refine splitI (fun h=>?_) fun h=>?_|with_reducible refine splitBI (fun h=>?_) fun h=>?_|simp (maxSteps:=999999) (disch:=first|assumption|omega|(simp;done)|fail) [Tryz.results88, *]
     refine WC.mono HKEY.out ?_
     rintro _ rfl
     iterate 8 all_goals try first|with_reducible refine splitI (fun h=>?_) fun h=>?_|with_reducible refine splitBI (fun h=>?_) fun h=>?_|simp (maxSteps:=999999) (disch:=first|assumption|omega|(simp;done)|fail) [Tryz.results88, *]
     refine ih.out (S.length - (0+1)) _ _ (by omega) ⟨0+1,_,by omega,rfl,rfl,⟨fun b hb=>(gput_lt (by omega)).trans (HG.out b hb)⟩,(gput_lt (by omega)).trans hgn,?_,⟨HN.out HEND.out⟩,by simp [*],by simp [*],by simp [*],by simp [*],by simp⟩
     rw [HT.out,keys_snoc (k:=0) _ _ (by simp)]
     simp [keysW]
    ·have hr:=HB2.out he
     iterate 8 all_goals try first|with_reducible refine splitI (fun h=>?_) fun h=>?_|with_reducible refine splitBI (fun h=>?_) fun h=>?_|simp (maxSteps:=999999) (disch:=first|assumption|omega|(simp;done)|fail) [Tryz.results88, *]
     exact ⟨by show n≤n+1+1; omega,fun b hb=>HG.out b hb⟩
   ·have hwI:¬(w.length:Int)=0:=by omega
    have hr:=HB1.out (fun h=>hw0 (h.1 rfl))
    iterate 8 all_goals try first|with_reducible refine splitI (fun h=>?_) fun h=>?_|with_reducible refine splitBI (fun h=>?_) fun h=>?_|simp (maxSteps:=999999) (disch:=first|assumption|omega|(simp;done)|fail) [Tryz.results88, *]
    exact ⟨by show n≤n+1+1; omega,fun b hb=>HG.out b hb⟩
  ·by_cases hw0:w.length=0
   ·have hkI:¬(k:Int)=0:=by omega
    have hwI:(w.length:Int)=0:=by omega
    have hr:=HB1.out (fun h=>hk0 (h.2 hw0))
    iterate 8 all_goals try first|with_reducible refine splitI (fun h=>?_) fun h=>?_|with_reducible refine splitBI (fun h=>?_) fun h=>?_|simp (maxSteps:=999999) (disch:=first|assumption|omega|(simp;done)|fail) [Tryz.results88, *]
    exact ⟨by show n≤n+1+1; omega,fun b hb=>HG.out b hb⟩
   ·have hkI:¬(k:Int)=0:=by omega
    have hkP:0 < (k:Int):=by omega
    have hwI:¬(w.length:Int)=0:=by omega
    have hwP:0 < w.length:=by omega
    iterate 8 all_goals try first|with_reducible refine splitI (fun h=>?_) fun h=>?_|with_reducible refine splitBI (fun h=>?_) fun h=>?_|simp (maxSteps:=999999) (disch:=first|assumption|omega|(simp;done)|fail) [Tryz.results88, *]
    refine WC.mono HC.out ?_
    rintro _ rfl
    by_cases he:wErr w q=0
    ·obtain ⟨hw256,hwin⟩:=wErr_okT he
     have HKEY:=Hide.mk (key_w w (by omega) hwin gL (n+1+1) q1 HREP.out)
     have HWIN:=Hide.mk hwin
     clear hwin
     rw [he]
     iterate 8 all_goals try first|with_reducible refine splitI (fun h=>?_) fun h=>?_|with_reducible refine splitBI (fun h=>?_) fun h=>?_|simp (maxSteps:=999999) (disch:=first|assumption|omega|(simp;done)|fail) [Tryz.results88, *]
     refine WC.mono HKEY.out ?_
     rintro _ rfl
     by_cases hc3:(keysW (S.take k)).contains (keyS w)=true
     ·have hin:=hks.out.trans hc3
      have hr:ret=false:=HB.out (by unfold accOK; rw [hc3,Bool.not_true,Bool.and_false,Bool.false_and])
      clear hc3
      iterate 8 all_goals try first|with_reducible refine splitI (fun h=>?_) fun h=>?_|with_reducible refine splitBI (fun h=>?_) fun h=>?_|simp (maxSteps:=999999) (disch:=first|assumption|omega|(simp;done)|fail) [Tryz.results88, *]
      exact ⟨by show n≤n+1+1; omega,fun b hb=>HG.out b hb⟩
     have hc3' : (keysW (S.take k)).contains (keyS w)=false:=by simpa using hc3
     have hin:=hks.out.trans hc3'
     have HC3:=Hide.mk hc3'
     clear hc3 hc3'
     obtain ⟨m,hm⟩ : ∃ m,w.length=m+1:=⟨w.length - 1,by omega⟩
     have hkN:0 < k:=by omega
     have HK2:=Hide.mk (show ∀ (a off:Nat) (sv' : AV),a < n+1+1→((∃ c,sv'=.sl a off m c)∨∃ c,sv'=.slq a off m c)→Row gL a off (wdC w)→WC 0 Tryz.prog 52 [sv'] ⟨.fn gL,n+1+1⟩ fun r=>r=.ret (.lit (.string (keyS (w.take m)))) ⟨.fn gL,n+1+1⟩ from
      fun a off sv' ha hs hr=>key_w (w.take m) (by rw [List.length_take]; omega) (fun i hi=>HWIN.out i (List.mem_of_mem_take hi)) gL (n+1+1) sv' (.inr ⟨a,off,ha,by rw [List.length_take,Nat.min_eq_left (by omega)]; exact hs,by rw [wdC_take]; exact hr.takes m⟩))
     have hks2:=Hide.mk (inSet_zip (keyS (w.take m)) (keysW (S.take k)) 0)
     have HLW:=Hide.mk @hlw
     have HE:=Hide.mk he
     clear hlw he
     rcases HREP.out with ⟨h1,_⟩ | ⟨a,off,han,⟨c,hq⟩ | ⟨c,hq⟩,hrow⟩
     ·omega
     ·subst hq
      have hcc:=HCQ.out _ _ _ _ rfl
      have hcc2:m≤c:=by omega
      have hcc3:0 < c:=by omega
      have hkm:=HKEY.out
      rw [hm] at hkm
      have HKM:=Hide.mk hkm
      clear hkm
      have HK3:=Hide.mk (HK2.out a off (.sl a off m c) han (.inl ⟨c,rfl⟩) hrow)
      clear hrow
      iterate 8 all_goals try first|with_reducible refine splitI (fun h=>?_) fun h=>?_|with_reducible refine splitBI (fun h=>?_) fun h=>?_|simp (maxSteps:=999999) (disch:=first|assumption|omega|(simp;done)|fail) [Tryz.results88, *]
      refine WC.mono HK3.out ?_
      rintro _ rfl
      by_cases hc4:(keysW (S.take k)).contains (keyS (w.take m))=true
      ·have hin2:=hks2.out.trans hc4
       clear hc4
       iterate 8 all_goals try first|with_reducible refine splitI (fun h=>?_) fun h=>?_|with_reducible refine splitBI (fun h=>?_) fun h=>?_|simp (maxSteps:=999999) (disch:=first|assumption|omega|(simp;done)|fail) [Tryz.results88, *]
       refine WC.mono HKM.out ?_
       rintro _ rfl
       have HEND:Hide (accOK q S k w=true):=⟨by
        unfold accOK
        rw [decide_eq_true (by omega:k=0↔w.length=0),decide_eq_true HE.out,HC3.out,decide_eq_false hk0,show w.length - 1=m by omega,(hks2.out.symm.trans hin2)]; rfl⟩
       iterate 8 all_goals try first|with_reducible refine splitI (fun h=>?_) fun h=>?_|with_reducible refine splitBI (fun h=>?_) fun h=>?_|simp (maxSteps:=999999) (disch:=first|assumption|omega|(simp;done)|fail) [Tryz.results88, *]
       refine ih.out (S.length - (k+1)) _ _ (by omega) ⟨k+1,_,by omega,rfl,rfl,⟨fun b hb=>(gput_lt (by omega)).trans (HG.out b hb)⟩,(gput_lt (by omega)).trans hgn,?_,⟨HN.out HEND.out⟩,by simp [*],by simp [*],by simp [*],by simp [*],by simp⟩
       rw [HT.out,keys_snoc (k:=k) _ _ (by rw [List.length_take]; omega)]
       simp [Nat.min_eq_left hk]
      ·have hc4' : (keysW (S.take k)).contains (keyS (w.take m))=false:=by simpa using hc4
       have hin2:=hks2.out.trans hc4'
       have hr:ret=false:=HB.out (by unfold accOK; rw [show w.length - 1=m by omega,hc4',Bool.or_false,decide_eq_false hk0,Bool.and_false])
       clear hc4 hc4'
       iterate 8 all_goals try first|with_reducible refine splitI (fun h=>?_) fun h=>?_|with_reducible refine splitBI (fun h=>?_) fun h=>?_|simp (maxSteps:=999999) (disch:=first|assumption|omega|(simp;done)|fail) [Tryz.results88, *]
       exact ⟨by show n≤n+1+1; omega,fun b hb=>HG.out b hb⟩
     ·subst hq
      have hkm:=HKEY.out
      rw [hm] at hkm
      have HKM:=Hide.mk hkm
      clear hkm
      have HK3:=Hide.mk (HK2.out a off (.slq a off m c) han (.inr ⟨c,rfl⟩) hrow)
      clear hrow
      iterate 8 all_goals try first|with_reducible refine splitI (fun h=>?_) fun h=>?_|with_reducible refine splitBI (fun h=>?_) fun h=>?_|simp (maxSteps:=999999) (disch:=first|assumption|omega|(simp;done)|fail) [Tryz.results88, *]
      refine WC.mono HK3.out ?_
      rintro _ rfl
      by_cases hc4:(keysW (S.take k)).contains (keyS (w.take m))=true
      ·have hin2:=hks2.out.trans hc4
       clear hc4
       iterate 8 all_goals try first|with_reducible refine splitI (fun h=>?_) fun h=>?_|with_reducible refine splitBI (fun h=>?_) fun h=>?_|simp (maxSteps:=999999) (disch:=first|assumption|omega|(simp;done)|fail) [Tryz.results88, *]
       refine WC.mono HKM.out ?_
       rintro _ rfl
       have HEND:Hide (accOK q S k w=true):=⟨by
        unfold accOK
        rw [decide_eq_true (by omega:k=0↔w.length=0),decide_eq_true HE.out,HC3.out,decide_eq_false hk0,show w.length - 1=m by omega,(hks2.out.symm.trans hin2)]; rfl⟩
       iterate 8 all_goals try first|with_reducible refine splitI (fun h=>?_) fun h=>?_|with_reducible refine splitBI (fun h=>?_) fun h=>?_|simp (maxSteps:=999999) (disch:=first|assumption|omega|(simp;done)|fail) [Tryz.results88, *]
       refine ih.out (S.length - (k+1)) _ _ (by omega) ⟨k+1,_,by omega,rfl,rfl,⟨fun b hb=>(gput_lt (by omega)).trans (HG.out b hb)⟩,(gput_lt (by omega)).trans hgn,?_,⟨HN.out HEND.out⟩,by simp [*],by simp [*],by simp [*],by simp [*],by simp⟩
       rw [HT.out,keys_snoc (k:=k) _ _ (by rw [List.length_take]; omega)]
       simp [Nat.min_eq_left hk]
      ·have hc4' : (keysW (S.take k)).contains (keyS (w.take m))=false:=by simpa using hc4
       have hin2:=hks2.out.trans hc4'
       have hr:ret=false:=HB.out (by unfold accOK; rw [show w.length - 1=m by omega,hc4',Bool.or_false,decide_eq_false hk0,Bool.and_false])
       clear hc4 hc4'
       iterate 8 all_goals try first|with_reducible refine splitI (fun h=>?_) fun h=>?_|with_reducible refine splitBI (fun h=>?_) fun h=>?_|simp (maxSteps:=999999) (disch:=first|assumption|omega|(simp;done)|fail) [Tryz.results88, *]
       exact ⟨by show n≤n+1+1; omega,fun b hb=>HG.out b hb⟩
    ·have hr:=HB2.out he
     iterate 8 all_goals try first|with_reducible refine splitI (fun h=>?_) fun h=>?_|with_reducible refine splitBI (fun h=>?_) fun h=>?_|simp (maxSteps:=999999) (disch:=first|assumption|omega|(simp;done)|fail) [Tryz.results88, *]
     exact ⟨by show n≤n+1+1; omega,fun b hb=>HG.out b hb⟩
 ·have hltI:¬(k:Int) < (S.length:Int):=by omega
  have hk2:k=S.length:=by omega
  have hall:((List.range S.length).all fun j=>accOK q S j (S.getD j []))=true:=by
   rw [List.all_eq_true]
   intro j hj
   exact HPRE.out j (by rw [hk2]; simpa using hj)
  have hfin:ret=decide (0 < S.length):=by rw [HRET.out]; unfold accB; rw [hall,Bool.true_and]
  clear hgm hall
  iterate 8 all_goals try first|with_reducible refine splitI (fun h=>?_) fun h=>?_|with_reducible refine splitBI (fun h=>?_) fun h=>?_|simp (maxSteps:=999999) (disch:=first|assumption|omega|(simp;done)|fail) [Tryz.results88, *]
  all_goals first | exact fun b hb=>HG.out b hb | exact ⟨by show n≤n+1+1; omega,fun b hb=>HG.out b hb⟩ | (show n≤n+1+1; omega)
def sufOK (q:Int) (S:List (List Int)) (k:Nat) (w:List Int) : Bool :=
 decide (w.length≠0) && decide (wErr w q=0) && !((keysW (S.take k)).contains (keyS w)) && (decide (q≤(k:Int)) || decide (w=[(k:Int)]))
def sufB (q:Int) (S:List (List Int)) : Bool:=((List.range S.length).all fun j=>sufOK q S j (S.getD j [])) && decide (q≤(S.length:Int))
theorem suffixes_w (q c1 c4 c5:Int) (c2 c6:AV) (h2:oneC c2=true) (h6:oneC c6=true) (S:List (List Int)) (hl:S.length≤1000000) (hw:∀ w∈S,w.length≤1000000) (g:Nat→Option Blk) (n:Nat) (sv:AV) (svs:List AV) (hsv:SliceV g n sv S.length svs) (hr:RowsW g n S svs) :
  WC 0 Tryz.prog 89 [.agg [.lit (.int .i64 q),.lit (.int .i64 c1),c2,sv,.lit (.int .i64 c4),.lit (.int .i64 c5),c6]] ⟨.fn g,n⟩ fun r=>r=.ret (.lit (.bool (sufB q S))) ⟨.fn g,n⟩:=by
 refine WC.drop1 rfl ?_
 have hlen:=@lenV Tryz.prog _ _ _ _ _ hsv
 have h1s:=hsv.one
 have hone:allOne [.lit (.int .i64 q),.lit (.int .i64 c1),c2,sv,.lit (.int .i64 c4),.lit (.int .i64 c5),c6]=true:=by simp [h1s,h2,h6]
 have HS:=Hide.mk hsv
 have HR:=Hide.mk hr
 have HW:=Hide.mk hw
 clear hsv hr hw
 obtain ⟨ret,hret⟩ : ∃ b,b=sufB q S:=⟨_,rfl⟩
 rw [← hret]
 have HRET:=Hide.mk hret
 clear hret
 refine WC.enterP (noO_ok _ _) hG [] Tryz.func89 rfl (by decide +kernel) (Nat.le_of_ble_eq_true (by kernel_rfl)) ?_
 iterate 8 all_goals try first|with_reducible refine splitI (fun h=>?_) fun h=>?_|with_reducible refine splitBI (fun h=>?_) fun h=>?_|simp (maxSteps:=999999) (disch:=first|assumption|omega|(simp;done)|fail) [Tryz.results89, *]
 refine LX.ind (fun m gf H'=>∃ (k:Nat) (gL:Nat→Option Blk),k≤S.length∧m=S.length - k∧H'=⟨.fn gL,n+1+1⟩∧Hide (∀ b,b < n→gL b=g b)∧gL n=some (.cells [.lit (.int .i64 q),.lit (.int .i64 c1),c2,sv,.lit (.int .i64 c4),.lit (.int .i64 c5),c6] true 0)∧gL (n+1)=some (.map (sset ((keysW (S.take k)).zipIdx)) k) ∧
  Hide (∀ j,j < k→sufOK q S j (S.getD j [])=true)∧gf 1=some (.ptr n 0)∧gf 3=some (.map (n+1))∧gf 8=some sv∧gf 9=some (.lit (.int .i64 S.length))∧gf 10=some (.lit (.int .i64 k))) (m0:=S.length) ?_ ?_
 ·refine ⟨0,_,Nat.zero_le _,rfl,rfl,⟨fun b hb=>(gput_lt (by omega)).trans (gput_lt hb)⟩,(gput_lt (by omega)).trans gput_eq,gput_eq,⟨fun j hj=>by omega⟩,by simp,by simp,by simp,by simp,by simp⟩
 rintro m gf H' ⟨k,gL,hk,rfl,rfl,HG,hgn,hgm,HPRE,w1,w3,w8,w9,w10⟩ ih
 refine LX.roundP (noO_ok _ _) hG [] (by decide +kernel) ?_
 by_cases hlt:k < S.length
 ·have hltI:(k:Int) < (S.length:Int):=by omega
  obtain ⟨q1,hw1,hrep⟩:=HR.out.2 k hlt
  obtain ⟨a2,off,ha2,hrow,hia⟩:=HS.out.ia (P:=Tryz.prog) hlt 1
  simp only [Nat.mul_one] at hia
  have hkl:k < svs.length:=(List.getElem?_eq_some_iff.1 hw1).1
  have hcell:=(hrow.mono (HG.out a2 ha2)).one (k:=k) (s:=1) hkl
  rw [(List.getElem?_eq_some_iff.1 hw1).2] at hcell
  have hrep' : RepW gL (n+1+1) S[k] q1:=SliceV.mono (by omega) (fun a ha=>HG.out a ha) hrep
  have hlw:=@lenV Tryz.prog _ _ _ _ _ hrep
  have hgd:S.getD k []=S[k]:=by rw [List.getD_eq_getElem?_getD,List.getElem?_eq_getElem hlt]; rfl
  have htk:S.take (k+1)=S.take k++[S[k]]:=by rw [List.take_succ,List.getElem?_eq_getElem hlt]; rfl
  have hbad:sufOK q S k S[k]=false→ret=false:=fun h=>by
   rw [HRET.out]
   unfold sufB
   rw [Bool.and_eq_false_iff]
   left
   rw [List.all_eq_false]
   exact ⟨k,by simp [hlt],by rw [hgd,h]; simp⟩
  have hnext:sufOK q S k S[k]=true→∀ j,j < k+1→sufOK q S j (S.getD j [])=true:=fun h j hj=>by
   by_cases e:j=k
   ·subst e; rw [hgd]; exact h
   ·exact HPRE.out j (by omega)
  have hwl:=HW.out _ (List.getElem_mem hlt)
  have HREP:=Hide.mk hrep'
  have HT:=Hide.mk htk
  have HB:=Hide.mk hbad
  have HN:=Hide.mk hnext
  clear htk hrow hrep hrep' hw1 ha2 hbad hnext hgd
  generalize S[k]=w at *
  have hks:=Hide.mk (inSet_zip (keyS w) (keysW (S.take k)) 0)
  have HC:=Hide.mk (wCheck_w w hwl q gL (n+1+1) q1 HREP.out)
  by_cases hw0:w.length=0
  ·have hwI:(w.length:Int)=0:=by omega
   have hr:ret=false:=HB.out (by unfold sufOK; rw [decide_eq_false (by omega:¬w.length≠0),Bool.false_and,Bool.false_and,Bool.false_and])
   iterate 8 all_goals try first|with_reducible refine splitI (fun h=>?_) fun h=>?_|with_reducible refine splitBI (fun h=>?_) fun h=>?_|simp (maxSteps:=999999) (disch:=first|assumption|omega|(simp;done)|fail) [Tryz.results89, *]
   exact ⟨by show n≤n+1+1; omega,fun b hb=>HG.out b hb⟩
  have hwI:¬(w.length:Int)=0:=by omega
  iterate 8 all_goals try first|with_reducible refine splitI (fun h=>?_) fun h=>?_|with_reducible refine splitBI (fun h=>?_) fun h=>?_|simp (maxSteps:=999999) (disch:=first|assumption|omega|(simp;done)|fail) [Tryz.results89, *]
  refine WC.mono HC.out ?_
  rintro _ rfl
  by_cases he:wErr w q=0
  ·obtain ⟨hw256,hwin⟩:=wErr_okT he
   have HKEY:=Hide.mk (key_w w (by omega) hwin gL (n+1+1) q1 HREP.out)
   clear hwin
   rw [he]
   iterate 8 all_goals try first|with_reducible refine splitI (fun h=>?_) fun h=>?_|with_reducible refine splitBI (fun h=>?_) fun h=>?_|simp (maxSteps:=999999) (disch:=first|assumption|omega|(simp;done)|fail) [Tryz.results89, *]
   refine WC.mono HKEY.out ?_
   rintro _ rfl
   by_cases hc3:(keysW (S.take k)).contains (keyS w)=true
   ·have hin:=hks.out.trans hc3
    have hr:ret=false:=HB.out (by unfold sufOK; rw [hc3,Bool.not_true,Bool.and_false,Bool.false_and])
    clear hc3
    iterate 8 all_goals try first|with_reducible refine splitI (fun h=>?_) fun h=>?_|with_reducible refine splitBI (fun h=>?_) fun h=>?_|simp (maxSteps:=999999) (disch:=first|assumption|omega|(simp;done)|fail) [Tryz.results89, *]
    exact ⟨by show n≤n+1+1; omega,fun b hb=>HG.out b hb⟩
   have hc3' : (keysW (S.take k)).contains (keyS w)=false:=by simpa using hc3
   have hin:=hks.out.trans hc3'
   have HC3:=Hide.mk hc3'
   have HE:=Hide.mk he
   clear hc3 hc3' he
   by_cases hqk:q≤(k:Int)
   ·have hqk2:¬(k:Int) < q:=by omega
    have HEND:Hide (sufOK q S k w=true):=⟨by
     unfold sufOK
     rw [decide_eq_true (by omega:w.length≠0),decide_eq_true HE.out,HC3.out,decide_eq_true hqk]; rfl⟩
    iterate 8 all_goals try first|with_reducible refine splitI (fun h=>?_) fun h=>?_|with_reducible refine splitBI (fun h=>?_) fun h=>?_|simp (maxSteps:=999999) (disch:=first|assumption|omega|(simp;done)|fail) [Tryz.results89, *]
    refine WC.mono HKEY.out ?_
    rintro _ rfl
    iterate 8 all_goals try first|with_reducible refine splitI (fun h=>?_) fun h=>?_|with_reducible refine splitBI (fun h=>?_) fun h=>?_|simp (maxSteps:=999999) (disch:=first|assumption|omega|(simp;done)|fail) [Tryz.results89, *]
    refine ih.out (S.length - (k+1)) _ _ (by omega) ⟨k+1,_,by omega,rfl,rfl,⟨fun b hb=>(gput_lt (by omega)).trans (HG.out b hb)⟩,(gput_lt (by omega)).trans hgn,?_,⟨HN.out HEND.out⟩,by simp [*],by simp [*],by simp [*],by simp [*],by simp⟩
    rw [HT.out,keys_snoc (k:=k) _ _ (by rw [List.length_take]; omega)]
    simp [Nat.min_eq_left hk]
   ·have hqk2:(k:Int) < q:=by omega
    by_cases hw1:w.length=1
    ·obtain ⟨x,rfl⟩ : ∃ x,w=[x]:=List.length_eq_one_iff.1 hw1
     obtain ⟨a3,of3,ha3,hrow3,hia3⟩:=SliceV.ia (P:=Tryz.prog) HREP.out (k:=0) (by simp) 1
     have hcell3:=hrow3.one (k:=0) (s:=1) (by simp [wdC])
     have hv3:(wdC [x])[0]'(by simp [wdC])=.lit (.int .i64 x):=rfl
     rw [hv3] at hcell3
     clear hv3 hrow3 ha3
     have hia4:∀ {H:Mem} {ev:Ev} {o:Oper} {t:TypeId},iaS Tryz.prog H ev o t (some (none,1)) (some q1) (some (.lit (.int .i64 0)))=.val (.ptr a3 of3) H:=fun {H ev o t}=>hia3
     clear hia3
     simp only [Nat.add_zero,Nat.zero_mul] at hcell3
     by_cases hxk:x=(k:Int)
     ·subst hxk
      have HEND:Hide (sufOK q S k [(k:Int)]=true):=⟨by
       unfold sufOK
       rw [decide_eq_true (by simp:([(k:Int)] : List Int).length≠0),decide_eq_true HE.out,HC3.out,decide_eq_true (rfl:[(k:Int)]=[(k:Int)]),Bool.or_true]; rfl⟩
      iterate 8 all_goals try first|with_reducible refine splitI (fun h=>?_) fun h=>?_|with_reducible refine splitBI (fun h=>?_) fun h=>?_|simp (maxSteps:=999999) (disch:=first|assumption|omega|(simp;done)|fail) [Tryz.results89, *]
      refine WC.mono HKEY.out ?_
      rintro _ rfl
      iterate 8 all_goals try first|with_reducible refine splitI (fun h=>?_) fun h=>?_|with_reducible refine splitBI (fun h=>?_) fun h=>?_|simp (maxSteps:=999999) (disch:=first|assumption|omega|(simp;done)|fail) [Tryz.results89, *]
      refine ih.out (S.length - (k+1)) _ _ (by omega) ⟨k+1,_,by omega,rfl,rfl,⟨fun b hb=>(gput_lt (by omega)).trans (HG.out b hb)⟩,(gput_lt (by omega)).trans hgn,?_,⟨HN.out HEND.out⟩,by simp [*],by simp [*],by simp [*],by simp [*],by simp⟩
      rw [HT.out,keys_snoc (k:=k) _ _ (by rw [List.length_take]; omega)]
      simp [Nat.min_eq_left hk]
     ·have hr:ret=false:=HB.out (by unfold sufOK; rw [decide_eq_false hqk,decide_eq_false (by simpa using hxk:¬[x]=[(k:Int)]),Bool.or_false,Bool.and_false])
      iterate 8 all_goals try first|with_reducible refine splitI (fun h=>?_) fun h=>?_|with_reducible refine splitBI (fun h=>?_) fun h=>?_|simp (maxSteps:=999999) (disch:=first|assumption|omega|(simp;done)|fail) [Tryz.results89, *]
      exact ⟨by show n≤n+1+1; omega,fun b hb=>HG.out b hb⟩
    ·have hwI1:¬(w.length:Int)=1:=by omega
     have hr:ret=false:=HB.out (by unfold sufOK; rw [decide_eq_false hqk,decide_eq_false (fun e=>hw1 (by rw [e]; rfl) : ¬w=[(k:Int)]),Bool.or_false,Bool.and_false])
     iterate 8 all_goals try first|with_reducible refine splitI (fun h=>?_) fun h=>?_|with_reducible refine splitBI (fun h=>?_) fun h=>?_|simp (maxSteps:=999999) (disch:=first|assumption|omega|(simp;done)|fail) [Tryz.results89, *]
     exact ⟨by show n≤n+1+1; omega,fun b hb=>HG.out b hb⟩
  ·have hr:ret=false:=HB.out (by unfold sufOK; rw [decide_eq_false he,Bool.and_false,Bool.false_and,Bool.false_and])
   iterate 8 all_goals try first|with_reducible refine splitI (fun h=>?_) fun h=>?_|with_reducible refine splitBI (fun h=>?_) fun h=>?_|simp (maxSteps:=999999) (disch:=first|assumption|omega|(simp;done)|fail) [Tryz.results89, *]
   exact ⟨by show n≤n+1+1; omega,fun b hb=>HG.out b hb⟩
 ·have hltI:¬(k:Int) < (S.length:Int):=by omega
  have hk2:k=S.length:=by omega
  have hall:((List.range S.length).all fun j=>sufOK q S j (S.getD j []))=true:=by
   rw [List.all_eq_true]
   intro j hj
   exact HPRE.out j (by rw [hk2]; simpa using hj)
  have hfin:ret=decide (q≤(S.length:Int)):=by rw [HRET.out]; unfold sufB; rw [hall,Bool.true_and]
  clear hgm hall
  iterate 8 all_goals try first|with_reducible refine splitI (fun h=>?_) fun h=>?_|with_reducible refine splitBI (fun h=>?_) fun h=>?_|simp (maxSteps:=999999) (disch:=first|assumption|omega|(simp;done)|fail) [Tryz.results89, *]
  all_goals first | exact fun b hb=>HG.out b hb | exact ⟨by show n≤n+1+1; omega,fun b hb=>HG.out b hb⟩ | (show n≤n+1+1; omega)
def limErr (S E:List (List Int)) : Int:=if S.length > 64∨E.length > 256∨longM S+1+longM E > 256 then 3 else 0
theorem limits_w (q c1 c4 c5:Int) (c6:AV) (h6:oneC c6=true) (S E:List (List Int)) (hl:S.length≤1000000) (hw:∀ w∈S,w.length≤1000000) (hl2:E.length≤1000000) (hw2:∀ w∈E,w.length≤1000000) (g:Nat→Option Blk) (n:Nat) (sv se:AV) (svs ses:List AV) (hsv:SliceV g n sv S.length svs) (hr:RowsW g n S svs) (hse:SliceV g n se E.length ses) (hre:RowsW g n E ses) :
  WC 0 Tryz.prog 90 [.agg [.lit (.int .i64 q),.lit (.int .i64 c1),sv,se,.lit (.int .i64 c4),.lit (.int .i64 c5),c6]] ⟨.fn g,n⟩ fun r=>r=.ret (.lit (.int .i64 (limErr S E))) ⟨.fn g,n⟩:=by
 refine WC.drop1 rfl ?_
 have hlen:=@lenV Tryz.prog _ _ _ _ _ hsv
 have hlen2:=@lenV Tryz.prog _ _ _ _ _ hse
 have h1s:=hsv.one
 have h1e:=hse.one
 have hone:allOne [.lit (.int .i64 q),.lit (.int .i64 c1),sv,se,.lit (.int .i64 c4),.lit (.int .i64 c5),c6]=true:=by simp [h1s,h1e,h6]
 have HL1:=fun g' (hg' : ∀ b,b < n→g' b=g b)=>long_w S hl hw g' (n+1) sv svs (SliceV.mono (by omega) (fun a ha=>hg' a ha) hsv) (hr.ext (by omega) fun a x ha hx=>(hg' a ha).trans hx)
 have HL2:=fun g' (hg' : ∀ b,b < n→g' b=g b)=>long_w E hl2 hw2 g' (n+1) se ses (SliceV.mono (by omega) (fun a ha=>hg' a ha) hse) (hre.ext (by omega) fun a x ha hx=>(hg' a ha).trans hx)
 have HA:=Hide.mk HL1
 have HB:=Hide.mk HL2
 have hmx:longM S≤1000000:=longM_le hw
 have hmx2:longM E≤1000000:=longM_le hw2
 clear hsv hr hse hre hw hw2 HL1 HL2
 obtain ⟨ret,hret⟩ : ∃ b,b=limErr S E:=⟨_,rfl⟩
 rw [← hret]
 unfold limErr at hret
 generalize hS:longM S=ls at *
 generalize hE:longM E=le at *
 by_cases t1:S.length > 64
 ·have t1I:64 < (S.length:Int):=by omega
  have hr:ret=3:=by rw [hret,if_pos (.inl t1)]
  clear hret
  refine WC.enterP (noO_ok _ _) hG pl90 Tryz.func90 rfl (by decide +kernel) (Nat.le_of_ble_eq_true (by kernel_rfl)) ?_
  iterate 8 all_goals try first|with_reducible refine splitI (fun h=>?_) fun h=>?_|with_reducible refine splitBI (fun h=>?_) fun h=>?_|simp (maxSteps:=999999) (disch:=first|assumption|omega|(simp;done)|fail) [Tryz.results90, *]
  all_goals exact ⟨Nat.le_succ n,fun b hb=>gput_lt hb⟩
 have t1I:¬64 < (S.length:Int):=by omega
 by_cases t2:E.length > 256
 ·have t2I:256 < (E.length:Int):=by omega
  have hr:ret=3:=by rw [hret,if_pos (.inr (.inl t2))]
  clear hret
  refine WC.enterP (noO_ok _ _) hG pl90 Tryz.func90 rfl (by decide +kernel) (Nat.le_of_ble_eq_true (by kernel_rfl)) ?_
  iterate 8 all_goals try first|with_reducible refine splitI (fun h=>?_) fun h=>?_|with_reducible refine splitBI (fun h=>?_) fun h=>?_|simp (maxSteps:=999999) (disch:=first|assumption|omega|(simp;done)|fail) [Tryz.results90, *]
  all_goals exact ⟨Nat.le_succ n,fun b hb=>gput_lt hb⟩
 have t2I:¬256 < (E.length:Int):=by omega
 by_cases t3:ls+1+le > 256
 ·have t3I:256 < (ls:Int)+1+(le:Int):=by omega
  have hr:ret=3:=by rw [hret,if_pos (.inr (.inr t3))]
  clear hret
  refine WC.enterP (noO_ok _ _) hG pl90 Tryz.func90 rfl (by decide +kernel) (Nat.le_of_ble_eq_true (by kernel_rfl)) ?_
  iterate 8 all_goals try first|with_reducible refine splitI (fun h=>?_) fun h=>?_|with_reducible refine splitBI (fun h=>?_) fun h=>?_|simp (maxSteps:=999999) (disch:=first|assumption|omega|(simp;done)|fail) [Tryz.results90, *]
  refine WC.mono (HA.out _ fun b hb=>gput_lt hb) ?_
  rintro _ rfl
  iterate 8 all_goals try first|with_reducible refine splitI (fun h=>?_) fun h=>?_|with_reducible refine splitBI (fun h=>?_) fun h=>?_|simp (maxSteps:=999999) (disch:=first|assumption|omega|(simp;done)|fail) [Tryz.results90, *]
  refine WC.mono (HB.out _ fun b hb=>gput_lt hb) ?_
  rintro _ rfl
  iterate 8 all_goals try first|with_reducible refine splitI (fun h=>?_) fun h=>?_|with_reducible refine splitBI (fun h=>?_) fun h=>?_|simp (maxSteps:=999999) (disch:=first|assumption|omega|(simp;done)|fail) [Tryz.results90, *]
  all_goals exact ⟨Nat.le_succ n,fun b hb=>gput_lt hb⟩
 have t3I:¬256 < (ls:Int)+1+(le:Int):=by omega
 have hr:ret=0:=by rw [hret,if_neg (by omega)]
 clear hret
 refine WC.enterP (noO_ok _ _) hG pl90 Tryz.func90 rfl (by decide +kernel) (Nat.le_of_ble_eq_true (by kernel_rfl)) ?_
 iterate 8 all_goals try first|with_reducible refine splitI (fun h=>?_) fun h=>?_|with_reducible refine splitBI (fun h=>?_) fun h=>?_|simp (maxSteps:=999999) (disch:=first|assumption|omega|(simp;done)|fail) [Tryz.results90, *]
 refine WC.mono (HA.out _ fun b hb=>gput_lt hb) ?_
 rintro _ rfl
 iterate 8 all_goals try first|with_reducible refine splitI (fun h=>?_) fun h=>?_|with_reducible refine splitBI (fun h=>?_) fun h=>?_|simp (maxSteps:=999999) (disch:=first|assumption|omega|(simp;done)|fail) [Tryz.results90, *]
 refine WC.mono (HB.out _ fun b hb=>gput_lt hb) ?_
 rintro _ rfl
 iterate 8 all_goals try first|with_reducible refine splitI (fun h=>?_) fun h=>?_|with_reducible refine splitBI (fun h=>?_) fun h=>?_|simp (maxSteps:=999999) (disch:=first|assumption|omega|(simp;done)|fail) [Tryz.results90, *]
 all_goals exact ⟨Nat.le_succ n,fun b hb=>gput_lt hb⟩
def tabErr (q O:Int) (S E:List (List Int)) (I2 O2:Int) (T:List (List (Int×Int))) : Int :=
 if q > 16∨O > 16∨S.length > 64∨E.length > 256∨longM S > 256∨longM E > 256 then 3
 else if q < 1∨O < 1∨accB q S=false∨sufB q E=false then 1
 else if limErr S E≠0 then limErr S E
 else if treeErr I2 O2 T≠0 then treeErr I2 O2 T
 else if I2≠q∨O2≠O then 5 else 0
structure ListT (g:Nat→Option Blk) (n:Nat) (l:List (List Int)) (sv:AV) : Prop where
 len:l.length≤1000000
 words:∀ w∈l,w.length≤1000000
 ex:∃ svs,SliceV g n sv l.length svs∧RowsW g n l svs∧∀ q∈svs,CapV q
structure TreeT (g:Nat→Option Blk) (n:Nat) (T:List (List (Int×Int))) (sv:AV) : Prop where
 len:T.length≤1000000
 rows:∀ r∈T,r.length≤1000000
 ex:∃ svs,SliceV g n sv T.length svs∧RowsK g n T svs
theorem ListT.mono {g g' : Nat→Option Blk} {n n' : Nat} {l:List (List Int)} {sv:AV} (h:ListT g n l sv) (hn:n≤n') (hg:∀ a,a < n→g' a=g a) : ListT g' n' l sv :=
 ⟨h.len,h.words,let ⟨svs,h1,h2,h3⟩:=h.ex; ⟨svs,h1.mono hn hg,h2.ext hn fun a x ha hx=>(hg a ha).trans hx,h3⟩⟩
theorem TreeT.mono {g g' : Nat→Option Blk} {n n' : Nat} {l:List (List (Int×Int))} {sv:AV} (h:TreeT g n l sv) (hn:n≤n') (hg:∀ a,a < n→g' a=g a) : TreeT g' n' l sv :=
 ⟨h.len,h.rows,let ⟨svs,h1,h2⟩:=h.ex; ⟨svs,h1.mono hn hg,h2.ext hn fun a x ha hx=>(hg a ha).trans hx⟩⟩
theorem TabCheck_w (q O I2 O2:Int) (S E:List (List Int)) (T:List (List (Int×Int))) (g:Nat→Option Blk) (n:Nat) (sv se st:AV) (hS:ListT g n S sv) (hE:ListT g n E se) (hT:TreeT g n T st) :
  WC 0 Tryz.prog 37 [.agg [.lit (.int .i64 q),.lit (.int .i64 O),sv,se,.lit (.int .i64 I2),.lit (.int .i64 O2),st]] ⟨.fn g,n⟩ fun r=>r=.ret (.lit (.int .i64 (tabErr q O S E I2 O2 T))) ⟨.fn g,n⟩:=by
 refine WC.drop1 rfl ?_
 obtain ⟨svs,hsv,hrs,hcs⟩:=hS.ex
 obtain ⟨ses,hse,hre,hce⟩:=hE.ex
 obtain ⟨sts,hst,hrt⟩:=hT.ex
 have hlen:=@lenV Tryz.prog _ _ _ _ _ hsv
 have hlen2:=@lenV Tryz.prog _ _ _ _ _ hse
 have h1s:=hsv.one
 have h1e:=hse.one
 have h1t:=hst.one
 have hone:allOne [.lit (.int .i64 q),.lit (.int .i64 O),sv,se,.lit (.int .i64 I2),.lit (.int .i64 O2),st]=true:=by simp [h1s,h1e,h1t]
 have HG:=fun (g' : Nat→Option Blk) (hg' : ∀ b,b < n→g' b=g b) (a:Nat) (x:Blk) (ha:a < n) (hx:g a=some x)=>(hg' a ha).trans hx
 have HA:=Hide.mk fun g' (hg' : ∀ b,b < n→g' b=g b)=>long_w S hS.len hS.words g' (n+1) sv svs (hsv.mono (by omega) hg') (hrs.ext (by omega) (HG g' hg'))
 have HB:=Hide.mk fun g' (hg' : ∀ b,b < n→g' b=g b)=>long_w E hE.len hE.words g' (n+1) se ses (hse.mono (by omega) hg') (hre.ext (by omega) (HG g' hg'))
 have HC:=Hide.mk fun g' (hg' : ∀ b,b < n→g' b=g b)=>access_w q O I2 O2 se st h1e h1t S hS.len hS.words g' (n+1) sv svs (hsv.mono (by omega) hg') (hrs.ext (by omega) (HG g' hg')) hcs
 have HD:=Hide.mk fun g' (hg' : ∀ b,b < n→g' b=g b)=>suffixes_w q O I2 O2 sv st h1s h1t E hE.len hE.words g' (n+1) se ses (hse.mono (by omega) hg') (hre.ext (by omega) (HG g' hg'))
 have HE:=Hide.mk fun g' (hg' : ∀ b,b < n→g' b=g b)=>limits_w q O I2 O2 st h1t S E hS.len hS.words hE.len hE.words g' (n+1) sv se svs ses (hsv.mono (by omega) hg') (hrs.ext (by omega) (HG g' hg')) (hse.mono (by omega) hg') (hre.ext (by omega) (HG g' hg'))
 have HF:=Hide.mk fun g' (hg' : ∀ b,b < n→g' b=g b)=>CheckTree_w I2 O2 T hT.len hT.rows g' (n+1) st sts (hst.mono (by omega) hg') (hrt.ext (by omega) (HG g' hg'))
 have hmx:longM S≤1000000:=longM_le hS.words
 have hmx2:longM E≤1000000:=longM_le hE.words
 clear hsv hrs hcs hse hre hce hst hrt hS hE hT HG
 obtain ⟨ret,hret⟩ : ∃ b,b=tabErr q O S E I2 O2 T:=⟨_,rfl⟩
 rw [← hret]
 unfold tabErr at hret
 generalize longM S=ls at *
 generalize longM E=le at *
 generalize accB q S=ba at *
 generalize sufB q E=bs at *
 generalize limErr S E=li at *
 generalize treeErr I2 O2 T=te at *
 by_cases t1:q > 16
 ·have hr:ret=3:=by rw [hret,if_pos (.inl t1)]
  clear hret
  refine WC.enterP (noO_ok _ _) hG [] Tryz.func37 rfl (by decide +kernel) (Nat.le_of_ble_eq_true (by kernel_rfl)) ?_
  iterate 8 all_goals try first|with_reducible refine splitI (fun h=>?_) fun h=>?_|with_reducible refine splitBI (fun h=>?_) fun h=>?_|simp (maxSteps:=999999) (disch:=first|assumption|omega|(simp;done)|fail) [Tryz.results37, *]
  all_goals exact ⟨Nat.le_succ n,fun b hb=>gput_lt hb⟩
 by_cases t2:O > 16
 ·have hr:ret=3:=by rw [hret,if_pos (.inr (.inl t2))]
  clear hret
  refine WC.enterP (noO_ok _ _) hG [] Tryz.func37 rfl (by decide +kernel) (Nat.le_of_ble_eq_true (by kernel_rfl)) ?_
  iterate 8 all_goals try first|with_reducible refine splitI (fun h=>?_) fun h=>?_|with_reducible refine splitBI (fun h=>?_) fun h=>?_|simp (maxSteps:=999999) (disch:=first|assumption|omega|(simp;done)|fail) [Tryz.results37, *]
  all_goals exact ⟨Nat.le_succ n,fun b hb=>gput_lt hb⟩
 by_cases t3:S.length > 64
 ·have hr:ret=3:=by rw [hret,if_pos (.inr (.inr (.inl t3)))]
  have t3I:64 < (S.length:Int):=by omega
  clear hret
  refine WC.enterP (noO_ok _ _) hG [] Tryz.func37 rfl (by decide +kernel) (Nat.le_of_ble_eq_true (by kernel_rfl)) ?_
  iterate 8 all_goals try first|with_reducible refine splitI (fun h=>?_) fun h=>?_|with_reducible refine splitBI (fun h=>?_) fun h=>?_|simp (maxSteps:=999999) (disch:=first|assumption|omega|(simp;done)|fail) [Tryz.results37, *]
  all_goals exact ⟨Nat.le_succ n,fun b hb=>gput_lt hb⟩
 have t3I:¬64 < (S.length:Int):=by omega
 by_cases t4:E.length > 256
 ·have hr:ret=3:=by rw [hret,if_pos (.inr (.inr (.inr (.inl t4))))]
  have t4I:256 < (E.length:Int):=by omega
  clear hret
  refine WC.enterP (noO_ok _ _) hG [] Tryz.func37 rfl (by decide +kernel) (Nat.le_of_ble_eq_true (by kernel_rfl)) ?_
  iterate 8 all_goals try first|with_reducible refine splitI (fun h=>?_) fun h=>?_|with_reducible refine splitBI (fun h=>?_) fun h=>?_|simp (maxSteps:=999999) (disch:=first|assumption|omega|(simp;done)|fail) [Tryz.results37, *]
  all_goals exact ⟨Nat.le_succ n,fun b hb=>gput_lt hb⟩
 have t4I:¬256 < (E.length:Int):=by omega
 by_cases t5:ls > 256
 ·have hr:ret=3:=by rw [hret,if_pos (.inr (.inr (.inr (.inr (.inl t5)))))]
  have t5I:256 < (ls:Int):=by omega
  clear hret
  refine WC.enterP (noO_ok _ _) hG [] Tryz.func37 rfl (by decide +kernel) (Nat.le_of_ble_eq_true (by kernel_rfl)) ?_
  iterate 8 all_goals try first|with_reducible refine splitI (fun h=>?_) fun h=>?_|with_reducible refine splitBI (fun h=>?_) fun h=>?_|simp (maxSteps:=999999) (disch:=first|assumption|omega|(simp;done)|fail) [Tryz.results37, *]
  refine WC.mono (HA.out _ fun b hb=>gput_lt hb) ?_
  rintro _ rfl
  iterate 8 all_goals try first|with_reducible refine splitI (fun h=>?_) fun h=>?_|with_reducible refine splitBI (fun h=>?_) fun h=>?_|simp (maxSteps:=999999) (disch:=first|assumption|omega|(simp;done)|fail) [Tryz.results37, *]
  all_goals exact ⟨Nat.le_succ n,fun b hb=>gput_lt hb⟩
 have t5I:¬256 < (ls:Int):=by omega
 by_cases t6:le > 256
 ·have hr:ret=3:=by rw [hret,if_pos (.inr (.inr (.inr (.inr (.inr t6)))))]
  have t6I:256 < (le:Int):=by omega
  clear hret
  refine WC.enterP (noO_ok _ _) hG [] Tryz.func37 rfl (by decide +kernel) (Nat.le_of_ble_eq_true (by kernel_rfl)) ?_
  iterate 8 all_goals try first|with_reducible refine splitI (fun h=>?_) fun h=>?_|with_reducible refine splitBI (fun h=>?_) fun h=>?_|simp (maxSteps:=999999) (disch:=first|assumption|omega|(simp;done)|fail) [Tryz.results37, *]
  refine WC.mono (HA.out _ fun b hb=>gput_lt hb) ?_
  rintro _ rfl
  iterate 8 all_goals try first|with_reducible refine splitI (fun h=>?_) fun h=>?_|with_reducible refine splitBI (fun h=>?_) fun h=>?_|simp (maxSteps:=999999) (disch:=first|assumption|omega|(simp;done)|fail) [Tryz.results37, *]
  refine WC.mono (HB.out _ fun b hb=>gput_lt hb) ?_
  rintro _ rfl
  iterate 8 all_goals try first|with_reducible refine splitI (fun h=>?_) fun h=>?_|with_reducible refine splitBI (fun h=>?_) fun h=>?_|simp (maxSteps:=999999) (disch:=first|assumption|omega|(simp;done)|fail) [Tryz.results37, *]
  all_goals exact ⟨Nat.le_succ n,fun b hb=>gput_lt hb⟩
 have t6I:¬256 < (le:Int):=by omega
 rw [if_neg (by omega)] at hret
 by_cases t7:q < 1
 ·have hr:ret=1:=by rw [hret,if_pos (.inl t7)]
  clear hret
  refine WC.enterP (noO_ok _ _) hG [] Tryz.func37 rfl (by decide +kernel) (Nat.le_of_ble_eq_true (by kernel_rfl)) ?_
  iterate 8 all_goals try first|with_reducible refine splitI (fun h=>?_) fun h=>?_|with_reducible refine splitBI (fun h=>?_) fun h=>?_|simp (maxSteps:=999999) (disch:=first|assumption|omega|(simp;done)|fail) [Tryz.results37, *]
  refine WC.mono (HA.out _ fun b hb=>gput_lt hb) ?_
  rintro _ rfl
  iterate 8 all_goals try first|with_reducible refine splitI (fun h=>?_) fun h=>?_|with_reducible refine splitBI (fun h=>?_) fun h=>?_|simp (maxSteps:=999999) (disch:=first|assumption|omega|(simp;done)|fail) [Tryz.results37, *]
  refine WC.mono (HB.out _ fun b hb=>gput_lt hb) ?_
  rintro _ rfl
  iterate 8 all_goals try first|with_reducible refine splitI (fun h=>?_) fun h=>?_|with_reducible refine splitBI (fun h=>?_) fun h=>?_|simp (maxSteps:=999999) (disch:=first|assumption|omega|(simp;done)|fail) [Tryz.results37, *]
  all_goals exact ⟨Nat.le_succ n,fun b hb=>gput_lt hb⟩
 by_cases t8:O < 1
 ·have hr:ret=1:=by rw [hret,if_pos (.inr (.inl t8))]
  clear hret
  refine WC.enterP (noO_ok _ _) hG [] Tryz.func37 rfl (by decide +kernel) (Nat.le_of_ble_eq_true (by kernel_rfl)) ?_
  iterate 8 all_goals try first|with_reducible refine splitI (fun h=>?_) fun h=>?_|with_reducible refine splitBI (fun h=>?_) fun h=>?_|simp (maxSteps:=999999) (disch:=first|assumption|omega|(simp;done)|fail) [Tryz.results37, *]
  refine WC.mono (HA.out _ fun b hb=>gput_lt hb) ?_
  rintro _ rfl
  iterate 8 all_goals try first|with_reducible refine splitI (fun h=>?_) fun h=>?_|with_reducible refine splitBI (fun h=>?_) fun h=>?_|simp (maxSteps:=999999) (disch:=first|assumption|omega|(simp;done)|fail) [Tryz.results37, *]
  refine WC.mono (HB.out _ fun b hb=>gput_lt hb) ?_
  rintro _ rfl
  iterate 8 all_goals try first|with_reducible refine splitI (fun h=>?_) fun h=>?_|with_reducible refine splitBI (fun h=>?_) fun h=>?_|simp (maxSteps:=999999) (disch:=first|assumption|omega|(simp;done)|fail) [Tryz.results37, *]
  all_goals exact ⟨Nat.le_succ n,fun b hb=>gput_lt hb⟩
 by_cases t9:ba=false
 ·have hr:ret=1:=by rw [hret,if_pos (.inr (.inr (.inl t9)))]
  subst t9
  clear hret
  refine WC.enterP (noO_ok _ _) hG [] Tryz.func37 rfl (by decide +kernel) (Nat.le_of_ble_eq_true (by kernel_rfl)) ?_
  iterate 8 all_goals try first|with_reducible refine splitI (fun h=>?_) fun h=>?_|with_reducible refine splitBI (fun h=>?_) fun h=>?_|simp (maxSteps:=999999) (disch:=first|assumption|omega|(simp;done)|fail) [Tryz.results37, *]
  refine WC.mono (HA.out _ fun b hb=>gput_lt hb) ?_
  rintro _ rfl
  iterate 8 all_goals try first|with_reducible refine splitI (fun h=>?_) fun h=>?_|with_reducible refine splitBI (fun h=>?_) fun h=>?_|simp (maxSteps:=999999) (disch:=first|assumption|omega|(simp;done)|fail) [Tryz.results37, *]
  refine WC.mono (HB.out _ fun b hb=>gput_lt hb) ?_
  rintro _ rfl
  iterate 8 all_goals try first|with_reducible refine splitI (fun h=>?_) fun h=>?_|with_reducible refine splitBI (fun h=>?_) fun h=>?_|simp (maxSteps:=999999) (disch:=first|assumption|omega|(simp;done)|fail) [Tryz.results37, *]
  refine WC.mono (HC.out _ fun b hb=>gput_lt hb) ?_
  rintro _ rfl
  iterate 8 all_goals try first|with_reducible refine splitI (fun h=>?_) fun h=>?_|with_reducible refine splitBI (fun h=>?_) fun h=>?_|simp (maxSteps:=999999) (disch:=first|assumption|omega|(simp;done)|fail) [Tryz.results37, *]
  all_goals exact ⟨Nat.le_succ n,fun b hb=>gput_lt hb⟩
 have t9b:ba=true:=by simpa using t9
 subst t9b
 clear t9
 by_cases t10:bs=false
 ·have hr:ret=1:=by rw [hret,if_pos (.inr (.inr (.inr t10)))]
  subst t10
  clear hret
  refine WC.enterP (noO_ok _ _) hG [] Tryz.func37 rfl (by decide +kernel) (Nat.le_of_ble_eq_true (by kernel_rfl)) ?_
  iterate 8 all_goals try first|with_reducible refine splitI (fun h=>?_) fun h=>?_|with_reducible refine splitBI (fun h=>?_) fun h=>?_|simp (maxSteps:=999999) (disch:=first|assumption|omega|(simp;done)|fail) [Tryz.results37, *]
  refine WC.mono (HA.out _ fun b hb=>gput_lt hb) ?_
  rintro _ rfl
  iterate 8 all_goals try first|with_reducible refine splitI (fun h=>?_) fun h=>?_|with_reducible refine splitBI (fun h=>?_) fun h=>?_|simp (maxSteps:=999999) (disch:=first|assumption|omega|(simp;done)|fail) [Tryz.results37, *]
  refine WC.mono (HB.out _ fun b hb=>gput_lt hb) ?_
  rintro _ rfl
  iterate 8 all_goals try first|with_reducible refine splitI (fun h=>?_) fun h=>?_|with_reducible refine splitBI (fun h=>?_) fun h=>?_|simp (maxSteps:=999999) (disch:=first|assumption|omega|(simp;done)|fail) [Tryz.results37, *]
  refine WC.mono (HC.out _ fun b hb=>gput_lt hb) ?_
  rintro _ rfl
  iterate 8 all_goals try first|with_reducible refine splitI (fun h=>?_) fun h=>?_|with_reducible refine splitBI (fun h=>?_) fun h=>?_|simp (maxSteps:=999999) (disch:=first|assumption|omega|(simp;done)|fail) [Tryz.results37, *]
  refine WC.mono (HD.out _ fun b hb=>gput_lt hb) ?_
  rintro _ rfl
  iterate 8 all_goals try first|with_reducible refine splitI (fun h=>?_) fun h=>?_|with_reducible refine splitBI (fun h=>?_) fun h=>?_|simp (maxSteps:=999999) (disch:=first|assumption|omega|(simp;done)|fail) [Tryz.results37, *]
  all_goals exact ⟨Nat.le_succ n,fun b hb=>gput_lt hb⟩
 have t10b:bs=true:=by simpa using t10
 subst t10b
 clear t10
 rw [if_neg (by simp; omega)] at hret
 by_cases t11:li=0
 ·have hr:ret=if te≠0 then te else if I2≠q∨O2≠O then 5 else 0:=by rw [hret,if_neg (by omega)]
  subst t11
  clear hret
  by_cases t12:te=0
  ·subst t12
   rw [if_neg (by omega)] at hr
   by_cases t13:I2=q
   ·subst t13
    by_cases t14:O2=O
    ·subst t14
     have hr2:ret=0:=by rw [hr,if_neg (by omega)]
     clear hr
     refine WC.enterP (noO_ok _ _) hG [] Tryz.func37 rfl (by decide +kernel) (Nat.le_of_ble_eq_true (by kernel_rfl)) ?_
     iterate 8 all_goals try first|with_reducible refine splitI (fun h=>?_) fun h=>?_|with_reducible refine splitBI (fun h=>?_) fun h=>?_|simp (maxSteps:=999999) (disch:=first|assumption|omega|(simp;done)|fail) [Tryz.results37, *]
     refine WC.mono (HA.out _ fun b hb=>gput_lt hb) ?_
     rintro _ rfl
     iterate 8 all_goals try first|with_reducible refine splitI (fun h=>?_) fun h=>?_|with_reducible refine splitBI (fun h=>?_) fun h=>?_|simp (maxSteps:=999999) (disch:=first|assumption|omega|(simp;done)|fail) [Tryz.results37, *]
     refine WC.mono (HB.out _ fun b hb=>gput_lt hb) ?_
     rintro _ rfl
     iterate 8 all_goals try first|with_reducible refine splitI (fun h=>?_) fun h=>?_|with_reducible refine splitBI (fun h=>?_) fun h=>?_|simp (maxSteps:=999999) (disch:=first|assumption|omega|(simp;done)|fail) [Tryz.results37, *]
     refine WC.mono (HC.out _ fun b hb=>gput_lt hb) ?_
     rintro _ rfl
     iterate 8 all_goals try first|with_reducible refine splitI (fun h=>?_) fun h=>?_|with_reducible refine splitBI (fun h=>?_) fun h=>?_|simp (maxSteps:=999999) (disch:=first|assumption|omega|(simp;done)|fail) [Tryz.results37, *]
     refine WC.mono (HD.out _ fun b hb=>gput_lt hb) ?_
     rintro _ rfl
     iterate 8 all_goals try first|with_reducible refine splitI (fun h=>?_) fun h=>?_|with_reducible refine splitBI (fun h=>?_) fun h=>?_|simp (maxSteps:=999999) (disch:=first|assumption|omega|(simp;done)|fail) [Tryz.results37, *]
     refine WC.mono (HE.out _ fun b hb=>gput_lt hb) ?_
     rintro _ rfl
     iterate 8 all_goals try first|with_reducible refine splitI (fun h=>?_) fun h=>?_|with_reducible refine splitBI (fun h=>?_) fun h=>?_|simp (maxSteps:=999999) (disch:=first|assumption|omega|(simp;done)|fail) [Tryz.results37, *]
     refine WC.mono (HF.out _ fun b hb=>gput_lt hb) ?_
     rintro _ rfl
     iterate 8 all_goals try first|with_reducible refine splitI (fun h=>?_) fun h=>?_|with_reducible refine splitBI (fun h=>?_) fun h=>?_|simp (maxSteps:=999999) (disch:=first|assumption|omega|(simp;done)|fail) [Tryz.results37, *]
     all_goals exact ⟨Nat.le_succ n,fun b hb=>gput_lt hb⟩
    ·have hr2:ret=5:=by rw [hr,if_pos (.inr t14)]
     clear hr
     refine WC.enterP (noO_ok _ _) hG [] Tryz.func37 rfl (by decide +kernel) (Nat.le_of_ble_eq_true (by kernel_rfl)) ?_
     iterate 8 all_goals try first|with_reducible refine splitI (fun h=>?_) fun h=>?_|with_reducible refine splitBI (fun h=>?_) fun h=>?_|simp (maxSteps:=999999) (disch:=first|assumption|omega|(simp;done)|fail) [Tryz.results37, *]
     refine WC.mono (HA.out _ fun b hb=>gput_lt hb) ?_
     rintro _ rfl
     iterate 8 all_goals try first|with_reducible refine splitI (fun h=>?_) fun h=>?_|with_reducible refine splitBI (fun h=>?_) fun h=>?_|simp (maxSteps:=999999) (disch:=first|assumption|omega|(simp;done)|fail) [Tryz.results37, *]
     refine WC.mono (HB.out _ fun b hb=>gput_lt hb) ?_
     rintro _ rfl
     iterate 8 all_goals try first|with_reducible refine splitI (fun h=>?_) fun h=>?_|with_reducible refine splitBI (fun h=>?_) fun h=>?_|simp (maxSteps:=999999) (disch:=first|assumption|omega|(simp;done)|fail) [Tryz.results37, *]
     refine WC.mono (HC.out _ fun b hb=>gput_lt hb) ?_
     rintro _ rfl
     iterate 8 all_goals try first|with_reducible refine splitI (fun h=>?_) fun h=>?_|with_reducible refine splitBI (fun h=>?_) fun h=>?_|simp (maxSteps:=999999) (disch:=first|assumption|omega|(simp;done)|fail) [Tryz.results37, *]
     refine WC.mono (HD.out _ fun b hb=>gput_lt hb) ?_
     rintro _ rfl
     iterate 8 all_goals try first|with_reducible refine splitI (fun h=>?_) fun h=>?_|with_reducible refine splitBI (fun h=>?_) fun h=>?_|simp (maxSteps:=999999) (disch:=first|assumption|omega|(simp;done)|fail) [Tryz.results37, *]
     refine WC.mono (HE.out _ fun b hb=>gput_lt hb) ?_
     rintro _ rfl
     iterate 8 all_goals try first|with_reducible refine splitI (fun h=>?_) fun h=>?_|with_reducible refine splitBI (fun h=>?_) fun h=>?_|simp (maxSteps:=999999) (disch:=first|assumption|omega|(simp;done)|fail) [Tryz.results37, *]
     refine WC.mono (HF.out _ fun b hb=>gput_lt hb) ?_
     rintro _ rfl
     iterate 8 all_goals try first|with_reducible refine splitI (fun h=>?_) fun h=>?_|with_reducible refine splitBI (fun h=>?_) fun h=>?_|simp (maxSteps:=999999) (disch:=first|assumption|omega|(simp;done)|fail) [Tryz.results37, *]
     all_goals exact ⟨Nat.le_succ n,fun b hb=>gput_lt hb⟩
   ·have hr2:ret=5:=by rw [hr,if_pos (.inl t13)]
    clear hr
    refine WC.enterP (noO_ok _ _) hG [] Tryz.func37 rfl (by decide +kernel) (Nat.le_of_ble_eq_true (by kernel_rfl)) ?_
    iterate 8 all_goals try first|with_reducible refine splitI (fun h=>?_) fun h=>?_|with_reducible refine splitBI (fun h=>?_) fun h=>?_|simp (maxSteps:=999999) (disch:=first|assumption|omega|(simp;done)|fail) [Tryz.results37, *]
    refine WC.mono (HA.out _ fun b hb=>gput_lt hb) ?_
    rintro _ rfl
    iterate 8 all_goals try first|with_reducible refine splitI (fun h=>?_) fun h=>?_|with_reducible refine splitBI (fun h=>?_) fun h=>?_|simp (maxSteps:=999999) (disch:=first|assumption|omega|(simp;done)|fail) [Tryz.results37, *]
    refine WC.mono (HB.out _ fun b hb=>gput_lt hb) ?_
    rintro _ rfl
    iterate 8 all_goals try first|with_reducible refine splitI (fun h=>?_) fun h=>?_|with_reducible refine splitBI (fun h=>?_) fun h=>?_|simp (maxSteps:=999999) (disch:=first|assumption|omega|(simp;done)|fail) [Tryz.results37, *]
    refine WC.mono (HC.out _ fun b hb=>gput_lt hb) ?_
    rintro _ rfl
    iterate 8 all_goals try first|with_reducible refine splitI (fun h=>?_) fun h=>?_|with_reducible refine splitBI (fun h=>?_) fun h=>?_|simp (maxSteps:=999999) (disch:=first|assumption|omega|(simp;done)|fail) [Tryz.results37, *]
    refine WC.mono (HD.out _ fun b hb=>gput_lt hb) ?_
    rintro _ rfl
    iterate 8 all_goals try first|with_reducible refine splitI (fun h=>?_) fun h=>?_|with_reducible refine splitBI (fun h=>?_) fun h=>?_|simp (maxSteps:=999999) (disch:=first|assumption|omega|(simp;done)|fail) [Tryz.results37, *]
    refine WC.mono (HE.out _ fun b hb=>gput_lt hb) ?_
    rintro _ rfl
    iterate 8 all_goals try first|with_reducible refine splitI (fun h=>?_) fun h=>?_|with_reducible refine splitBI (fun h=>?_) fun h=>?_|simp (maxSteps:=999999) (disch:=first|assumption|omega|(simp;done)|fail) [Tryz.results37, *]
    refine WC.mono (HF.out _ fun b hb=>gput_lt hb) ?_
    rintro _ rfl
    iterate 8 all_goals try first|with_reducible refine splitI (fun h=>?_) fun h=>?_|with_reducible refine splitBI (fun h=>?_) fun h=>?_|simp (maxSteps:=999999) (disch:=first|assumption|omega|(simp;done)|fail) [Tryz.results37, *]
    all_goals exact ⟨Nat.le_succ n,fun b hb=>gput_lt hb⟩
  ·have hr2:ret=te:=by rw [hr,if_pos t12]
   clear hr
   refine WC.enterP (noO_ok _ _) hG [] Tryz.func37 rfl (by decide +kernel) (Nat.le_of_ble_eq_true (by kernel_rfl)) ?_
   iterate 8 all_goals try first|with_reducible refine splitI (fun h=>?_) fun h=>?_|with_reducible refine splitBI (fun h=>?_) fun h=>?_|simp (maxSteps:=999999) (disch:=first|assumption|omega|(simp;done)|fail) [Tryz.results37, *]
   refine WC.mono (HA.out _ fun b hb=>gput_lt hb) ?_
   rintro _ rfl
   iterate 8 all_goals try first|with_reducible refine splitI (fun h=>?_) fun h=>?_|with_reducible refine splitBI (fun h=>?_) fun h=>?_|simp (maxSteps:=999999) (disch:=first|assumption|omega|(simp;done)|fail) [Tryz.results37, *]
   refine WC.mono (HB.out _ fun b hb=>gput_lt hb) ?_
   rintro _ rfl
   iterate 8 all_goals try first|with_reducible refine splitI (fun h=>?_) fun h=>?_|with_reducible refine splitBI (fun h=>?_) fun h=>?_|simp (maxSteps:=999999) (disch:=first|assumption|omega|(simp;done)|fail) [Tryz.results37, *]
   refine WC.mono (HC.out _ fun b hb=>gput_lt hb) ?_
   rintro _ rfl
   iterate 8 all_goals try first|with_reducible refine splitI (fun h=>?_) fun h=>?_|with_reducible refine splitBI (fun h=>?_) fun h=>?_|simp (maxSteps:=999999) (disch:=first|assumption|omega|(simp;done)|fail) [Tryz.results37, *]
   refine WC.mono (HD.out _ fun b hb=>gput_lt hb) ?_
   rintro _ rfl
   iterate 8 all_goals try first|with_reducible refine splitI (fun h=>?_) fun h=>?_|with_reducible refine splitBI (fun h=>?_) fun h=>?_|simp (maxSteps:=999999) (disch:=first|assumption|omega|(simp;done)|fail) [Tryz.results37, *]
   refine WC.mono (HE.out _ fun b hb=>gput_lt hb) ?_
   rintro _ rfl
   iterate 8 all_goals try first|with_reducible refine splitI (fun h=>?_) fun h=>?_|with_reducible refine splitBI (fun h=>?_) fun h=>?_|simp (maxSteps:=999999) (disch:=first|assumption|omega|(simp;done)|fail) [Tryz.results37, *]
   refine WC.mono (HF.out _ fun b hb=>gput_lt hb) ?_
   rintro _ rfl
   iterate 8 all_goals try first|with_reducible refine splitI (fun h=>?_) fun h=>?_|with_reducible refine splitBI (fun h=>?_) fun h=>?_|simp (maxSteps:=999999) (disch:=first|assumption|omega|(simp;done)|fail) [Tryz.results37, *]
   all_goals exact ⟨Nat.le_succ n,fun b hb=>gput_lt hb⟩
 ·have hr:ret=li:=by rw [hret,if_pos t11]
  clear hret
  refine WC.enterP (noO_ok _ _) hG [] Tryz.func37 rfl (by decide +kernel) (Nat.le_of_ble_eq_true (by kernel_rfl)) ?_
  iterate 8 all_goals try first|with_reducible refine splitI (fun h=>?_) fun h=>?_|with_reducible refine splitBI (fun h=>?_) fun h=>?_|simp (maxSteps:=999999) (disch:=first|assumption|omega|(simp;done)|fail) [Tryz.results37, *]
  refine WC.mono (HA.out _ fun b hb=>gput_lt hb) ?_
  rintro _ rfl
  iterate 8 all_goals try first|with_reducible refine splitI (fun h=>?_) fun h=>?_|with_reducible refine splitBI (fun h=>?_) fun h=>?_|simp (maxSteps:=999999) (disch:=first|assumption|omega|(simp;done)|fail) [Tryz.results37, *]
  refine WC.mono (HB.out _ fun b hb=>gput_lt hb) ?_
  rintro _ rfl
  iterate 8 all_goals try first|with_reducible refine splitI (fun h=>?_) fun h=>?_|with_reducible refine splitBI (fun h=>?_) fun h=>?_|simp (maxSteps:=999999) (disch:=first|assumption|omega|(simp;done)|fail) [Tryz.results37, *]
  refine WC.mono (HC.out _ fun b hb=>gput_lt hb) ?_
  rintro _ rfl
  iterate 8 all_goals try first|with_reducible refine splitI (fun h=>?_) fun h=>?_|with_reducible refine splitBI (fun h=>?_) fun h=>?_|simp (maxSteps:=999999) (disch:=first|assumption|omega|(simp;done)|fail) [Tryz.results37, *]
  refine WC.mono (HD.out _ fun b hb=>gput_lt hb) ?_
  rintro _ rfl
  iterate 8 all_goals try first|with_reducible refine splitI (fun h=>?_) fun h=>?_|with_reducible refine splitBI (fun h=>?_) fun h=>?_|simp (maxSteps:=999999) (disch:=first|assumption|omega|(simp;done)|fail) [Tryz.results37, *]
  refine WC.mono (HE.out _ fun b hb=>gput_lt hb) ?_
  rintro _ rfl
  iterate 8 all_goals try first|with_reducible refine splitI (fun h=>?_) fun h=>?_|with_reducible refine splitBI (fun h=>?_) fun h=>?_|simp (maxSteps:=999999) (disch:=first|assumption|omega|(simp;done)|fail) [Tryz.results37, *]
  all_goals exact ⟨Nat.le_succ n,fun b hb=>gput_lt hb⟩
theorem keyB_inj:∀ {w v:List Int},(∀ i∈w,0≤i∧i < 16)→(∀ i∈v,0≤i∧i < 16)→keyB w=keyB v→w=v
 | [],[],_,_,_=>rfl
 | [],_ :: _,_,_,h=>by simp [keyB] at h
 | _ :: _,[],_,_,h=>by simp [keyB] at h
 | x :: w,y :: v,hw,hv,h=>by
  have h2:UInt8.ofNat (x+1).toNat :: keyB w=UInt8.ofNat (y+1).toNat :: keyB v:=h
  injection h2 with h3 h4
  have hx:=hw x (by simp)
  have hy:=hv y (by simp)
  have h5:(UInt8.ofNat (x+1).toNat).toNat=(UInt8.ofNat (y+1).toNat).toNat:=by rw [h3]
  rw [UInt8.toNat_ofNat',UInt8.toNat_ofNat',Nat.mod_eq_of_lt (by omega),Nat.mod_eq_of_lt (by omega)] at h5
  have:x=y:=by omega
  rw [this,keyB_inj (fun i hi=>hw i (by simp [hi])) (fun i hi=>hv i (by simp [hi])) h4]
theorem keyS_inj {w v:List Int} (hw:∀ i∈w,0≤i∧i < 16) (hv:∀ i∈v,0≤i∧i < 16) (h:keyS w=keyS v) : w=v:=by
 refine keyB_inj hw hv ?_
 have h2:(keyS w).data=(keyS v).data:=by rw [h]
 have h3:(keyB w).toArray=(keyB v).toArray:=h2
 simpa using h3
theorem keys_mem {l:List (List Int)} {w:List Int} (hl:∀ v∈l,∀ i∈v,0≤i∧i < 16) (hw:∀ i∈w,0≤i∧i < 16) : (keysW l).contains (keyS w)=decide (w∈l):=by
 haveI:=ba_lawful
 by_cases h:w∈l
 ·rw [decide_eq_true h,List.contains_iff_mem]
  exact List.mem_map.2 ⟨w,h,rfl⟩
 ·rw [decide_eq_false h]
  cases hc:(keysW l).contains (keyS w) with
  | false=>rfl
  | true =>
   obtain ⟨v,hv,he⟩:=List.mem_map.1 (List.contains_iff_mem.1 hc)
   exact absurd (keyS_inj (hl v hv) hw he ▸ hv) h
theorem wErr_iff {w:List Int} {q:Int} (h1:¬q > 16) (h2:¬q < 1) (h3:w.length≤256) : wErr w q=0↔inW w q=true:=by
 unfold wErr
 rw [if_neg (by omega)]
 constructor
 ·intro h
  split at h
  ·cases h
  ·rename_i hc
   cases hb:inW w q with
   | true=>rfl
   | false=>exact absurd (.inr hb) hc
 ·intro h
  rw [if_neg]
  rintro (h4 | h4)
  ·exact h2 h4
  ·rw [h] at h4; cases h4
def refS (q:Int) (S:List (List Int)) (k:Nat) (w:List Int) : Bool :=
 decide (w.length≠0) && inW w q && !(decide (w∈S.take k)) && decide (w.take (w.length - 1)∈S.take k)
def accR (q:Int) (S:List (List Int)) : Bool:=decide (0 < S.length) && decide ((S.getD 0 []).length=0) && ((List.range S.length).all fun j=>decide (j=0) || refS q S j (S.getD j []))
def refE (q:Int) (E:List (List Int)) (k:Nat) (w:List Int) : Bool :=
 decide (w.length≠0) && inW w q && !(decide (w∈E.take k)) && (decide (q≤(k:Int)) || decide (w=[(k:Int)]))
def sufR (q:Int) (E:List (List Int)) : Bool:=decide (q≤(E.length:Int)) && ((List.range E.length).all fun j=>refE q E j (E.getD j []))
theorem inW_sub {w:List Int} {q:Int} {m:Nat} (h:inW w q=true) : inW (w.take m) q=true :=
 List.all_eq_true.2 fun i hi=>List.all_eq_true.1 h i (List.mem_of_mem_take hi)
theorem inW_in {w:List Int} {q:Int} (h1:¬q > 16) (h:inW w q=true) : ∀ i∈w,0≤i∧i < 16:=fun i hi=>by
 have h2:0≤i∧i < q:=by simpa using List.all_eq_true.1 h i hi
 omega
theorem take_in {S:List (List Int)} {q:Int} {m:Nat} (h1:¬q > 16) (h2:¬q < 1) (h3:∀ w∈S,w.length≤256) (hp:∀ j,j < m→j < S.length→wErr (S.getD j []) q=0) : ∀ v∈S.take m,∀ i∈v,0≤i∧i < 16:=fun v hv=>by
 obtain ⟨j,hj,rfl⟩:=List.mem_iff_getElem.1 hv
 have hj2:j < m∧j < S.length:=by rw [List.length_take] at hj; omega
 have h4:=hp j hj2.1 hj2.2
 rw [List.getD_eq_getElem?_getD,List.getElem?_eq_getElem hj2.2] at h4
 rw [List.getElem_take]
 exact inW_in h1 ((wErr_iff h1 h2 (h3 _ (List.getElem_mem hj2.2))).1 h4)
theorem accOK_err {q:Int} {S:List (List Int)} {k:Nat} {w:List Int} (h:accOK q S k w=true) : wErr w q=0:=by
 unfold accOK at h
 rw [Bool.and_eq_true,Bool.and_eq_true,Bool.and_eq_true] at h
 exact of_decide_eq_true h.1.1.2
theorem sufOK_err {q:Int} {S:List (List Int)} {k:Nat} {w:List Int} (h:sufOK q S k w=true) : wErr w q=0:=by
 unfold sufOK at h
 rw [Bool.and_eq_true,Bool.and_eq_true,Bool.and_eq_true] at h
 exact of_decide_eq_true h.1.1.2
theorem acc_step {q:Int} {S:List (List Int)} {m:Nat} (h1:¬q > 16) (h2:¬q < 1) (h3:∀ w∈S,w.length≤256) (hm:m < S.length) (hp:∀ j,j < m→j < S.length→wErr (S.getD j []) q=0) :
  accOK q S m (S.getD m [])=if m=0 then decide ((S.getD 0 []).length=0) else refS q S m (S.getD m []):=by
 have hw:(S.getD m []).length≤256:=by
  rw [List.getD_eq_getElem?_getD,List.getElem?_eq_getElem hm]
  exact h3 _ (List.getElem_mem hm)
 have ht:=take_in h1 h2 h3 hp
 by_cases h0:m=0
 ·subst h0
  rw [if_pos rfl]
  generalize S.getD 0 []=w at *
  unfold accOK
  by_cases hl:w.length=0
  ·have hnil:w=[]:=List.length_eq_zero_iff.1 hl
   subst hnil
   have:wErr [] q=0:=(wErr_iff h1 h2 (by simp)).2 rfl
   simp [this,keysW]
  ·simp [hl]
 ·rw [if_neg h0]
  generalize S.getD m []=w at *
  unfold accOK refS
  rw [decide_eq_false h0,Bool.false_or]
  by_cases hl:w.length=0
  ·simp [hl,h0]
  ·rw [show decide (m=0↔w.length=0)=true from decide_eq_true (by omega),decide_eq_true hl,Bool.true_and,Bool.true_and]
   by_cases hin:inW w q=true
   ·rw [decide_eq_true ((wErr_iff h1 h2 hw).2 hin),hin,keys_mem ht (inW_in h1 hin),keys_mem ht (inW_in h1 (inW_sub hin))]
   ·rw [decide_eq_false (fun h=>hin ((wErr_iff h1 h2 hw).1 h))]
    have:inW w q=false:=by simpa using hin
    rw [this]; simp
theorem suf_step {q:Int} {S:List (List Int)} {m:Nat} (h1:¬q > 16) (h2:¬q < 1) (h3:∀ w∈S,w.length≤256) (hm:m < S.length) (hp:∀ j,j < m→j < S.length→wErr (S.getD j []) q=0) :
  sufOK q S m (S.getD m [])=refE q S m (S.getD m []):=by
 have hw:(S.getD m []).length≤256:=by
  rw [List.getD_eq_getElem?_getD,List.getElem?_eq_getElem hm]
  exact h3 _ (List.getElem_mem hm)
 have ht:=take_in h1 h2 h3 hp
 generalize S.getD m []=w at *
 unfold sufOK refE
 by_cases hin:inW w q=true
 ·rw [decide_eq_true ((wErr_iff h1 h2 hw).2 hin),hin,keys_mem ht (inW_in h1 hin)]
 ·rw [decide_eq_false (fun h=>hin ((wErr_iff h1 h2 hw).1 h))]
  have:inW w q=false:=by simpa using hin
  rw [this]; simp
theorem all_range {n:Nat} {f g:Nat→Bool} (h:∀ m,m < n→(∀ j,j < m→f j=true)→f m=g m) (h2:∀ m,m < n→(∀ j,j < m→g j=true)→f m=g m) : (List.range n).all f=(List.range n).all g:=by
  rw [Bool.eq_iff_iff,List.all_eq_true,List.all_eq_true]
  constructor
  · intro hf m hm
    rw [← h m (by simpa using hm) fun j hj => hf j (by have : m < n := by simpa using hm
                                                       simp; omega)]
    exact hf m hm
  · intro hg m hm
    rw [h2 m (by simpa using hm) fun j hj => hg j (by have : m < n := by simpa using hm
                                                      simp; omega)]
    exact hg m hm
theorem accB_eq {q:Int} {S:List (List Int)} (h1:¬q > 16) (h2:¬q < 1) (h3:¬longM S > 256) : accB q S=accR q S:=by
 have hw:∀ w∈S,w.length≤256:=fun w hw=>by have:=le_longM hw; omega
 have hstep:∀ m,m < S.length→(∀ j,j < m→accOK q S j (S.getD j [])=true)→accOK q S m (S.getD m [])=if m=0 then decide ((S.getD 0 []).length=0) else refS q S m (S.getD m []):=fun m hm hp=>acc_step h1 h2 hw hm fun j hj _=>accOK_err (hp j hj)
 have hall:((List.range S.length).all fun j=>accOK q S j (S.getD j []))=(List.range S.length).all fun j=>if j=0 then decide ((S.getD 0 []).length=0) else refS q S j (S.getD j []):=by
  refine all_range hstep fun m hm hp=>?_
  have:∀ k,k≤m→∀ j,j < k→accOK q S j (S.getD j [])=true:=fun k=>by
   induction k with
   | zero=>intro _ j hj; omega
   | succ k ih =>
    intro hk j hj
    by_cases e:j=k
    ·subst e
     rw [hstep j (by omega) (ih (by omega))]
     exact hp j (by omega)
    ·exact ih (by omega) j (by omega)
  exact hstep m hm (this m (Nat.le_refl _))
 unfold accB accR
 rw [hall]
 by_cases h0:0 < S.length
 ·rw [decide_eq_true h0,Bool.and_true,Bool.true_and]
  rw [Bool.eq_iff_iff,Bool.and_eq_true,List.all_eq_true,List.all_eq_true]
  constructor
  ·intro h
   refine ⟨by simpa using h 0 (by simpa using h0),fun j hj=>?_⟩
   by_cases e:j=0
   ·rw [decide_eq_true e,Bool.true_or]
   ·have:=h j hj
    rw [if_neg e] at this
    rw [this,Bool.or_true]
  ·rintro ⟨h4,h5⟩ j hj
   by_cases e:j=0
   ·rw [if_pos e]; exact h4
   ·rw [if_neg e]
    have:=h5 j hj
    rw [decide_eq_false e,Bool.false_or] at this
    exact this
 ·rw [decide_eq_false h0,Bool.and_false,Bool.false_and,Bool.false_and]
theorem sufB_eq {q:Int} {S:List (List Int)} (h1:¬q > 16) (h2:¬q < 1) (h3:¬longM S > 256) : sufB q S=sufR q S:=by
 have hw:∀ w∈S,w.length≤256:=fun w hw=>by have:=le_longM hw; omega
 have hstep:∀ m,m < S.length→(∀ j,j < m→sufOK q S j (S.getD j [])=true)→sufOK q S m (S.getD m [])=refE q S m (S.getD m []):=fun m hm hp=>suf_step h1 h2 hw hm fun j hj _=>sufOK_err (hp j hj)
 have hall:((List.range S.length).all fun j=>sufOK q S j (S.getD j []))=(List.range S.length).all fun j=>refE q S j (S.getD j []):=by
  refine all_range hstep fun m hm hp=>?_
  have:∀ k,k≤m→∀ j,j < k→sufOK q S j (S.getD j [])=true:=fun k=>by
   induction k with
   | zero=>intro _ j hj; omega
   | succ k ih =>
    intro hk j hj
    by_cases e:j=k
    ·subst e
     rw [hstep j (by omega) (ih (by omega))]
     exact hp j (by omega)
    ·exact ih (by omega) j (by omega)
  exact hstep m hm (this m (Nat.le_refl _))
 unfold sufB sufR
 rw [hall,Bool.and_comm]
end Go.Ai
end
section
namespace Go.Ai
set_option maxRecDepth 10000
def putM (l:List (List Int)) (w:List Int) : List (List Int):=if w∈l then l else l++[w]
theorem getD_app_lt {l:List (List Int)} {x:List Int} {k:Nat} (h:k < l.length) : (l++[x]).getD k []=l.getD k []:=by
 rw [List.getD_eq_getElem?_getD,List.getD_eq_getElem?_getD,List.getElem?_append_left h]
theorem getD_app_eq {l:List (List Int)} {x:List Int} : (l++[x]).getD l.length []=x:=by
 rw [List.getD_eq_getElem?_getD,List.getElem?_append_right (Nat.le_refl _),Nat.sub_self]; rfl
theorem getD_mem2 {l:List (List Int)} {k:Nat} (h:k < l.length) : l.getD k []∈l:=by
 rw [List.getD_eq_getElem?_getD,List.getElem?_eq_getElem h]
 exact List.getElem_mem h
theorem longM_leT {k:Nat} : ∀ {l:List (List Int)},(∀ w∈l,w.length≤k)→longM l≤k
 | [],_=>Nat.zero_le _
 | w :: l,h=>by
  have h1:=longM_leT (l:=l) fun x hx=>h x (by simp [hx])
  have h2:=h w (by simp)
  unfold longM
  omega
structure SOK (q d:Nat) (S:List (List Int)) : Prop where
 pos:0 < S.length
 hd:S.getD 0 []=[]
 len:S.length≤d+1
 wl:∀ w∈S,w.length≤d∧inW w q=true
 ref:∀ k,k < S.length→k≠0→refS q S k (S.getD k [])=true
theorem SOK.step {q d:Nat} {S:List (List Int)} (h:SOK q d S) {p i:Nat} (hp:p < S.length) (hi:i < q) : SOK q (d+1) (putM S (S.getD p []++[(i:Int)])):=by
 have hpm:=getD_mem2 hp
 have hlen:=h.len
 have hpos:=h.pos
 unfold putM
 split
 ·exact ⟨h.pos,h.hd,by omega,fun w hw=>⟨Nat.le_succ_of_le (h.wl w hw).1,(h.wl w hw).2⟩,h.ref⟩
 ·rename_i hn
  generalize hx:S.getD p []=x at *
  have hwx:=h.wl x hpm
  have hin:inW (x++[(i:Int)]) q=true:=by
   unfold inW
   rw [List.all_append,Bool.and_eq_true]
   exact ⟨hwx.2,by simp; omega⟩
  refine ⟨by simp,by rw [getD_app_lt hpos]; exact h.hd,by simp; omega,fun w hw=>?_,fun k hk h0=>?_⟩
  ·rcases List.mem_append.1 hw with h1 | h1
   ·exact ⟨Nat.le_succ_of_le (h.wl w h1).1,(h.wl w h1).2⟩
   ·rw [List.mem_singleton.1 h1]
    exact ⟨by simp; omega,hin⟩
  ·rw [List.length_append,List.length_singleton] at hk
   by_cases hlt:k < S.length
   ·have h1:=h.ref k hlt h0
    rw [getD_app_lt hlt]
    unfold refS at h1 ⊢
    rw [List.take_append_of_le_length (by omega)]
    exact h1
   ·have hke:k=S.length:=by omega
    subst hke
    rw [getD_app_eq]
    unfold refS
    rw [List.take_append_of_le_length (Nat.le_refl _),List.take_length,hin,decide_eq_false hn]
    have e:(x++[(i:Int)]).take ((x++[(i:Int)]).length - 1)=x:=by simp
    rw [e,decide_eq_true hpm]
    simp
theorem SOK.base {q:Nat} : SOK q 0 [[]]:=⟨by simp,rfl,by simp,fun w hw=>by rw [List.mem_singleton.1 hw]; exact ⟨Nat.le_refl _,rfl⟩,fun k hk h0=>by simp at hk; omega⟩
theorem SOK.acc {q d:Nat} {S:List (List Int)} (h:SOK q d S) : accR q S=true:=by
 unfold accR
 rw [h.hd,decide_eq_true h.pos,Bool.and_eq_true]
 refine ⟨rfl,List.all_eq_true.2 fun j hj=>?_⟩
 have hj2:j < S.length:=by simpa using hj
 by_cases h0:j=0
 ·rw [decide_eq_true h0]; rfl
 ·rw [h.ref j hj2 h0,Bool.or_true]
structure EOK (q d m:Nat) (E:List (List Int)) : Prop where
 low:q≤E.length
 len:E.length≤q+d
 wl:∀ w∈E,0 < w.length∧w.length≤m∧inW w q=true
 ref:∀ k,k < E.length→refE q E k (E.getD k [])=true
theorem EOK.step {q d m:Nat} {E:List (List Int)} (h:EOK q d m E) {w:List Int} (hw:w.length≤m) (hin:inW w q=true) : EOK q (d+1) m (if w.length=0 then E else putM E w):=by
 have hlen:=h.len
 have hlow:=h.low
 have hsame:EOK q (d+1) m E:=⟨h.low,by omega,h.wl,h.ref⟩
 split
 ·exact hsame
 ·rename_i h0
  unfold putM
  split
  ·exact hsame
  ·rename_i hn
   refine ⟨by simp; omega,by simp; omega,fun x hx=>?_,fun k hk=>?_⟩
   ·rcases List.mem_append.1 hx with h1 | h1
    ·exact h.wl x h1
    ·rw [List.mem_singleton.1 h1]
     exact ⟨by omega,hw,hin⟩
   ·rw [List.length_append,List.length_singleton] at hk
    by_cases hlt:k < E.length
    ·have h1:=h.ref k hlt
     rw [getD_app_lt hlt]
     unfold refE at h1 ⊢
     rw [List.take_append_of_le_length (by omega)]
     exact h1
    ·have hke:k=E.length:=by omega
     subst hke
     rw [getD_app_eq]
     unfold refE
     rw [List.take_append_of_le_length (Nat.le_refl _),List.take_length,hin,decide_eq_false hn,decide_eq_true h0,decide_eq_true (show (q:Int)≤(E.length:Int) by omega)]
     rfl
def qE0 (q:Nat) : List (List Int):=(List.range q).map fun i:Nat=>[(i:Int)]
theorem qE0_at {q k:Nat} (h:k < q) : (qE0 q).getD k []=[(k:Int)]:=by
 unfold qE0
 rw [List.getD_eq_getElem?_getD,List.getElem?_map,List.getElem?_range h]; rfl
theorem EOK.base {q m:Nat} (hm:1≤m) : EOK q 0 m (qE0 q):=by
 have hl:(qE0 q).length=q:=by simp [qE0]
 refine ⟨by omega,by omega,fun w hw=>?_,fun k hk=>?_⟩
 ·obtain ⟨i,hi,rfl⟩:=List.mem_map.1 hw
  have:i < q:=by simpa using hi
  exact ⟨by simp,by simpa using hm,by unfold inW; simp; omega⟩
 ·rw [hl] at hk
  rw [qE0_at hk]
  have hin:inW [(k:Int)] q=true:=by unfold inW; simp; omega
  have hn:[(k:Int)] ∉ (qE0 q).take k:=by
   intro h
   obtain ⟨j,hj,he⟩:=List.mem_iff_getElem.1 h
   rw [List.length_take] at hj
   rw [List.getElem_take] at he
   have h2:(qE0 q)[j]'(by omega)=[(j:Int)]:=by unfold qE0; rw [List.getElem_map,List.getElem_range]
   rw [h2] at he
   have:(j:Int)=k:=by simpa using he
   omega
  unfold refE
  rw [hin,decide_eq_false hn]
  simp
theorem EOK.suf {q d m:Nat} {E:List (List Int)} (h:EOK q d m E) : sufR q E=true:=by
 have hlow:=h.low
 unfold sufR
 rw [Bool.and_eq_true]
 exact ⟨decide_eq_true (by omega),List.all_eq_true.2 fun j hj=>h.ref j (by simpa using hj)⟩
theorem tab_ok {q d d2 m:Nat} {O:Int} {S E:List (List Int)} {T:List (List (Int×Int))} (hq:1≤q) (hq2:q≤16) (hO:1≤O) (hO2:O≤16) (hS:SOK q d S) (hE:EOK q d2 m E) (hd:d≤20) (hd2:d2≤20) (hm:m≤20) (hT:treeErr q O T=0) : tabErr q O S E q O T=0:=by
 have h1:=hS.len
 have h2:=hE.len
 have h3:longM S≤d:=longM_leT fun w hw=>(hS.wl w hw).1
 have h4:longM E≤m:=longM_leT fun w hw=>(hE.wl w hw).2.1
 unfold tabErr limErr
 rw [if_neg (by omega),accB_eq (by omega) (by omega) (by omega),sufB_eq (by omega) (by omega) (by omega),hS.acc,hE.suf,if_neg (by simp; omega),if_neg (by rw [if_neg (by omega)]; simp),hT,if_neg (by simp),if_neg (by simp)]
theorem bfs_go {V:List Int→Option Int} {ws:List (List Int)} {I:Nat} {O:Int} (hN:Nod V ws) (hV:∀ x o,V x=some o→o ≠ -1→0≤o∧o < O) : ∀ (m n:Nat) (os:List (List Int)),ws.length≤n+m→Bfs V ws I O n os→n≤os.length→∃ os',Bfs V ws I O os'.length os'
 | m,n,os,hm,h,hn=>by
  by_cases he:n=os.length
  ·subst he; exact ⟨os,h⟩
  ·have hlt:n < os.length:=by omega
   have hle:=h.len
   cases m with
   | zero=>omega
   | succ m =>
    have h2:=(h.step hN hV hlt).1
    exact bfs_go hN hV m (n+1) _ (by omega) h2 (by rw [List.length_append]; omega)
theorem goT_rowsL {I:Nat} {O:Int} {ts:List (List Int×List Int)} (hv:∀ t∈ts,validB I O t=true) (hc:Cons ts) : goT I O (rowsL I ts) 0 1=some (rowsL I ts).length:=by
 have hN:=nod_nodes hv hc
 have h0:Bfs (valT ts) (nodesM ts) I O 0 [[]]:=Bfs.zero ((hN.mem []).2 (.inl rfl))
 obtain ⟨os,h⟩:=bfs_go hN (fun x o h1 h2=>valT_V hv h1 h2) (nodesM ts).length 0 _ (by omega) h0 (by simp)
 exact (bfs_end hv hc hN h).2.2
def RunsOf (M:MachM) (ts:List (List Int×List Int)) : Prop:=∀ t∈ts,t.2=runM M 0 t.1∧inW t.1 M.inp=true
theorem RunsOf.valid {M:MachM} (hM:M.ok) {ts:List (List Int×List Int)} (h:RunsOf M ts) : ∀ t∈ts,validB M.inp M.out t=true:=fun t ht=>by
 have hl:=hM.2.2.2.2.1
 obtain ⟨h1,h2⟩:=h t ht
 refine validB_of (by rw [h1]; exact runM_len _ _) h2 ?_
 rw [h1]
 exact okR_run hM _ 0 false (.inr ⟨0,rfl,by omega⟩) (fun h=>by cases h) h2
theorem RunsOf.cons {M:MachM} {ts:List (List Int×List Int)} (h:RunsOf M ts) : Cons ts :=
 (cons_iff fun t ht=>by rw [(h t ht).1]; exact runM_len _ _).1 (conB_run (fun u hu=>(h u hu).1) _ _ fun u hu=>(h u hu).1)
theorem RunsOf.go {M:MachM} (hM:M.ok) {I:Nat} (hI:M.inp=I) {ts:List (List Int×List Int)} (h:RunsOf M ts) : goT I M.out (rowsL I ts) 0 1=some (rowsL I ts).length :=
 goT_rowsL (by rw [← hI]; exact h.valid hM) h.cons
theorem RunsOf.err {M:MachM} (hM:M.ok) {I:Nat} (hI:M.inp=I) {ts:List (List Int×List Int)} (h:RunsOf M ts) (hl:(rowsL I ts).length≤65537) : treeErr I M.out (rowsL I ts)=0:=by
 have h0:0 < (rowsL I ts).length:=by
  have e:(rowsL I ts).length=(nodesM ts).length:=rowsT_len
  rw [e]; exact List.length_pos_of_mem ((nodesM_val (h.valid hM) h.cons []).2 (.inl rfl))
 have h1:=hM.1
 have h2:=hM.2.1
 have h3:=hM.2.2.1
 have h4:=hM.2.2.2.1
 rw [hI] at h1 h2
 unfold treeErr
 rw [if_neg (by omega),if_neg (by omega),if_pos (h.go hM hI)]
def kidsM (q:Nat) (S:List (List Int)) : List (List Int):=S.flatMap fun s=>(List.range q).map fun i:Nat=>s++[(i:Int)]
def wordsM (q:Nat) (S:List (List Int)) : List (List Int):=S++kidsM q S
theorem kids_len {q:Nat} : ∀ {S:List (List Int)},(kidsM q S).length=S.length * q
 | []=>by simp [kidsM]
 | s :: S=>by
  have:=@kids_len q S
  unfold kidsM at this ⊢
  rw [List.flatMap_cons,List.length_append,this,List.length_cons,Nat.add_mul]
  simp; omega
theorem inW_app {a b:List Int} {q:Int} (h1:inW a q=true) (h2:inW b q=true) : inW (a++b) q=true:=by
 unfold inW at *
 rw [List.all_append,h1,h2]; rfl
structure QOK (M:MachM) (S E:List (List Int)) (L:List (List Int×List Int)) : Prop where
 s:SOK M.inp.toNat 5 S
 e:EOK M.inp.toNat 3 4 E
 runs:RunsOf M L
 wl:∀ t∈L,t.1.length≤10
 len:L.length≤156
 nod:(nodesM L).length≤1561
end Go.Ai
end
section
namespace Go.Ai
open Go.Proofs
set_option maxRecDepth 10000
set_option maxHeartbeats 40000000
theorem RepW.of {g:Nat→Option Blk} {n B:Nat} {w:List Int} {own:Bool} {z:Nat} (h:g B=some (.cells (wdC w) own z)) (hB:B < n) {c:Nat} : RepW g n w (.sl B 0 w.length c):=sliceV_all h hB
theorem RowsW.len {g:Nat→Option Blk} {n:Nat} {l:List (List Int)} {svs:List AV} (h:RowsW g n l svs) : svs.length=l.length:=h.1
theorem RowsW.allOne {g:Nat→Option Blk} {n:Nat} {l:List (List Int)} {svs:List AV} (h:RowsW g n l svs) : allOne svs=true:=by
 have key:∀ (xs:List AV),(∀ (k:Nat) (hk:k < xs.length),oneC xs[k]=true)→Go.Ai.allOne xs=true:=by
  intro xs
  induction xs with
  | nil=>intro _; rfl
  | cons x xs ih =>
   intro hx
   have h0:=hx 0 (by simp)
   have h1:=ih fun k hk=>hx (k+1) (by simpa using hk)
   show (match oneC x with | true=>Go.Ai.allOne xs | false=>false)=true
   have h0' : oneC x=true:=h0
   rw [h0']; exact h1
 refine key svs fun k hk=>?_
 obtain ⟨sv,h1,h2⟩:=h.2 k (by rw [← h.1]; exact hk)
 have:svs[k]=sv:=by rw [List.getElem?_eq_getElem hk] at h1; exact Option.some.inj h1
 rw [this]; exact h2.one
theorem apZ65:apZr Tryz.prog 65 3=some (1,8,[.lit (.int .i64 0)]):=by kernel_rfl
theorem SGrow_nil {k:Nat} (hk0:0 < k) (hk:k≤100000) (g:Nat→Option Blk) (n:Nat) :
  WC 0 Tryz.prog 144 [.lit (.slice none 0 0),.lit (.int .i64 (k:Int))] ⟨.fn g,n⟩ fun r=>r=.ret (.slq n 0 0 0) ⟨.fn (gput g n (some (.cells (rep [.lit (.int .i64 0)] k) true 1))),n+1⟩:=by
 have hap:=fun {H:Mem} {ev:Ev} {d:Option Tmp} {ty:TypeId} {p:String} {af:Array Edge} {gd:Option (Nat×Bool)} {x y:Operand} {hx:ev x=some (.lit (.slice none 0 0))} {hy:ev y=some (.lit (.int .i64 (k:Int)))}=>ap_zeros (P:=Tryz.prog) (H:=H) (ev:=ev) (d:=d) (ty:=ty) (p:=p) (af:=af) (g:=gd) (x:=x) (y:=y) (hx:=hx) (hy:=hy) 1 8 apZ65 hk0 (by omega) (by omega) (by omega) rfl
 have hsn:=fun {H:Mem} {ev:Ev} {d:Option Tmp} {ty:TypeId} {p:String} {af:Array Edge} {gd:Option (Nat×Bool)} {x hi:Operand} {hx:ev x=some (.lit (.slice none 0 0))} {hh:ev hi=some (.lit (.int .i64 0))}=>slice_nil_hi (P:=Tryz.prog) (H:=H) (ev:=ev) (d:=d) (ty:=ty) (p:=p) (af:=af) (g:=gd) (x:=x) (hi:=hi) (hx:=hx) (hh:=hh) (t:=65) (by kernel_rfl)
 have hkI:(0:Int) < (k:Int):=by omega
 have hkI2:¬(k:Int) < 0:=by omega
 refine WC.enterP (noO_ok _ _) hG [] Tryz.func144 rfl (by decide +kernel) (Nat.le_of_ble_eq_true (by kernel_rfl)) ?_
 iterate 8 all_goals try first|with_reducible refine splitI (fun h=>?_) fun h=>?_|with_reducible refine splitBI (fun h=>?_) fun h=>?_|simp (maxSteps:=999999) (disch:=first|assumption|omega|(simp;done)|fail) [Tryz.results144, *]
theorem putR_zero {l new:List AV} (h:new.length≤l.length) : putR l 0 new=new++l.drop new.length:=by simp [putR]
theorem Concat2_w {a b:List Int} (hal:a.length≤10000) (hbl:b.length≤10000) (hb0:0 < b.length) (g:Nat→Option Blk) (n A:Nat) (hA:A < n) (av bv:AV) (own:Bool) (z:Nat) (hg:g A=some (.cells [av,bv] own z)) (ha:RepW g n a av) (hb:RepW g n b bv) :
  WC 0 Tryz.prog 126 [.sl A 0 2 2] ⟨.fn g,n⟩ fun r=>∃ g' n',r=.ret (.slq n 0 (a.length+b.length) 0) ⟨.fn g',n'⟩∧n < n'∧(∀ x,x < n→g' x=g x)∧g' n=some (.cells (wdC (a++b)) true 1):=by
 have h1a:=ha.one
 have h1b:=hb.one
 have hlena:=@lenV Tryz.prog _ _ _ _ _ ha
 have hlenb:=@lenV Tryz.prog _ _ _ _ _ hb
 have HSG:=Hide.mk (SGrow_nil (k:=a.length+b.length) (by omega) (by omega) g n)
 have hwb:(wdC b).length=b.length * 1:=by rw [wdC_len,Nat.mul_one]
 have hwa:(wdC a).length=a.length * 1:=by rw [wdC_len,Nat.mul_one]
 obtain ⟨a9,blk9,ha9,hga9,hapb⟩:=SliceV.aps (P:=Tryz.prog) (sz:=1) hb hb0 hwb
 have hk0:¬((a.length:Int)+(b.length:Int) < 0):=by omega
 have hi1:(a.length:Int)≤10000:=by omega
 have hi2:(b.length:Int)≤10000:=by omega
 have hi3:¬((a.length:Int) < 0):=by omega
 clear hb
 have HA:=Hide.mk ha
 clear ha
 refine WC.enterP (noO_ok _ _) hG [] Tryz.func126 rfl (by decide +kernel) (Nat.le_of_ble_eq_true (by kernel_rfl)) ?_
 iterate 8 all_goals try first|with_reducible refine splitI (fun h=>?_) fun h=>?_|with_reducible refine splitBI (fun h=>?_) fun h=>?_|simp (maxSteps:=999999) (disch:=first|assumption|omega|(simp;done)|fail) [Tryz.results126, *]
 refine LX.roundP (noO_ok _ _) hG [] (by decide +kernel) ?_
 iterate 8 all_goals try first|with_reducible refine splitI (fun h=>?_) fun h=>?_|with_reducible refine splitBI (fun h=>?_) fun h=>?_|simp (maxSteps:=999999) (disch:=first|assumption|omega|(simp;done)|fail) [Tryz.results126, *]
 refine LX.roundP (noO_ok _ _) hG [] (by decide +kernel) ?_
 iterate 8 all_goals try first|with_reducible refine splitI (fun h=>?_) fun h=>?_|with_reducible refine splitBI (fun h=>?_) fun h=>?_|simp (maxSteps:=999999) (disch:=first|assumption|omega|(simp;done)|fail) [Tryz.results126, *]
 refine LX.roundP (noO_ok _ _) hG [] (by decide +kernel) ?_
 iterate 8 all_goals try first|with_reducible refine splitI (fun h=>?_) fun h=>?_|with_reducible refine splitBI (fun h=>?_) fun h=>?_|simp (maxSteps:=999999) (disch:=first|assumption|omega|(simp;done)|fail) [Tryz.results126, *]
 refine WC.mono HSG.out ?_
 rintro _ rfl
 have hg2:gput g n (some (.cells (rep [.lit (.int .i64 0)] (a.length+b.length)) true 1)) A=some (.cells [av,bv] own z):=(gput_lt hA).trans hg
 iterate 8 all_goals try first|with_reducible refine splitI (fun h=>?_) fun h=>?_|with_reducible refine splitBI (fun h=>?_) fun h=>?_|simp (maxSteps:=999999) (disch:=first|assumption|omega|(simp;done)|fail) [Tryz.results126, *]
 refine LX.roundP (noO_ok _ _) hG [] (by decide +kernel) ?_
 by_cases ha0:a.length=0
 ·have hav:SliceV g n av 0 (wdC a):=by have:=HA.out; rw [← ha0]; exact this
  have hap:=fun {H:Mem} {ev:Ev} {d:Option Tmp} {ty:TypeId} {p:String} {af:Array Edge} {gd:Option (Nat×Bool)} {x y:Operand} {s t:TypeId} {q off k c:Nat} {hx:ev x=some (.slq q off k c)} {hy:ev y=some av} (hp:(apI Tryz.prog s t).isSome=true)=>SliceV.apq0 (P:=Tryz.prog) hav (H:=H) (ev:=ev) (d:=d) (ty:=ty) (p:=p) (af:=af) (gd:=gd) (x:=x) (y:=y) (a:=q) (off:=off) (k:=k) (c:=c) (hx:=hx) (hy:=hy) hp
  have HAE:Hide (a=[]):=⟨List.length_eq_zero_iff.1 ha0⟩
  have hrl:(rep [AV.lit (.int .i64 0)] b.length).length=b.length:=by rw [rep_len]; simp
  have hrl2:(0+b.length) * 1≤(rep [AV.lit (.int .i64 0)] b.length).length:=by omega
  have hob:=wdC_one b
  clear hav
  iterate 8 all_goals try first|with_reducible refine splitI (fun h=>?_) fun h=>?_|with_reducible refine splitBI (fun h=>?_) fun h=>?_|simp (maxSteps:=999999) (disch:=first|assumption|omega|(simp;done)|fail) [Tryz.results126, *]
  refine LX.roundP (noO_ok _ _) hG [] (by decide +kernel) ?_
  iterate 8 all_goals try first|with_reducible refine splitI (fun h=>?_) fun h=>?_|with_reducible refine splitBI (fun h=>?_) fun h=>?_|simp (maxSteps:=999999) (disch:=first|assumption|omega|(simp;done)|fail) [Tryz.results126, *]
  refine LX.roundP (noO_ok _ _) hG [] (by decide +kernel) ?_
  iterate 8 all_goals try first|with_reducible refine splitI (fun h=>?_) fun h=>?_|with_reducible refine splitBI (fun h=>?_) fun h=>?_|simp (maxSteps:=999999) (disch:=first|assumption|omega|(simp;done)|fail) [Tryz.results126, *]
  refine ⟨_,_,⟨rfl,rfl⟩,by omega,fun x hx=>gput_lt hx,gput_eq.trans ?_⟩
  rw [HAE.out,List.nil_append,putR_zero (by omega),List.drop_eq_nil_of_le (by omega),List.append_nil]
 ·have hav:SliceV g n av a.length (wdC a):=HA.out
  obtain ⟨a8,blk8,ha8,hga8,hapa⟩:=SliceV.aps (P:=Tryz.prog) (sz:=1) hav (by omega) hwa
  have hrl:(rep [AV.lit (.int .i64 0)] (a.length+b.length)).length=a.length+b.length:=by rw [rep_len]; simp
  have hrl2:(0+a.length) * 1≤(rep [AV.lit (.int .i64 0)] (a.length+b.length)).length:=by omega
  have hrl3:(a.length+b.length) * 1≤(putR (rep [AV.lit (.int .i64 0)] (a.length+b.length)) 0 (wdC a)).length:=by rw [putR_len (by omega)]; omega
  have hob:=wdC_one b
  have hoa:=wdC_one a
  clear hav
  iterate 8 all_goals try first|with_reducible refine splitI (fun h=>?_) fun h=>?_|with_reducible refine splitBI (fun h=>?_) fun h=>?_|simp (maxSteps:=999999) (disch:=first|assumption|omega|(simp;done)|fail) [Tryz.results126, *]
  refine LX.roundP (noO_ok _ _) hG [] (by decide +kernel) ?_
  iterate 8 all_goals try first|with_reducible refine splitI (fun h=>?_) fun h=>?_|with_reducible refine splitBI (fun h=>?_) fun h=>?_|simp (maxSteps:=999999) (disch:=first|assumption|omega|(simp;done)|fail) [Tryz.results126, *]
  refine LX.roundP (noO_ok _ _) hG [] (by decide +kernel) ?_
  iterate 8 all_goals try first|with_reducible refine splitI (fun h=>?_) fun h=>?_|with_reducible refine splitBI (fun h=>?_) fun h=>?_|simp (maxSteps:=999999) (disch:=first|assumption|omega|(simp;done)|fail) [Tryz.results126, *]
  refine ⟨_,_,⟨rfl,rfl⟩,by omega,fun x hx=>gput_lt hx,gput_eq.trans ?_⟩
  have e1:(putR (rep [AV.lit (.int .i64 0)] (a.length+b.length)) 0 (wdC a)).take a.length=wdC a:=by
   have:=putR_take (l:=rep [AV.lit (.int .i64 0)] (a.length+b.length)) (new:=wdC a) (off:=0) (by omega)
   rw [hwa,Nat.zero_add,Nat.mul_one] at this
   simpa using this
  have e2:(putR (rep [AV.lit (.int .i64 0)] (a.length+b.length)) 0 (wdC a)).drop (a.length+(wdC b).length)=[]:=List.drop_eq_nil_of_le (by rw [putR_len (by omega)]; omega)
  have e3:putR (putR (rep [AV.lit (.int .i64 0)] (a.length+b.length)) 0 (wdC a)) a.length (wdC b)=wdC (a++b):=by
   rw [putR,e1,e2]; simp [wdC]
  rw [e3]
theorem WClip_slq {k:Nat} (hk0:0 < k) (hk:k≤100000) (g:Nat→Option Blk) (n B:Nat) :
  WC 0 Tryz.prog 93 [.slq B 0 k 0] ⟨.fn g,n⟩ fun r=>r=.ret (.sl B 0 k k) ⟨.fn g,n⟩:=by
 refine WC.enterP (noO_ok _ _) hG [] Tryz.func93 rfl (by decide +kernel) (Nat.le_of_ble_eq_true (by kernel_rfl)) ?_
 iterate 8 all_goals try first|with_reducible refine splitI (fun h=>?_) fun h=>?_|with_reducible refine splitBI (fun h=>?_) fun h=>?_|simp (maxSteps:=999999) (disch:=first|assumption|omega|(simp;done)|fail) [Tryz.results93, *]
theorem tbehind_w {a b:List Int} (hal:a.length≤10000) (hbl:b.length≤10000) (hb0:0 < b.length) (g:Nat→Option Blk) (n:Nat) (av bv:AV) (ha:RepW g n a av) (hb:RepW g n b bv) :
  WC 0 Tryz.prog 85 [av,bv] ⟨.fn g,n⟩ fun r=>∃ ov g' n',r=.ret ov ⟨.fn g',n'⟩∧n≤n'∧(∀ x,x < n→g' x=g x)∧FreshW g' n n' (a++b) ov∧CapV ov:=by
 have h1a:=ha.one
 have h1b:=hb.one
 have hab:allOne [av,bv]=true:=by simp [h1a,h1b]
 have hca:=ha.cell
 have hcb:=hb.cell
 have HCC:=Hide.mk (Concat2_w hal hbl hb0 (gput g n (some (.cells [av,bv] true 0))) (n+1) n (by omega) av bv true 0 gput_eq (SliceV.mono (by omega) (fun x hx=>gput_lt hx) ha) (SliceV.mono (by omega) (fun x hx=>gput_lt hx) hb))
 clear ha hb
 refine WC.enterP (noO_ok _ _) hG [] Tryz.func85 rfl (by decide +kernel) (Nat.le_of_ble_eq_true (by kernel_rfl)) ?_
 iterate 8 all_goals try first|with_reducible refine splitI (fun h=>?_) fun h=>?_|with_reducible refine splitBI (fun h=>?_) fun h=>?_|simp (maxSteps:=999999) (disch:=first|assumption|omega|(simp;done)|fail) [Tryz.results85, *]
 refine WC.mono HCC.out ?_
 rintro _ ⟨g2,n2,rfl,hn2,hg2,hb2⟩
 have HG2:=Hide.mk hg2
 clear hg2
 iterate 8 all_goals try first|with_reducible refine splitI (fun h=>?_) fun h=>?_|with_reducible refine splitBI (fun h=>?_) fun h=>?_|simp (maxSteps:=999999) (disch:=first|assumption|omega|(simp;done)|fail) [Tryz.results85, *]
 refine WC.mono (WClip_slq (by omega) (by omega) g2 n2 (n+1)) ?_
 rintro _ rfl
 iterate 8 all_goals try first|with_reducible refine splitI (fun h=>?_) fun h=>?_|with_reducible refine splitBI (fun h=>?_) fun h=>?_|simp (maxSteps:=999999) (disch:=first|assumption|omega|(simp;done)|fail) [Tryz.results85, *]
 refine ⟨_,_,_,⟨rfl,rfl,rfl⟩,by omega,fun x hx=>(HG2.out x (by omega)).trans (gput_lt hx),?_,fun _ _ _ _ e=>by cases e; exact Nat.le_refl _⟩
 have h5:(wdC (a++b)).length=a.length+b.length:=by rw [wdC_len,List.length_append]
 refine ⟨fun x=>if x=n+1 then g2 x else none,fun x y hx=>?_,?_⟩
 ·have hx' : (if x=n+1 then g2 x else none)=some y:=hx
  split at hx'
  ·exact ⟨hx',by omega,by omega⟩
  ·cases hx'
 ·have h6:RepW (fun x=>if x=n+1 then g2 x else none) n2 (a++b) (.sl (n+1) 0 (a++b).length (a.length+b.length)):=RepW.of (own:=true) (z:=1) ((if_pos rfl).trans hb2) (by omega)
  rw [List.length_append] at h6
  exact h6
end Go.Ai
end
