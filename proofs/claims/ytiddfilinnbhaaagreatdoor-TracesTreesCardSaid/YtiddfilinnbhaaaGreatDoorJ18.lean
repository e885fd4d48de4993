/- A small verified interpreter over names, its proofs, and what was proved with it. No condition. -/
import Derived.Test.YtiddfilinnbhaaaGreatDoorJ17
set_option linter.all false
set_option linter.deprecated false
section
namespace Go.Ai
open Go.Proofs
set_option maxRecDepth 10000
set_option maxHeartbeats 40000000
theorem tracesTrees_w (I O:Int) (T:List (List (Int×Int))) (w:List Int) (m:Int) (g:Nat→Option Blk) (n:Nat) (tv wv:AV) (hT:TreeV g n T tv) (hW:RepW g n w wv) (h0:g 0=some (.cells [.lit (.int .i64 m)] false 0)) (hn0:3≤n) :
  WC 3 Tryz.prog 9 [.agg [.lit (.int .i64 I),.lit (.int .i64 O),tv],wv] ⟨.fn g,n⟩ fun r=>r=.ret (.lit (.bool true)) ⟨.fn g,n⟩:=by
 refine WC.drop1 rfl ?_
 have hlen:=@lenV Tryz.prog _ _ _ _ _ hT.choose_spec.1
 have hlw:=@lenV Tryz.prog _ _ _ _ _ hW
 have h1t:=hT.choose_spec.1.one
 have h1w:=hW.one
 have hone:allOne [.lit (.int .i64 I),.lit (.int .i64 O),tv]=true:=by simp [h1t]
 have HLV:=Hide.mk fun (gX:Nat→Option Blk) (n2:Nat) (hX:∀ b,b < n→gX b=g b)=>lives_w ⟨.fn gX,n2⟩ m ((hX 0 (by omega)).trans h0)
 have HT:=Hide.mk hT
 have HW:=Hide.mk hW
 clear hT hW h0
 by_cases t1:T.length > 40
 ·have t1I:40 < (T.length:Int):=by omega
  refine WC.enterP (noO_ok _ _) hG pl9 Tryz.func9 rfl (by decide +kernel) (Nat.le_of_ble_eq_true (by kernel_rfl)) ?_
  iterate 8 (all_goals try (first | with_reducible refine splitI (fun h=>?_) (fun h=>?_) | with_reducible refine splitBI (fun h=>?_) (fun h=>?_) | simp (config:={ maxSteps:=1000000 }) (disch:=first | assumption | omega | (simp; done) | fail) [Tryz.results9, *]))
  all_goals exact ⟨Nat.le_succ n,fun b hb=>gput_lt hb⟩
 have t1I:¬40 < (T.length:Int):=by omega
 by_cases t2:w.length > 300
 ·have t2I:300 < (w.length:Int):=by omega
  refine WC.enterP (noO_ok _ _) hG pl9 Tryz.func9 rfl (by decide +kernel) (Nat.le_of_ble_eq_true (by kernel_rfl)) ?_
  iterate 8 (all_goals try (first | with_reducible refine splitI (fun h=>?_) (fun h=>?_) | with_reducible refine splitBI (fun h=>?_) (fun h=>?_) | simp (config:={ maxSteps:=1000000 }) (disch:=first | assumption | omega | (simp; done) | fail) [Tryz.results9, *]))
  all_goals exact ⟨Nat.le_succ n,fun b hb=>gput_lt hb⟩
 have t2I:¬300 < (w.length:Int):=by omega
 refine WC.enterP (noO_ok _ _) hG pl9 Tryz.func9 rfl (by decide +kernel) (Nat.le_of_ble_eq_true (by kernel_rfl)) ?_
 iterate 8 (all_goals try (first | with_reducible refine splitI (fun h=>?_) (fun h=>?_) | with_reducible refine splitBI (fun h=>?_) (fun h=>?_) | simp (config:={ maxSteps:=1000000 }) (disch:=first | assumption | omega | (simp; done) | fail) [Tryz.results9, *]))
 refine LX.ind (fun m gf H'=>∃ k:Nat,k≤T.length∧m=T.length - k∧H'=⟨.fn (gput g n (some (.cells [.lit (.int .i64 I),.lit (.int .i64 O),tv] true 0))),n+1⟩∧Hide (∀ r∈T.take k,r.length≤20)∧gf 1=some wv∧gf 2=some (.ptr n 0)∧gf 5=some (.lit (.int .i64 k))) (m0:=T.length) ?_ ?_
 ·exact ⟨0,Nat.zero_le _,rfl,rfl,⟨fun r hr=>by simp at hr⟩,by simp,by simp,by simp⟩
 rintro m gf H' ⟨k,hk,rfl,rfl,HP,w1,w2,w5⟩ ih
 refine LX.roundP (noO_ok _ _) hG pl9 (by decide +kernel) ?_
 by_cases hlt:k < T.length
 ·have hltI:(k:Int) < (T.length:Int):=by omega
  obtain ⟨a2,o2,q,ha2,hia2,hc2,hq⟩:=(HT.out.mono (n':=n+1) (g':=gput g n (some (.cells [.lit (.int .i64 I),.lit (.int .i64 O),tv] true 0))) (Nat.le_succ n) fun b hb=>gput_lt hb).at hlt
  have hlq:=@lenV Tryz.prog _ _ _ _ _ hq
  have HTK:Hide (T.take (k+1)=T.take k++[T[k]]):=⟨take_snoc hlt⟩
  clear hq
  generalize T[k]=row at *
  by_cases hr:row.length > 20
  ·have hrI:20 < (row.length:Int):=by omega
   iterate 8 (all_goals try (first | with_reducible refine splitI (fun h=>?_) (fun h=>?_) | with_reducible refine splitBI (fun h=>?_) (fun h=>?_) | simp (config:={ maxSteps:=1000000 }) (disch:=first | assumption | omega | (simp; done) | fail) [Tryz.results9, *]))
   exact ⟨Nat.le_succ n,fun b hb=>gput_lt hb⟩
  ·have hrI:¬20 < (row.length:Int):=by omega
   iterate 8 (all_goals try (first | with_reducible refine splitI (fun h=>?_) (fun h=>?_) | with_reducible refine splitBI (fun h=>?_) (fun h=>?_) | simp (config:={ maxSteps:=1000000 }) (disch:=first | assumption | omega | (simp; done) | fail) [Tryz.results9, *]))
   refine ih.out (T.length - (k+1)) _ _ (by omega) ⟨k+1,by omega,rfl,rfl,⟨fun r hr2=>?_⟩,by simp [*],by simp [*],by simp⟩
   rw [HTK.out] at hr2
   rcases List.mem_append.1 hr2 with h | h
   ·exact HP.out r h
   ·rw [List.mem_singleton.1 h]; omega
 ·have hltI:¬(k:Int) < (T.length:Int):=by omega
  have HR20:Hide (∀ r∈T,r.length≤20):=⟨fun r hr=>HP.out r (by rw [show k=T.length by omega,List.take_length]; exact hr)⟩
  clear HP hk
  have HRC:=Hide.mk fun (gX:Nat→Option Blk) (n2:Nat) (hn:n≤n2) (hX:∀ b,b < n→gX b=g b)=>rCheckTree_w I O T gX n2 tv ⟨by omega,fun r hr=>by have:=HR20.out r hr; omega,(let ⟨svs,h1,h2,h3⟩:=HT.out.mono hn hX; ⟨svs,h1,h2,h3⟩)⟩
  have HPC:=Hide.mk fun (gX:Nat→Option Blk) (n2:Nat) (hn:n≤n2) (hX:∀ b,b < n→gX b=g b)=>(let ⟨svs,h1,h2,h3⟩:=HT.out.mono hn hX; CheckTree_w I O T (by omega) (fun r hr=>by have:=HR20.out r hr; omega) gX n2 tv svs h1 ⟨h2,h3⟩)
  by_cases hf:treeErr I O T=0
  ·have hI1:1≤I∧I≤16∧1≤O∧O≤16∧0 < T.length∧goT I O T 0 1=some T.length:=by
    have h:=hf
    unfold treeErr at h
    by_cases c1:I > 16∨O > 16∨T.length > 65537
    ·rw [if_pos c1] at h; cases h
    rw [if_neg c1] at h
    by_cases c2:I < 1∨O < 1∨T.length < 1
    ·rw [if_pos c2] at h; cases h
    rw [if_neg c2] at h
    by_cases c3:goT I O T 0 1=some T.length
    ·exact ⟨by omega,by omega,by omega,by omega,by omega,c3⟩
    ·rw [if_neg c3] at h; cases h
   obtain ⟨i1,i2,o1,o2,l1,hgo⟩:=hI1
   obtain ⟨J,rfl⟩ : ∃ J:Nat,I=J:=⟨I.toNat,by omega⟩
   have HBK:=Hide.mk fun (gX:Nat→Option Blk) (n2:Nat) (hn:n≤n2) (hX:∀ b,b < n→gX b=g b)=>Back_small hf (by omega) gX n2 tv (HT.out.mono hn hX)
   have HAN:=Hide.mk fun (hw:inW w J=true) (hwl:w.length≤256) (gX:Nat→Option Blk) (n2:Nat) (hn:n≤n2) (hX:∀ b,b < n→gX b=g b)=>Answer_w (by omega) (by omega) o1 o2 l1 (by omega) hgo hw hwl gX n2 tv wv (HT.out.mono hn hX) (SliceV.mono hn hX HW.out)
   have HAE:=Hide.mk fun (hwe:¬wErr w J=0) (gX:Nat→Option Blk) (n2:Nat) (hn:n≤n2) (hX:∀ b,b < n→gX b=g b)=>Answer_err (by omega) (by omega) o1 o2 l1 (by omega) hgo (by omega) hwe gX n2 tv wv (HT.out.mono hn hX) (SliceV.mono hn hX HW.out)
   rw [hf] at HRC HPC
   clear hf hgo
   by_cases hwl:w.length > 256
   ·have hwlI:¬(w.length:Int)≤256:=by omega
    have hwlI2:256 < (w.length:Int):=by omega
    have hwe:wErr w J=3:=by unfold wErr; rw [if_pos (.inr hwl)]
    have HAE2:=Hide.mk (HAE.out (by rw [hwe]; decide))
    rw [hwe] at HAE2
    clear hwe HAE HAN
    iterate 8 (all_goals try (first | with_reducible refine splitI (fun h=>?_) (fun h=>?_) | with_reducible refine splitBI (fun h=>?_) (fun h=>?_) | simp (config:={ maxSteps:=1000000 }) (disch:=first | assumption | omega | (simp; done) | fail) [Tryz.results9, *]))
    refine WC.mono (HRC.out _ _ (by omega) fun b hb=>gput_lt hb) ?_
    rintro _ rfl
    iterate 8 (all_goals try (first | with_reducible refine splitI (fun h=>?_) (fun h=>?_) | with_reducible refine splitBI (fun h=>?_) (fun h=>?_) | simp (config:={ maxSteps:=1000000 }) (disch:=first | assumption | omega | (simp; done) | fail) [Tryz.results9, *]))
    refine WC.mono (HAE2.out _ _ (by omega) fun b hb=>gput_lt hb) ?_
    rintro _ rfl
    iterate 8 (all_goals try (first | with_reducible refine splitI (fun h=>?_) (fun h=>?_) | with_reducible refine splitBI (fun h=>?_) (fun h=>?_) | simp (config:={ maxSteps:=1000000 }) (disch:=first | assumption | omega | (simp; done) | fail) [Tryz.results9, *]))
    refine WC.mono (HBK.out _ _ (by omega) fun b hb=>gput_lt hb) ?_
    rintro _ ⟨lv,g3,n3,rfl,hn3,hg3,BL,mL,rfl⟩
    have HG3:Hide (∀ b,b < n→g3 b=g b):=⟨fun b hb=>(hg3 b (by omega)).trans (gput_lt hb)⟩
    have hl3:=(hg3 n (by omega)).trans gput_eq
    clear hg3
    iterate 8 (all_goals try (first | with_reducible refine splitI (fun h=>?_) (fun h=>?_) | with_reducible refine splitBI (fun h=>?_) (fun h=>?_) | simp (config:={ maxSteps:=1000000 }) (disch:=first | assumption | omega | (simp; done) | fail) [Tryz.results9, *]))
    refine WC.mono (HPC.out _ _ (by omega) fun b hb=>(gput_lt (by omega)).trans (HG3.out b hb)) ?_
    rintro _ rfl
    iterate 8 (all_goals try (first | with_reducible refine splitI (fun h=>?_) (fun h=>?_) | with_reducible refine splitBI (fun h=>?_) (fun h=>?_) | simp (config:={ maxSteps:=1000000 }) (disch:=first | assumption | omega | (simp; done) | fail) [Tryz.results9, *]))
    refine LX.ind (fun m gf H'=>H'=⟨.fn (gput g3 n3 (some (.cells [.lit (.int .i64 J),.lit (.int .i64 O),.sl BL 0 mL mL] true 0))),n3+1⟩∧gf 1=some wv∧gf 2=some (.ptr n 0)∧gf 7=some (.lit (.slice none 0 0))∧gf 8=some (.lit (.bool false))∧gf 9=some (.lit (.int .i64 3))∧gf 11=some (.lit (.int .i64 0))∧gf 12=some (.lit (.int .i64 0))∧gf 13=some (.lit (.int .i64 0))) (m0:=0) ?_ ?_
    ·exact ⟨rfl,by simp [*],by simp [*],by simp [*],by simp [*],by simp [*],by simp [*],by simp [*],by simp [*]⟩
    clear w1 w2 w5
    rintro m gf H' ⟨rfl,w1,w2,w7,w8,w9,w11,w12,w13⟩ ih2
    have hkl:(0:Int) < (w.length:Int):=by omega
    have hkl2:0 < w.length:=by omega
    have hkl3:¬w=[]:=fun h=>by rw [h] at hkl2; cases hkl2
    refine LX.roundP (noO_ok _ _) hG pl9 (by decide +kernel) ?_
    iterate 8 (all_goals try (first | with_reducible refine splitI (fun h=>?_) (fun h=>?_) | with_reducible refine splitBI (fun h=>?_) (fun h=>?_) | simp (config:={ maxSteps:=1000000 }) (disch:=first | assumption | omega | (simp; done) | fail) [Tryz.results9, *]))
    refine WC.mono (HLV.out _ _ fun b hb=>(gput_lt (by omega)).trans (HG3.out b hb)) ?_
    rintro _ rfl
    iterate 8 (all_goals try (first | with_reducible refine splitI (fun h=>?_) (fun h=>?_) | with_reducible refine splitBI (fun h=>?_) (fun h=>?_) | simp (config:={ maxSteps:=1000000 }) (disch:=first | assumption | omega | (simp; done) | fail) [Tryz.results9, *]))
    exact ⟨show n≤n3+1 by omega,fun b (hb:b < n)=>(gput_lt (show b < n3 by omega)).trans (HG3.out b hb)⟩
   have hwlI:(w.length:Int)≤256:=by omega
   have hwlI2:¬256 < (w.length:Int):=by omega
   cases hin:inW w J with
   | true =>
    have HIN:=Hide.mk hin
    clear hin HAE
    cases hkb:(ansM T 0 w).isSome with
    | false =>
     have HKB:=Hide.mk hkb
     clear hkb
     iterate 8 (all_goals try (first | with_reducible refine splitI (fun h=>?_) (fun h=>?_) | with_reducible refine splitBI (fun h=>?_) (fun h=>?_) | simp (config:={ maxSteps:=1000000 }) (disch:=first | assumption | omega | (simp; done) | fail) [Tryz.results9, *]))
     refine WC.mono (HRC.out _ _ (by omega) fun b hb=>gput_lt hb) ?_
     rintro _ rfl
     iterate 8 (all_goals try (first | with_reducible refine splitI (fun h=>?_) (fun h=>?_) | with_reducible refine splitBI (fun h=>?_) (fun h=>?_) | simp (config:={ maxSteps:=1000000 }) (disch:=first | assumption | omega | (simp; done) | fail) [Tryz.results9, *]))
     refine WC.mono (HAN.out HIN.out (by omega) _ _ (by omega) fun b hb=>gput_lt hb) ?_
     rintro _ ⟨g2,n2,rv,rfl,hn2,hg2,hav⟩
     have HG2:Hide (∀ b,b < n→g2 b=g b):=⟨fun b hb=>(hg2 b (by omega)).trans (gput_lt hb)⟩
     have hl2:=(hg2 n (by omega)).trans gput_eq
     clear hg2 hav
     rw [HKB.out]
     iterate 8 (all_goals try (first | with_reducible refine splitI (fun h=>?_) (fun h=>?_) | with_reducible refine splitBI (fun h=>?_) (fun h=>?_) | simp (config:={ maxSteps:=1000000 }) (disch:=first | assumption | omega | (simp; done) | fail) [Tryz.results9, *]))
     refine WC.mono (HBK.out _ _ (by omega) fun b hb=>(HG2.out b hb)) ?_
     rintro _ ⟨lv,g3,n3,rfl,hn3,hg3,BL,mL,rfl⟩
     have HG3:Hide (∀ b,b < n→g3 b=g b):=⟨fun b hb=>(hg3 b (by omega)).trans ((HG2.out b hb))⟩
     have hl3:=(hg3 n (by omega)).trans hl2
     clear hg3
     iterate 8 (all_goals try (first | with_reducible refine splitI (fun h=>?_) (fun h=>?_) | with_reducible refine splitBI (fun h=>?_) (fun h=>?_) | simp (config:={ maxSteps:=1000000 }) (disch:=first | assumption | omega | (simp; done) | fail) [Tryz.results9, *]))
     refine WC.mono (HPC.out _ _ (by omega) fun b hb=>(gput_lt (by omega)).trans (HG3.out b hb)) ?_
     rintro _ rfl
     iterate 8 (all_goals try (first | with_reducible refine splitI (fun h=>?_) (fun h=>?_) | with_reducible refine splitBI (fun h=>?_) (fun h=>?_) | simp (config:={ maxSteps:=1000000 }) (disch:=first | assumption | omega | (simp; done) | fail) [Tryz.results9, *]))
     refine LX.ind (fun m gf H'=>∃ (k:Nat) (bad:Int),k≤w.length∧m=w.length - k∧H'=⟨.fn (gput g3 n3 (some (.cells [.lit (.int .i64 J),.lit (.int .i64 O),.sl BL 0 mL mL] true 0))),n3+1⟩∧Hide (bad=if inW (w.take k) J=true then 0 else 1)∧gf 1=some wv∧gf 2=some (.ptr n 0)∧gf 7=some (rv)∧gf 8=some (.lit (.bool false))∧gf 9=some (.lit (.int .i64 0))∧gf 11=some (.lit (.int .i64 0))∧gf 12=some (.lit (.int .i64 bad))∧gf 13=some (.lit (.int .i64 k))) (m0:=w.length) ?_ ?_
     ·exact ⟨0,0,Nat.zero_le _,rfl,rfl,⟨rfl⟩,by simp [*],by simp [*],by simp [*],by simp [*],by simp [*],by simp [*],by simp [*],by simp [*]⟩
     clear w1 w2 w5
     rintro m gf H' ⟨k,bad,hk,rfl,rfl,HBD,w1,w2,w7,w8,w9,w11,w12,w13⟩ ih2
     refine LX.roundP (noO_ok _ _) hG pl9 (by decide +kernel) ?_
     by_cases hkl:k < w.length
     ·have hklI:(k:Int) < (w.length:Int):=by omega
      obtain ⟨a1,o1,ha1,hia1,hc1⟩:=RepW.at HW.out hkl
      rw [← HG3.out a1 ha1] at hc1
      have HST:Hide (inW (w.take (k+1)) J=(inW (w.take k) J && decide (0≤w[k]∧w[k] < (J:Int)))):=⟨by
       unfold inW; rw [take_snoc hkl,List.all_append]; simp⟩
      generalize w[k]=x at *
      by_cases x1:x < 0
      ·have HB2:Hide ((1:Int)=if inW (w.take (k+1)) J=true then 0 else 1):=⟨by rw [HST.out,decide_eq_false (by omega),Bool.and_false]; rfl⟩
       iterate 8 (all_goals try (first | with_reducible refine splitI (fun h=>?_) (fun h=>?_) | with_reducible refine splitBI (fun h=>?_) (fun h=>?_) | simp (config:={ maxSteps:=1000000 }) (disch:=first | assumption | omega | (simp; done) | fail) [Tryz.results9, *]))
       exact ih2.out (w.length - (k+1)) _ _ (by omega) ⟨k+1,1,by omega,rfl,rfl,HB2,by simp [*],by simp [*],by simp [*],by simp [*],by simp [*],by simp [*],by simp,by simp⟩
      ·by_cases x2:(J:Int)≤x
       ·have HB2:Hide ((1:Int)=if inW (w.take (k+1)) J=true then 0 else 1):=⟨by rw [HST.out,decide_eq_false (by omega),Bool.and_false]; rfl⟩
        iterate 8 (all_goals try (first | with_reducible refine splitI (fun h=>?_) (fun h=>?_) | with_reducible refine splitBI (fun h=>?_) (fun h=>?_) | simp (config:={ maxSteps:=1000000 }) (disch:=first | assumption | omega | (simp; done) | fail) [Tryz.results9, *]))
        exact ih2.out (w.length - (k+1)) _ _ (by omega) ⟨k+1,1,by omega,rfl,rfl,HB2,by simp [*],by simp [*],by simp [*],by simp [*],by simp [*],by simp [*],by simp,by simp⟩
       ·have HB2:Hide (bad=if inW (w.take (k+1)) J=true then 0 else 1):=⟨by rw [HST.out,decide_eq_true (by omega),Bool.and_true]; exact HBD.out⟩
        iterate 8 (all_goals try (first | with_reducible refine splitI (fun h=>?_) (fun h=>?_) | with_reducible refine splitBI (fun h=>?_) (fun h=>?_) | simp (config:={ maxSteps:=1000000 }) (disch:=first | assumption | omega | (simp; done) | fail) [Tryz.results9, *]))
        exact ih2.out (w.length - (k+1)) _ _ (by omega) ⟨k+1,bad,by omega,rfl,rfl,HB2,by simp [*],by simp [*],by simp [*],by simp [*],by simp [*],by simp [*],by simp [*],by simp⟩
     ·have hklI:¬(k:Int) < (w.length:Int):=by omega
      have hbad:bad=0:=by
       rw [HBD.out,List.take_of_length_le (by omega),HIN.out]; rfl
      subst hbad
      iterate 8 (all_goals try (first | with_reducible refine splitI (fun h=>?_) (fun h=>?_) | with_reducible refine splitBI (fun h=>?_) (fun h=>?_) | simp (config:={ maxSteps:=1000000 }) (disch:=first | assumption | omega | (simp; done) | fail) [Tryz.results9, *]))
      refine WC.mono (HLV.out _ _ fun b hb=>(gput_lt (by omega)).trans (HG3.out b hb)) ?_
      rintro _ rfl
      iterate 8 (all_goals try (first | with_reducible refine splitI (fun h=>?_) (fun h=>?_) | with_reducible refine splitBI (fun h=>?_) (fun h=>?_) | simp (config:={ maxSteps:=1000000 }) (disch:=first | assumption | omega | (simp; done) | fail) [Tryz.results9, *]))
      exact ⟨show n≤n3+1 by omega,fun b (hb:b < n)=>(gput_lt (show b < n3 by omega)).trans (HG3.out b hb)⟩
    | true =>
     have HKB:=Hide.mk hkb
     clear hkb
     iterate 8 (all_goals try (first | with_reducible refine splitI (fun h=>?_) (fun h=>?_) | with_reducible refine splitBI (fun h=>?_) (fun h=>?_) | simp (config:={ maxSteps:=1000000 }) (disch:=first | assumption | omega | (simp; done) | fail) [Tryz.results9, *]))
     refine WC.mono (HRC.out _ _ (by omega) fun b hb=>gput_lt hb) ?_
     rintro _ rfl
     iterate 8 (all_goals try (first | with_reducible refine splitI (fun h=>?_) (fun h=>?_) | with_reducible refine splitBI (fun h=>?_) (fun h=>?_) | simp (config:={ maxSteps:=1000000 }) (disch:=first | assumption | omega | (simp; done) | fail) [Tryz.results9, *]))
     refine WC.mono (HAN.out HIN.out (by omega) _ _ (by omega) fun b hb=>gput_lt hb) ?_
     rintro _ ⟨g2,n2,rv,rfl,hn2,hg2,hav⟩
     have HG2:Hide (∀ b,b < n→g2 b=g b):=⟨fun b hb=>(hg2 b (by omega)).trans (gput_lt hb)⟩
     have hl2:=(hg2 n (by omega)).trans gput_eq
     clear hg2 hav
     rw [HKB.out]
     iterate 8 (all_goals try (first | with_reducible refine splitI (fun h=>?_) (fun h=>?_) | with_reducible refine splitBI (fun h=>?_) (fun h=>?_) | simp (config:={ maxSteps:=1000000 }) (disch:=first | assumption | omega | (simp; done) | fail) [Tryz.results9, *]))
     refine WC.mono (HBK.out _ _ (by omega) fun b hb=>(HG2.out b hb)) ?_
     rintro _ ⟨lv,g3,n3,rfl,hn3,hg3,BL,mL,rfl⟩
     have HG3:Hide (∀ b,b < n→g3 b=g b):=⟨fun b hb=>(hg3 b (by omega)).trans ((HG2.out b hb))⟩
     have hl3:=(hg3 n (by omega)).trans hl2
     clear hg3
     iterate 8 (all_goals try (first | with_reducible refine splitI (fun h=>?_) (fun h=>?_) | with_reducible refine splitBI (fun h=>?_) (fun h=>?_) | simp (config:={ maxSteps:=1000000 }) (disch:=first | assumption | omega | (simp; done) | fail) [Tryz.results9, *]))
     refine WC.mono (HPC.out _ _ (by omega) fun b hb=>(gput_lt (by omega)).trans (HG3.out b hb)) ?_
     rintro _ rfl
     iterate 8 (all_goals try (first | with_reducible refine splitI (fun h=>?_) (fun h=>?_) | with_reducible refine splitBI (fun h=>?_) (fun h=>?_) | simp (config:={ maxSteps:=1000000 }) (disch:=first | assumption | omega | (simp; done) | fail) [Tryz.results9, *]))
     refine LX.ind (fun m gf H'=>∃ (k:Nat) (bad:Int),k≤w.length∧m=w.length - k∧H'=⟨.fn (gput g3 n3 (some (.cells [.lit (.int .i64 J),.lit (.int .i64 O),.sl BL 0 mL mL] true 0))),n3+1⟩∧Hide (bad=if inW (w.take k) J=true then 0 else 1)∧gf 1=some wv∧gf 2=some (.ptr n 0)∧gf 7=some (rv)∧gf 8=some (.lit (.bool true))∧gf 9=some (.lit (.int .i64 0))∧gf 11=some (.lit (.int .i64 0))∧gf 12=some (.lit (.int .i64 bad))∧gf 13=some (.lit (.int .i64 k))) (m0:=w.length) ?_ ?_
     ·exact ⟨0,0,Nat.zero_le _,rfl,rfl,⟨rfl⟩,by simp [*],by simp [*],by simp [*],by simp [*],by simp [*],by simp [*],by simp [*],by simp [*]⟩
     clear w1 w2 w5
     rintro m gf H' ⟨k,bad,hk,rfl,rfl,HBD,w1,w2,w7,w8,w9,w11,w12,w13⟩ ih2
     refine LX.roundP (noO_ok _ _) hG pl9 (by decide +kernel) ?_
     by_cases hkl:k < w.length
     ·have hklI:(k:Int) < (w.length:Int):=by omega
      obtain ⟨a1,o1,ha1,hia1,hc1⟩:=RepW.at HW.out hkl
      rw [← HG3.out a1 ha1] at hc1
      have HST:Hide (inW (w.take (k+1)) J=(inW (w.take k) J && decide (0≤w[k]∧w[k] < (J:Int)))):=⟨by
       unfold inW; rw [take_snoc hkl,List.all_append]; simp⟩
      generalize w[k]=x at *
      by_cases x1:x < 0
      ·have HB2:Hide ((1:Int)=if inW (w.take (k+1)) J=true then 0 else 1):=⟨by rw [HST.out,decide_eq_false (by omega),Bool.and_false]; rfl⟩
       iterate 8 (all_goals try (first | with_reducible refine splitI (fun h=>?_) (fun h=>?_) | with_reducible refine splitBI (fun h=>?_) (fun h=>?_) | simp (config:={ maxSteps:=1000000 }) (disch:=first | assumption | omega | (simp; done) | fail) [Tryz.results9, *]))
       exact ih2.out (w.length - (k+1)) _ _ (by omega) ⟨k+1,1,by omega,rfl,rfl,HB2,by simp [*],by simp [*],by simp [*],by simp [*],by simp [*],by simp [*],by simp,by simp⟩
      ·by_cases x2:(J:Int)≤x
       ·have HB2:Hide ((1:Int)=if inW (w.take (k+1)) J=true then 0 else 1):=⟨by rw [HST.out,decide_eq_false (by omega),Bool.and_false]; rfl⟩
        iterate 8 (all_goals try (first | with_reducible refine splitI (fun h=>?_) (fun h=>?_) | with_reducible refine splitBI (fun h=>?_) (fun h=>?_) | simp (config:={ maxSteps:=1000000 }) (disch:=first | assumption | omega | (simp; done) | fail) [Tryz.results9, *]))
        exact ih2.out (w.length - (k+1)) _ _ (by omega) ⟨k+1,1,by omega,rfl,rfl,HB2,by simp [*],by simp [*],by simp [*],by simp [*],by simp [*],by simp [*],by simp,by simp⟩
       ·have HB2:Hide (bad=if inW (w.take (k+1)) J=true then 0 else 1):=⟨by rw [HST.out,decide_eq_true (by omega),Bool.and_true]; exact HBD.out⟩
        iterate 8 (all_goals try (first | with_reducible refine splitI (fun h=>?_) (fun h=>?_) | with_reducible refine splitBI (fun h=>?_) (fun h=>?_) | simp (config:={ maxSteps:=1000000 }) (disch:=first | assumption | omega | (simp; done) | fail) [Tryz.results9, *]))
        exact ih2.out (w.length - (k+1)) _ _ (by omega) ⟨k+1,bad,by omega,rfl,rfl,HB2,by simp [*],by simp [*],by simp [*],by simp [*],by simp [*],by simp [*],by simp [*],by simp⟩
     ·have hklI:¬(k:Int) < (w.length:Int):=by omega
      have hbad:bad=0:=by
       rw [HBD.out,List.take_of_length_le (by omega),HIN.out]; rfl
      subst hbad
      iterate 8 (all_goals try (first | with_reducible refine splitI (fun h=>?_) (fun h=>?_) | with_reducible refine splitBI (fun h=>?_) (fun h=>?_) | simp (config:={ maxSteps:=1000000 }) (disch:=first | assumption | omega | (simp; done) | fail) [Tryz.results9, *]))
      refine WC.mono (HLV.out _ _ fun b hb=>(gput_lt (by omega)).trans (HG3.out b hb)) ?_
      rintro _ rfl
      iterate 8 (all_goals try (first | with_reducible refine splitI (fun h=>?_) (fun h=>?_) | with_reducible refine splitBI (fun h=>?_) (fun h=>?_) | simp (config:={ maxSteps:=1000000 }) (disch:=first | assumption | omega | (simp; done) | fail) [Tryz.results9, *]))
      exact ⟨show n≤n3+1 by omega,fun b (hb:b < n)=>(gput_lt (show b < n3 by omega)).trans (HG3.out b hb)⟩
   | false =>
    have hwe:wErr w J=1:=by unfold wErr; rw [if_neg (by omega),if_pos (.inr hin)]
    have HAE2:=Hide.mk (HAE.out (by rw [hwe]; decide))
    rw [hwe] at HAE2
    have HIN:=Hide.mk hin
    clear hwe HAE HAN hin
    iterate 8 (all_goals try (first | with_reducible refine splitI (fun h=>?_) (fun h=>?_) | with_reducible refine splitBI (fun h=>?_) (fun h=>?_) | simp (config:={ maxSteps:=1000000 }) (disch:=first | assumption | omega | (simp; done) | fail) [Tryz.results9, *]))
    refine WC.mono (HRC.out _ _ (by omega) fun b hb=>gput_lt hb) ?_
    rintro _ rfl
    iterate 8 (all_goals try (first | with_reducible refine splitI (fun h=>?_) (fun h=>?_) | with_reducible refine splitBI (fun h=>?_) (fun h=>?_) | simp (config:={ maxSteps:=1000000 }) (disch:=first | assumption | omega | (simp; done) | fail) [Tryz.results9, *]))
    refine WC.mono (HAE2.out _ _ (by omega) fun b hb=>gput_lt hb) ?_
    rintro _ rfl
    iterate 8 (all_goals try (first | with_reducible refine splitI (fun h=>?_) (fun h=>?_) | with_reducible refine splitBI (fun h=>?_) (fun h=>?_) | simp (config:={ maxSteps:=1000000 }) (disch:=first | assumption | omega | (simp; done) | fail) [Tryz.results9, *]))
    refine WC.mono (HBK.out _ _ (by omega) fun b hb=>gput_lt hb) ?_
    rintro _ ⟨lv,g3,n3,rfl,hn3,hg3,BL,mL,rfl⟩
    have HG3:Hide (∀ b,b < n→g3 b=g b):=⟨fun b hb=>(hg3 b (by omega)).trans (gput_lt hb)⟩
    have hl3:=(hg3 n (by omega)).trans gput_eq
    clear hg3
    iterate 8 (all_goals try (first | with_reducible refine splitI (fun h=>?_) (fun h=>?_) | with_reducible refine splitBI (fun h=>?_) (fun h=>?_) | simp (config:={ maxSteps:=1000000 }) (disch:=first | assumption | omega | (simp; done) | fail) [Tryz.results9, *]))
    refine WC.mono (HPC.out _ _ (by omega) fun b hb=>(gput_lt (by omega)).trans (HG3.out b hb)) ?_
    rintro _ rfl
    iterate 8 (all_goals try (first | with_reducible refine splitI (fun h=>?_) (fun h=>?_) | with_reducible refine splitBI (fun h=>?_) (fun h=>?_) | simp (config:={ maxSteps:=1000000 }) (disch:=first | assumption | omega | (simp; done) | fail) [Tryz.results9, *]))
    refine LX.ind (fun m gf H'=>∃ (k:Nat) (bad:Int),k≤w.length∧m=w.length - k∧H'=⟨.fn (gput g3 n3 (some (.cells [.lit (.int .i64 J),.lit (.int .i64 O),.sl BL 0 mL mL] true 0))),n3+1⟩∧Hide (bad=if inW (w.take k) J=true then 0 else 1)∧gf 1=some wv∧gf 2=some (.ptr n 0)∧gf 7=some (.lit (.slice none 0 0))∧gf 8=some (.lit (.bool false))∧gf 9=some (.lit (.int .i64 1))∧gf 11=some (.lit (.int .i64 0))∧gf 12=some (.lit (.int .i64 bad))∧gf 13=some (.lit (.int .i64 k))) (m0:=w.length) ?_ ?_
    ·exact ⟨0,0,Nat.zero_le _,rfl,rfl,⟨rfl⟩,by simp [*],by simp [*],by simp [*],by simp [*],by simp [*],by simp [*],by simp [*],by simp [*]⟩
    clear w1 w2 w5
    rintro m gf H' ⟨k,bad,hk,rfl,rfl,HBD,w1,w2,w7,w8,w9,w11,w12,w13⟩ ih2
    refine LX.roundP (noO_ok _ _) hG pl9 (by decide +kernel) ?_
    by_cases hkl:k < w.length
    ·have hklI:(k:Int) < (w.length:Int):=by omega
     obtain ⟨a1,o1,ha1,hia1,hc1⟩:=RepW.at HW.out hkl
     rw [← HG3.out a1 ha1] at hc1
     have HST:Hide (inW (w.take (k+1)) J=(inW (w.take k) J && decide (0≤w[k]∧w[k] < (J:Int)))):=⟨by
      unfold inW; rw [take_snoc hkl,List.all_append]; simp⟩
     generalize w[k]=x at *
     by_cases x1:x < 0
     ·have HB2:Hide ((1:Int)=if inW (w.take (k+1)) J=true then 0 else 1):=⟨by rw [HST.out,decide_eq_false (by omega),Bool.and_false]; rfl⟩
      iterate 8 (all_goals try (first | with_reducible refine splitI (fun h=>?_) (fun h=>?_) | with_reducible refine splitBI (fun h=>?_) (fun h=>?_) | simp (config:={ maxSteps:=1000000 }) (disch:=first | assumption | omega | (simp; done) | fail) [Tryz.results9, *]))
      exact ih2.out (w.length - (k+1)) _ _ (by omega) ⟨k+1,1,by omega,rfl,rfl,HB2,by simp [*],by simp [*],by simp [*],by simp [*],by simp [*],by simp [*],by simp,by simp⟩
     ·by_cases x2:(J:Int)≤x
      ·have HB2:Hide ((1:Int)=if inW (w.take (k+1)) J=true then 0 else 1):=⟨by rw [HST.out,decide_eq_false (by omega),Bool.and_false]; rfl⟩
       iterate 8 (all_goals try (first | with_reducible refine splitI (fun h=>?_) (fun h=>?_) | with_reducible refine splitBI (fun h=>?_) (fun h=>?_) | simp (config:={ maxSteps:=1000000 }) (disch:=first | assumption | omega | (simp; done) | fail) [Tryz.results9, *]))
       exact ih2.out (w.length - (k+1)) _ _ (by omega) ⟨k+1,1,by omega,rfl,rfl,HB2,by simp [*],by simp [*],by simp [*],by simp [*],by simp [*],by simp [*],by simp,by simp⟩
      ·have HB2:Hide (bad=if inW (w.take (k+1)) J=true then 0 else 1):=⟨by rw [HST.out,decide_eq_true (by omega),Bool.and_true]; exact HBD.out⟩
       iterate 8 (all_goals try (first | with_reducible refine splitI (fun h=>?_) (fun h=>?_) | with_reducible refine splitBI (fun h=>?_) (fun h=>?_) | simp (config:={ maxSteps:=1000000 }) (disch:=first | assumption | omega | (simp; done) | fail) [Tryz.results9, *]))
       exact ih2.out (w.length - (k+1)) _ _ (by omega) ⟨k+1,bad,by omega,rfl,rfl,HB2,by simp [*],by simp [*],by simp [*],by simp [*],by simp [*],by simp [*],by simp [*],by simp⟩
    ·have hklI:¬(k:Int) < (w.length:Int):=by omega
     have hbad:bad=1:=by
      rw [HBD.out,List.take_of_length_le (by omega),HIN.out]; rfl
     subst hbad
     iterate 8 (all_goals try (first | with_reducible refine splitI (fun h=>?_) (fun h=>?_) | with_reducible refine splitBI (fun h=>?_) (fun h=>?_) | simp (config:={ maxSteps:=1000000 }) (disch:=first | assumption | omega | (simp; done) | fail) [Tryz.results9, *]))
     refine WC.mono (HLV.out _ _ fun b hb=>(gput_lt (by omega)).trans (HG3.out b hb)) ?_
     rintro _ rfl
     iterate 8 (all_goals try (first | with_reducible refine splitI (fun h=>?_) (fun h=>?_) | with_reducible refine splitBI (fun h=>?_) (fun h=>?_) | simp (config:={ maxSteps:=1000000 }) (disch:=first | assumption | omega | (simp; done) | fail) [Tryz.results9, *]))
     exact ⟨show n≤n3+1 by omega,fun b (hb:b < n)=>(gput_lt (show b < n3 by omega)).trans (HG3.out b hb)⟩
  ·have HAB:=Hide.mk fun (gX:Nat→Option Blk) (n2:Nat) (hn:n≤n2) (hX:∀ b,b < n→gX b=g b)=>Answer_bad hf (by omega) (fun r hr=>by have:=HR20.out r hr; omega) gX n2 tv wv h1w (HT.out.mono hn hX)
   have HBB:=Hide.mk fun (gX:Nat→Option Blk) (n2:Nat) (hn:n≤n2) (hX:∀ b,b < n→gX b=g b)=>Back_bad hf (by omega) (fun r hr=>by have:=HR20.out r hr; omega) gX n2 tv (HT.out.mono hn hX)
   generalize treeErr I O T=f at *
   iterate 8 (all_goals try (first | with_reducible refine splitI (fun h=>?_) (fun h=>?_) | with_reducible refine splitBI (fun h=>?_) (fun h=>?_) | simp (config:={ maxSteps:=1000000 }) (disch:=first | assumption | omega | (simp; done) | fail) [Tryz.results9, *]))
   refine WC.mono (HRC.out _ _ (by omega) fun b hb=>gput_lt hb) ?_
   rintro _ rfl
   iterate 8 (all_goals try (first | with_reducible refine splitI (fun h=>?_) (fun h=>?_) | with_reducible refine splitBI (fun h=>?_) (fun h=>?_) | simp (config:={ maxSteps:=1000000 }) (disch:=first | assumption | omega | (simp; done) | fail) [Tryz.results9, *]))
   refine WC.mono (HAB.out _ _ (by omega) fun b hb=>gput_lt hb) ?_
   rintro _ rfl
   iterate 8 (all_goals try (first | with_reducible refine splitI (fun h=>?_) (fun h=>?_) | with_reducible refine splitBI (fun h=>?_) (fun h=>?_) | simp (config:={ maxSteps:=1000000 }) (disch:=first | assumption | omega | (simp; done) | fail) [Tryz.results9, *]))
   refine WC.mono (HBB.out _ _ (by omega) fun b hb=>gput_lt hb) ?_
   rintro _ ⟨g3,n3,rfl,hn3,hg3⟩
   have HG3:Hide (∀ b,b < n→g3 b=g b):=⟨fun b hb=>(hg3 b (by omega)).trans (gput_lt hb)⟩
   have hl3:=(hg3 n (by omega)).trans gput_eq
   clear hg3
   iterate 8 (all_goals try (first | with_reducible refine splitI (fun h=>?_) (fun h=>?_) | with_reducible refine splitBI (fun h=>?_) (fun h=>?_) | simp (config:={ maxSteps:=1000000 }) (disch:=first | assumption | omega | (simp; done) | fail) [Tryz.results9, *]))
   refine WC.mono (HPC.out _ _ (by omega) fun b hb=>(gput_lt (by omega)).trans (HG3.out b hb)) ?_
   rintro _ rfl
   iterate 8 (all_goals try (first | with_reducible refine splitI (fun h=>?_) (fun h=>?_) | with_reducible refine splitBI (fun h=>?_) (fun h=>?_) | simp (config:={ maxSteps:=1000000 }) (disch:=first | assumption | omega | (simp; done) | fail) [Tryz.results9, *]))
   refine WC.mono (HLV.out _ _ fun b hb=>(gput_lt (by omega)).trans (HG3.out b hb)) ?_
   rintro _ rfl
   iterate 8 (all_goals try (first | with_reducible refine splitI (fun h=>?_) (fun h=>?_) | with_reducible refine splitBI (fun h=>?_) (fun h=>?_) | simp (config:={ maxSteps:=1000000 }) (disch:=first | assumption | omega | (simp; done) | fail) [Tryz.results9, *]))
   exact ⟨show n≤n3+1 by omega,fun b (hb:b < n)=>(gput_lt (show b < n3 by omega)).trans (HG3.out b hb)⟩
end Go.Ai
end
