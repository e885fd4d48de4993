/- A small verified interpreter over names, its proofs, and what was proved with it. No condition. -/
import Derived.Test.YtpimmmnkcgnjjaaGreatC17
import Derived.Test.YtpimmmnkcgnjjaaGreatC08
import Derived.Test.YtpimmmnkcgnjjaaGreatC05
import Derived.Test.YtpimmmnkcgnjjaaGreatC06
import Derived.Test.YtpimmmnkcgnjjaaGreatC14
set_option linter.all false
set_option linter.deprecated false
section
namespace Go.Ai
open Go.Proofs
theorem H0_none (a:Nat) : H0.get a=none:=get4_e4 a
theorem lives_w (H:Mem) : WC 0 Tryz.prog 13 [] H fun r=>r=.ret (.lit (.bool true)) H:=by
 refine WC.local (H0:=H0) (O:=Otop) Otop_ok top_run rfl rfl (Nat.le_refl 0) (fun a=>?_) (fun a x hx=>?_) fun a x hx=>?_
 ·rw [H0_none]; rfl
 ·rw [H0_none] at hx; cases hx
 ·rw [H0_none] at hx; cases hx
end Go.Ai
end
section
namespace Go.Ai
open Go.Proofs
set_option maxRecDepth 10000
set_option maxHeartbeats 40000000
theorem tablesCheck_w (q O I2 O2:Int) (S E:List (List Int)) (T:List (List (Int×Int))) (g:Nat→Option Blk) (n:Nat) (sv se st:AV) (hS:ListR g n S sv) (hE:ListR g n E se) (hT:TreeR g n T st) (hcS:CapV sv) (hcE:CapV se) :
  WC 0 Tryz.prog 8 [.agg [.lit (.int .i64 q),.lit (.int .i64 O),sv,se,.lit (.int .i64 I2),.lit (.int .i64 O2),st]] ⟨.fn g,n⟩ fun r=>r=.ret (.lit (.bool true)) ⟨.fn g,n⟩:=by
 refine WC.drop1 rfl ?_
 have h1s:=hS.choose_spec.1.one
 have h1e:=hE.choose_spec.1.one
 have h1t:=hT.choose_spec.1.one
 have hone:allOne [.lit (.int .i64 q),.lit (.int .i64 O),sv,se,.lit (.int .i64 I2),.lit (.int .i64 O2),st]=true:=by simp [h1s,h1e,h1t]
 have HSM:=Hide.mk (small_w q O I2 O2 S E T (gput g n (some (.cells [.lit (.int .i64 q),.lit (.int .i64 O),sv,se,.lit (.int .i64 I2),.lit (.int .i64 O2),st] true 0))) (n+1) sv se st (let ⟨v,h1,h2,h3⟩:=hS; ⟨v,h1.mono (by omega) (fun a ha=>gput_lt ha),h2.ext (by omega) (fun a x ha hx=>(gput_lt ha).trans hx),h3⟩) (let ⟨v,h1,h2,h3⟩:=hE; ⟨v,h1.mono (by omega) (fun a ha=>gput_lt ha),h2.ext (by omega) (fun a x ha hx=>(gput_lt ha).trans hx),h3⟩) (let ⟨v,h1,h2⟩:=hT; ⟨v,h1.mono (by omega) (fun a ha=>gput_lt ha),h2.ext (by omega) (fun a x ha hx=>(gput_lt ha).trans hx)⟩))
 have HLV:=Hide.mk lives_w
 by_cases hsm:smallB S E T=true
 ·rw [if_pos hsm] at HSM
  unfold smallB at hsm
  rw [Bool.and_eq_true,Bool.and_eq_true,Bool.and_eq_true,Bool.and_eq_true,Bool.and_eq_true] at hsm
  obtain ⟨⟨⟨⟨⟨b1,b2⟩,b3⟩,b4⟩,b5⟩,b6⟩:=hsm
  have b1':=of_decide_eq_true b1
  have b2':=of_decide_eq_true b2
  have b3':=of_decide_eq_true b3
  have wS:ListW g n S sv:=⟨by omega,fun w hw=>by have:=of_decide_eq_true (List.all_eq_true.1 b4 w hw); omega,hS⟩
  have wE:ListW g n E se:=⟨by omega,fun w hw=>by have:=of_decide_eq_true (List.all_eq_true.1 b5 w hw); omega,hE⟩
  have wT:TreeW g n T st:=⟨by omega,fun w hw=>by have:=of_decide_eq_true (List.all_eq_true.1 b6 w hw); omega,hT⟩
  have hCK:∀ (gX:Nat→Option Blk) (n2:Nat),n≤n2→(∀ b,b < n→gX b=g b)→WC 0 Tryz.prog 37 [.agg [.lit (.int .i64 q),.lit (.int .i64 O),sv,se,.lit (.int .i64 I2),.lit (.int .i64 O2),st]] ⟨.fn gX,n2⟩ fun r=>r=.ret (.lit (.int .i64 (tabErr q O S E I2 O2 T))) ⟨.fn gX,n2⟩ :=
   fun gX n2 hn hX=>Check_w q O I2 O2 S E T gX n2 sv se st (wS.mono hn hX) (wE.mono hn hX) (wT.mono hn hX)
  have hRC:∀ (gX:Nat→Option Blk) (n2:Nat),n≤n2→(∀ b,b < n→gX b=g b)→WC 0 Tryz.prog 15 [.agg [.lit (.int .i64 q),.lit (.int .i64 O),sv,se,.lit (.int .i64 I2),.lit (.int .i64 O2),st]] ⟨.fn gX,n2⟩ fun r=>r=.ret (.lit (.int .i64 (tabErr q O S E I2 O2 T))) ⟨.fn gX,n2⟩ :=
   fun gX n2 hn hX=>rCheck_w q O I2 O2 S E T gX n2 sv se st (wS.mono hn hX) (wE.mono hn hX) (wT.mono hn hX) hcS hcE
  have HRC:=Hide.mk hRC
  clear hS hE hT hcS hcE b1 b2 b3 b4 b5 b6 b1' b2' b3' wS wE wT hRC
  generalize tabErr q O S E I2 O2 T=e at *
  have HCK:=Hide.mk hCK
  by_cases he:e=0
  ·subst he
   clear hCK
   refine WC.enterP (noO_ok _ _) hG [] Tryz.func8 rfl (by decide +kernel) (Nat.le_of_ble_eq_true (by kernel_rfl)) ?_
   iterate 8 (all_goals try (first | with_reducible refine splitI (fun h=>?_) (fun h=>?_) | with_reducible refine splitBI (fun h=>?_) (fun h=>?_) | simp (config:={ maxSteps:=1000000 }) (disch:=first | assumption | omega | (simp; done) | fail) [Tryz.results8, *]))
   refine WC.mono HSM.out ?_
   rintro _ rfl
   iterate 8 (all_goals try (first | with_reducible refine splitI (fun h=>?_) (fun h=>?_) | with_reducible refine splitBI (fun h=>?_) (fun h=>?_) | simp (config:={ maxSteps:=1000000 }) (disch:=first | assumption | omega | (simp; done) | fail) [Tryz.results8, *]))
   refine WC.mono (HRC.out _ _ (by omega) fun b hb=>gput_lt hb) ?_
   rintro _ rfl
   iterate 8 (all_goals try (first | with_reducible refine splitI (fun h=>?_) (fun h=>?_) | with_reducible refine splitBI (fun h=>?_) (fun h=>?_) | simp (config:={ maxSteps:=1000000 }) (disch:=first | assumption | omega | (simp; done) | fail) [Tryz.results8, *]))
   refine WC.mono (HCK.out _ _ (by omega) fun b hb=>gput_lt hb) ?_
   rintro _ rfl
   iterate 8 (all_goals try (first | with_reducible refine splitI (fun h=>?_) (fun h=>?_) | with_reducible refine splitBI (fun h=>?_) (fun h=>?_) | simp (config:={ maxSteps:=1000000 }) (disch:=first | assumption | omega | (simp; done) | fail) [Tryz.results8, *]))
   refine WC.mono (HLV.out _) ?_
   rintro _ rfl
   iterate 8 (all_goals try (first | with_reducible refine splitI (fun h=>?_) (fun h=>?_) | with_reducible refine splitBI (fun h=>?_) (fun h=>?_) | simp (config:={ maxSteps:=1000000 }) (disch:=first | assumption | omega | (simp; done) | fail) [Tryz.results8, *]))
   exact ⟨Nat.le_succ n,fun b hb=>gput_lt hb⟩
  ·have HAS:=Hide.mk fun (gX:Nat→Option Blk) (n2:Nat) (hn:n≤n2) (hX:∀ b,b < n→gX b=g b)=>Asks_ref hone he gX n2 fun gY n3 hn3 hY=>hCK gY n3 (by omega) fun b hb=>(hY b (by omega)).trans (hX b hb)
   have HTE:=Hide.mk fun (gX:Nat→Option Blk) (n2:Nat) (hn:n≤n2) (hX:∀ b,b < n→gX b=g b)=>Tell_ref hone he gX n2 fun gY n3 hn3 hY=>hCK gY n3 (by omega) fun b hb=>(hY b (by omega)).trans (hX b hb)
   have HRO:=Hide.mk fun (gX:Nat→Option Blk) (n2:Nat) (hn:n≤n2) (hX:∀ b,b < n→gX b=g b)=>Row_ref hone he gX n2 fun gY n3 hn3 hY=>hCK gY n3 (by omega) fun b hb=>(hY b (by omega)).trans (hX b hb)
   have HOP:=Hide.mk fun (gX:Nat→Option Blk) (n2:Nat) (hn:n≤n2) (hX:∀ b,b < n→gX b=g b)=>Open_ref hone he gX n2 fun gY n3 hn3 hY=>hCK gY n3 (by omega) fun b hb=>(hY b (by omega)).trans (hX b hb)
   have HGR:=Hide.mk fun (gX:Nat→Option Blk) (n2:Nat) (hn:n≤n2) (hX:∀ b,b < n→gX b=g b)=>Grow_ref hone he gX n2 fun gY n3 hn3 hY=>hCK gY n3 (by omega) fun b hb=>(hY b (by omega)).trans (hX b hb)
   have HWI:=Hide.mk fun (gX:Nat→Option Blk) (n2:Nat) (hn:n≤n2) (hX:∀ b,b < n→gX b=g b)=>Widen_ref hone he gX n2 fun gY n3 hn3 hY=>hCK gY n3 (by omega) fun b hb=>(hY b (by omega)).trans (hX b hb)
   have HHY:=Hide.mk fun (gX:Nat→Option Blk) (n2:Nat) (hn:n≤n2) (hX:∀ b,b < n→gX b=g b)=>Hypothesis_ref hone he gX n2 fun gY n3 hn3 hY=>hCK gY n3 (by omega) fun b hb=>(hY b (by omega)).trans (hX b hb)
   have HPI:=Hide.mk fun (gX:Nat→Option Blk) (n2:Nat) (hn:n≤n2) (hX:∀ b,b < n→gX b=g b)=>Pieces_ref hone he gX n2 fun gY n3 hn3 hY=>hCK gY n3 (by omega) fun b hb=>(hY b (by omega)).trans (hX b hb)
   have HSU:=Hide.mk fun (gX:Nat→Option Blk) (n2:Nat) (hn:n≤n2) (hX:∀ b,b < n→gX b=g b)=>Suffix_ref hone he gX n2 fun gY n3 hn3 hY=>hCK gY n3 (by omega) fun b hb=>(hY b (by omega)).trans (hX b hb)
   clear hCK
   refine WC.enterP (noO_ok _ _) hG [] Tryz.func8 rfl (by decide +kernel) (Nat.le_of_ble_eq_true (by kernel_rfl)) ?_
   iterate 8 (all_goals try (first | with_reducible refine splitI (fun h=>?_) (fun h=>?_) | with_reducible refine splitBI (fun h=>?_) (fun h=>?_) | simp (config:={ maxSteps:=1000000 }) (disch:=first | assumption | omega | (simp; done) | fail) [Tryz.results8, *]))
   refine WC.mono HSM.out ?_
   rintro _ rfl
   iterate 8 (all_goals try (first | with_reducible refine splitI (fun h=>?_) (fun h=>?_) | with_reducible refine splitBI (fun h=>?_) (fun h=>?_) | simp (config:={ maxSteps:=1000000 }) (disch:=first | assumption | omega | (simp; done) | fail) [Tryz.results8, *]))
   refine WC.mono (HRC.out _ _ (by omega) fun b hb=>gput_lt hb) ?_
   rintro _ rfl
   iterate 8 (all_goals try (first | with_reducible refine splitI (fun h=>?_) (fun h=>?_) | with_reducible refine splitBI (fun h=>?_) (fun h=>?_) | simp (config:={ maxSteps:=1000000 }) (disch:=first | assumption | omega | (simp; done) | fail) [Tryz.results8, *]))
   refine WC.mono (HCK.out _ _ (by omega) fun b hb=>gput_lt hb) ?_
   rintro _ rfl
   iterate 8 (all_goals try (first | with_reducible refine splitI (fun h=>?_) (fun h=>?_) | with_reducible refine splitBI (fun h=>?_) (fun h=>?_) | simp (config:={ maxSteps:=1000000 }) (disch:=first | assumption | omega | (simp; done) | fail) [Tryz.results8, *]))
   refine WC.mono (HAS.out _ _ (by omega) fun b hb=>gput_lt hb) ?_
   rintro _ rfl
   iterate 8 (all_goals try (first | with_reducible refine splitI (fun h=>?_) (fun h=>?_) | with_reducible refine splitBI (fun h=>?_) (fun h=>?_) | simp (config:={ maxSteps:=1000000 }) (disch:=first | assumption | omega | (simp; done) | fail) [Tryz.results8, *]))
   refine WC.mono (HTE.out _ _ (by omega) fun b hb=>gput_lt hb) ?_
   rintro _ ⟨g1,n1,rfl,hn1,hg1⟩
   have HG1:Hide (∀ b,b < n+1→g1 b=gput g n (some (.cells [.lit (.int .i64 q),.lit (.int .i64 O),sv,se,.lit (.int .i64 I2),.lit (.int .i64 O2),st] true 0)) b):=⟨fun b hb=>hg1 b hb⟩
   have hnn1:n+1≤n1:=by omega
   have hgn1:g1 n=some (.cells [.lit (.int .i64 q),.lit (.int .i64 O),sv,se,.lit (.int .i64 I2),.lit (.int .i64 O2),st] true 0):=(HG1.out n (by omega)).trans gput_eq
   clear hg1
   iterate 8 (all_goals try (first | with_reducible refine splitI (fun h=>?_) (fun h=>?_) | with_reducible refine splitBI (fun h=>?_) (fun h=>?_) | simp (config:={ maxSteps:=1000000 }) (disch:=first | assumption | omega | (simp; done) | fail) [Tryz.results8, *]))
   refine WC.mono (HRO.out _ _ (by omega) fun b hb=>(gput_lt (by omega)).trans ((HG1.out b (by omega)).trans (gput_lt hb))) ?_
   rintro _ rfl
   iterate 8 (all_goals try (first | with_reducible refine splitI (fun h=>?_) (fun h=>?_) | with_reducible refine splitBI (fun h=>?_) (fun h=>?_) | simp (config:={ maxSteps:=1000000 }) (disch:=first | assumption | omega | (simp; done) | fail) [Tryz.results8, *]))
   refine WC.mono (HOP.out _ _ (by omega) fun b hb=>(gput_lt (by omega)).trans ((HG1.out b (by omega)).trans (gput_lt hb))) ?_
   rintro _ rfl
   iterate 8 (all_goals try (first | with_reducible refine splitI (fun h=>?_) (fun h=>?_) | with_reducible refine splitBI (fun h=>?_) (fun h=>?_) | simp (config:={ maxSteps:=1000000 }) (disch:=first | assumption | omega | (simp; done) | fail) [Tryz.results8, *]))
   refine WC.mono (HGR.out _ _ (by omega) fun b hb=>(gput_lt (by omega)).trans ((HG1.out b (by omega)).trans (gput_lt hb))) ?_
   rintro _ ⟨g2,n2,rfl,hn2,hg2⟩
   have HG2:Hide (∀ b,b < n+1→g2 b=gput g n (some (.cells [.lit (.int .i64 q),.lit (.int .i64 O),sv,se,.lit (.int .i64 I2),.lit (.int .i64 O2),st] true 0)) b):=⟨fun b hb=>(hg2 b (by omega)).trans ((gput_lt (by omega)).trans (HG1.out b hb))⟩
   have hnn2:n+1≤n2:=by omega
   have hgn2:g2 n=some (.cells [.lit (.int .i64 q),.lit (.int .i64 O),sv,se,.lit (.int .i64 I2),.lit (.int .i64 O2),st] true 0):=(HG2.out n (by omega)).trans gput_eq
   clear hg2
   iterate 8 (all_goals try (first | with_reducible refine splitI (fun h=>?_) (fun h=>?_) | with_reducible refine splitBI (fun h=>?_) (fun h=>?_) | simp (config:={ maxSteps:=1000000 }) (disch:=first | assumption | omega | (simp; done) | fail) [Tryz.results8, *]))
   refine WC.mono (HWI.out _ _ (by omega) fun b hb=>(gput_lt (by omega)).trans ((HG2.out b (by omega)).trans (gput_lt hb))) ?_
   rintro _ ⟨g3,n3,rfl,hn3,hg3⟩
   have HG3:Hide (∀ b,b < n+1→g3 b=gput g n (some (.cells [.lit (.int .i64 q),.lit (.int .i64 O),sv,se,.lit (.int .i64 I2),.lit (.int .i64 O2),st] true 0)) b):=⟨fun b hb=>(hg3 b (by omega)).trans ((gput_lt (by omega)).trans (HG2.out b hb))⟩
   have hnn3:n+1≤n3:=by omega
   have hgn3:g3 n=some (.cells [.lit (.int .i64 q),.lit (.int .i64 O),sv,se,.lit (.int .i64 I2),.lit (.int .i64 O2),st] true 0):=(HG3.out n (by omega)).trans gput_eq
   clear hg3
   iterate 8 (all_goals try (first | with_reducible refine splitI (fun h=>?_) (fun h=>?_) | with_reducible refine splitBI (fun h=>?_) (fun h=>?_) | simp (config:={ maxSteps:=1000000 }) (disch:=first | assumption | omega | (simp; done) | fail) [Tryz.results8, *]))
   refine WC.mono (HHY.out _ _ (by omega) fun b hb=>(gput_lt (by omega)).trans ((HG3.out b (by omega)).trans (gput_lt hb))) ?_
   rintro _ ⟨g4,n4,rfl,hn4,hg4⟩
   have HG4:Hide (∀ b,b < n+1→g4 b=gput g n (some (.cells [.lit (.int .i64 q),.lit (.int .i64 O),sv,se,.lit (.int .i64 I2),.lit (.int .i64 O2),st] true 0)) b):=⟨fun b hb=>(hg4 b (by omega)).trans ((gput_lt (by omega)).trans (HG3.out b hb))⟩
   have hnn4:n+1≤n4:=by omega
   have hgn4:g4 n=some (.cells [.lit (.int .i64 q),.lit (.int .i64 O),sv,se,.lit (.int .i64 I2),.lit (.int .i64 O2),st] true 0):=(HG4.out n (by omega)).trans gput_eq
   clear hg4
   iterate 8 (all_goals try (first | with_reducible refine splitI (fun h=>?_) (fun h=>?_) | with_reducible refine splitBI (fun h=>?_) (fun h=>?_) | simp (config:={ maxSteps:=1000000 }) (disch:=first | assumption | omega | (simp; done) | fail) [Tryz.results8, *]))
   refine WC.mono (HPI.out _ _ (by omega) fun b hb=>(gput_lt (by omega)).trans ((HG4.out b (by omega)).trans (gput_lt hb))) ?_
   rintro _ rfl
   iterate 8 (all_goals try (first | with_reducible refine splitI (fun h=>?_) (fun h=>?_) | with_reducible refine splitBI (fun h=>?_) (fun h=>?_) | simp (config:={ maxSteps:=1000000 }) (disch:=first | assumption | omega | (simp; done) | fail) [Tryz.results8, *]))
   refine WC.mono (HSU.out _ _ (by omega) fun b hb=>(gput_lt (by omega)).trans ((HG4.out b (by omega)).trans (gput_lt hb))) ?_
   rintro _ rfl
   iterate 8 (all_goals try (first | with_reducible refine splitI (fun h=>?_) (fun h=>?_) | with_reducible refine splitBI (fun h=>?_) (fun h=>?_) | simp (config:={ maxSteps:=1000000 }) (disch:=first | assumption | omega | (simp; done) | fail) [Tryz.results8, *]))
   refine WC.mono (HLV.out _) ?_
   rintro _ rfl
   iterate 8 (all_goals try (first | with_reducible refine splitI (fun h=>?_) (fun h=>?_) | with_reducible refine splitBI (fun h=>?_) (fun h=>?_) | simp (config:={ maxSteps:=1000000 }) (disch:=first | assumption | omega | (simp; done) | fail) [Tryz.results8, *]))
   exact ⟨by show n≤n4+1; omega,fun b (hb:b < n)=>(gput_lt (by omega)).trans ((HG4.out b (by omega)).trans (gput_lt hb))⟩
 ·rw [if_neg hsm] at HSM
  clear hS hE hT hcS hcE hsm
  refine WC.enterP (noO_ok _ _) hG [] Tryz.func8 rfl (by decide +kernel) (Nat.le_of_ble_eq_true (by kernel_rfl)) ?_
  iterate 8 (all_goals try (first | with_reducible refine splitI (fun h=>?_) (fun h=>?_) | with_reducible refine splitBI (fun h=>?_) (fun h=>?_) | simp (config:={ maxSteps:=1000000 }) (disch:=first | assumption | omega | (simp; done) | fail) [Tryz.results8, *]))
  refine WC.mono HSM.out ?_
  rintro _ rfl
  iterate 8 (all_goals try (first | with_reducible refine splitI (fun h=>?_) (fun h=>?_) | with_reducible refine splitBI (fun h=>?_) (fun h=>?_) | simp (config:={ maxSteps:=1000000 }) (disch:=first | assumption | omega | (simp; done) | fail) [Tryz.results8, *]))
  exact ⟨Nat.le_succ n,fun b hb=>gput_lt hb⟩
end Go.Ai
end
section
namespace Go.Ai
open Go.Proofs Go.ChangeShapes Go.WideShapes Go.ChangeAt Go.RowKit
set_option maxRecDepth 10000
variable {H:Type} {enc:TypeId×Value→H} {w:World}
theorem c3:Tryz.prog.cellsOf 3=1:=by kernel_rfl
theorem c22:Tryz.prog.cellsOf 22=1:=by kernel_rfl
theorem c23:Tryz.prog.cellsOf 23=1:=by kernel_rfl
theorem c25:Tryz.prog.cellsOf 25=3:=by kernel_rfl
theorem c27:Tryz.prog.cellsOf 27=7:=by kernel_rfl
theorem c65:Tryz.prog.cellsOf 65=1:=by kernel_rfl
theorem c97:Tryz.prog.cellsOf 97=2:=by kernel_rfl
theorem c98:Tryz.prog.cellsOf 98=1:=by kernel_rfl
theorem two_of {cs:List Value} (h:cs.length=2) : ∃ a b,cs=[a,b]:=by
 match cs,h with
 | [a,b],_=>exact ⟨a,b,rfl⟩
theorem three_of {cs:List Value} (h:cs.length=3) : ∃ a b c,cs=[a,b,c]:=by
 match cs,h with
 | [a,b,c],_=>exact ⟨a,b,c,rfl⟩
theorem slice_one {t e:TypeId} {fuel:Nat} {cs:List Value} {x:DataW H×List MemPlace} (ht:Tryz.prog.underlying t=some (.slice e)) (h:DataW.trod enc Tryz.prog w 0 (fun _=>true) true fuel t cs=some x) : ∃ s,cs=[s]:=by
 rcases DataW.trod_slice ht h with ⟨h1,_⟩ | ⟨a,len,cap,elems,rest,m,_,h1,_⟩
 ·exact ⟨_,h1⟩
 ·exact ⟨_,h1⟩
def RL {β:Type} (R:(Nat→Option Blk)→Nat→β→List AV→Prop) (g:Nat→Option Blk) (b:Nat) : List β→List AV→Prop
 | [],cs=>cs=[]
 | x :: l,cs=>∃ c r,cs=c++r∧R g b x c∧RL R g b l r
theorem RL_len {β:Type} {R:(Nat→Option Blk)→Nat→β→List AV→Prop} {g:Nat→Option Blk} {b sz:Nat} (hl:∀ {x cs},R g b x cs→cs.length=sz) : ∀ {l:List β} {cs:List AV},RL R g b l cs→cs.length=l.length * sz
 | [],cs,h=>by have h' : cs=[]:=h; rw [h']; simp
 | x :: l,cs,⟨c,r,h1,h2,h3⟩=>by rw [h1,List.length_append,hl h2,RL_len hl h3,List.length_cons,Nat.succ_mul]; omega
theorem RL_take {β:Type} {R:(Nat→Option Blk)→Nat→β→List AV→Prop} {g:Nat→Option Blk} {b:Nat} : ∀ (n:Nat) {l:List β} {cs:List AV},RL R g b l cs→∃ c r,cs=c++r∧RL R g b (l.take n) c
 | 0,l,cs,_=>⟨[],cs,rfl,rfl⟩
 | n+1,[],cs,h=>⟨cs,[],by simp,h⟩
 | n+1,x :: l,cs,⟨c,r,h1,h2,h3⟩=>by
  obtain ⟨c',r',h4,h5⟩:=RL_take n h3
  exact ⟨c++c',r',by rw [h1,h4,List.append_assoc],c,c',rfl,h2,h5⟩
theorem mkL_rep {α β:Type} {f:α→Mem→Option (List AV×Mem)} {R:(Nat→Option Blk)→Nat→β→List AV→Prop} {sz:Nat} (hm:∀ {g g' : Nat→Option Blk} {b b' : Nat} {x:β} {cs:List AV},b≤b'→(∀ a,a < b→g' a=g a)→R g b x cs→R g' b' x cs)
  (hl:∀ {g:Nat→Option Blk} {b:Nat} {x:β} {cs:List AV},R g b x cs→cs.length=sz) :
  ∀ (ds:List α),(∀ d∈ds,∀ g b,∃ avs g' b' x,f d ⟨.fn g,b⟩=some (avs,⟨.fn g',b'⟩)∧b≤b'∧(∀ a,a < b→g' a=g a)∧R g' b' x avs) →
  ∀ g b,∃ avs g' b' l,mkL f sz ds ⟨.fn g,b⟩=some (avs,⟨.fn g',b'⟩)∧b≤b'∧(∀ a,a < b→g' a=g a)∧l.length=ds.length∧RL R g' b' l avs
 | [],_,g,b=>⟨[],g,b,[],rfl,Nat.le_refl _,fun _ _=>rfl,rfl,rfl⟩
 | d :: ds,h,g,b=>by
  obtain ⟨a1,g1,b1,x,e1,h1,h2,h3⟩:=h d (by simp) g b
  obtain ⟨a2,g2,b2,l,e2,k1,k2,k3,k4⟩:=mkL_rep (f:=f) (R:=R) (sz:=sz) hm hl ds (fun d hd=>h d (by simp [hd])) g1 b1
  refine ⟨a1++a2,g2,b2,x :: l,?_,by omega,fun a ha=>(k2 a (by omega)).trans (h2 a ha),by simp [k3],a1,a2,rfl,hm k1 k2 h3,k4⟩
  unfold mkL
  rw [e1]
  dsimp only
  rw [e2]
  dsimp only
  rw [show Nat.beq a1.length sz=true from Nat.beq_eq.mpr (hl h3)]
theorem name_slice {β:Type} {R:(Nat→Option Blk)→Nat→β→List AV→Prop} {t e:TypeId} {sz:Nat} (ht:Tryz.prog.underlying t=some (.slice e)) (hsz:Tryz.prog.cellsOf e=sz) (hs0:0 < sz)
  (hm:∀ {g g' : Nat→Option Blk} {b b' : Nat} {x:β} {cs:List AV},b≤b'→(∀ a,a < b→g' a=g a)→R g b x cs→R g' b' x cs)
  (hl:∀ {g:Nat→Option Blk} {b:Nat} {x:β} {cs:List AV},R g b x cs→cs.length=sz) {fuel:Nat} {s:Value} {d:DataW H} {p:List MemPlace}
  (h:DataW.trod enc Tryz.prog w 0 (fun _=>true) true fuel t [s]=some (d,p))
  (he:∀ m cs d p,m < fuel→DataW.trod enc Tryz.prog w 0 (fun _=>true) true m e cs=some (d,p)→∀ N,m≤N→∀ g b,∃ avs g' b' x,mkD Tryz.prog noTok N e d ⟨.fn g,b⟩=some (avs,⟨.fn g',b'⟩)∧b≤b'∧(∀ a,a < b→g' a=g a)∧R g' b' x avs)
  (N:Nat) (hN:fuel≤N) (g:Nat→Option Blk) (b:Nat) :
  ∃ sv g' b' l,mkD Tryz.prog noTok N t d ⟨.fn g,b⟩=some ([sv],⟨.fn g',b'⟩)∧b≤b'∧(∀ a,a < b→g' a=g a) ∧
   CapV sv∧((l=[]∧(sv=.lit (.slice none 0 0)∨sv=.es))∨∃ a off r,a < b'∧((∃ c,sv=.sl a off l.length c)∨∃ c,sv=.slq a off l.length c)∧Row g' a off r∧RL R g' b' l r):=by
 rcases DataW.trod_slice ht h with ⟨_,hx⟩ | ⟨a,len,cap,elems,rest,m,rfl,_,hx,_,hlc,_,hlen,hel,hrs,_⟩
 ·cases hx
  have hf:fuel≠0:=by
   rintro rfl
   simp [DataW.trod] at h
  obtain ⟨N,rfl⟩ : ∃ M,N=M+1:=⟨N - 1,by omega⟩
  refine ⟨.lit (.slice none 0 0),g,b,[],?_,Nat.le_refl _,fun _ _=>rfl,fun _ _ _ _ e=>(by cases e),.inl ⟨rfl,.inl rfl⟩⟩
  unfold mkD
  rw [ht]
 ·obtain ⟨hrl,hre⟩:=hrs rfl
  simp only [Prod.mk.injEq] at hx
  obtain ⟨rfl,_⟩:=hx
  obtain ⟨N,rfl⟩ : ∃ M,N=M+1:=⟨N - 1,by omega⟩
  have all:∀ x∈elems++rest,∃ ci,DataW.trod enc Tryz.prog w 0 (fun _=>true) true m e ci=some x:=by
   intro x hx
   rcases List.mem_append.1 hx with hx | hx
   ·obtain ⟨i,hi,rfl⟩:=List.mem_iff_getElem.1 hx
    have:=hel i (by omega)
    rw [List.getElem?_eq_getElem hi] at this
    obtain ⟨ci,_,h3⟩:=Option.bind_eq_some_iff.1 this
    exact ⟨ci,h3⟩
   ·obtain ⟨i,hi,rfl⟩:=List.mem_iff_getElem.1 hx
    have:=hre i (by omega)
    rw [List.getElem?_eq_getElem hi] at this
    obtain ⟨ci,_,h3⟩:=Option.bind_eq_some_iff.1 this
    exact ⟨ci,h3⟩
  obtain ⟨avs,g1,b1,l,e1,k1,k2,k3,k4⟩:=mkL_rep (f:=mkD Tryz.prog noTok N e) (R:=R) (sz:=sz) hm hl ((elems++rest).map (·.1)) (by
   intro d hd g b
   obtain ⟨x,hx,rfl⟩:=List.mem_map.1 hd
   obtain ⟨ci,h3⟩:=all x hx
   exact he m ci x.1 x.2 (by omega) h3 N (by omega) g b) g b
  rw [List.map_append] at e1
  have hla:=RL_len (fun h=>hl h) k4
  rw [List.length_map,List.length_append] at k3
  cases hcs:elems.map (·.1)++rest.map (·.1) with
  | nil =>
   have h0:elems.length=0:=by
    have:=congrArg List.length hcs
    rw [List.length_append,List.length_map,List.length_nil] at this
    omega
   refine ⟨.es,g,b,[],?_,Nat.le_refl _,fun _ _=>rfl,fun _ _ _ _ e=>(by cases e),.inl ⟨rfl,.inr rfl⟩⟩
   unfold mkD
   rw [ht]
   dsimp only
   rw [hcs]
  | cons y ys =>
   have hpos:0 < elems.length+rest.length:=by
    have:=congrArg List.length hcs
    rw [List.length_append,List.length_map,List.length_map,List.length_cons] at this
    omega
   obtain ⟨z,zs,rfl⟩ : ∃ z zs,avs=z :: zs:=by
    cases avs with
    | nil =>
     rw [k3] at hla
     have:0 < (elems.length+rest.length) * sz:=Nat.mul_pos hpos hs0
     rw [List.length_nil] at hla
     omega
    | cons z zs=>exact ⟨z,zs,rfl⟩
   obtain ⟨c,r,q1,q2⟩:=RL_take elems.length k4
   have hcl:=RL_len (fun h=>hl h) q2
   have hfr:∀ a,a < b1→gput g1 b1 (some (.cells (z :: zs) false 0)) a=g1 a:=fun a ha=>gput_lt ha
   refine ⟨.sl b1 0 elems.length (elems.length+rest.length),gput g1 b1 (some (.cells (z :: zs) false 0)),b1+1,l.take elems.length,?_,by omega,fun a ha=>(hfr a (by omega)).trans (k2 a ha),fun _ _ _ _ e=>(by cases e; omega),.inr ⟨b1,0,c,Nat.lt_succ_self _,.inl ⟨elems.length+rest.length,?_⟩,?_,?_⟩⟩
   ·unfold mkD
    rw [ht]
    dsimp only
    rw [hcs] at e1
    rw [hsz,hcs]
    dsimp only
    rw [e1]
    simp only [List.length_map]
    rfl
   ·rw [List.length_take,Nat.min_eq_left (by omega)]
   ·refine ⟨z :: zs,false,0,if_pos rfl,?_,?_⟩
    ·rw [q1,List.length_append]; omega
    ·rw [q1,List.drop_zero,List.take_left]
   ·have key:∀ (l:List β) (cs:List AV),RL R g1 b1 l cs→RL R (gput g1 b1 (some (.cells (z :: zs) false 0))) (b1+1) l cs:=by
     intro l
     induction l with
     | nil=>intro cs h; exact h
     | cons x l ih=>rintro cs ⟨c,r,h1,h2,h3⟩; exact ⟨c,r,h1,hm (by omega) hfr h2,ih r h3⟩
    exact key _ _ q2
def IntR (_:Nat→Option Blk) (_:Nat) (x:Int) (avs:List AV) : Prop:=avs=[.lit (.int .i64 x)]
theorem int_mk (fuel:Nat) (cs:List Value) (d:DataW H) (p:List MemPlace) (h:DataW.trod enc Tryz.prog w 0 (fun _=>true) true fuel 3 cs=some (d,p)) (N:Nat) (hN:fuel≤N) (g:Nat→Option Blk) (b:Nat) :
  ∃ avs g' b' x,mkD Tryz.prog noTok N 3 d ⟨.fn g,b⟩=some (avs,⟨.fn g',b'⟩)∧b≤b'∧(∀ a,a < b→g' a=g a)∧IntR g' b' x avs:=by
 obtain ⟨x,_,f0,_⟩:=DataW.trod_int (x:=(d,p)) Tryz.underlying3 h
 have hd:d=.lit (.int .i64 x):=congrArg Prod.fst f0
 subst hd
 have hm0:fuel≠0:=by rintro rfl; simp [DataW.trod] at h
 obtain ⟨N,rfl⟩ : ∃ M,N=M+1:=⟨N - 1,by omega⟩
 exact ⟨[.lit (.int .i64 x)],g,b,x,by unfold mkD; rw [Tryz.underlying3],Nat.le_refl _,fun _ _=>rfl,rfl⟩
theorem ints_of {g:Nat→Option Blk} {b:Nat} : ∀ {l:List Int} {cs:List AV},RL IntR g b l cs→cs=wdC l
 | [],_,h=>h
 | x :: l,_,⟨c,r,h1,h2,h3⟩=>by
  have h2:c=[.lit (.int .i64 x)]:=h2
  rw [h1,h2,ints_of h3]; rfl
def WordR (g:Nat→Option Blk) (b:Nat) (x:List Int) (avs:List AV) : Prop:=∃ sv,avs=[sv]∧RepW g b x sv∧CapV sv
theorem word_mk (fuel:Nat) (cs:List Value) (d:DataW H) (p:List MemPlace) (h:DataW.trod enc Tryz.prog w 0 (fun _=>true) true fuel 65 cs=some (d,p)) (N:Nat) (hN:fuel≤N) (g:Nat→Option Blk) (b:Nat) :
  ∃ avs g' b' x,mkD Tryz.prog noTok N 65 d ⟨.fn g,b⟩=some (avs,⟨.fn g',b'⟩)∧b≤b'∧(∀ a,a < b→g' a=g a)∧WordR g' b' x avs:=by
 obtain ⟨s,rfl⟩:=slice_one Tryz.underlying65 h
 obtain ⟨sv,g1,b1,l,e1,t1,t2,tc,t3⟩:=name_slice (R:=IntR) Tryz.underlying65 c3 (by decide) (fun _ _ h=>h) (fun h=>by rw [show _=_ from h]; rfl) h (fun m cs d p _ h N hN g b=>int_mk m cs d p h N hN g b) N hN g b
 refine ⟨[sv],g1,b1,l,e1,t1,t2,sv,rfl,?_,tc⟩
 rcases t3 with ⟨rfl,h⟩ | ⟨a,off,r,q1,q2,q3,q4⟩
 ·exact .inl ⟨rfl,rfl,h⟩
 ·exact .inr ⟨a,off,q1,q2,by rw [← ints_of q4]; exact q3⟩
theorem words_of {g:Nat→Option Blk} {b:Nat} : ∀ {l:List (List Int)} {cs:List AV},RL WordR g b l cs→RowsW g b l cs∧∀ q∈cs,CapV q
 | [],_,h=>by
  have h:_=[]:=h
  subst h
  exact ⟨⟨rfl,fun k hk=>by simp at hk⟩,fun q hq=>by cases hq⟩
 | x :: l,_,⟨c,r,h1,⟨sv,h2,h3,h4⟩,h5⟩=>by
  obtain ⟨⟨i1,i2⟩,i3⟩:=words_of h5
  subst h1 h2
  refine ⟨⟨by simp [i1],fun k hk=>?_⟩,fun q hq=>?_⟩
  ·cases k with
   | zero=>exact ⟨sv,rfl,h3⟩
   | succ k =>
    obtain ⟨sv',j1,j2⟩:=i2 k (by simpa using hk)
    exact ⟨sv',by simpa using j1,by simpa using j2⟩
  ·rcases List.mem_append.1 hq with h | h
   ·rw [List.mem_singleton.1 h]; exact h4
   ·exact i3 q h
theorem list_mk (fuel:Nat) (s:Value) (d:DataW H) (p:List MemPlace) (h:DataW.trod enc Tryz.prog w 0 (fun _=>true) true fuel 22 [s]=some (d,p)) (N:Nat) (hN:fuel≤N) (g:Nat→Option Blk) (b:Nat) :
  ∃ sv g' b' l,mkD Tryz.prog noTok N 22 d ⟨.fn g,b⟩=some ([sv],⟨.fn g',b'⟩)∧b≤b'∧(∀ a,a < b→g' a=g a)∧ListR g' b' l sv∧CapV sv:=by
 obtain ⟨sv,g1,b1,l,e1,t1,t2,tc,t3⟩:=name_slice (R:=WordR) Tryz.underlying22 c65 (by decide) (fun h1 h2 ⟨sv,e,h3,h4⟩=>⟨sv,e,SliceV.mono h1 h2 h3,h4⟩) (fun ⟨sv,e,_,_⟩=>by rw [e]; rfl) h (fun m cs d p _ h N hN g b=>word_mk m cs d p h N hN g b) N hN g b
 refine ⟨sv,g1,b1,l,e1,t1,t2,?_,tc⟩
 rcases t3 with ⟨rfl,h⟩ | ⟨a,off,r,q1,q2,q3,q4⟩
 ·exact ⟨[],.inl ⟨rfl,rfl,h⟩,⟨rfl,fun k hk=>by simp at hk⟩,fun q hq=>by cases hq⟩
 ·exact ⟨r,.inr ⟨a,off,q1,q2,q3⟩,(words_of q4).1,(words_of q4).2⟩
def EdgeR (_:Nat→Option Blk) (_:Nat) (x:Int×Int) (avs:List AV) : Prop:=avs=edC x
theorem edge_mk (fuel:Nat) (cs:List Value) (d:DataW H) (p:List MemPlace) (h:DataW.trod enc Tryz.prog w 0 (fun _=>true) true fuel 97 cs=some (d,p)) (N:Nat) (hN:fuel≤N) (g:Nat→Option Blk) (b:Nat) :
  ∃ avs g' b' x,mkD Tryz.prog noTok N 97 d ⟨.fn g,b⟩=some (avs,⟨.fn g',b'⟩)∧b≤b'∧(∀ a,a < b→g' a=g a)∧EdgeR g' b' x avs:=by
 obtain ⟨xs,m,rfl,hd,hl,hn,he⟩:=DataW.trod_struct Tryz.underlying97 h
 rw [c97] at hl
 obtain ⟨v0,v1,rfl⟩:=two_of hl
 have h0:DataW.trod enc Tryz.prog w 0 (fun _=>true) true m 3 (([v0,v1].drop 0).take (Tryz.prog.cellsOf 3))=xs[0]?:=he 0 _ rfl
 have h1:DataW.trod enc Tryz.prog w 0 (fun _=>true) true m 3 (([v0,v1].drop 1).take (Tryz.prog.cellsOf 3))=xs[1]?:=he 1 _ rfl
 rw [c3] at h0 h1
 have hn' : xs.length=2:=hn
 obtain ⟨x0,x1,rfl⟩ : ∃ a b,xs=[a,b]:=by
  match xs,hn' with
  | [a,b],_=>exact ⟨a,b,rfl⟩
 obtain ⟨to,e0,f0,_⟩:=DataW.trod_int (x:=x0) Tryz.underlying3 h0
 obtain ⟨out,e1,f1,_⟩:=DataW.trod_int (x:=x1) Tryz.underlying3 h1
 subst f0
 subst f1
 have hd' : d=.agg [.lit (.int .i64 to),.lit (.int .i64 out)]:=congrArg Prod.fst hd
 subst hd'
 have hm0:m≠0:=by rintro rfl; simp [DataW.trod] at h0
 obtain ⟨N,rfl⟩ : ∃ M,N=M+2:=⟨N - 2,by omega⟩
 refine ⟨[.lit (.int .i64 to),.lit (.int .i64 out)],g,b,(to,out),?_,Nat.le_refl _,fun _ _=>rfl,rfl⟩
 have i1:∀ k:Int,mkD (Hh:=H) Tryz.prog noTok (N+1) 3 (.lit (.int .i64 k)) ⟨.fn g,b⟩=some ([.lit (.int .i64 k)],⟨.fn g,b⟩):=by
  intro k; unfold mkD; rw [Tryz.underlying3]
 unfold mkD
 rw [Tryz.underlying97]
 dsimp only
 simp only [mkF,i1,c3,c97]
 rfl
theorem edges_of {g:Nat→Option Blk} {b:Nat} : ∀ {l:List (Int×Int)} {cs:List AV},RL EdgeR g b l cs→cs=l.flatMap edC
 | [],_,h=>h
 | x :: l,_,⟨c,r,h1,h2,h3⟩=>by
  have h2:c=edC x:=h2
  rw [h1,h2,edges_of h3]; rfl
def ERowR (g:Nat→Option Blk) (b:Nat) (x:List (Int×Int)) (avs:List AV) : Prop:=∃ sv,avs=[sv]∧RepE g b x sv
theorem erow_mk (fuel:Nat) (cs:List Value) (d:DataW H) (p:List MemPlace) (h:DataW.trod enc Tryz.prog w 0 (fun _=>true) true fuel 98 cs=some (d,p)) (N:Nat) (hN:fuel≤N) (g:Nat→Option Blk) (b:Nat) :
  ∃ avs g' b' x,mkD Tryz.prog noTok N 98 d ⟨.fn g,b⟩=some (avs,⟨.fn g',b'⟩)∧b≤b'∧(∀ a,a < b→g' a=g a)∧ERowR g' b' x avs:=by
 obtain ⟨s,rfl⟩:=slice_one Tryz.underlying98 h
 obtain ⟨sv,g1,b1,l,e1,t1,t2,tc,t3⟩:=name_slice (R:=EdgeR) Tryz.underlying98 c97 (by decide) (fun _ _ h=>h) (fun h=>by rw [show _=_ from h]; rfl) h (fun m cs d p _ h N hN g b=>edge_mk m cs d p h N hN g b) N hN g b
 refine ⟨[sv],g1,b1,l,e1,t1,t2,sv,rfl,?_⟩
 rcases t3 with ⟨rfl,h⟩ | ⟨a,off,r,q1,q2,q3,q4⟩
 ·exact .inl ⟨rfl,rfl,h⟩
 ·exact .inr ⟨a,off,q1,q2,by rw [← edges_of q4]; exact q3⟩
theorem erows_of {g:Nat→Option Blk} {b:Nat} : ∀ {l:List (List (Int×Int))} {cs:List AV},RL ERowR g b l cs→RowsG g b l cs
 | [],_,h=>by
  have h:_=[]:=h
  subst h
  exact ⟨rfl,fun k hk=>by simp at hk⟩
 | x :: l,_,⟨c,r,h1,⟨sv,h2,h3⟩,h5⟩=>by
  obtain ⟨i1,i2⟩:=erows_of h5
  subst h1 h2
  refine ⟨by simp [i1],fun k hk=>?_⟩
  cases k with
  | zero=>exact ⟨sv,rfl,h3⟩
  | succ k =>
   obtain ⟨sv',j1,j2⟩:=i2 k (by simpa using hk)
   exact ⟨sv',by simpa using j1,by simpa using j2⟩
theorem rows_mk (fuel:Nat) (s:Value) (d:DataW H) (p:List MemPlace) (h:DataW.trod enc Tryz.prog w 0 (fun _=>true) true fuel 23 [s]=some (d,p)) (N:Nat) (hN:fuel≤N) (g:Nat→Option Blk) (b:Nat) :
  ∃ sv g' b' l,mkD Tryz.prog noTok N 23 d ⟨.fn g,b⟩=some ([sv],⟨.fn g',b'⟩)∧b≤b'∧(∀ a,a < b→g' a=g a)∧TreeR g' b' l sv:=by
 obtain ⟨sv,g1,b1,l,e1,t1,t2,tc,t3⟩:=name_slice (R:=ERowR) Tryz.underlying23 c98 (by decide) (fun h1 h2 ⟨sv,e,h3⟩=>⟨sv,e,SliceV.mono h1 h2 h3⟩) (fun ⟨sv,e,_⟩=>by rw [e]; rfl) h (fun m cs d p _ h N hN g b=>erow_mk m cs d p h N hN g b) N hN g b
 refine ⟨sv,g1,b1,l,e1,t1,t2,?_⟩
 rcases t3 with ⟨rfl,h⟩ | ⟨a,off,r,q1,q2,q3,q4⟩
 ·exact ⟨[],.inl ⟨rfl,rfl,h⟩,rfl,fun k hk=>by simp at hk⟩
 ·exact ⟨r,.inr ⟨a,off,q1,q2,q3⟩,erows_of q4⟩
theorem five_xs {α:Type} {xs:List α} (h:xs.length=5) : ∃ a b c d e,xs=[a,b,c,d,e]:=by
 match xs,h with
 | [a,b,c,d,e],_=>exact ⟨a,b,c,d,e,rfl⟩
theorem three_xs {α:Type} {xs:List α} (h:xs.length=3) : ∃ a b c,xs=[a,b,c]:=by
 match xs,h with
 | [a,b,c],_=>exact ⟨a,b,c,rfl⟩
theorem seven_of {cs:List Value} (h:cs.length=7) : ∃ a b c d e f g,cs=[a,b,c,d,e,f,g]:=by
 match cs,h with
 | [a,b,c,d,e,f,g],_=>exact ⟨a,b,c,d,e,f,g,rfl⟩
theorem tree_mk (fuel:Nat) (cs:List Value) (d:DataW H) (p:List MemPlace) (h:DataW.trod enc Tryz.prog w 0 (fun _=>true) true fuel 25 cs=some (d,p)) (N:Nat) (hN:fuel≤N) (g:Nat→Option Blk) (b:Nat) :
  ∃ I O sv g' b' T,mkD Tryz.prog noTok N 25 d ⟨.fn g,b⟩=some ([.lit (.int .i64 I),.lit (.int .i64 O),sv],⟨.fn g',b'⟩)∧b≤b'∧(∀ a,a < b→g' a=g a)∧TreeR g' b' T sv:=by
 obtain ⟨xs,m,rfl,hd,hl,hn,he⟩:=DataW.trod_struct Tryz.underlying25 h
 rw [c25] at hl
 obtain ⟨v0,v1,v2,rfl⟩:=three_of hl
 have h0:DataW.trod enc Tryz.prog w 0 (fun _=>true) true m 3 (([v0,v1,v2].drop 0).take (Tryz.prog.cellsOf 3))=xs[0]?:=he 0 _ rfl
 have h1:DataW.trod enc Tryz.prog w 0 (fun _=>true) true m 3 (([v0,v1,v2].drop 1).take (Tryz.prog.cellsOf 3))=xs[1]?:=he 1 _ rfl
 have h2:DataW.trod enc Tryz.prog w 0 (fun _=>true) true m 23 (([v0,v1,v2].drop 2).take (Tryz.prog.cellsOf 23))=xs[2]?:=he 2 _ rfl
 rw [c3] at h0 h1
 rw [c23] at h2
 obtain ⟨x0,x1,x2,rfl⟩:=three_xs (show xs.length=3 from hn)
 obtain ⟨I,e0,f0,_⟩:=DataW.trod_int (x:=x0) Tryz.underlying3 h0
 obtain ⟨O,e1,f1,_⟩:=DataW.trod_int (x:=x1) Tryz.underlying3 h1
 subst f0
 subst f1
 have hx2:DataW.trod enc Tryz.prog w 0 (fun _=>true) true m 23 [v2]=some (x2.1,x2.2):=h2
 obtain ⟨sv,g1,b1,T,e2,k1,k2,k3⟩:=rows_mk m v2 _ _ hx2 (N - 1) (by omega) g b
 refine ⟨I,O,sv,g1,b1,T,?_,k1,k2,k3⟩
 have hd' : d=.agg [.lit (.int .i64 I),.lit (.int .i64 O),x2.1]:=congrArg Prod.fst hd
 subst hd'
 have hm0:m≠0:=by rintro rfl; simp [DataW.trod] at h0
 obtain ⟨N,rfl⟩ : ∃ M,N=M+2:=⟨N - 2,by omega⟩
 have e2' : mkD Tryz.prog noTok (N+1) 23 x2.1 ⟨.fn g,b⟩=some ([sv],⟨.fn g1,b1⟩):=e2
 have i1:∀ k:Int,mkD (Hh:=H) Tryz.prog noTok (N+1) 3 (.lit (.int .i64 k)) ⟨.fn g,b⟩=some ([.lit (.int .i64 k)],⟨.fn g,b⟩):=by
  intro k; unfold mkD; rw [Tryz.underlying3]
 unfold mkD
 rw [Tryz.underlying25]
 dsimp only
 simp only [mkF,i1,e2',c3,c23,c25]
 rfl
theorem table_mk (fuel:Nat) (cs:List Value) (d:DataW H) (p:List MemPlace) (h:DataW.trod enc Tryz.prog w 0 (fun _=>true) true fuel 27 cs=some (d,p)) (N:Nat) (hN:fuel≤N) (g:Nat→Option Blk) (b:Nat) :
  ∃ q O sv se I2 O2 st g' b' S E T,mkD Tryz.prog noTok N 27 d ⟨.fn g,b⟩=some ([.lit (.int .i64 q),.lit (.int .i64 O),sv,se,.lit (.int .i64 I2),.lit (.int .i64 O2),st],⟨.fn g',b'⟩)∧b≤b'∧(∀ a,a < b→g' a=g a) ∧
   ListR g' b' S sv∧ListR g' b' E se∧TreeR g' b' T st∧CapV sv∧CapV se:=by
 obtain ⟨xs,m,rfl,hd,hl,hn,he⟩:=DataW.trod_struct Tryz.underlying27 h
 rw [c27] at hl
 obtain ⟨v0,v1,v2,v3,v4,v5,v6,rfl⟩:=seven_of hl
 have h0:DataW.trod enc Tryz.prog w 0 (fun _=>true) true m 3 (([v0,v1,v2,v3,v4,v5,v6].drop 0).take (Tryz.prog.cellsOf 3))=xs[0]?:=he 0 _ rfl
 have h1:DataW.trod enc Tryz.prog w 0 (fun _=>true) true m 3 (([v0,v1,v2,v3,v4,v5,v6].drop 1).take (Tryz.prog.cellsOf 3))=xs[1]?:=he 1 _ rfl
 have h2:DataW.trod enc Tryz.prog w 0 (fun _=>true) true m 22 (([v0,v1,v2,v3,v4,v5,v6].drop 2).take (Tryz.prog.cellsOf 22))=xs[2]?:=he 2 _ rfl
 have h3:DataW.trod enc Tryz.prog w 0 (fun _=>true) true m 22 (([v0,v1,v2,v3,v4,v5,v6].drop 3).take (Tryz.prog.cellsOf 22))=xs[3]?:=he 3 _ rfl
 have h4:DataW.trod enc Tryz.prog w 0 (fun _=>true) true m 25 (([v0,v1,v2,v3,v4,v5,v6].drop 4).take (Tryz.prog.cellsOf 25))=xs[4]?:=he 4 _ rfl
 rw [c3] at h0 h1
 rw [c22] at h2 h3
 rw [c25] at h4
 obtain ⟨x0,x1,x2,x3,x4,rfl⟩:=five_xs (show xs.length=5 from hn)
 obtain ⟨q,e0,f0,_⟩:=DataW.trod_int (x:=x0) Tryz.underlying3 h0
 obtain ⟨O,e1,f1,_⟩:=DataW.trod_int (x:=x1) Tryz.underlying3 h1
 subst f0
 subst f1
 have hx2:DataW.trod enc Tryz.prog w 0 (fun _=>true) true m 22 [v2]=some (x2.1,x2.2):=h2
 have hx3:DataW.trod enc Tryz.prog w 0 (fun _=>true) true m 22 [v3]=some (x3.1,x3.2):=h3
 have hx4:DataW.trod enc Tryz.prog w 0 (fun _=>true) true m 25 [v4,v5,v6]=some (x4.1,x4.2):=h4
 obtain ⟨sv,g1,b1,S,e2,k1,k2,k3,k4⟩:=list_mk m v2 _ _ hx2 (N - 1) (by omega) g b
 obtain ⟨se,g2,b2,E,e3,l1,l2,l3,l4⟩:=list_mk m v3 _ _ hx3 (N - 1) (by omega) g1 b1
 obtain ⟨I2,O2,st,g3,b3,T,e4,m1,m2,m3⟩:=tree_mk m _ _ _ hx4 (N - 1) (by omega) g2 b2
 refine ⟨q,O,sv,se,I2,O2,st,g3,b3,S,E,T,?_,by omega,fun a ha=>(m2 a (by omega)).trans ((l2 a (by omega)).trans (k2 a ha)),?_,?_,m3,k4,l4⟩
 ·have hd' : d=.agg [.lit (.int .i64 q),.lit (.int .i64 O),x2.1,x3.1,x4.1]:=congrArg Prod.fst hd
  subst hd'
  have hm0:m≠0:=by rintro rfl; simp [DataW.trod] at h0
  obtain ⟨N,rfl⟩ : ∃ M,N=M+2:=⟨N - 2,by omega⟩
  have e2' : mkD Tryz.prog noTok (N+1) 22 x2.1 ⟨.fn g,b⟩=some ([sv],⟨.fn g1,b1⟩):=e2
  have e3' : mkD Tryz.prog noTok (N+1) 22 x3.1 ⟨.fn g1,b1⟩=some ([se],⟨.fn g2,b2⟩):=e3
  have e4' : mkD Tryz.prog noTok (N+1) 25 x4.1 ⟨.fn g2,b2⟩=some ([.lit (.int .i64 I2),.lit (.int .i64 O2),st],⟨.fn g3,b3⟩):=e4
  have i1:∀ k:Int,mkD (Hh:=H) Tryz.prog noTok (N+1) 3 (.lit (.int .i64 k)) ⟨.fn g,b⟩=some ([.lit (.int .i64 k)],⟨.fn g,b⟩):=by
   intro k; unfold mkD; rw [Tryz.underlying3]
  unfold mkD
  rw [Tryz.underlying27]
  dsimp only
  simp only [mkF,i1,e2',e3',e4',c3,c22,c25,c27]
  rfl
 ·obtain ⟨v,a1,a2,a3⟩:=k3
  have hg:∀ a,a < b1→g3 a=g1 a:=fun a ha=>(m2 a (by omega)).trans (l2 a ha)
  exact ⟨v,a1.mono (by omega) hg,a2.ext (by omega) fun a x ha hx=>(hg a ha).trans hx,a3⟩
 ·obtain ⟨v,a1,a2,a3⟩:=l3
  exact ⟨v,a1.mono (by omega) m2,a2.ext (by omega) fun a x ha hx=>(m2 a ha).trans hx,a3⟩
theorem calls_C {W:World} {v0:Value} {d0:DataW H} {p0:List MemPlace} {base:Nat} (h0:DataW.Trod enc Tryz.prog W 0 (fun _=>true) true 27 v0 d0 p0) (k0:Value.okWide Tryz.prog W .any base 27 v0) (hL:laidMetH Tryz.prog [] W) :
  Calls Tryz.prog 8 #[v0] W fun e W'=>e=.returned (.bool true)∧Below W.heap.size W W':=by
 simp only [Value.okWide,Tryz.underlying27] at k0
 obtain ⟨cm,rfl,_⟩:=k0
 obtain ⟨f0,h0⟩:=h0
 obtain ⟨ρ,s,hno⟩:=start_sound hL rfl (show layG Tryz.prog [] (mem0 Tryz.prog)=some (mem0 Tryz.prog) from rfl)
 have hn0:(mem0 Tryz.prog).next=0:=gsize
 have s' : Sim W.heap.size 0 ρ ⟨.fn (mem0 Tryz.prog).get,(mem0 Tryz.prog).next⟩ W:=by rw [← hG] at s; exact s.toFn
 have hno' : NoOwn ⟨.fn (mem0 Tryz.prog).get,(mem0 Tryz.prog).next⟩:=fun a x hx=>hno a x hx
 obtain ⟨q,O,sv,se,I2,O2,st,g1,n1,S,E,T,e1,t1,t2,aS,aE,aT,cS,cE⟩:=table_mk f0 _ d0 p0 h0 f0 (Nat.le_refl _) (mem0 Tryz.prog).get (mem0 Tryz.prog).next
 obtain ⟨ρ1,M1⟩:=mkD_sound (sp:=fun _=>true) (fun _=>rfl) (noTok_ok enc) f0 f0 27 _ d0 p0 ⟨.fn (mem0 Tryz.prog).get,(mem0 Tryz.prog).next⟩ _ _ ρ h0 (fun h=>by cases h) s' hno' e1
 have hw:=tablesCheck_w q O I2 O2 S E T g1 n1 sv se st aS aE aT cS cE
 refine (hw W.heap.size ρ1 #[.agg cm] W M1.sim ?_).mono ?_
 ·exact ⟨_,_,rfl,⟨cm,rfl,M1.vals⟩,rfl⟩
 ·rintro e W' ⟨r,rfl,hcp⟩
  cases e with
  | returned u=>obtain ⟨ρ',q1,q2,q3,q4⟩:=hcp; exact ⟨congrArg _ q3,q1.below⟩
  | _=>exact hcp.elim
end Go.Ai
end
