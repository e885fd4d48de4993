/- A small verified interpreter over names, its proofs, and what was proved with it. No condition. -/
import Derived.Shelf.Vars
import Derived.Test.YtiddfilinnbhaaaGreatDoorCards
import Derived.Test.YtiddfilinnbhaaaGreatDoorTie
import Derived.WalkKit
import Derived.OpenShut
import Derived.Deep.DeepHandedRow
import Derived.LaidOnce
import Derived.Lay
import Derived.Test.YtiddfilinnbhaaaGreatDoorT12
import Derived.Test.YtiddfilinnbhaaaGreatDoorT05
import Derived.Test.YtiddfilinnbhaaaGreatDoorT11
import Derived.Test.YtiddfilinnbhaaaGreatDoorT07
set_option linter.all false
set_option linter.deprecated false
section
namespace Go.Ai
open Go.Proofs
theorem H0m_get {m:Int} {a:Nat} {x:Blk} (h:(H0m m).get a=some x) : a=0∧x=.cells [.lit (.int .i64 m)] false 0:=by
 have h1:get4 (u4 e4 0 (.v 0 (.cells [.lit (.int .i64 m)] false 0))) a=some x:=h
 rcases get4_v _ _ _ _ _ h1 with ⟨rfl,rfl⟩ | ⟨_,h2⟩
 ·exact ⟨rfl,rfl⟩
 ·rw [get4_e4] at h2; cases h2
theorem lives_w (H:Mem) (m:Int) (hM:H.get 0=some (.cells [.lit (.int .i64 m)] false 0)) : WC 3 Tryz.prog 16 [] H fun r=>r=.ret (.lit (.bool true)) H:=by
 refine WC.local (H0:=H0m m) (O:=callB Tryz.prog bl34 O34 10000) (callB_ok O34_ok hG 10000) (top_run m) rfl rfl (Nat.le_refl 3) (fun a=>?_) (fun a x hx=>?_) fun a x hx=>?_
 ·cases hx:(H0m m).get a with
  | none=>rfl
  | some x =>
   obtain ⟨rfl,rfl⟩:=H0m_get hx
   rfl
 ·obtain ⟨rfl,rfl⟩:=H0m_get hx
  exact hM
 ·obtain ⟨rfl,rfl⟩:=H0m_get hx
  show 0 < 3
  omega
end Go.Ai
end
section
namespace Go.Ai
open Go.Proofs
set_option maxRecDepth 10000
set_option maxHeartbeats 40000000
theorem equal_conf:pureV Tryz.prog (Op.equal 41 (.agg #[.int .i64 0,.int .i64 0,.int .i64 0]) (.agg #[.int .i64 0,.int .i64 0,.int .i64 0]))=some true:=by kernel_rfl
theorem bin_conf {H:Mem} {ev:Ev} {d:Option Tmp} {ty rt:TypeId} {p:String} {af:Array Edge} {g:Option (Nat×Bool)} {x y:Operand} (hx:ev x=some (.agg [.lit (.int .i64 0),.lit (.int .i64 0),.lit (.int .i64 0)])) (hy:ev y=some (.agg [.lit (.int .i64 0),.lit (.int .i64 0),.lit (.int .i64 0)])) :
  binS Tryz.prog H ev ⟨d,.binOp .eql 41 x y rt,ty,p,af,g⟩ .eql 41 (some (.agg [.lit (.int .i64 0),.lit (.int .i64 0),.lit (.int .i64 0)])) (some (.agg [.lit (.int .i64 0),.lit (.int .i64 0),.lit (.int .i64 0)]))=.val (.lit (.bool true)) H:=by
 show oBin Tryz.prog H ev ⟨d,.binOp .eql 41 x y rt,ty,p,af,g⟩ .eql 41 (some (.agg [.lit (.int .i64 0),.lit (.int .i64 0),.lit (.int .i64 0)])) (some (.agg [.lit (.int .i64 0),.lit (.int .i64 0),.lit (.int .i64 0)]))=_
 refine oBin_generic rfl ?_
 have h1:(Op.operands (.binOp .eql 41 x y rt)).toList=[x,y]:=rfl
 unfold generic
 dsimp only
 rw [h1]
 have l1:toLit (.agg [.lit (.int .i64 0),.lit (.int .i64 0),.lit (.int .i64 0)])=some (.agg #[.int .i64 0,.int .i64 0,.int .i64 0]):=rfl
 simp only [List.all_cons,List.all_nil,hx,hy,l1,Bool.and_true,if_true]
 have h2:∀ ρ:Operand→Value,ρ x=.agg #[.int .i64 0,.int .i64 0,.int .i64 0]→ρ y=.agg #[.int .i64 0,.int .i64 0,.int .i64 0]→pureV Tryz.prog (execOp ρ ⟨d,.binOp .eql 41 x y rt,ty,p,af,g⟩)=some (.value (.bool true)):=by
  intro ρ e1 e2
  refine execOp_bin e1 e2 ?_ ?_
  ·unfold eqGuard; kernel_rfl
  ·show pureV Tryz.prog (do pure (Value.bool (← Op.equal 41 _ _)))=_
   exact (pureV_then equal_conf).trans rfl
 rw [h2 _ (by simp only [hx,l1]) (by simp only [hy,l1])]
attribute [simp] bin_conf
theorem tracesCheck_w (I O:Int) (ts:List (List Int×List Int)) (st inp out:Nat) (part:Bool) (es:List Nat) (ev:AV) (hst:st < 256) (hinp:inp < 256) (hout:out < 256) (m:Int) (g:Nat→Option Blk) (n:Nat) (sv:AV) (hT:LogR g n ts sv) (hes:SliceA g n ev es.length (u16Cells es)) (heb:∀ c∈es,c < 65536) (h0:g 0=some (.cells [.lit (.int .i64 m)] false 0)) (hn0:3≤n) :
  WC 3 Tryz.prog 3 [.agg [.lit (.int .i64 I),.lit (.int .i64 O),sv],.agg [.lit (.int .u8 st),.lit (.int .u8 inp),.lit (.int .u8 out),.lit (.bool part),ev]] ⟨.fn g,n⟩ fun r=>r=.ret (.lit (.bool true)) ⟨.fn g,n⟩:=by
 refine WC.drop1 rfl ?_
 have h1s:=hT.choose_spec.1.one
 have h1v:=hes.one
 have hone:allOne [.lit (.int .i64 I),.lit (.int .i64 O),sv]=true:=by simp [h1s]
 have honem:allOne [.lit (.int .u8 st),.lit (.int .u8 inp),.lit (.int .u8 out),.lit (.bool part),ev]=true:=by simp [h1v]
 have HSM:=Hide.mk fun (gX:Nat→Option Blk) (n2:Nat) (hn:n≤n2) (hX:∀ b,b < n→gX b=g b)=>small_w I O ts gX n2 sv (hT.mono hn hX)
 have HLV:=Hide.mk fun (gX:Nat→Option Blk) (n2:Nat) (hX:∀ b,b < n→gX b=g b)=>lives_w ⟨.fn gX,n2⟩ m ((hX 0 (by omega)).trans h0)
 by_cases hsm:smallB ts=true
 ·rw [if_pos hsm] at HSM
  have hSL:=smallB_ok hsm
  have hCK:∀ (gX:Nat→Option Blk) (n2:Nat),n≤n2→(∀ b,b < n→gX b=g b)→WC 3 Tryz.prog 15 [.agg [.lit (.int .i64 I),.lit (.int .i64 O),sv]] ⟨.fn gX,n2⟩ fun r=>r=.ret (.lit (.int .i64 (logErr I O ts))) ⟨.fn gX,n2⟩ :=
   fun gX n2 hn hX=>Check_w I O ts hSL gX n2 sv (hT.mono hn hX)
  have hRC:∀ (gX:Nat→Option Blk) (n2:Nat),n≤n2→(∀ b,b < n→gX b=g b)→WC 3 Tryz.prog 14 [.agg [.lit (.int .i64 I),.lit (.int .i64 O),sv]] ⟨.fn gX,n2⟩ fun r=>r=.ret (.lit (.int .i64 (logErr I O ts))) ⟨.fn gX,n2⟩ :=
   fun gX n2 hn hX=>rCheck_w I O ts hSL gX n2 sv (hT.mono hn hX)
  have HRC:=Hide.mk hRC
  have HCK:=Hide.mk hCK
  have he3:logErr I O ts=0∨0 < logErr I O ts:=by unfold logErr; split; exact .inr (by omega); split; exact .inr (by omega); split; exact .inl rfl; exact .inr (by omega)
  have HMO:=Hide.mk fun (gX:Nat→Option Blk) (n2:Nat) (hn:n≤n2) (hX:∀ b,b < n→gX b=g b)=>MOf_w st inp out part es ev gX n2 hst hinp hout (hes.mono hn hX) heb
  clear hT hes hRC hsm hSL heb h0
  generalize logErr I O ts=e at *
  by_cases he:e=0
  ·subst he
   clear hCK HMO
   refine WC.enterP (noO_ok _ _) hG pl3 Tryz.func3 rfl (by decide +kernel) (Nat.le_of_ble_eq_true (by kernel_rfl)) ?_
   iterate 8 (all_goals try (first | with_reducible refine splitI (fun h=>?_) (fun h=>?_) | with_reducible refine splitBI (fun h=>?_) (fun h=>?_) | simp (config:={ maxSteps:=1000000 }) (disch:=first | assumption | omega | (simp; done) | fail) [Tryz.results3, *]))
   refine WC.mono (HSM.out _ _ (by omega) fun b (hb:b < n)=>by simp (disch:=omega) only [gput_lt]) ?_
   rintro _ rfl
   iterate 8 (all_goals try (first | with_reducible refine splitI (fun h=>?_) (fun h=>?_) | with_reducible refine splitBI (fun h=>?_) (fun h=>?_) | simp (config:={ maxSteps:=1000000 }) (disch:=first | assumption | omega | (simp; done) | fail) [Tryz.results3, *]))
   refine WC.mono (HRC.out _ _ (by omega) fun b (hb:b < n)=>by simp (disch:=omega) only [gput_lt]) ?_
   rintro _ rfl
   iterate 8 (all_goals try (first | with_reducible refine splitI (fun h=>?_) (fun h=>?_) | with_reducible refine splitBI (fun h=>?_) (fun h=>?_) | simp (config:={ maxSteps:=1000000 }) (disch:=first | assumption | omega | (simp; done) | fail) [Tryz.results3, *]))
   refine WC.mono (HCK.out _ _ (by omega) fun b (hb:b < n)=>by simp (disch:=omega) only [gput_lt]) ?_
   rintro _ rfl
   iterate 8 (all_goals try (first | with_reducible refine splitI (fun h=>?_) (fun h=>?_) | with_reducible refine splitBI (fun h=>?_) (fun h=>?_) | simp (config:={ maxSteps:=1000000 }) (disch:=first | assumption | omega | (simp; done) | fail) [Tryz.results3, *]))
   refine WC.mono (HLV.out _ _ fun b (hb:b < n)=>by simp (disch:=omega) only [gput_lt]) ?_
   rintro _ rfl
   iterate 8 (all_goals try (first | with_reducible refine splitI (fun h=>?_) (fun h=>?_) | with_reducible refine splitBI (fun h=>?_) (fun h=>?_) | simp (config:={ maxSteps:=1000000 }) (disch:=first | assumption | omega | (simp; done) | fail) [Tryz.results3, *]))
   exact ⟨by show n≤n+1+1; omega,fun b (hb:b < n)=>(gput_lt (by omega)).trans (gput_lt hb)⟩
  ·have hep:0 < e:=by omega
   have HCO:=Hide.mk fun (gX:Nat→Option Blk) (n2:Nat) (hn:n≤n2) (hX:∀ b,b < n→gX b=g b)=>Contradiction_ref hone he gX n2 fun gY n3 hn3 hY=>hCK gY n3 (by omega) fun b hb=>(hY b (by omega)).trans (hX b hb)
   have HTR:=Hide.mk fun (gX:Nat→Option Blk) (n2:Nat) (hn:n≤n2) (hX:∀ b,b < n→gX b=g b)=>TreeOf_ref hone hep gX n2 fun gY n3 hn3 hY=>hCK gY n3 (by omega) fun b hb=>(hY b (by omega)).trans (hX b hb)
   have HTE:=Hide.mk fun (gX:Nat→Option Blk) (n2:Nat) (hn:n≤n2) (hX:∀ b,b < n→gX b=g b)=>Text_ref hone he gX n2 fun gY n3 hn3 hY=>hCK gY n3 (by omega) fun b hb=>(hY b (by omega)).trans (hX b hb)
   have HAG:=Hide.mk fun (ms:List AV) (gX:Nat→Option Blk) (n2:Nat) (hn:n≤n2) (hX:∀ b,b < n→gX b=g b) (hR:RepM gX n2 (machOf st inp out part es) ms)=>Against_ref (machOf_ok st inp out part es) hone he gX n2 hR fun gY n3 hn3 hY=>hCK gY n3 (by omega) fun b hb=>(hY b (by omega)).trans (hX b hb)
   clear hCK he3
   refine WC.enterP (noO_ok _ _) hG pl3 Tryz.func3 rfl (by decide +kernel) (Nat.le_of_ble_eq_true (by kernel_rfl)) ?_
   iterate 8 (all_goals try (first | with_reducible refine splitI (fun h=>?_) (fun h=>?_) | with_reducible refine splitBI (fun h=>?_) (fun h=>?_) | simp (config:={ maxSteps:=1000000 }) (disch:=first | assumption | omega | (simp; done) | fail) [Tryz.results3, *]))
   refine WC.mono (HSM.out _ _ (by omega) fun b (hb:b < n)=>by simp (disch:=omega) only [gput_lt]) ?_
   rintro _ rfl
   iterate 8 (all_goals try (first | with_reducible refine splitI (fun h=>?_) (fun h=>?_) | with_reducible refine splitBI (fun h=>?_) (fun h=>?_) | simp (config:={ maxSteps:=1000000 }) (disch:=first | assumption | omega | (simp; done) | fail) [Tryz.results3, *]))
   refine WC.mono (HRC.out _ _ (by omega) fun b (hb:b < n)=>by simp (disch:=omega) only [gput_lt]) ?_
   rintro _ rfl
   iterate 8 (all_goals try (first | with_reducible refine splitI (fun h=>?_) (fun h=>?_) | with_reducible refine splitBI (fun h=>?_) (fun h=>?_) | simp (config:={ maxSteps:=1000000 }) (disch:=first | assumption | omega | (simp; done) | fail) [Tryz.results3, *]))
   refine WC.mono (HCK.out _ _ (by omega) fun b (hb:b < n)=>by simp (disch:=omega) only [gput_lt]) ?_
   rintro _ rfl
   iterate 8 (all_goals try (first | with_reducible refine splitI (fun h=>?_) (fun h=>?_) | with_reducible refine splitBI (fun h=>?_) (fun h=>?_) | simp (config:={ maxSteps:=1000000 }) (disch:=first | assumption | omega | (simp; done) | fail) [Tryz.results3, *]))
   refine WC.mono (HMO.out _ _ (by omega) fun b (hb:b < n)=>by simp (disch:=omega) only [gput_lt]) ?_
   rintro _ ⟨ms,g1,n1,rfl,hn1,hg1,hfr⟩
   have HG1:Hide (∀ b,b < n→g1 b=g b):=⟨fun b hb=>(hg1 b (by omega)).trans (by simp (disch:=omega) only [gput_lt])⟩
   have hnn1:n+1+1+1≤n1:=hn1
   have hgn1:g1 n=some (.cells [.lit (.int .i64 I),.lit (.int .i64 O),sv] true 0):=(hg1 n (by omega)).trans (by simp (disch:=omega) only [gput_lt,gput_eq])
   have hpn1:g1 (n+1+1)=some (.cells [.lit (.int .i64 0),.lit (.int .i64 0)] true 0):=(hg1 (n+1+1) (by omega)).trans (by simp (disch:=omega) only [gput_lt,gput_eq])
   have HREP:=Hide.mk hfr.rep
   clear hg1 hn1 hfr HMO
   iterate 8 (all_goals try (first | with_reducible refine splitI (fun h=>?_) (fun h=>?_) | with_reducible refine splitBI (fun h=>?_) (fun h=>?_) | simp (config:={ maxSteps:=1000000 }) (disch:=first | assumption | omega | (simp; done) | fail) [Tryz.results3, *]))
   refine WC.mono (HAG.out ms _ _ (by omega) (fun b (hb:b < n)=>HG1.out b hb) HREP.out) ?_
   rintro _ ⟨g2,n2,rfl,hn2,hg2⟩
   have HG2:Hide (∀ b,b < n→g2 b=g b):=⟨fun b hb=>(hg2 b (by omega)).trans (HG1.out b hb)⟩
   have hnn2:n+1+1+1≤n2:=by omega
   have hgn2:g2 n=some (.cells [.lit (.int .i64 I),.lit (.int .i64 O),sv] true 0):=(hg2 n (by omega)).trans hgn1
   have hpn2:g2 (n+1+1)=some (.cells [.lit (.int .i64 0),.lit (.int .i64 0)] true 0):=(hg2 (n+1+1) (by omega)).trans hpn1
   clear hg2 hn2 hgn1 hpn1 hnn1 HREP
   iterate 8 (all_goals try (first | with_reducible refine splitI (fun h=>?_) (fun h=>?_) | with_reducible refine splitBI (fun h=>?_) (fun h=>?_) | simp (config:={ maxSteps:=1000000 }) (disch:=first | assumption | omega | (simp; done) | fail) [Tryz.results3, *]))
   refine WC.mono (HCO.out _ _ (by omega) fun b (hb:b < n)=>(gput_lt (by omega)).trans (HG2.out b hb)) ?_
   rintro _ ⟨g3,n3,rfl,hn3,hg3⟩
   have HG3:Hide (∀ b,b < n→g3 b=g b):=⟨fun b hb=>(hg3 b (by omega)).trans ((gput_lt (by omega)).trans (HG2.out b hb))⟩
   have hnn3:n+1+1+1≤n3:=by omega
   have hgn3:g3 n=some (.cells [.lit (.int .i64 I),.lit (.int .i64 O),sv] true 0):=(hg3 n (by omega)).trans ((gput_lt (by omega)).trans hgn2)
   clear hg3 hn3 hgn2 hpn2 hnn2
   iterate 8 (all_goals try (first | with_reducible refine splitI (fun h=>?_) (fun h=>?_) | with_reducible refine splitBI (fun h=>?_) (fun h=>?_) | simp (config:={ maxSteps:=1000000 }) (disch:=first | assumption | omega | (simp; done) | fail) [Tryz.results3, *]))
   refine WC.mono (HTR.out _ _ (by omega) fun b (hb:b < n)=>(gput_lt (by omega)).trans (HG3.out b hb)) ?_
   rintro _ ⟨g4,n4,rfl,hn4,hg4⟩
   have HG4:Hide (∀ b,b < n→g4 b=g b):=⟨fun b hb=>(hg4 b (by omega)).trans ((gput_lt (by omega)).trans (HG3.out b hb))⟩
   have hnn4:n3+1≤n4:=by omega
   have hgn4:g4 n=some (.cells [.lit (.int .i64 I),.lit (.int .i64 O),sv] true 0):=(hg4 n (by omega)).trans ((gput_lt (by omega)).trans hgn3)
   have hc4:g4 n3=some (.cells [.lit (.int .i64 0),.lit (.int .i64 0),.lit (.int .i64 0)] true 0):=(hg4 n3 (by omega)).trans gput_eq
   clear hg4 hn4 hgn3
   iterate 8 (all_goals try (first | with_reducible refine splitI (fun h=>?_) (fun h=>?_) | with_reducible refine splitBI (fun h=>?_) (fun h=>?_) | simp (config:={ maxSteps:=1000000 }) (disch:=first | assumption | omega | (simp; done) | fail) [Tryz.results3, *]))
   refine WC.mono (HTE.out _ _ (by omega) fun b (hb:b < n)=>(gput_lt (by omega)).trans (HG4.out b hb)) ?_
   rintro _ ⟨g5,n5,rfl,hn5,hg5⟩
   have HG5:Hide (∀ b,b < n→g5 b=g b):=⟨fun b hb=>(hg5 b (by omega)).trans ((gput_lt (by omega)).trans (HG4.out b hb))⟩
   have hnn5:n4+1≤n5:=by omega
   have hgn5:g5 n=some (.cells [.lit (.int .i64 I),.lit (.int .i64 O),sv] true 0):=(hg5 n (by omega)).trans ((gput_lt (by omega)).trans hgn4)
   have hc5:g5 n3=some (.cells [.lit (.int .i64 0),.lit (.int .i64 0),.lit (.int .i64 0)] true 0):=(hg5 n3 (by omega)).trans ((gput_lt (by omega)).trans hc4)
   have ht5:g5 n4=some (.cells [.lit (.int .i64 0),.lit (.int .i64 0),.lit (.slice none 0 0)] true 0):=(hg5 n4 (by omega)).trans gput_eq
   clear hg5 hn5 hgn4 hc4
   iterate 8 (all_goals try (first | with_reducible refine splitI (fun h=>?_) (fun h=>?_) | with_reducible refine splitBI (fun h=>?_) (fun h=>?_) | simp (config:={ maxSteps:=1000000 }) (disch:=first | assumption | omega | (simp; done) | fail) [Tryz.results3, *]))
   refine WC.mono (HLV.out _ _ fun b (hb:b < n)=>HG5.out b hb) ?_
   rintro _ rfl
   iterate 8 (all_goals try (first | with_reducible refine splitI (fun h=>?_) (fun h=>?_) | with_reducible refine splitBI (fun h=>?_) (fun h=>?_) | simp (config:={ maxSteps:=1000000 }) (disch:=first | assumption | omega | (simp; done) | fail) [Tryz.results3, *]))
   exact ⟨by show n≤n5; omega,fun b (hb:b < n)=>HG5.out b hb⟩
 ·rw [if_neg hsm] at HSM
  clear hT hes hsm heb h0
  refine WC.enterP (noO_ok _ _) hG pl3 Tryz.func3 rfl (by decide +kernel) (Nat.le_of_ble_eq_true (by kernel_rfl)) ?_
  iterate 8 (all_goals try (first | with_reducible refine splitI (fun h=>?_) (fun h=>?_) | with_reducible refine splitBI (fun h=>?_) (fun h=>?_) | simp (config:={ maxSteps:=1000000 }) (disch:=first | assumption | omega | (simp; done) | fail) [Tryz.results3, *]))
  refine WC.mono (HSM.out _ _ (by omega) fun b (hb:b < n)=>by simp (disch:=omega) only [gput_lt]) ?_
  rintro _ rfl
  iterate 8 (all_goals try (first | with_reducible refine splitI (fun h=>?_) (fun h=>?_) | with_reducible refine splitBI (fun h=>?_) (fun h=>?_) | simp (config:={ maxSteps:=1000000 }) (disch:=first | assumption | omega | (simp; done) | fail) [Tryz.results3, *]))
  exact ⟨by show n≤n+1+1; omega,fun b (hb:b < n)=>(gput_lt (by omega)).trans (gput_lt hb)⟩
end Go.Ai
end
section
namespace Go.Ai
open Go.Proofs
set_option maxRecDepth 10000
theorem start34 {W:World} (h:W.ShapedOpen Tryz.prog) : ∃ (m:Int) (g:Nat→Option Blk) (ρ:Rn),g 0=some (.cells [.lit (.int .i64 m)] false 0)∧Sim W.heap.size 3 ρ ⟨.fn g,3⟩ W∧NoOwn ⟨.fn g,3⟩:=by
 obtain ⟨m,hm⟩:=cell_of_shapedOpen_int (g:=0) (t:=3) (zero:=#[.int .i64 0]) (k:=.i64) h (by rw [gsize]; decide) (by kernel_rfl) rfl (by kernel_rfl) (by kernel_rfl) Tryz.underlying3
 have hx:∃ c e fz,W.heap[0]?=some (.cells c e fz)∧c[0]?=some (.int .i64 m):=by
  unfold World.cell? at hm
  split at hm
  ·rename_i c e fz hh
   exact ⟨c,e,fz,hh,hm⟩
  ·cases hm
 obtain ⟨c,e,fz,hh,hc⟩:=hx
 refine ⟨m,fun a=>if a=0 then some (.cells [.lit (.int .i64 m)] false 0) else none,fun a=>if a < 3 then some (a,0,0) else none,if_pos rfl,⟨fun a x hx=>?_,fun a a' x x' b o k o' k' hx hx' hne=>?_,fun a ha=>if_neg (Nat.not_lt.2 ha),fun a x ha hx=>if_pos ha,Nat.le_refl _,Nat.le_refl _⟩,fun a x hx=>?_⟩
 ·have hx' : (if a=0 then some (Blk.cells [.lit (.int .i64 m)] false 0) else none)=some x:=hx
  split at hx'
  ·rename_i h0
   subst h0
   cases hx'
   refine .inr ⟨0,0,0,rfl,c,e,fz,hh,fun i v hi=>?_,fun h=>by cases h⟩
   cases i with
   | zero=>cases hi; exact ⟨_,hc,rfl⟩
   | succ i=>cases hi
  ·cases hx'
 ·have h1:(if a=0 then some (Blk.cells [.lit (.int .i64 m)] false 0) else none)=some x:=hx
  have h2:(if a'=0 then some (Blk.cells [.lit (.int .i64 m)] false 0) else none)=some x':=hx'
  split at h1
  ·split at h2
   ·rename_i h3 h4; exact absurd (h3.trans h4.symm) hne
   ·cases h2
  ·cases h1
 ·have hx' : (if a=0 then some (Blk.cells [.lit (.int .i64 m)] false 0) else none)=some x:=hx
  split at hx'
  ·cases hx'; rfl
  ·cases hx'
end Go.Ai
end
section
namespace Go.Ai
open Go.Proofs Go.ChangeShapes Go.WideShapes Go.ChangeAt Go.RowKit
set_option maxRecDepth 10000
variable {H:Type} {enc:TypeId×Value→H} {w:World}
def CapV (sv:AV) : Prop:=∀ a o n c,sv=.sl a o n c→n≤c
theorem c3:Tryz.prog.cellsOf 3=1:=by kernel_rfl
theorem c4:Tryz.prog.cellsOf 4=1:=by kernel_rfl
theorem c5:Tryz.prog.cellsOf 5=1:=by kernel_rfl
theorem c22:Tryz.prog.cellsOf 22=1:=by kernel_rfl
theorem c24:Tryz.prog.cellsOf 24=3:=by kernel_rfl
theorem c25:Tryz.prog.cellsOf 25=1:=by kernel_rfl
theorem c27:Tryz.prog.cellsOf 27=5:=by kernel_rfl
theorem c57:Tryz.prog.cellsOf 57=1:=by kernel_rfl
theorem c59:Tryz.prog.cellsOf 59=2:=by kernel_rfl
theorem c104:Tryz.prog.cellsOf 104=1:=by kernel_rfl
theorem two_of {cs:List Value} (h:cs.length=2) : ∃ a b,cs=[a,b]:=by
 match cs,h with
 | [a,b],_=>exact ⟨a,b,rfl⟩
theorem three_of {cs:List Value} (h:cs.length=3) : ∃ a b c,cs=[a,b,c]:=by
 match cs,h with
 | [a,b,c],_=>exact ⟨a,b,c,rfl⟩
theorem slice_one {t e:TypeId} {fuel:Nat} {cs:List Value} {x:DataW H×List MemPlace} (ht:Tryz.prog.underlying t=some (.slice e)) (h:DataW.trod enc Tryz.prog w 0 (fun _=>true) true fuel t cs=some x) : ∃ s,cs=[s]:=by
 rcases DataW.trod_slice ht h with ⟨h1,_⟩ | ⟨a,len,cap,elems,rest,m,_,h1,_⟩
 ·exact ⟨_,h1⟩
 ·exact ⟨_,h1⟩
def RL {β:Type} (R:(Nat→Option Blk)→Nat→β→List AV→Prop) (g:Nat→Option Blk) (b:Nat) : List β→List AV→Prop
 | [],cs=>cs=[]
 | x :: l,cs=>∃ c r,cs=c++r∧R g b x c∧RL R g b l r
theorem RL_len {β:Type} {R:(Nat→Option Blk)→Nat→β→List AV→Prop} {g:Nat→Option Blk} {b sz:Nat} (hl:∀ {x cs},R g b x cs→cs.length=sz) : ∀ {l:List β} {cs:List AV},RL R g b l cs→cs.length=l.length * sz
 | [],cs,h=>by have h' : cs=[]:=h; rw [h']; simp
 | x :: l,cs,⟨c,r,h1,h2,h3⟩=>by rw [h1,List.length_append,hl h2,RL_len hl h3,List.length_cons,Nat.succ_mul]; omega
theorem RL_take {β:Type} {R:(Nat→Option Blk)→Nat→β→List AV→Prop} {g:Nat→Option Blk} {b:Nat} : ∀ (n:Nat) {l:List β} {cs:List AV},RL R g b l cs→∃ c r,cs=c++r∧RL R g b (l.take n) c
 | 0,l,cs,_=>⟨[],cs,rfl,rfl⟩
 | n+1,[],cs,h=>⟨cs,[],by simp,h⟩
 | n+1,x :: l,cs,⟨c,r,h1,h2,h3⟩=>by
  obtain ⟨c',r',h4,h5⟩:=RL_take n h3
  exact ⟨c++c',r',by rw [h1,h4,List.append_assoc],c,c',rfl,h2,h5⟩
theorem mkL_rep {α β:Type} {f:α→Mem→Option (List AV×Mem)} {R:(Nat→Option Blk)→Nat→β→List AV→Prop} {sz:Nat} (hm:∀ {g g' : Nat→Option Blk} {b b' : Nat} {x:β} {cs:List AV},b≤b'→(∀ a,a < b→g' a=g a)→R g b x cs→R g' b' x cs)
  (hl:∀ {g:Nat→Option Blk} {b:Nat} {x:β} {cs:List AV},R g b x cs→cs.length=sz) :
  ∀ (ds:List α),(∀ d∈ds,∀ g b,∃ avs g' b' x,f d ⟨.fn g,b⟩=some (avs,⟨.fn g',b'⟩)∧b≤b'∧(∀ a,a < b→g' a=g a)∧R g' b' x avs) →
  ∀ g b,∃ avs g' b' l,mkL f sz ds ⟨.fn g,b⟩=some (avs,⟨.fn g',b'⟩)∧b≤b'∧(∀ a,a < b→g' a=g a)∧l.length=ds.length∧RL R g' b' l avs
 | [],_,g,b=>⟨[],g,b,[],rfl,Nat.le_refl _,fun _ _=>rfl,rfl,rfl⟩
 | d :: ds,h,g,b=>by
  obtain ⟨a1,g1,b1,x,e1,h1,h2,h3⟩:=h d (by simp) g b
  obtain ⟨a2,g2,b2,l,e2,k1,k2,k3,k4⟩:=mkL_rep (f:=f) (R:=R) (sz:=sz) hm hl ds (fun d hd=>h d (by simp [hd])) g1 b1
  refine ⟨a1++a2,g2,b2,x :: l,?_,by omega,fun a ha=>(k2 a (by omega)).trans (h2 a ha),by simp [k3],a1,a2,rfl,hm k1 k2 h3,k4⟩
  unfold mkL
  rw [e1]
  dsimp only
  rw [e2]
  dsimp only
  rw [show Nat.beq a1.length sz=true from Nat.beq_eq.mpr (hl h3)]
theorem name_slice {β:Type} {R:(Nat→Option Blk)→Nat→β→List AV→Prop} {t e:TypeId} {sz:Nat} (ht:Tryz.prog.underlying t=some (.slice e)) (hsz:Tryz.prog.cellsOf e=sz) (hs0:0 < sz)
  (hm:∀ {g g' : Nat→Option Blk} {b b' : Nat} {x:β} {cs:List AV},b≤b'→(∀ a,a < b→g' a=g a)→R g b x cs→R g' b' x cs)
  (hl:∀ {g:Nat→Option Blk} {b:Nat} {x:β} {cs:List AV},R g b x cs→cs.length=sz) {fuel:Nat} {s:Value} {d:DataW H} {p:List MemPlace}
  (h:DataW.trod enc Tryz.prog w 0 (fun _=>true) true fuel t [s]=some (d,p))
  (he:∀ m cs d p,m < fuel→DataW.trod enc Tryz.prog w 0 (fun _=>true) true m e cs=some (d,p)→∀ N,m≤N→∀ g b,∃ avs g' b' x,mkD Tryz.prog noTok N e d ⟨.fn g,b⟩=some (avs,⟨.fn g',b'⟩)∧b≤b'∧(∀ a,a < b→g' a=g a)∧R g' b' x avs)
  (N:Nat) (hN:fuel≤N) (g:Nat→Option Blk) (b:Nat) :
  ∃ sv g' b' l,mkD Tryz.prog noTok N t d ⟨.fn g,b⟩=some ([sv],⟨.fn g',b'⟩)∧b≤b'∧(∀ a,a < b→g' a=g a) ∧
   CapV sv∧((l=[]∧(sv=.lit (.slice none 0 0)∨sv=.es))∨∃ a off r,a < b'∧(∃ c,sv=.sl a off l.length c)∧Row g' a off r∧RL R g' b' l r):=by
 rcases DataW.trod_slice ht h with ⟨_,hx⟩ | ⟨a,len,cap,elems,rest,m,rfl,_,hx,_,hlc,_,hlen,hel,hrs,_⟩
 ·cases hx
  have hf:fuel≠0:=by
   rintro rfl
   simp [DataW.trod] at h
  obtain ⟨N,rfl⟩ : ∃ M,N=M+1:=⟨N - 1,by omega⟩
  refine ⟨.lit (.slice none 0 0),g,b,[],?_,Nat.le_refl _,fun _ _=>rfl,fun _ _ _ _ e=>(by cases e),.inl ⟨rfl,.inl rfl⟩⟩
  unfold mkD
  rw [ht]
 ·obtain ⟨hrl,hre⟩:=hrs rfl
  simp only [Prod.mk.injEq] at hx
  obtain ⟨rfl,_⟩:=hx
  obtain ⟨N,rfl⟩ : ∃ M,N=M+1:=⟨N - 1,by omega⟩
  have all:∀ x∈elems++rest,∃ ci,DataW.trod enc Tryz.prog w 0 (fun _=>true) true m e ci=some x:=by
   intro x hx
   rcases List.mem_append.1 hx with hx | hx
   ·obtain ⟨i,hi,rfl⟩:=List.mem_iff_getElem.1 hx
    have:=hel i (by omega)
    rw [List.getElem?_eq_getElem hi] at this
    obtain ⟨ci,_,h3⟩:=Option.bind_eq_some_iff.1 this
    exact ⟨ci,h3⟩
   ·obtain ⟨i,hi,rfl⟩:=List.mem_iff_getElem.1 hx
    have:=hre i (by omega)
    rw [List.getElem?_eq_getElem hi] at this
    obtain ⟨ci,_,h3⟩:=Option.bind_eq_some_iff.1 this
    exact ⟨ci,h3⟩
  obtain ⟨avs,g1,b1,l,e1,k1,k2,k3,k4⟩:=mkL_rep (f:=mkD Tryz.prog noTok N e) (R:=R) (sz:=sz) hm hl ((elems++rest).map (·.1)) (by
   intro d hd g b
   obtain ⟨x,hx,rfl⟩:=List.mem_map.1 hd
   obtain ⟨ci,h3⟩:=all x hx
   exact he m ci x.1 x.2 (by omega) h3 N (by omega) g b) g b
  rw [List.map_append] at e1
  have hla:=RL_len (fun h=>hl h) k4
  rw [List.length_map,List.length_append] at k3
  cases hcs:elems.map (·.1)++rest.map (·.1) with
  | nil =>
   have h0:elems.length=0:=by
    have:=congrArg List.length hcs
    rw [List.length_append,List.length_map,List.length_nil] at this
    omega
   refine ⟨.es,g,b,[],?_,Nat.le_refl _,fun _ _=>rfl,fun _ _ _ _ e=>(by cases e),.inl ⟨rfl,.inr rfl⟩⟩
   unfold mkD
   rw [ht]
   dsimp only
   rw [hcs]
  | cons y ys =>
   have hpos:0 < elems.length+rest.length:=by
    have:=congrArg List.length hcs
    rw [List.length_append,List.length_map,List.length_map,List.length_cons] at this
    omega
   obtain ⟨z,zs,rfl⟩ : ∃ z zs,avs=z :: zs:=by
    cases avs with
    | nil =>
     rw [k3] at hla
     have:0 < (elems.length+rest.length) * sz:=Nat.mul_pos hpos hs0
     rw [List.length_nil] at hla
     omega
    | cons z zs=>exact ⟨z,zs,rfl⟩
   obtain ⟨c,r,q1,q2⟩:=RL_take elems.length k4
   have hcl:=RL_len (fun h=>hl h) q2
   have hfr:∀ a,a < b1→gput g1 b1 (some (.cells (z :: zs) false 0)) a=g1 a:=fun a ha=>gput_lt ha
   refine ⟨.sl b1 0 elems.length (elems.length+rest.length),gput g1 b1 (some (.cells (z :: zs) false 0)),b1+1,l.take elems.length,?_,by omega,fun a ha=>(hfr a (by omega)).trans (k2 a ha),fun _ _ _ _ e=>(by cases e; omega),.inr ⟨b1,0,c,Nat.lt_succ_self _,⟨elems.length+rest.length,?_⟩,?_,?_⟩⟩
   ·unfold mkD
    rw [ht]
    dsimp only
    rw [hcs] at e1
    rw [hsz,hcs]
    dsimp only
    rw [e1]
    simp only [List.length_map]
    rfl
   ·rw [List.length_take,Nat.min_eq_left (by omega)]
   ·refine ⟨z :: zs,false,0,if_pos rfl,?_,?_⟩
    ·rw [q1,List.length_append]; omega
    ·rw [q1,List.drop_zero,List.take_left]
   ·have key:∀ (l:List β) (cs:List AV),RL R g1 b1 l cs→RL R (gput g1 b1 (some (.cells (z :: zs) false 0))) (b1+1) l cs:=by
     intro l
     induction l with
     | nil=>intro cs h; exact h
     | cons x l ih=>rintro cs ⟨c,r,h1,h2,h3⟩; exact ⟨c,r,h1,hm (by omega) hfr h2,ih r h3⟩
    exact key _ _ q2
def IntR (_:Nat→Option Blk) (_:Nat) (x:Int) (avs:List AV) : Prop:=avs=[.lit (.int .i64 x)]
theorem int_mk (fuel:Nat) (cs:List Value) (d:DataW H) (p:List MemPlace) (h:DataW.trod enc Tryz.prog w 0 (fun _=>true) true fuel 3 cs=some (d,p)) (N:Nat) (hN:fuel≤N) (g:Nat→Option Blk) (b:Nat) :
  ∃ avs g' b' x,mkD Tryz.prog noTok N 3 d ⟨.fn g,b⟩=some (avs,⟨.fn g',b'⟩)∧b≤b'∧(∀ a,a < b→g' a=g a)∧IntR g' b' x avs:=by
 obtain ⟨x,_,f0,_⟩:=DataW.trod_int (x:=(d,p)) Tryz.underlying3 h
 have hd:d=.lit (.int .i64 x):=congrArg Prod.fst f0
 subst hd
 have hm0:fuel≠0:=by rintro rfl; simp [DataW.trod] at h
 obtain ⟨N,rfl⟩ : ∃ M,N=M+1:=⟨N - 1,by omega⟩
 exact ⟨[.lit (.int .i64 x)],g,b,x,by unfold mkD; rw [Tryz.underlying3],Nat.le_refl _,fun _ _=>rfl,rfl⟩
theorem ints_of {g:Nat→Option Blk} {b:Nat} : ∀ {l:List Int} {cs:List AV},RL IntR g b l cs→cs=wdC l
 | [],_,h=>h
 | x :: l,_,⟨c,r,h1,h2,h3⟩=>by
  have h2:c=[.lit (.int .i64 x)]:=h2
  rw [h1,h2,ints_of h3]; rfl
def WordR (g:Nat→Option Blk) (b:Nat) (x:List Int) (avs:List AV) : Prop:=∃ sv,avs=[sv]∧RepW g b x sv∧CapV sv
theorem word_mk (fuel:Nat) (cs:List Value) (d:DataW H) (p:List MemPlace) (h:DataW.trod enc Tryz.prog w 0 (fun _=>true) true fuel 57 cs=some (d,p)) (N:Nat) (hN:fuel≤N) (g:Nat→Option Blk) (b:Nat) :
  ∃ avs g' b' x,mkD Tryz.prog noTok N 57 d ⟨.fn g,b⟩=some (avs,⟨.fn g',b'⟩)∧b≤b'∧(∀ a,a < b→g' a=g a)∧WordR g' b' x avs:=by
 obtain ⟨s,rfl⟩:=slice_one Tryz.underlying57 h
 obtain ⟨sv,g1,b1,l,e1,t1,t2,tc,t3⟩:=name_slice (R:=IntR) Tryz.underlying57 c3 (by decide) (fun _ _ h=>h) (fun h=>by rw [show _=_ from h]; rfl) h (fun m cs d p _ h N hN g b=>int_mk m cs d p h N hN g b) N hN g b
 refine ⟨[sv],g1,b1,l,e1,t1,t2,sv,rfl,?_,tc⟩
 rcases t3 with ⟨rfl,h⟩ | ⟨a,off,r,q1,q2,q3,q4⟩
 ·exact .inl ⟨rfl,rfl,h⟩
 ·exact .inr ⟨a,off,q1,.inl q2,by rw [← ints_of q4]; exact q3⟩
theorem three_xs {α:Type} {xs:List α} (h:xs.length=3) : ∃ a b c,xs=[a,b,c]:=by
 match xs,h with
 | [a,b,c],_=>exact ⟨a,b,c,rfl⟩
theorem two_xs {α:Type} {xs:List α} (h:xs.length=2) : ∃ a b,xs=[a,b]:=by
 match xs,h with
 | [a,b],_=>exact ⟨a,b,rfl⟩
theorem five_of {cs:List Value} (h:cs.length=5) : ∃ a b c d e,cs=[a,b,c,d,e]:=by
 match cs,h with
 | [a,b,c,d,e],_=>exact ⟨a,b,c,d,e,rfl⟩
theorem five_xs {α:Type} {xs:List α} (h:xs.length=5) : ∃ a b c d e,xs=[a,b,c,d,e]:=by
 match xs,h with
 | [a,b,c,d,e],_=>exact ⟨a,b,c,d,e,rfl⟩
def TraceR (g:Nat→Option Blk) (b:Nat) (x:List Int×List Int) (avs:List AV) : Prop:=∃ s1 s2,avs=[s1,s2]∧RepW g b x.1 s1∧RepW g b x.2 s2
theorem trace_mk (fuel:Nat) (cs:List Value) (d:DataW H) (p:List MemPlace) (h:DataW.trod enc Tryz.prog w 0 (fun _=>true) true fuel 59 cs=some (d,p)) (N:Nat) (hN:fuel≤N) (g:Nat→Option Blk) (b:Nat) :
  ∃ avs g' b' x,mkD Tryz.prog noTok N 59 d ⟨.fn g,b⟩=some (avs,⟨.fn g',b'⟩)∧b≤b'∧(∀ a,a < b→g' a=g a)∧TraceR g' b' x avs:=by
 obtain ⟨xs,m,rfl,hd,hl,hn,he⟩:=DataW.trod_struct Tryz.underlying59 h
 rw [c59] at hl
 obtain ⟨v0,v1,rfl⟩:=two_of hl
 have h0:DataW.trod enc Tryz.prog w 0 (fun _=>true) true m 57 (([v0,v1].drop 0).take (Tryz.prog.cellsOf 57))=xs[0]?:=he 0 _ rfl
 have h1:DataW.trod enc Tryz.prog w 0 (fun _=>true) true m 57 (([v0,v1].drop 1).take (Tryz.prog.cellsOf 57))=xs[1]?:=he 1 _ rfl
 rw [c57] at h0 h1
 obtain ⟨x0,x1,rfl⟩:=two_xs (show xs.length=2 from hn)
 have hx0:DataW.trod enc Tryz.prog w 0 (fun _=>true) true m 57 [v0]=some (x0.1,x0.2):=h0
 have hx1:DataW.trod enc Tryz.prog w 0 (fun _=>true) true m 57 [v1]=some (x1.1,x1.2):=h1
 obtain ⟨a1,g1,b1,w1,e1,k1,k2,s1,rfl,k3,_⟩:=word_mk m _ _ _ hx0 (N - 1) (by omega) g b
 obtain ⟨a2,g2,b2,w2,e2,l1,l2,s2,rfl,l3,_⟩:=word_mk m _ _ _ hx1 (N - 1) (by omega) g1 b1
 refine ⟨[s1,s2],g2,b2,(w1,w2),?_,by omega,fun a ha=>(l2 a (by omega)).trans (k2 a ha),s1,s2,rfl,SliceV.mono l1 l2 k3,l3⟩
 have hd' : d=.agg [x0.1,x1.1]:=congrArg Prod.fst hd
 subst hd'
 have hm0:m≠0:=by rintro rfl; simp [DataW.trod] at hx0
 obtain ⟨N,rfl⟩ : ∃ M,N=M+2:=⟨N - 2,by omega⟩
 have e1' : mkD Tryz.prog noTok (N+1) 57 x0.1 ⟨.fn g,b⟩=some ([s1],⟨.fn g1,b1⟩):=e1
 have e2' : mkD Tryz.prog noTok (N+1) 57 x1.1 ⟨.fn g1,b1⟩=some ([s2],⟨.fn g2,b2⟩):=e2
 unfold mkD
 rw [Tryz.underlying59]
 dsimp only
 simp only [mkF,e1',e2',c57,c59]
 rfl
theorem traces_of {g:Nat→Option Blk} {b:Nat} : ∀ {l:List (List Int×List Int)} {cs:List AV},RL TraceR g b l cs→RowsT g b l cs
 | [],_,h=>by
  have h:_=[]:=h
  subst h
  exact ⟨rfl,fun k hk=>by simp at hk⟩
 | x :: l,_,⟨c,r,h1,⟨s1,s2,h2,h3,h4⟩,h5⟩=>by
  obtain ⟨i1,i2⟩:=traces_of h5
  subst h1 h2
  refine ⟨by simp [i1]; omega,fun k hk=>?_⟩
  cases k with
  | zero=>exact ⟨s1,s2,rfl,rfl,h3,h4⟩
  | succ k =>
   obtain ⟨t1,t2,j1,j2,j3,j4⟩:=i2 k (by simpa using hk)
   refine ⟨t1,t2,?_,?_,j3,j4⟩
   ·rw [show (k+1) * 2=k * 2+1+1 by omega]; exact j1
   ·rw [show (k+1) * 2+1=k * 2+1+1+1 by omega]; exact j2
theorem traces_mk (fuel:Nat) (s:Value) (d:DataW H) (p:List MemPlace) (h:DataW.trod enc Tryz.prog w 0 (fun _=>true) true fuel 22 [s]=some (d,p)) (N:Nat) (hN:fuel≤N) (g:Nat→Option Blk) (b:Nat) :
  ∃ sv g' b' l,mkD Tryz.prog noTok N 22 d ⟨.fn g,b⟩=some ([sv],⟨.fn g',b'⟩)∧b≤b'∧(∀ a,a < b→g' a=g a)∧LogR g' b' l sv:=by
 obtain ⟨sv,g1,b1,l,e1,t1,t2,tc,t3⟩:=name_slice (R:=TraceR) Tryz.underlying22 c59 (by decide) (fun h1 h2 ⟨s1,s2,e,h3,h4⟩=>⟨s1,s2,e,SliceV.mono h1 h2 h3,SliceV.mono h1 h2 h4⟩) (fun ⟨s1,s2,e,_,_⟩=>by rw [e]; rfl) h (fun m cs d p _ h N hN g b=>trace_mk m cs d p h N hN g b) N hN g b
 refine ⟨sv,g1,b1,l,e1,t1,t2,?_⟩
 rcases t3 with ⟨rfl,h⟩ | ⟨a,off,r,q1,q2,q3,q4⟩
 ·exact ⟨[],.inl ⟨rfl,rfl,h⟩,rfl,fun k hk=>by simp at hk⟩
 ·exact ⟨r,.inr ⟨a,off,q1,.inl q2,q3⟩,traces_of q4⟩
theorem log_mk (fuel:Nat) (cs:List Value) (d:DataW H) (p:List MemPlace) (h:DataW.trod enc Tryz.prog w 0 (fun _=>true) true fuel 24 cs=some (d,p)) (N:Nat) (hN:fuel≤N) (g:Nat→Option Blk) (b:Nat) :
  ∃ I O sv g' b' ts,mkD Tryz.prog noTok N 24 d ⟨.fn g,b⟩=some ([.lit (.int .i64 I),.lit (.int .i64 O),sv],⟨.fn g',b'⟩)∧b≤b'∧(∀ a,a < b→g' a=g a)∧LogR g' b' ts sv:=by
 obtain ⟨xs,m,rfl,hd,hl,hn,he⟩:=DataW.trod_struct Tryz.underlying24 h
 rw [c24] at hl
 obtain ⟨v0,v1,v2,rfl⟩:=three_of hl
 have h0:DataW.trod enc Tryz.prog w 0 (fun _=>true) true m 3 (([v0,v1,v2].drop 0).take (Tryz.prog.cellsOf 3))=xs[0]?:=he 0 _ rfl
 have h1:DataW.trod enc Tryz.prog w 0 (fun _=>true) true m 3 (([v0,v1,v2].drop 1).take (Tryz.prog.cellsOf 3))=xs[1]?:=he 1 _ rfl
 have h2:DataW.trod enc Tryz.prog w 0 (fun _=>true) true m 22 (([v0,v1,v2].drop 2).take (Tryz.prog.cellsOf 22))=xs[2]?:=he 2 _ rfl
 rw [c3] at h0 h1
 rw [c22] at h2
 obtain ⟨x0,x1,x2,rfl⟩:=three_xs (show xs.length=3 from hn)
 obtain ⟨I,e0,f0,_⟩:=DataW.trod_int (x:=x0) Tryz.underlying3 h0
 obtain ⟨O,e1,f1,_⟩:=DataW.trod_int (x:=x1) Tryz.underlying3 h1
 subst f0
 subst f1
 have hx2:DataW.trod enc Tryz.prog w 0 (fun _=>true) true m 22 [v2]=some (x2.1,x2.2):=h2
 obtain ⟨sv,g1,b1,T,e2,k1,k2,k3⟩:=traces_mk m v2 _ _ hx2 (N - 1) (by omega) g b
 refine ⟨I,O,sv,g1,b1,T,?_,k1,k2,k3⟩
 have hd' : d=.agg [.lit (.int .i64 I),.lit (.int .i64 O),x2.1]:=congrArg Prod.fst hd
 subst hd'
 have hm0:m≠0:=by rintro rfl; simp [DataW.trod] at h0
 obtain ⟨N,rfl⟩ : ∃ M,N=M+2:=⟨N - 2,by omega⟩
 have e2' : mkD Tryz.prog noTok (N+1) 22 x2.1 ⟨.fn g,b⟩=some ([sv],⟨.fn g1,b1⟩):=e2
 have i1:∀ k:Int,mkD (Hh:=H) Tryz.prog noTok (N+1) 3 (.lit (.int .i64 k)) ⟨.fn g,b⟩=some ([.lit (.int .i64 k)],⟨.fn g,b⟩):=by
  intro k; unfold mkD; rw [Tryz.underlying3]
 unfold mkD
 rw [Tryz.underlying24]
 dsimp only
 simp only [mkF,i1,e2',c3,c22,c24]
 rfl
def HalfR (_:Nat→Option Blk) (_:Nat) (x:Nat) (avs:List AV) : Prop:=x < 65536∧avs=[.lit (.int .u16 x)]
theorem wf8 {z:Int} (h:(Lit.int .u8 z).wf=true) : ∃ n:Nat,z=n∧n < 256:=by
 simp only [Lit.wf,Bool.and_eq_true,decide_eq_true_eq] at h
 have h' : 0≤z∧z≤255:=h
 exact ⟨z.toNat,by omega,by omega⟩
theorem wf16 {z:Int} (h:(Lit.int .u16 z).wf=true) : ∃ n:Nat,z=n∧n < 65536:=by
 simp only [Lit.wf,Bool.and_eq_true,decide_eq_true_eq] at h
 have h' : 0≤z∧z≤65535:=h
 exact ⟨z.toNat,by omega,by omega⟩
theorem half_mk (fuel:Nat) (cs:List Value) (d:DataW H) (p:List MemPlace) (h:DataW.trod enc Tryz.prog w 0 (fun _=>true) true fuel 104 cs=some (d,p)) (N:Nat) (hN:fuel≤N) (g:Nat→Option Blk) (b:Nat) :
  ∃ avs g' b' x,mkD Tryz.prog noTok N 104 d ⟨.fn g,b⟩=some (avs,⟨.fn g',b'⟩)∧b≤b'∧(∀ a,a < b→g' a=g a)∧HalfR g' b' x avs:=by
 obtain ⟨x,_,f0,hw⟩:=DataW.trod_int (x:=(d,p)) Tryz.underlying104 h
 obtain ⟨x,rfl,hx⟩:=wf16 hw
 have hd:d=.lit (.int .u16 x):=congrArg Prod.fst f0
 subst hd
 have hm0:fuel≠0:=by rintro rfl; simp [DataW.trod] at h
 obtain ⟨N,rfl⟩ : ∃ M,N=M+1:=⟨N - 1,by omega⟩
 exact ⟨[.lit (.int .u16 x)],g,b,x,by unfold mkD; rw [Tryz.underlying104],Nat.le_refl _,fun _ _=>rfl,hx,rfl⟩
theorem halves_of {g:Nat→Option Blk} {b:Nat} : ∀ {l:List Nat} {cs:List AV},RL HalfR g b l cs→cs=u16Cells l∧∀ c∈l,c < 65536
 | [],_,h=>⟨h,fun c hc=>by cases hc⟩
 | x :: l,_,⟨c,r,h1,⟨hx,h2⟩,h3⟩=>by
  obtain ⟨i1,i2⟩:=halves_of h3
  refine ⟨by rw [h1,h2,i1]; rfl,fun y hy=>?_⟩
  rcases List.mem_cons.1 hy with rfl | hy
  ·exact hx
  ·exact i2 y hy
theorem halfs_mk (fuel:Nat) (s:Value) (d:DataW H) (p:List MemPlace) (h:DataW.trod enc Tryz.prog w 0 (fun _=>true) true fuel 25 [s]=some (d,p)) (N:Nat) (hN:fuel≤N) (g:Nat→Option Blk) (b:Nat) :
  ∃ sv g' b' l,mkD Tryz.prog noTok N 25 d ⟨.fn g,b⟩=some ([sv],⟨.fn g',b'⟩)∧b≤b'∧(∀ a,a < b→g' a=g a)∧SliceA g' b' sv l.length (u16Cells l)∧∀ c∈l,c < 65536:=by
 obtain ⟨sv,g1,b1,l,e1,t1,t2,tc,t3⟩:=name_slice (R:=HalfR) Tryz.underlying25 c104 (by decide) (fun _ _ h=>h) (fun h=>by rw [h.2]; rfl) h (fun m cs d p _ h N hN g b=>half_mk m cs d p h N hN g b) N hN g b
 refine ⟨sv,g1,b1,l,e1,t1,t2,?_⟩
 rcases t3 with ⟨rfl,h⟩ | ⟨a,off,r,q1,⟨c,q2⟩,q3,q4⟩
 ·exact ⟨.inl ⟨rfl,h⟩,fun c hc=>by cases hc⟩
 ·obtain ⟨j1,j2⟩:=halves_of q4
  subst j1
  exact ⟨.inr ⟨a,off,c,q1,q2,q3⟩,j2⟩
theorem M_mk (fuel:Nat) (cs:List Value) (d:DataW H) (p:List MemPlace) (h:DataW.trod enc Tryz.prog w 0 (fun _=>true) true fuel 27 cs=some (d,p)) (N:Nat) (hN:fuel≤N) (g:Nat→Option Blk) (b:Nat) :
  ∃ (st inp out:Nat) (part:Bool) (es:List Nat) (ev:AV) (g' : Nat→Option Blk) (b' : Nat),mkD Tryz.prog noTok N 27 d ⟨.fn g,b⟩=some ([.lit (.int .u8 st),.lit (.int .u8 inp),.lit (.int .u8 out),.lit (.bool part),ev],⟨.fn g',b'⟩)∧b≤b'∧(∀ a,a < b→g' a=g a) ∧
   st < 256∧inp < 256∧out < 256∧SliceA g' b' ev es.length (u16Cells es)∧∀ c∈es,c < 65536:=by
 obtain ⟨xs,m,rfl,hd,hl,hn,he⟩:=DataW.trod_struct Tryz.underlying27 h
 rw [c27] at hl
 obtain ⟨v0,v1,v2,v3,v4,rfl⟩:=five_of hl
 have h0:DataW.trod enc Tryz.prog w 0 (fun _=>true) true m 5 (([v0,v1,v2,v3,v4].drop 0).take (Tryz.prog.cellsOf 5))=xs[0]?:=he 0 _ rfl
 have h1:DataW.trod enc Tryz.prog w 0 (fun _=>true) true m 5 (([v0,v1,v2,v3,v4].drop 1).take (Tryz.prog.cellsOf 5))=xs[1]?:=he 1 _ rfl
 have h2:DataW.trod enc Tryz.prog w 0 (fun _=>true) true m 5 (([v0,v1,v2,v3,v4].drop 2).take (Tryz.prog.cellsOf 5))=xs[2]?:=he 2 _ rfl
 have h3:DataW.trod enc Tryz.prog w 0 (fun _=>true) true m 4 (([v0,v1,v2,v3,v4].drop 3).take (Tryz.prog.cellsOf 4))=xs[3]?:=he 3 _ rfl
 have h4:DataW.trod enc Tryz.prog w 0 (fun _=>true) true m 25 (([v0,v1,v2,v3,v4].drop 4).take (Tryz.prog.cellsOf 25))=xs[4]?:=he 4 _ rfl
 rw [c5] at h0 h1 h2
 rw [c4] at h3
 rw [c25] at h4
 obtain ⟨x0,x1,x2,x3,x4,rfl⟩:=five_xs (show xs.length=5 from hn)
 obtain ⟨st,e0,f0,w0⟩:=DataW.trod_int (x:=x0) Tryz.underlying5 h0
 obtain ⟨inp,e1,f1,w1⟩:=DataW.trod_int (x:=x1) Tryz.underlying5 h1
 obtain ⟨out,e2,f2,w2⟩:=DataW.trod_int (x:=x2) Tryz.underlying5 h2
 obtain ⟨part,e3,f3⟩:=DataW.trod_bool (x:=x3) Tryz.underlying4 h3
 obtain ⟨st,rfl,b0⟩:=wf8 w0
 obtain ⟨inp,rfl,b1⟩:=wf8 w1
 obtain ⟨out,rfl,b2⟩:=wf8 w2
 subst f0
 subst f1
 subst f2
 subst f3
 have hx4:DataW.trod enc Tryz.prog w 0 (fun _=>true) true m 25 [v4]=some (x4.1,x4.2):=h4
 obtain ⟨sv,g1,b1',l,e4,k1,k2,k3,k4⟩:=halfs_mk m v4 _ _ hx4 (N - 1) (by omega) g b
 refine ⟨st,inp,out,part,l,sv,g1,b1',?_,k1,k2,b0,b1,b2,k3,k4⟩
 have hd' : d=.agg [.lit (.int .u8 st),.lit (.int .u8 inp),.lit (.int .u8 out),.lit (.bool part),x4.1]:=congrArg Prod.fst hd
 subst hd'
 have hm0:m≠0:=by rintro rfl; simp [DataW.trod] at h0
 obtain ⟨N,rfl⟩ : ∃ M,N=M+2:=⟨N - 2,by omega⟩
 have e4' : mkD Tryz.prog noTok (N+1) 25 x4.1 ⟨.fn g,b⟩=some ([sv],⟨.fn g1,b1'⟩):=e4
 have i1:∀ k:Int,mkD (Hh:=H) Tryz.prog noTok (N+1) 5 (.lit (.int .u8 k)) ⟨.fn g,b⟩=some ([.lit (.int .u8 k)],⟨.fn g,b⟩):=by
  intro k; unfold mkD; rw [Tryz.underlying5]
 have i2:∀ k:Bool,mkD (Hh:=H) Tryz.prog noTok (N+1) 4 (.lit (.bool k)) ⟨.fn g,b⟩=some ([.lit (.bool k)],⟨.fn g,b⟩):=by
  intro k; unfold mkD; rw [Tryz.underlying4]
 unfold mkD
 rw [Tryz.underlying27]
 dsimp only
 simp only [mkF,i1,i2,e4',c5,c4,c25,c27]
 rfl
theorem calls_C {W:World} {v0 v1:Value} {d0 d1:DataW H} {p0 p1:List MemPlace} {base:Nat} (hL:W.ShapedOpen Tryz.prog) (h0:DataW.Trod enc Tryz.prog W 0 (fun _=>true) true 24 v0 d0 p0) (h1:DataW.Trod enc Tryz.prog W 0 (fun _=>true) true 27 v1 d1 p1) (k0:Value.okWide Tryz.prog W .any base 24 v0) (k1:Value.okWide Tryz.prog W .any base 27 v1) :
  Calls Tryz.prog 3 #[v0,v1] W fun e W'=>e=.returned (.bool true)∧Below W.heap.size W W':=by
 simp only [Value.okWide,Tryz.underlying24] at k0
 simp only [Value.okWide,Tryz.underlying27] at k1
 obtain ⟨cm,rfl,_⟩:=k0
 obtain ⟨cv,rfl,_⟩:=k1
 obtain ⟨f0,h0⟩:=h0
 obtain ⟨f1,h1⟩:=h1
 obtain ⟨m,g,ρ,hg0,s,hno⟩:=start34 hL
 obtain ⟨I,O,sv,g1,n1,ts,e1,t1,t2,t3⟩:=log_mk f0 _ d0 p0 h0 f0 (Nat.le_refl _) g 3
 obtain ⟨ρ1,M1⟩:=mkD_sound (sp:=fun _=>true) (fun _=>rfl) (noTok_ok enc) f0 f0 24 _ d0 p0 ⟨.fn g,3⟩ _ _ ρ h0 (fun h=>by cases h) s hno e1
 obtain ⟨st,inp,out,part,es,ev,g2,n2,e2,u1,u2,b0,b1,b2,u3,u4⟩:=M_mk f1 _ d1 p1 h1 f1 (Nat.le_refl _) g1 n1
 obtain ⟨ρ2,M2⟩:=mkD_sound (sp:=fun _=>true) (fun _=>rfl) (noTok_ok enc) f1 f1 27 _ d1 p1 ⟨.fn g1,n1⟩ _ _ ρ1 h1 (fun h=>by cases h) M1.sim M1.no e2
 have hw:=tracesCheck_w I O ts st inp out part es ev b0 b1 b2 m g2 n2 sv (t3.mono u1 u2) u3 u4 (((u2 0 (by omega)).trans (t2 0 (by omega))).trans hg0) (by omega)
 refine (hw W.heap.size ρ2 #[.agg cm,.agg cv] W M2.sim ?_).mono ?_
 ·exact ⟨_,_,rfl,⟨cm,rfl,M1.vals.mono (M2.sub M1.sim)⟩,_,_,rfl,⟨cv,rfl,M2.vals⟩,rfl⟩
 ·rintro e W' ⟨r,rfl,hcp⟩
  cases e with
  | returned u=>obtain ⟨ρ',q1,q2,q3,q4⟩:=hcp; exact ⟨congrArg _ q3,q1.below⟩
  | _=>exact hcp.elim
end Go.Ai
end
section
namespace Go.Proofs.YtiddfilinnbhaaaGreatDoor
open Go Go.Ai Go.ChangeShapes Go.WideShapes Go.ChangeAt Go.RowKit
theorem own:ownKnob Tryz.prog.godebug=none:=by kernel_rfl
theorem laidOut:laidOutB Tryz.prog=true:=by kernel_rfl
noncomputable def door (os:Os) : World:=World.laidAll Tryz.prog os Rows.tracesCheckRow.laid
theorem door_met (os:Os) (args:Array Value) : laidMetH Tryz.prog Rows.tracesCheckRow.laid ((door os).forCall (fun _ _=>0) ⟨#[],args,[]⟩).memory:=by
 rw [MakeChecks.laidMetH_plain _ _ _ (by kernel_rfl)]
 exact laidMet_laidAll _ (by kernel_rfl) (by kernel_rfl)
end Go.Proofs.YtiddfilinnbhaaaGreatDoor
end
