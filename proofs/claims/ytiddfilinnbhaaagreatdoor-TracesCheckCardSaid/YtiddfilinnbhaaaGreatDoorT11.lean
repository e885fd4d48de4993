/- A small verified interpreter over names, its proofs, and what was proved with it. No condition. -/
import Derived.Test.YtiddfilinnbhaaaGreatDoorRows
import Derived.WalkKit
import Derived.Shelf.RegionOpenPlain
import Derived.Lib.UnsafeStr
import Derived.Lib.Builder
import Derived.Lib.Strings
import Derived.Test.YtiddfilinnbhaaaGreatDoorT08
import Derived.Test.YtiddfilinnbhaaaGreatDoorT10
import Derived.Test.YtiddfilinnbhaaaGreatDoorT05
import Derived.Test.YtiddfilinnbhaaaGreatDoorT06
set_option linter.all false
set_option linter.deprecated false
section
namespace Go.Ai
open Go.Proofs
set_option maxRecDepth 10000
set_option maxHeartbeats 40000000
theorem Contradiction_ref {x0 x1 x2:AV} (hone:allOne [x0,x1,x2]=true) {e:Int} (he:¬e=0) (g:Nat→Option Blk) (n:Nat) (hC:∀ (gX:Nat→Option Blk) (n2:Nat),n≤n2→(∀ b,b < n→gX b=g b)→WC 3 Tryz.prog 15 [.agg [x0,x1,x2]] ⟨.fn gX,n2⟩ fun r=>r=.ret (.lit (.int .i64 e)) ⟨.fn gX,n2⟩) :
  WC 3 Tryz.prog 19 [.agg [x0,x1,x2]] ⟨.fn g,n⟩ fun r=>∃ gX n',r=.ret (.tup [.agg [.lit (.int .i64 0),.lit (.int .i64 0),.lit (.int .i64 0)],.lit (.bool false),.lit (.int .i64 e)]) ⟨.fn gX,n'⟩∧n≤n'∧∀ b,b < n→gX b=g b:=by
 have HC:=Hide.mk hC
 clear hC
 refine WC.enterP (noO_ok _ _) hG [] Tryz.func19 rfl (by decide +kernel) (Nat.le_of_ble_eq_true (by kernel_rfl)) ?_
 iterate 8 (all_goals try (first | with_reducible refine splitI (fun h=>?_) (fun h=>?_) | with_reducible refine splitBI (fun h=>?_) (fun h=>?_) | simp (config:={ maxSteps:=1000000 }) (disch:=first | assumption | omega | (simp; done) | fail) [Tryz.results19, *]))
 refine WC.mono (HC.out _ _ (by omega) fun b (hb:b < n)=>by simp (disch:=omega) [gput_lt]) ?_
 rintro _ rfl
 iterate 8 (all_goals try (first | with_reducible refine splitI (fun h=>?_) (fun h=>?_) | with_reducible refine splitBI (fun h=>?_) (fun h=>?_) | simp (config:={ maxSteps:=1000000 }) (disch:=first | assumption | omega | (simp; done) | fail) [Tryz.results19, *]))
 refine ⟨_,_,⟨rfl,rfl⟩,by omega,fun b (hb:b < n)=>by simp (disch:=omega) [gput_lt]⟩
theorem split_w (g:Nat→Option Blk) (n:Nat) : WC 3 Tryz.prog 52 [.lit (.bool false)] ⟨.fn g,n⟩ fun r=>r=.ret (.lit (.int .i64 0)) ⟨.fn g,n⟩:=by
 refine WC.enterP (noO_ok _ _) hG [] Tryz.func52 rfl (by decide +kernel) (Nat.le_of_ble_eq_true (by kernel_rfl)) ?_
 iterate 8 (all_goals try (first | with_reducible refine splitI (fun h=>?_) (fun h=>?_) | with_reducible refine splitBI (fun h=>?_) (fun h=>?_) | simp (config:={ maxSteps:=1000000 }) (disch:=first | assumption | omega | (simp; done) | fail) [Tryz.results52, *]))
theorem TreeOf_ref {x0 x1 x2:AV} (hone:allOne [x0,x1,x2]=true) {e:Int} (he:0 < e) (g:Nat→Option Blk) (n:Nat) (hC:∀ (gX:Nat→Option Blk) (n2:Nat),n≤n2→(∀ b,b < n→gX b=g b)→WC 3 Tryz.prog 15 [.agg [x0,x1,x2]] ⟨.fn gX,n2⟩ fun r=>r=.ret (.lit (.int .i64 e)) ⟨.fn gX,n2⟩) :
  WC 3 Tryz.prog 20 [.agg [x0,x1,x2]] ⟨.fn g,n⟩ fun r=>∃ gX n',r=.ret (.tup [.agg [.lit (.int .i64 0),.lit (.int .i64 0),.lit (.slice none 0 0)],.lit (.int .i64 e)]) ⟨.fn gX,n'⟩∧n≤n'∧∀ b,b < n→gX b=g b:=by
 have he0:¬e=0:=by omega
 have HH:=Hide.mk fun (gX:Nat→Option Blk) (n2:Nat) (hn:n≤n2) (hX:∀ b,b < n→gX b=g b)=>Contradiction_ref hone he0 gX n2 fun gY n3 hn3 hY=>hC gY n3 (by omega) fun b hb=>(hY b (by omega)).trans (hX b hb)
 clear hC
 refine WC.enterP (noO_ok _ _) hG pl20 Tryz.func20 rfl (by decide +kernel) (Nat.le_of_ble_eq_true (by kernel_rfl)) ?_
 iterate 8 (all_goals try (first | with_reducible refine splitI (fun h=>?_) (fun h=>?_) | with_reducible refine splitBI (fun h=>?_) (fun h=>?_) | simp (config:={ maxSteps:=1000000 }) (disch:=first | assumption | omega | (simp; done) | fail) [Tryz.results20, *]))
 refine WC.mono (HH.out _ _ (by omega) fun b (hb:b < n)=>by simp (disch:=omega) [gput_lt]) ?_
 rintro _ ⟨gX,n',rfl,hn',hX⟩
 have hn2:n≤n':=by omega
 have HX:Hide (∀ b,b < n→gX b=g b):=⟨fun b hb=>(hX b (by omega)).trans (by simp (disch:=omega) [gput_lt])⟩
 have hB:gX n=some (.cells [x0,x1,x2] true 0):=(hX n (by omega)).trans (by simp (disch:=omega) [gput_lt])
 have hB1:=(hX (n+1) (by omega))
 simp only [gput_eq] at hB1
 clear hX
 iterate 8 (all_goals try (first | with_reducible refine splitI (fun h=>?_) (fun h=>?_) | with_reducible refine splitBI (fun h=>?_) (fun h=>?_) | simp (config:={ maxSteps:=1000000 }) (disch:=first | assumption | omega | (simp; done) | fail) [Tryz.results20, *]))
 refine WC.mono (split_w _ _) ?_
 rintro _ rfl
 iterate 8 (all_goals try (first | with_reducible refine splitI (fun h=>?_) (fun h=>?_) | with_reducible refine splitBI (fun h=>?_) (fun h=>?_) | simp (config:={ maxSteps:=1000000 }) (disch:=first | assumption | omega | (simp; done) | fail) [Tryz.results20, *]))
 exact ⟨_,_,⟨fun h=>by omega,rfl,rfl⟩,by omega,fun b (hb:b < n)=>by rw [gput_lt (by omega),gput_lt (by omega)]; exact HX.out b hb⟩
theorem Text_ref {x0 x1 x2:AV} (hone:allOne [x0,x1,x2]=true) {e:Int} (he:¬e=0) (g:Nat→Option Blk) (n:Nat) (hC:∀ (gX:Nat→Option Blk) (n2:Nat),n≤n2→(∀ b,b < n→gX b=g b)→WC 3 Tryz.prog 15 [.agg [x0,x1,x2]] ⟨.fn gX,n2⟩ fun r=>r=.ret (.lit (.int .i64 e)) ⟨.fn gX,n2⟩) :
  WC 3 Tryz.prog 21 [.agg [x0,x1,x2]] ⟨.fn g,n⟩ fun r=>∃ gX n',r=.ret (.tup [.lit (.string ⟨#[]⟩),.lit (.int .i64 e)]) ⟨.fn gX,n'⟩∧n≤n'∧∀ b,b < n→gX b=g b:=by
 have HC:=Hide.mk hC
 clear hC
 refine WC.enterP (noO_ok _ _) hG pl21 Tryz.func21 rfl (by decide +kernel) (Nat.le_of_ble_eq_true (by kernel_rfl)) ?_
 iterate 8 (all_goals try (first | with_reducible refine splitI (fun h=>?_) (fun h=>?_) | with_reducible refine splitBI (fun h=>?_) (fun h=>?_) | simp (config:={ maxSteps:=1000000 }) (disch:=first | assumption | omega | (simp; done) | fail) [Tryz.results21, *]))
 refine WC.mono (HC.out _ _ (by omega) fun b (hb:b < n)=>by simp (disch:=omega) [gput_lt]) ?_
 rintro _ rfl
 iterate 8 (all_goals try (first | with_reducible refine splitI (fun h=>?_) (fun h=>?_) | with_reducible refine splitBI (fun h=>?_) (fun h=>?_) | simp (config:={ maxSteps:=1000000 }) (disch:=first | assumption | omega | (simp; done) | fail) [Tryz.results21, *]))
 refine ⟨_,_,⟨rfl,rfl⟩,by omega,fun b (hb:b < n)=>by simp (disch:=omega) [gput_lt]⟩
theorem Against_ref {M:MachM} (hM:M.ok) {ms:List AV} {x0 x1 x2:AV} (hone:allOne [x0,x1,x2]=true) {e:Int} (he:¬e=0) (g:Nat→Option Blk) (n:Nat) (hR:RepM g n M ms) (hC:∀ (gX:Nat→Option Blk) (n2:Nat),n≤n2→(∀ b,b < n→gX b=g b)→WC 3 Tryz.prog 15 [.agg [x0,x1,x2]] ⟨.fn gX,n2⟩ fun r=>r=.ret (.lit (.int .i64 e)) ⟨.fn gX,n2⟩) :
  WC 3 Tryz.prog 17 [.agg ms,.agg [x0,x1,x2]] ⟨.fn g,n⟩ fun r=>∃ gX n',r=.ret (.tup [.agg [.lit (.int .i64 0),.lit (.int .i64 0)],.lit (.bool false),.lit (.int .i64 e)]) ⟨.fn gX,n'⟩∧n≤n'∧∀ b,b < n→gX b=g b:=by
 have HC:=Hide.mk hC
 have hm0:mErr M=0:=mErr_ok.2 hM
 have HM:=Hide.mk fun (gX:Nat→Option Blk) (n2:Nat) (hn:n≤n2) (hX:∀ b,b < n→gX b=g b)=>mCheck_w (M:=M) (fun r hr=>by have:=(hM.2.2.2.2.2.2 r hr).1; have:=hM.2.1; omega) gX n2 ms (hR.mono hn hX)
 rw [hm0] at HM
 obtain ⟨sv,rfl,h1v⟩:=hR.one
 have honem:allOne [.lit (.int .i64 M.inp),.lit (.int .i64 M.out),sv]=true:=by simp [h1v]
 clear hC hR
 refine WC.enterP (noO_ok _ _) hG [] Tryz.func17 rfl (by decide +kernel) (Nat.le_of_ble_eq_true (by kernel_rfl)) ?_
 iterate 8 (all_goals try (first | with_reducible refine splitI (fun h=>?_) (fun h=>?_) | with_reducible refine splitBI (fun h=>?_) (fun h=>?_) | simp (config:={ maxSteps:=1000000 }) (disch:=first | assumption | omega | (simp; done) | fail) [Tryz.results17, *]))
 refine WC.mono (HM.out _ _ (by omega) fun b (hb:b < n)=>by simp (disch:=omega) [gput_lt]) ?_
 rintro _ rfl
 iterate 8 (all_goals try (first | with_reducible refine splitI (fun h=>?_) (fun h=>?_) | with_reducible refine splitBI (fun h=>?_) (fun h=>?_) | simp (config:={ maxSteps:=1000000 }) (disch:=first | assumption | omega | (simp; done) | fail) [Tryz.results17, *]))
 refine WC.mono (HC.out _ _ (by omega) fun b (hb:b < n)=>by simp (disch:=omega) [gput_lt]) ?_
 rintro _ rfl
 iterate 8 (all_goals try (first | with_reducible refine splitI (fun h=>?_) (fun h=>?_) | with_reducible refine splitBI (fun h=>?_) (fun h=>?_) | simp (config:={ maxSteps:=1000000 }) (disch:=first | assumption | omega | (simp; done) | fail) [Tryz.results17, *]))
 refine ⟨_,_,⟨rfl,rfl⟩,by omega,fun b (hb:b < n)=>by simp (disch:=omega) [gput_lt]⟩
def smallB (ts:List (List Int×List Int)) : Bool:=decide (ts.length≤20) && ts.all fun t=>decide (t.1.length≤300) && decide (t.2.length≤300)
theorem small_w (I O:Int) (ts:List (List Int×List Int)) (g:Nat→Option Blk) (n:Nat) (sv:AV) (hT:LogR g n ts sv) :
  WC 3 Tryz.prog 13 [.agg [.lit (.int .i64 I),.lit (.int .i64 O),sv]] ⟨.fn g,n⟩ fun r=>r=.ret (.lit (.int .i64 (if smallB ts=true then 0 else 1))) ⟨.fn g,n⟩:=by
 refine WC.drop1 rfl ?_
 have hlen:=@lenV Tryz.prog _ _ _ _ _ hT.choose_spec.1
 have h1s:=hT.choose_spec.1.one
 have hone:allOne [.lit (.int .i64 I),.lit (.int .i64 O),sv]=true:=by simp [h1s]
 have HT:=Hide.mk hT
 clear hT
 obtain ⟨ret,hret⟩ : ∃ b:Int,b=if smallB ts=true then 0 else 1:=⟨_,rfl⟩
 rw [← hret]
 have HRET:=Hide.mk hret
 clear hret
 by_cases t1:ts.length > 20
 ·have t1I:20 < (ts.length:Int):=by omega
  have hr:ret=1:=by rw [HRET.out]; unfold smallB; rw [decide_eq_false (by omega),Bool.false_and]; rfl
  refine WC.enterP (noO_ok _ _) hG [] Tryz.func13 rfl (by decide +kernel) (Nat.le_of_ble_eq_true (by kernel_rfl)) ?_
  iterate 8 (all_goals try (first | with_reducible refine splitI (fun h=>?_) (fun h=>?_) | with_reducible refine splitBI (fun h=>?_) (fun h=>?_) | simp (config:={ maxSteps:=1000000 }) (disch:=first | assumption | omega | (simp; done) | fail) [Tryz.results13, *]))
  all_goals exact ⟨Nat.le_succ n,fun b hb=>gput_lt hb⟩
 have t1I:¬20 < (ts.length:Int):=by omega
 refine WC.enterP (noO_ok _ _) hG [] Tryz.func13 rfl (by decide +kernel) (Nat.le_of_ble_eq_true (by kernel_rfl)) ?_
 iterate 8 (all_goals try (first | with_reducible refine splitI (fun h=>?_) (fun h=>?_) | with_reducible refine splitBI (fun h=>?_) (fun h=>?_) | simp (config:={ maxSteps:=1000000 }) (disch:=first | assumption | omega | (simp; done) | fail) [Tryz.results13, *]))
 refine LX.ind (fun m gf H'=>∃ (k:Nat),k≤ts.length∧m=ts.length - k∧H'=⟨.fn (gput g n (some (.cells [.lit (.int .i64 I),.lit (.int .i64 O),sv] true 0))),n+1⟩ ∧
  Hide (∀ t∈ts.take k,t.1.length≤300∧t.2.length≤300)∧gf 1=some (.ptr n 0)∧gf 3=some (.lit (.int .i64 k))) (m0:=ts.length) ?_ ?_
 ·exact ⟨0,Nat.zero_le _,rfl,rfl,⟨by simp⟩,by simp,by simp⟩
 rintro m gf H' ⟨k,hk,rfl,rfl,HP,w1,w3⟩ ih
 refine LX.roundP (noO_ok _ _) hG [] (by decide +kernel) ?_
 by_cases hlt:k < ts.length
 ·have hltI:(k:Int) < (ts.length:Int):=by omega
  obtain ⟨a2,off,s1,s2,HAT0⟩:=HT.out.at hlt
  have HAT:=Hide.mk HAT0
  clear HAT0
  have hia:∀ {H:Mem} {ev:Ev} {o:Oper} {ty:TypeId},iaS Tryz.prog H ev o ty (some (none,2)) (some sv) (some (.lit (.int .i64 (k:Int))))=.val (.ptr a2 (off+k * 2)) H:=fun {H ev o ty}=>HAT.out.ia
  have han:=HAT.out.an
  have hc0:=HAT.out.c0
  have hc1:=HAT.out.c1
  have hl1:=@lenV Tryz.prog _ _ _ _ _ HAT.out.r1
  have hl2:=@lenV Tryz.prog _ _ _ _ _ HAT.out.r2
  have HTK:Hide (ts.take (k+1)=ts.take k++[ts[k]]):=⟨by rw [List.take_succ,List.getElem?_eq_getElem hlt]; rfl⟩
  have HMEM:=Hide.mk (List.getElem_mem hlt)
  clear HAT
  generalize ts[k]=t at *
  have HBAD:Hide (¬(t.1.length≤300∧t.2.length≤300)→ret=1):=⟨fun hb=>by
   rw [HRET.out,if_neg]
   intro h
   unfold smallB at h
   rw [Bool.and_eq_true] at h
   have h2:=List.all_eq_true.1 h.2 t HMEM.out
   rw [Bool.and_eq_true] at h2
   exact hb ⟨of_decide_eq_true h2.1,of_decide_eq_true h2.2⟩⟩
  by_cases hb1:t.1.length > 300
  ·have hr:ret=1:=HBAD.out (by omega)
   have hbI:300 < (t.1.length:Int):=by omega
   iterate 8 (all_goals try (first | with_reducible refine splitI (fun h=>?_) (fun h=>?_) | with_reducible refine splitBI (fun h=>?_) (fun h=>?_) | simp (config:={ maxSteps:=1000000 }) (disch:=first | assumption | omega | (simp; done) | fail) [Tryz.results13, *]))
   all_goals exact ⟨Nat.le_succ n,fun b hb=>gput_lt hb⟩
  have hbI:¬300 < (t.1.length:Int):=by omega
  by_cases hb2:t.2.length > 300
  ·have hr:ret=1:=HBAD.out (by omega)
   have hbI2:300 < (t.2.length:Int):=by omega
   iterate 8 (all_goals try (first | with_reducible refine splitI (fun h=>?_) (fun h=>?_) | with_reducible refine splitBI (fun h=>?_) (fun h=>?_) | simp (config:={ maxSteps:=1000000 }) (disch:=first | assumption | omega | (simp; done) | fail) [Tryz.results13, *]))
   all_goals exact ⟨Nat.le_succ n,fun b hb=>gput_lt hb⟩
  have hbI2:¬300 < (t.2.length:Int):=by omega
  have HP2:Hide (∀ t∈ts.take (k+1),t.1.length≤300∧t.2.length≤300):=⟨fun v hv=>by
   rw [HTK.out] at hv
   rcases List.mem_append.1 hv with h | h
   ·exact HP.out v h
   ·rw [List.mem_singleton.1 h]; omega⟩
  iterate 8 (all_goals try (first | with_reducible refine splitI (fun h=>?_) (fun h=>?_) | with_reducible refine splitBI (fun h=>?_) (fun h=>?_) | simp (config:={ maxSteps:=1000000 }) (disch:=first | assumption | omega | (simp; done) | fail) [Tryz.results13, *]))
  exact ih.out (ts.length - (k+1)) _ _ (by omega) ⟨k+1,by omega,rfl,rfl,HP2,by simp [*],by simp⟩
 ·have hltI:¬(k:Int) < (ts.length:Int):=by omega
  have hr:ret=0:=by
   rw [HRET.out,if_pos]
   unfold smallB
   rw [decide_eq_true (by omega),Bool.true_and,List.all_eq_true]
   intro t ht
   have:=HP.out t (by rw [show k=ts.length by omega,List.take_length]; exact ht)
   rw [decide_eq_true this.1,decide_eq_true this.2]; rfl
  clear HP
  iterate 8 (all_goals try (first | with_reducible refine splitI (fun h=>?_) (fun h=>?_) | with_reducible refine splitBI (fun h=>?_) (fun h=>?_) | simp (config:={ maxSteps:=1000000 }) (disch:=first | assumption | omega | (simp; done) | fail) [Tryz.results13, *]))
  all_goals exact ⟨Nat.le_succ n,fun b hb=>gput_lt hb⟩
theorem smallB_ok {ts:List (List Int×List Int)} (h:smallB ts=true) : SmallL ts:=by
 unfold smallB at h
 rw [Bool.and_eq_true,List.all_eq_true] at h
 refine ⟨of_decide_eq_true h.1,fun t ht=>?_,fun t ht=>?_⟩
 ·have:=h.2 t ht; rw [Bool.and_eq_true] at this; exact of_decide_eq_true this.1
 ·have:=h.2 t ht; rw [Bool.and_eq_true] at this; exact of_decide_eq_true this.2
end Go.Ai
end
section
namespace Go.Ai
open Go.Proofs Go.RowKit
set_option maxHeartbeats 4000000
set_option maxRecDepth 100000
theorem string_run {w:World} {b g cap:Nat} {p:Value} {cur:Array Value} {l:List UInt8} (hb:w.heap[b]?=some (.cells #[p,.slice (some ⟨g,0,none⟩) l.length cap] 113 (0,0))) (hg:w.heap[g]?=some (.cells cur 5 (0,0)))
  (h0:l≠[]) (hcap:l.length≤cap) (hcs:cur.size=cap) (h63:l.length≤1000000) (hcell:∀ (j:Nat) (x:UInt8),l[j]?=some x→cur[j]?=some (Value.int .u8 x.toNat)) :
  Calls Tryz.prog 60 #[.pointer (some ⟨b,0,none⟩)] w fun e w'=>e=.returned (.string ⟨l.toArray⟩)∧w'=w.drew.freeze ⟨g,0,none⟩ l.length:=by
 have hl0:l.length≠0:=by simpa using h0
 have c1:w.drew.cell? ⟨b,1,none⟩=some (.slice (some ⟨g,0,none⟩) l.length cap):=by
  have:w.drew.heap[b]?=some (.cells #[p,.slice (some ⟨g,0,none⟩) l.length cap] 113 (0,0)):=hb
  rw [Lib.cell_of_heap this]; rfl
 have mixed:Tryz.prog.follows .mixedOrders=true:=by kernel_rfl
 have hSD:(Builtin.unsafeSliceData_ #[67] 155 #[.slice (some ⟨g,0,none⟩) l.length cap]).run Tryz.prog w.drew=.ok (.pointer (some ⟨g,0,none⟩)) w.drew :=
  Lib.run_unsafeSliceData_row _ _ _ _ _ _ (by omega)
 have hg' : w.drew.heap[g]?=some (.cells cur 5 (0,0)):=hg
 have hUS:(Builtin.unsafeString_ #[155,3] 9 #[.pointer (some ⟨g,0,none⟩),.int .i64 l.length]).run Tryz.prog w.drew=.ok (.string ⟨l.toArray⟩) (w.drew.freeze ⟨g,0,none⟩ l.length):=by
  refine Lib.run_unsafeString_row w.drew 155 3 9 5 Tryz.underlying155 (by kernel_rfl) g cur.size (by simp [World.shape?,hg']) l h0 (by omega) (by omega) ?_
  intro j x hx
  rw [show (⟨g,0,none⟩ : Addr).add j=⟨g,j,none⟩ by rw [add_none]; simp]
  rw [Lib.cell_of_heap hg']
  exact hcell j x hx
 go_enter Tryz.func60,Tryz.ntmps60
 go_wp2
 go_region_o
 all_goals (go_wp2; go_ret; exact ⟨rfl,rfl⟩)
def bytesG:List AV→Option (List UInt8)
 | []=>some []
 | .lit (.int .u8 (.ofNat k)) :: l=>match Nat.ble k 255,bytesG l with | true,some r=>some (UInt8.ofNat k :: r) | _,_=>none
 | _ :: _=>none
theorem bytesG_at:∀ {l:List AV} {bs:List UInt8},bytesG l=some bs→bs.length=l.length∧∀ (j:Nat) (x:UInt8),bs[j]?=some x→l[j]?=some (.lit (.int .u8 (x.toNat:Int)))
 | [],bs,h=>by cases h; exact ⟨rfl,fun j x h=>by simp at h⟩
 | .lit (.int .u8 (.ofNat k)) :: l,bs,h=>by
  unfold bytesG at h
  split at h
  ·rename_i r hk hr
   cases h
   obtain ⟨h1,h2⟩:=bytesG_at hr
   refine ⟨by simp [h1],fun j x hx=>?_⟩
   cases j with
   | zero =>
    have hk' : k≤255:=Nat.le_of_ble_eq_true hk
    have hx' : UInt8.ofNat k=x:=by simpa using hx
    subst hx'
    have:(UInt8.ofNat k).toNat=k:=by rw [UInt8.toNat_ofNat',Nat.mod_eq_of_lt (by omega)]
    rw [this]; rfl
   | succ j =>
    have:=h2 j x (by simpa using hx)
    simpa using this
  ·cases h
noncomputable def sStr (args:List AV) (H:Mem) : COut:=match args with
 | [.ptr a 0]=>(match H.get a with
  | some (.typ T [_,.slq g 0 n 0] true)=>(match H.get g with
   | some (.typ el l false)=>(match (Nat.beq T 113 && Nat.beq el 5) && (Nat.beq n (len l) && (Nat.blt 0 n && Nat.ble n 1000000)),bytesG l with
    | true,some bs=>H.setK g (.cells l false 0) fun H'=>.ret (.lit (.string ⟨bs.toArray⟩)) H'
    | _,_=>.bad)
   | _=>.bad)
  | _=>.bad)
 | _=>.bad
theorem freeze_heap {w:World} {g n:Nat} {cur:Array Value} {t:TypeId} {fz:Nat×Nat} (h:w.heap[g]?=some (.cells cur t fz)) :
  (∃ fz',(w.freeze ⟨g,0,none⟩ n).heap[g]?=some (.cells cur t fz'))∧(w.freeze ⟨g,0,none⟩ n).heap.size=w.heap.size∧∀ j,j≠g→(w.freeze ⟨g,0,none⟩ n).heap[j]?=w.heap[j]?:=by
 unfold World.freeze
 split
 ·exact ⟨⟨fz,h⟩,rfl,fun _ _=>rfl⟩
 ·refine ⟨?_,by simp,fun j hj=>?_⟩
  ·simp only [Array.getElem?_modify]
   rw [if_pos trivial,h]
   exact ⟨_,rfl⟩
  ·simp only [Array.getElem?_modify]
   rw [if_neg (fun e=>hj e.symm)]
theorem Sim.setR {B G:Nat} {ρ:Rn} {H:Mem} {w w' : World} (s:Sim B G ρ H w) {a:Nat} {x y:Blk} {b o k:Nat} (ha:H.get a=some x) (hr:ρ a=some (b,o,k)) (hown:x.own=true)
  (hsz:w.heap.size≤w'.heap.size) (hh:∀ b',b'≠b→b' < w.heap.size→w'.heap[b']?=w.heap[b']?) (hy:BR B ρ y b o k w') : Sim B G ρ (H.upd a y) w':=by
 refine ⟨?_,?_,fun j hj=>s.fresh j hj,?_,s.names,Nat.le_trans s.base hsz⟩
 ·intro j z hz
  rcases Mem.get_upd hz with ⟨rfl,rfl⟩ | ⟨hne,hz⟩
  ·exact .inr ⟨b,o,k,hr,hy⟩
  ·rcases s.blk j z hz with hn | ⟨b',o',k',hr',hb⟩
   ·exact .inl hn
   ·refine .inr ⟨b',o',k',hr',hb.mono (Sub.refl _) (hh b' ?_ hb.lt)⟩
    rintro rfl
    exact s.inj a j x z b' o k o' k' ha hz (Ne.symm hne) hown hr hr'
 ·intro j j' z z' b1 o1 k1 o2 k2 h h' hne ho hr1 hr2
  rcases Mem.get_upd h with ⟨e1,e2⟩ | ⟨hn1,g⟩
  ·rcases Mem.get_upd h' with ⟨e3,e4⟩ | ⟨hn2,g'⟩
   ·exact hne (e1.trans e3.symm)
   ·subst e1; exact s.inj j j' x z' b1 o1 k1 o2 k2 ha g' hne hown hr1 hr2
  ·rcases Mem.get_upd h' with ⟨e3,e4⟩ | ⟨hn2,g'⟩
   ·subst e3; exact s.inj j' j x z b1 o2 k2 o1 k1 ha g (Ne.symm hne) hown hr2 hr1
   ·exact s.inj j j' z z' b1 o1 k1 o2 k2 g g' hne ho hr1 hr2
 ·intro j z hj hz
  rcases Mem.get_upd hz with ⟨rfl,rfl⟩ | ⟨hne,hz⟩
  ·exact s.glob j x hj ha
  ·exact s.glob j z hj hz
theorem sStr_w (args:List AV) (H:Mem) (h:sStr args H≠.bad) : WC 3 Tryz.prog 60 args H fun r=>r=sStr args H:=by
 unfold sStr at h ⊢
 split at h
 ·rename_i a
  split at h
  ·rename_i T p g n hga
   split at h
   ·rename_i el l hgg
    split at h
    ·rename_i bs hc hbs
     simp only [Bool.and_eq_true] at hc
     have hT:T=113:=Nat.eq_of_beq_eq_true hc.1.1
     have hel:el=5:=Nat.eq_of_beq_eq_true hc.1.2
     have hn:n=l.length:=by rw [← len_eq]; exact Nat.eq_of_beq_eq_true hc.2.1
     have hn0:0 < n:=Nat.le_of_ble_eq_true hc.2.2.1
     have hn1:n≤1000000:=Nat.le_of_ble_eq_true hc.2.2.2
     subst hT hel
     intro B ρ us w s hv
     obtain ⟨u,us',hl,hvu,hnil⟩:=hv
     have hus' : us'=[]:=hnil
     subst hus'
     have hus:us=#[u]:=by rw [← Array.toArray_toList (xs:=us),hl]
     subst hus
     obtain ⟨b,o,k,hr,rfl⟩:=hvu
     obtain ⟨rfl,hB,c,hb,hcc,hex,_⟩:=s.at hga hr
     have hcs:c.size=2:=hex rfl
     obtain ⟨u0,hu0,_⟩:=hcc 0 _ rfl
     obtain ⟨u1,hu1,hv1⟩:=hcc 1 _ rfl
     obtain ⟨b2,o2,k2,hr2,hle2,rfl⟩:=hv1
     obtain ⟨rfl,hB2,c2,hb2,hcc2,_,hex2⟩:=s.at hgg hr2
     obtain ⟨hk2,hlk⟩:=hex2 rfl
     have hce:c=#[u0,.slice (some ⟨b2,0+0,none⟩) n (k2 - 0)]:=by
      apply Array.ext'
      have h2:c.toList.length=2:=hcs
      match hcl:c.toList,h2 with
      | [x,y],_ =>
       have e0:c[0]?=some x:=by rw [← Array.getElem?_toList,hcl]; rfl
       have e1:c[1]?=some y:=by rw [← Array.getElem?_toList,hcl]; rfl
       rw [e0] at hu0; rw [e1] at hu1
       cases hu0; cases hu1; rfl
     obtain ⟨hbl,hbat⟩:=bytesG_at hbs
     subst hce
     have hrun:=string_run (w:=w) (b:=b) (g:=b2) (cap:=k2) (p:=u0) (cur:=c2) (l:=bs) (by rw [hbl,← hn]; simpa using hb) hb2 (fun e=>by rw [e] at hbl; simp at hbl; omega) (by omega) hk2 (by omega)
      (fun j x hx=>by
       obtain ⟨u,hu,hvu⟩:=hcc2 j _ (hbat j x hx)
       rw [hu,show u=Value.int .u8 x.toNat from hvu])
     refine hrun.mono ?_
     rintro e w' ⟨rfl,rfl⟩
     obtain ⟨⟨fz',f1⟩,f2,f3⟩:=freeze_heap (n:=bs.length) (show w.drew.heap[b2]?=some (.cells c2 5 (0,0)) from hb2)
     rw [Mem.setK_eq]
     refine ⟨_,rfl,ρ,⟨fun _ _=>rfl,KD.turn (x:=.cells c2 5 (0,0)) hb2 rfl fun j hj=>f3 j hj,Lib.below_freeze (Below.drew (Below.refl B w)) (p:=⟨b2,0,none⟩) hB2 _⟩,?_,rfl,Nat.le_refl _⟩
     refine s.setR hgg hr2 rfl (by rw [f2]; exact Nat.le_refl _) (fun j hj _=>f3 j hj) ⟨c2,5,fz',f1,fun i v hi=>?_,fun h=>by cases h⟩
     obtain ⟨u,hu,hvu⟩:=hcc2 i v hi
     exact ⟨u,by rw [Nat.zero_add]; exact hu,hvu⟩
    ·exact absurd rfl h
   ·exact absurd rfl h
  ·exact absurd rfl h
 ·exact absurd rfl h
end Go.Ai
end
