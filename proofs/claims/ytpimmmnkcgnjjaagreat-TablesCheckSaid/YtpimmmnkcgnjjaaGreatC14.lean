/- A small verified interpreter over names, its proofs, and what was proved with it. No condition. -/
import Derived.Test.YtpimmmnkcgnjjaaGreatRows
import Derived.Test.YtpimmmnkcgnjjaaGreatC13
import Derived.Test.YtpimmmnkcgnjjaaGreatC06
import Derived.Test.YtpimmmnkcgnjjaaGreatC05
import Derived.Test.YtpimmmnkcgnjjaaGreatC07
set_option linter.all false
set_option linter.deprecated false
section
namespace Go.Ai
open Go.Proofs
set_option maxRecDepth 10000
set_option maxHeartbeats 40000000
theorem Asks_ref {x0 x1 x2 x3 x4 x5 x6:AV} (hone:allOne [x0,x1,x2,x3,x4,x5,x6]=true) {e:Int} (he:¬e=0) (g:Nat→Option Blk) (n:Nat) (hC:∀ (gX:Nat→Option Blk) (n2:Nat),n≤n2→(∀ b,b < n→gX b=g b)→WC 0 Tryz.prog 37 [.agg [x0,x1,x2,x3,x4,x5,x6]] ⟨.fn gX,n2⟩ fun r=>r=.ret (.lit (.int .i64 e)) ⟨.fn gX,n2⟩) :
  WC 0 Tryz.prog 14 [.agg [x0,x1,x2,x3,x4,x5,x6]] ⟨.fn g,n⟩ fun r=>r=.ret (.tup [.lit (.slice none 0 0),.lit (.int .i64 e)]) ⟨.fn g,n⟩:=by
 refine WC.drop1 rfl ?_
 have HC:=Hide.mk hC
 clear hC
 refine WC.enterP (noO_ok _ _) hG [] Tryz.func14 rfl (by decide +kernel) (Nat.le_of_ble_eq_true (by kernel_rfl)) ?_
 iterate 8 (all_goals try (first | with_reducible refine splitI (fun h=>?_) (fun h=>?_) | with_reducible refine splitBI (fun h=>?_) (fun h=>?_) | simp (config:={ maxSteps:=1000000 }) (disch:=first | assumption | omega | (simp; done) | fail) [Tryz.results14, *]))
 refine WC.mono (HC.out _ _ (by omega) fun b (hb:b < n)=>by simp (disch:=omega) [gput_lt]) ?_
 rintro _ rfl
 iterate 8 (all_goals try (first | with_reducible refine splitI (fun h=>?_) (fun h=>?_) | with_reducible refine splitBI (fun h=>?_) (fun h=>?_) | simp (config:={ maxSteps:=1000000 }) (disch:=first | assumption | omega | (simp; done) | fail) [Tryz.results14, *]))
 all_goals first | exact ⟨by show n≤n+1; omega,fun b (hb:b < n)=>by simp (disch:=omega) [gput_lt]⟩ | exact ⟨by show n≤n+1+1; omega,fun b (hb:b < n)=>by simp (disch:=omega) [gput_lt]⟩ | exact ⟨by show n≤n+1+1+1; omega,fun b (hb:b < n)=>by simp (disch:=omega) [gput_lt]⟩ | trace_state
theorem Row_ref {x0 x1 x2 x3 x4 x5 x6:AV} (hone:allOne [x0,x1,x2,x3,x4,x5,x6]=true) {e:Int} (he:¬e=0) (g:Nat→Option Blk) (n:Nat) (hC:∀ (gX:Nat→Option Blk) (n2:Nat),n≤n2→(∀ b,b < n→gX b=g b)→WC 0 Tryz.prog 37 [.agg [x0,x1,x2,x3,x4,x5,x6]] ⟨.fn gX,n2⟩ fun r=>r=.ret (.lit (.int .i64 e)) ⟨.fn gX,n2⟩) :
  WC 0 Tryz.prog 27 [.agg [x0,x1,x2,x3,x4,x5,x6],.lit (.slice none 0 0)] ⟨.fn g,n⟩ fun r=>r=.ret (.tup [.lit (.slice none 0 0),.lit (.bool false),.lit (.int .i64 e)]) ⟨.fn g,n⟩:=by
 refine WC.drop1 rfl ?_
 have HC:=Hide.mk hC
 clear hC
 refine WC.enterP (noO_ok _ _) hG [] Tryz.func27 rfl (by decide +kernel) (Nat.le_of_ble_eq_true (by kernel_rfl)) ?_
 iterate 8 (all_goals try (first | with_reducible refine splitI (fun h=>?_) (fun h=>?_) | with_reducible refine splitBI (fun h=>?_) (fun h=>?_) | simp (config:={ maxSteps:=1000000 }) (disch:=first | assumption | omega | (simp; done) | fail) [Tryz.results27, *]))
 refine WC.mono (HC.out _ _ (by omega) fun b (hb:b < n)=>by simp (disch:=omega) [gput_lt]) ?_
 rintro _ rfl
 iterate 8 (all_goals try (first | with_reducible refine splitI (fun h=>?_) (fun h=>?_) | with_reducible refine splitBI (fun h=>?_) (fun h=>?_) | simp (config:={ maxSteps:=1000000 }) (disch:=first | assumption | omega | (simp; done) | fail) [Tryz.results27, *]))
 all_goals first | exact ⟨by show n≤n+1; omega,fun b (hb:b < n)=>by simp (disch:=omega) [gput_lt]⟩ | exact ⟨by show n≤n+1+1; omega,fun b (hb:b < n)=>by simp (disch:=omega) [gput_lt]⟩ | exact ⟨by show n≤n+1+1+1; omega,fun b (hb:b < n)=>by simp (disch:=omega) [gput_lt]⟩ | trace_state
theorem Open_ref {x0 x1 x2 x3 x4 x5 x6:AV} (hone:allOne [x0,x1,x2,x3,x4,x5,x6]=true) {e:Int} (he:¬e=0) (g:Nat→Option Blk) (n:Nat) (hC:∀ (gX:Nat→Option Blk) (n2:Nat),n≤n2→(∀ b,b < n→gX b=g b)→WC 0 Tryz.prog 37 [.agg [x0,x1,x2,x3,x4,x5,x6]] ⟨.fn gX,n2⟩ fun r=>r=.ret (.lit (.int .i64 e)) ⟨.fn gX,n2⟩) :
  WC 0 Tryz.prog 30 [.agg [x0,x1,x2,x3,x4,x5,x6]] ⟨.fn g,n⟩ fun r=>r=.ret (.tup [.lit (.slice none 0 0),.lit (.bool false),.lit (.int .i64 e)]) ⟨.fn g,n⟩:=by
 refine WC.drop1 rfl ?_
 have HC:=Hide.mk hC
 clear hC
 refine WC.enterP (noO_ok _ _) hG pl30 Tryz.func30 rfl (by decide +kernel) (Nat.le_of_ble_eq_true (by kernel_rfl)) ?_
 iterate 8 (all_goals try (first | with_reducible refine splitI (fun h=>?_) (fun h=>?_) | with_reducible refine splitBI (fun h=>?_) (fun h=>?_) | simp (config:={ maxSteps:=1000000 }) (disch:=first | assumption | omega | (simp; done) | fail) [Tryz.results30, *]))
 refine WC.mono (HC.out _ _ (by omega) fun b (hb:b < n)=>by simp (disch:=omega) [gput_lt]) ?_
 rintro _ rfl
 iterate 8 (all_goals try (first | with_reducible refine splitI (fun h=>?_) (fun h=>?_) | with_reducible refine splitBI (fun h=>?_) (fun h=>?_) | simp (config:={ maxSteps:=1000000 }) (disch:=first | assumption | omega | (simp; done) | fail) [Tryz.results30, *]))
 all_goals first | exact ⟨by show n≤n+1; omega,fun b (hb:b < n)=>by simp (disch:=omega) [gput_lt]⟩ | exact ⟨by show n≤n+1+1; omega,fun b (hb:b < n)=>by simp (disch:=omega) [gput_lt]⟩ | exact ⟨by show n≤n+1+1+1; omega,fun b (hb:b < n)=>by simp (disch:=omega) [gput_lt]⟩ | trace_state
theorem Tell_ref {x0 x1 x2 x3 x4 x5 x6:AV} (hone:allOne [x0,x1,x2,x3,x4,x5,x6]=true) {e:Int} (he:¬e=0) (g:Nat→Option Blk) (n:Nat) (hC:∀ (gX:Nat→Option Blk) (n2:Nat),n≤n2→(∀ b,b < n→gX b=g b)→WC 0 Tryz.prog 37 [.agg [x0,x1,x2,x3,x4,x5,x6]] ⟨.fn gX,n2⟩ fun r=>r=.ret (.lit (.int .i64 e)) ⟨.fn gX,n2⟩) :
  WC 0 Tryz.prog 22 [.agg [x0,x1,x2,x3,x4,x5,x6],.agg [.lit (.int .i64 0),.lit (.int .i64 0),.lit (.slice none 0 0)]] ⟨.fn g,n⟩ fun r=>∃ gX n',r=.ret (.tup [.agg [.lit (.int .i64 0),.lit (.int .i64 0),.lit (.slice none 0 0),.lit (.slice none 0 0),.lit (.int .i64 0),.lit (.int .i64 0),.lit (.slice none 0 0)],.lit (.int .i64 e)]) ⟨.fn gX,n'⟩∧n≤n'∧∀ b,b < n→gX b=g b:=by
 have HC:=Hide.mk hC
 clear hC
 refine WC.enterP (noO_ok _ _) hG pl22 Tryz.func22 rfl (by decide +kernel) (Nat.le_of_ble_eq_true (by kernel_rfl)) ?_
 iterate 8 (all_goals try (first | with_reducible refine splitI (fun h=>?_) (fun h=>?_) | with_reducible refine splitBI (fun h=>?_) (fun h=>?_) | simp (config:={ maxSteps:=1000000 }) (disch:=first | assumption | omega | (simp; done) | fail) [Tryz.results22, *]))
 refine WC.mono (HC.out _ _ (by omega) fun b (hb:b < n)=>by simp (disch:=omega) [gput_lt]) ?_
 rintro _ rfl
 iterate 8 (all_goals try (first | with_reducible refine splitI (fun h=>?_) (fun h=>?_) | with_reducible refine splitBI (fun h=>?_) (fun h=>?_) | simp (config:={ maxSteps:=1000000 }) (disch:=first | assumption | omega | (simp; done) | fail) [Tryz.results22, *]))
 refine ⟨_,_,⟨rfl,rfl⟩,by omega,fun b (hb:b < n)=>by simp (disch:=omega) [gput_lt]⟩
theorem Grow_ref {x0 x1 x2 x3 x4 x5 x6:AV} (hone:allOne [x0,x1,x2,x3,x4,x5,x6]=true) {e:Int} (he:¬e=0) (g:Nat→Option Blk) (n:Nat) (hC:∀ (gX:Nat→Option Blk) (n2:Nat),n≤n2→(∀ b,b < n→gX b=g b)→WC 0 Tryz.prog 37 [.agg [x0,x1,x2,x3,x4,x5,x6]] ⟨.fn gX,n2⟩ fun r=>r=.ret (.lit (.int .i64 e)) ⟨.fn gX,n2⟩) :
  WC 0 Tryz.prog 38 [.agg [x0,x1,x2,x3,x4,x5,x6],.lit (.slice none 0 0)] ⟨.fn g,n⟩ fun r=>∃ gX n',r=.ret (.tup [.agg [.lit (.int .i64 0),.lit (.int .i64 0),.lit (.slice none 0 0),.lit (.slice none 0 0),.lit (.int .i64 0),.lit (.int .i64 0),.lit (.slice none 0 0)],.lit (.int .i64 e)]) ⟨.fn gX,n'⟩∧n≤n'∧∀ b,b < n→gX b=g b:=by
 have HC:=Hide.mk hC
 clear hC
 refine WC.enterP (noO_ok _ _) hG pl38 Tryz.func38 rfl (by decide +kernel) (Nat.le_of_ble_eq_true (by kernel_rfl)) ?_
 iterate 8 (all_goals try (first | with_reducible refine splitI (fun h=>?_) (fun h=>?_) | with_reducible refine splitBI (fun h=>?_) (fun h=>?_) | simp (config:={ maxSteps:=1000000 }) (disch:=first | assumption | omega | (simp; done) | fail) [Tryz.results38, *]))
 refine WC.mono (HC.out _ _ (by omega) fun b (hb:b < n)=>by simp (disch:=omega) [gput_lt]) ?_
 rintro _ rfl
 iterate 8 (all_goals try (first | with_reducible refine splitI (fun h=>?_) (fun h=>?_) | with_reducible refine splitBI (fun h=>?_) (fun h=>?_) | simp (config:={ maxSteps:=1000000 }) (disch:=first | assumption | omega | (simp; done) | fail) [Tryz.results38, *]))
 refine ⟨_,_,⟨rfl,rfl⟩,by omega,fun b (hb:b < n)=>by simp (disch:=omega) [gput_lt]⟩
theorem Widen_ref {x0 x1 x2 x3 x4 x5 x6:AV} (hone:allOne [x0,x1,x2,x3,x4,x5,x6]=true) {e:Int} (he:¬e=0) (g:Nat→Option Blk) (n:Nat) (hC:∀ (gX:Nat→Option Blk) (n2:Nat),n≤n2→(∀ b,b < n→gX b=g b)→WC 0 Tryz.prog 37 [.agg [x0,x1,x2,x3,x4,x5,x6]] ⟨.fn gX,n2⟩ fun r=>r=.ret (.lit (.int .i64 e)) ⟨.fn gX,n2⟩) :
  WC 0 Tryz.prog 39 [.agg [x0,x1,x2,x3,x4,x5,x6],.lit (.slice none 0 0)] ⟨.fn g,n⟩ fun r=>∃ gX n',r=.ret (.tup [.agg [.lit (.int .i64 0),.lit (.int .i64 0),.lit (.slice none 0 0),.lit (.slice none 0 0),.lit (.int .i64 0),.lit (.int .i64 0),.lit (.slice none 0 0)],.lit (.int .i64 e)]) ⟨.fn gX,n'⟩∧n≤n'∧∀ b,b < n→gX b=g b:=by
 have HC:=Hide.mk hC
 clear hC
 refine WC.enterP (noO_ok _ _) hG pl39 Tryz.func39 rfl (by decide +kernel) (Nat.le_of_ble_eq_true (by kernel_rfl)) ?_
 iterate 8 (all_goals try (first | with_reducible refine splitI (fun h=>?_) (fun h=>?_) | with_reducible refine splitBI (fun h=>?_) (fun h=>?_) | simp (config:={ maxSteps:=1000000 }) (disch:=first | assumption | omega | (simp; done) | fail) [Tryz.results39, *]))
 refine WC.mono (HC.out _ _ (by omega) fun b (hb:b < n)=>by simp (disch:=omega) [gput_lt]) ?_
 rintro _ rfl
 iterate 8 (all_goals try (first | with_reducible refine splitI (fun h=>?_) (fun h=>?_) | with_reducible refine splitBI (fun h=>?_) (fun h=>?_) | simp (config:={ maxSteps:=1000000 }) (disch:=first | assumption | omega | (simp; done) | fail) [Tryz.results39, *]))
 refine ⟨_,_,⟨rfl,rfl⟩,by omega,fun b (hb:b < n)=>by simp (disch:=omega) [gput_lt]⟩
theorem Hypothesis_ref {x0 x1 x2 x3 x4 x5 x6:AV} (hone:allOne [x0,x1,x2,x3,x4,x5,x6]=true) {e:Int} (he:¬e=0) (g:Nat→Option Blk) (n:Nat) (hC:∀ (gX:Nat→Option Blk) (n2:Nat),n≤n2→(∀ b,b < n→gX b=g b)→WC 0 Tryz.prog 37 [.agg [x0,x1,x2,x3,x4,x5,x6]] ⟨.fn gX,n2⟩ fun r=>r=.ret (.lit (.int .i64 e)) ⟨.fn gX,n2⟩) :
  WC 0 Tryz.prog 31 [.agg [x0,x1,x2,x3,x4,x5,x6]] ⟨.fn g,n⟩ fun r=>∃ gX n',r=.ret (.tup [.agg [.lit (.int .i64 0),.lit (.int .i64 0),.lit (.slice none 0 0)],.lit (.int .i64 e)]) ⟨.fn gX,n'⟩∧n≤n'∧∀ b,b < n→gX b=g b:=by
 have HC:=Hide.mk hC
 clear hC
 refine WC.enterP (noO_ok _ _) hG pl31 Tryz.func31 rfl (by decide +kernel) (Nat.le_of_ble_eq_true (by kernel_rfl)) ?_
 iterate 8 (all_goals try (first | with_reducible refine splitI (fun h=>?_) (fun h=>?_) | with_reducible refine splitBI (fun h=>?_) (fun h=>?_) | simp (config:={ maxSteps:=1000000 }) (disch:=first | assumption | omega | (simp; done) | fail) [Tryz.results31, *]))
 refine WC.mono (HC.out _ _ (by omega) fun b (hb:b < n)=>by simp (disch:=omega) [gput_lt]) ?_
 rintro _ rfl
 iterate 8 (all_goals try (first | with_reducible refine splitI (fun h=>?_) (fun h=>?_) | with_reducible refine splitBI (fun h=>?_) (fun h=>?_) | simp (config:={ maxSteps:=1000000 }) (disch:=first | assumption | omega | (simp; done) | fail) [Tryz.results31, *]))
 refine ⟨_,_,⟨rfl,rfl⟩,by omega,fun b (hb:b < n)=>by simp (disch:=omega) [gput_lt]⟩
theorem Pieces_ref {x0 x1 x2 x3 x4 x5 x6:AV} (hone:allOne [x0,x1,x2,x3,x4,x5,x6]=true) {e:Int} (he:¬e=0) (g:Nat→Option Blk) (n:Nat) (hC:∀ (gX:Nat→Option Blk) (n2:Nat),n≤n2→(∀ b,b < n→gX b=g b)→WC 0 Tryz.prog 37 [.agg [x0,x1,x2,x3,x4,x5,x6]] ⟨.fn gX,n2⟩ fun r=>r=.ret (.lit (.int .i64 e)) ⟨.fn gX,n2⟩) :
  WC 0 Tryz.prog 40 [.agg [x0,x1,x2,x3,x4,x5,x6],.agg [.lit (.slice none 0 0),.lit (.slice none 0 0)]] ⟨.fn g,n⟩ fun r=>r=.ret (.tup [.lit (.slice none 0 0),.lit (.int .i64 e)]) ⟨.fn g,n⟩:=by
 refine WC.drop1 rfl ?_
 have HH:=Hide.mk fun (gX:Nat→Option Blk) (n2:Nat) (hn:n≤n2) (hX:∀ b,b < n→gX b=g b)=>Hypothesis_ref hone he gX n2 fun gY n3 hn3 hY=>hC gY n3 (by omega) fun b hb=>(hY b (by omega)).trans (hX b hb)
 clear hC
 refine WC.enterP (noO_ok _ _) hG pl40 Tryz.func40 rfl (by decide +kernel) (Nat.le_of_ble_eq_true (by kernel_rfl)) ?_
 iterate 8 (all_goals try (first | with_reducible refine splitI (fun h=>?_) (fun h=>?_) | with_reducible refine splitBI (fun h=>?_) (fun h=>?_) | simp (config:={ maxSteps:=1000000 }) (disch:=first | assumption | omega | (simp; done) | fail) [Tryz.results40, *]))
 refine WC.mono (HH.out _ _ (by omega) fun b (hb:b < n)=>by simp (disch:=omega) [gput_lt]) ?_
 rintro _ ⟨gX,n',rfl,hn',hX⟩
 have hn2:n≤n':=by omega
 have HX:Hide (∀ b,b < n→gX b=g b):=⟨fun b hb=>(hX b (by omega)).trans (by simp (disch:=omega) [gput_lt])⟩
 clear hX
 iterate 8 (all_goals try (first | with_reducible refine splitI (fun h=>?_) (fun h=>?_) | with_reducible refine splitBI (fun h=>?_) (fun h=>?_) | simp (config:={ maxSteps:=1000000 }) (disch:=first | assumption | omega | (simp; done) | fail) [Tryz.results40, *]))
 all_goals first | exact ⟨by show n≤n'+1; omega,fun b (hb:b < n)=>(gput_lt (by omega)).trans (HX.out b hb)⟩ | trace_state
theorem Suffix_ref {x0 x1 x2 x3 x4 x5 x6:AV} (hone:allOne [x0,x1,x2,x3,x4,x5,x6]=true) {e:Int} (he:¬e=0) (g:Nat→Option Blk) (n:Nat) (hC:∀ (gX:Nat→Option Blk) (n2:Nat),n≤n2→(∀ b,b < n→gX b=g b)→WC 0 Tryz.prog 37 [.agg [x0,x1,x2,x3,x4,x5,x6]] ⟨.fn gX,n2⟩ fun r=>r=.ret (.lit (.int .i64 e)) ⟨.fn gX,n2⟩) :
  WC 0 Tryz.prog 41 [.agg [x0,x1,x2,x3,x4,x5,x6],.agg [.lit (.slice none 0 0),.lit (.slice none 0 0)]] ⟨.fn g,n⟩ fun r=>r=.ret (.tup [.lit (.slice none 0 0),.lit (.int .i64 e)]) ⟨.fn g,n⟩:=by
 refine WC.drop1 rfl ?_
 have HH:=Hide.mk fun (gX:Nat→Option Blk) (n2:Nat) (hn:n≤n2) (hX:∀ b,b < n→gX b=g b)=>Pieces_ref hone he gX n2 fun gY n3 hn3 hY=>hC gY n3 (by omega) fun b hb=>(hY b (by omega)).trans (hX b hb)
 clear hC
 refine WC.enterP (noO_ok _ _) hG pl41 Tryz.func41 rfl (by decide +kernel) (Nat.le_of_ble_eq_true (by kernel_rfl)) ?_
 iterate 8 (all_goals try (first | with_reducible refine splitI (fun h=>?_) (fun h=>?_) | with_reducible refine splitBI (fun h=>?_) (fun h=>?_) | simp (config:={ maxSteps:=1000000 }) (disch:=first | assumption | omega | (simp; done) | fail) [Tryz.results41, *]))
 refine WC.mono (HH.out _ _ (by omega) fun b (hb:b < n)=>by simp (disch:=omega) [gput_lt]) ?_
 rintro _ rfl
 iterate 8 (all_goals try (first | with_reducible refine splitI (fun h=>?_) (fun h=>?_) | with_reducible refine splitBI (fun h=>?_) (fun h=>?_) | simp (config:={ maxSteps:=1000000 }) (disch:=first | assumption | omega | (simp; done) | fail) [Tryz.results41, *]))
 all_goals first | exact ⟨by show n≤n+1+1; omega,fun b (hb:b < n)=>by simp (disch:=omega) [gput_lt]⟩ | trace_state
end Go.Ai
end
section
namespace Go.Ai
open Go.Proofs
set_option maxRecDepth 10000
set_option maxHeartbeats 40000000
def ListR (g:Nat→Option Blk) (n:Nat) (l:List (List Int)) (sv:AV) : Prop:=∃ svs,SliceV g n sv l.length svs∧RowsW g n l svs∧∀ q∈svs,CapV q
def TreeR (g:Nat→Option Blk) (n:Nat) (T:List (List (Int×Int))) (sv:AV) : Prop:=∃ svs,SliceV g n sv T.length svs∧RowsG g n T svs
def shortB (l:List (List Int)) : Bool:=l.all fun w=>decide (w.length≤300)
def rowsB (T:List (List (Int×Int))) : Bool:=T.all fun r=>decide (r.length≤20)
def smallB (S E:List (List Int)) (T:List (List (Int×Int))) : Bool:=decide (S.length≤12) && decide (E.length≤12) && decide (T.length≤30) && shortB S && shortB E && rowsB T
theorem small_w (q O I2 O2:Int) (S E:List (List Int)) (T:List (List (Int×Int))) (g:Nat→Option Blk) (n:Nat) (sv se st:AV) (hS:ListR g n S sv) (hE:ListR g n E se) (hT:TreeR g n T st) :
  WC 0 Tryz.prog 36 [.agg [.lit (.int .i64 q),.lit (.int .i64 O),sv,se,.lit (.int .i64 I2),.lit (.int .i64 O2),st]] ⟨.fn g,n⟩ fun r=>r=.ret (.lit (.int .i64 (if smallB S E T=true then 0 else 1))) ⟨.fn g,n⟩:=by
 refine WC.drop1 rfl ?_
 obtain ⟨svs,hsv,hrs,-⟩:=hS
 obtain ⟨ses,hse,hre,-⟩:=hE
 obtain ⟨sts,hst,hrt⟩:=hT
 have hlen:=@lenV Tryz.prog _ _ _ _ _ hsv
 have hlen2:=@lenV Tryz.prog _ _ _ _ _ hse
 have hlen3:=@lenV Tryz.prog _ _ _ _ _ hst
 have h1s:=hsv.one
 have h1e:=hse.one
 have h1t:=hst.one
 have hone:allOne [.lit (.int .i64 q),.lit (.int .i64 O),sv,se,.lit (.int .i64 I2),.lit (.int .i64 O2),st]=true:=by simp [h1s,h1e,h1t]
 have HS:=Hide.mk hsv
 have HE:=Hide.mk hse
 have HT:=Hide.mk hst
 have HRS:=Hide.mk hrs
 have HRE:=Hide.mk hre
 have HRT:=Hide.mk hrt
 clear hsv hse hst hrs hre hrt
 obtain ⟨ret,hret⟩ : ∃ b:Int,b=if smallB S E T=true then 0 else 1:=⟨_,rfl⟩
 rw [← hret]
 unfold smallB at hret
 by_cases t1:S.length > 12
 ·have hr:ret=1:=by rw [hret,decide_eq_false (by omega)]; simp
  have t1I:12 < (S.length:Int):=by omega
  clear hret
  refine WC.enterP (noO_ok _ _) hG [] Tryz.func36 rfl (by decide +kernel) (Nat.le_of_ble_eq_true (by kernel_rfl)) ?_
  iterate 8 (all_goals try (first | with_reducible refine splitI (fun h=>?_) (fun h=>?_) | with_reducible refine splitBI (fun h=>?_) (fun h=>?_) | simp (config:={ maxSteps:=1000000 }) (disch:=first | assumption | omega | (simp; done) | fail) [Tryz.results36, *]))
  all_goals exact ⟨Nat.le_succ n,fun b hb=>gput_lt hb⟩
 have t1I:¬12 < (S.length:Int):=by omega
 by_cases t2:E.length > 12
 ·have hr:ret=1:=by rw [hret,decide_eq_false (by omega:¬E.length≤12)]; simp
  have t2I:12 < (E.length:Int):=by omega
  clear hret
  refine WC.enterP (noO_ok _ _) hG [] Tryz.func36 rfl (by decide +kernel) (Nat.le_of_ble_eq_true (by kernel_rfl)) ?_
  iterate 8 (all_goals try (first | with_reducible refine splitI (fun h=>?_) (fun h=>?_) | with_reducible refine splitBI (fun h=>?_) (fun h=>?_) | simp (config:={ maxSteps:=1000000 }) (disch:=first | assumption | omega | (simp; done) | fail) [Tryz.results36, *]))
  all_goals exact ⟨Nat.le_succ n,fun b hb=>gput_lt hb⟩
 have t2I:¬12 < (E.length:Int):=by omega
 by_cases t3:T.length > 30
 ·have hr:ret=1:=by rw [hret,decide_eq_false (by omega:¬T.length≤30)]; simp
  have t3I:30 < (T.length:Int):=by omega
  clear hret
  refine WC.enterP (noO_ok _ _) hG [] Tryz.func36 rfl (by decide +kernel) (Nat.le_of_ble_eq_true (by kernel_rfl)) ?_
  iterate 8 (all_goals try (first | with_reducible refine splitI (fun h=>?_) (fun h=>?_) | with_reducible refine splitBI (fun h=>?_) (fun h=>?_) | simp (config:={ maxSteps:=1000000 }) (disch:=first | assumption | omega | (simp; done) | fail) [Tryz.results36, *]))
  all_goals exact ⟨Nat.le_succ n,fun b hb=>gput_lt hb⟩
 have t3I:¬30 < (T.length:Int):=by omega
 rw [decide_eq_true (by omega:S.length≤12),decide_eq_true (by omega:E.length≤12),decide_eq_true (by omega:T.length≤30),Bool.true_and,Bool.true_and,Bool.true_and] at hret
 have HRET:=Hide.mk hret
 clear hret
 refine WC.enterP (noO_ok _ _) hG [] Tryz.func36 rfl (by decide +kernel) (Nat.le_of_ble_eq_true (by kernel_rfl)) ?_
 iterate 8 (all_goals try (first | with_reducible refine splitI (fun h=>?_) (fun h=>?_) | with_reducible refine splitBI (fun h=>?_) (fun h=>?_) | simp (config:={ maxSteps:=1000000 }) (disch:=first | assumption | omega | (simp; done) | fail) [Tryz.results36, *]))
 refine LX.ind (fun m gf H'=>∃ (k:Nat) (gL:Nat→Option Blk),k≤S.length∧m=S.length - k∧H'=⟨.fn gL,n+1⟩∧Hide (∀ b,b < n→gL b=g b)∧gL n=some (.cells [.lit (.int .i64 q),.lit (.int .i64 O),sv,se,.lit (.int .i64 I2),.lit (.int .i64 O2),st] true 0)∧Hide (∀ w∈S.take k,w.length≤300)∧gf 1=some (.ptr n 0)∧gf 3=some (.lit (.int .i64 k))) (m0:=S.length) ?_ ?_
 ·exact ⟨0,_,Nat.zero_le _,rfl,rfl,⟨fun b hb=>gput_lt hb⟩,gput_eq,⟨by simp⟩,by simp [*],by simp⟩
 skip
 rintro m gf H' ⟨k,gL,hk,rfl,rfl,HG0,hgn,HP,w1,wk⟩ ih0
 refine LX.roundP (noO_ok _ _) hG [] (by decide +kernel) ?_
 by_cases hlt:k < S.length
 ·have hltI:(k:Int) < (S.length:Int):=by omega
  obtain ⟨q1,hw1,hrep⟩:=HRS.out.2 k hlt
  obtain ⟨a2,off,ha2,hrow,hia⟩:=HS.out.ia (P:=Tryz.prog) hlt 1
  simp only [Nat.mul_one] at hia
  have hcell:=(hrow.mono (HG0.out a2 ha2)).one (k:=k) (s:=1) (List.getElem?_eq_some_iff.1 hw1).1
  rw [(List.getElem?_eq_some_iff.1 hw1).2] at hcell
  have hlw:=@lenV Tryz.prog _ _ _ _ _ hrep
  have HTK:Hide (S.take (k+1)=S.take k++[S[k]]):=⟨by rw [List.take_succ,List.getElem?_eq_getElem hlt]; rfl⟩
  have HMEM:=Hide.mk (List.getElem_mem hlt)
  clear hrow hrep hw1
  generalize S[k]=w at *
  by_cases hbig:w.length > 300
  ·have hbigI:300 < (w.length:Int):=by omega
   have hr:ret=1:=by
    rw [HRET.out,if_neg]
    intro h
    rw [Bool.and_eq_true,Bool.and_eq_true] at h
    replace h:=h.1.1
    have h2:=of_decide_eq_true (List.all_eq_true.1 h w HMEM.out)
    omega
   iterate 8 (all_goals try (first | with_reducible refine splitI (fun h=>?_) (fun h=>?_) | with_reducible refine splitBI (fun h=>?_) (fun h=>?_) | simp (config:={ maxSteps:=1000000 }) (disch:=first | assumption | omega | (simp; done) | fail) [Tryz.results36, *]))
   exact ⟨Nat.le_succ n,fun b hb=>HG0.out b hb⟩
  ·have hbigI:¬300 < (w.length:Int):=by omega
   have HP2:Hide (∀ w∈S.take (k+1),w.length≤300):=⟨fun v hv=>by
    rw [HTK.out] at hv
    rcases List.mem_append.1 hv with h | h
    ·exact HP.out v h
    ·rw [List.mem_singleton.1 h]; omega⟩
   iterate 8 (all_goals try (first | with_reducible refine splitI (fun h=>?_) (fun h=>?_) | with_reducible refine splitBI (fun h=>?_) (fun h=>?_) | simp (config:={ maxSteps:=1000000 }) (disch:=first | assumption | omega | (simp; done) | fail) [Tryz.results36, *]))
   exact ih0.out (S.length - (k+1)) _ _ (by omega) ⟨k+1,gL,by omega,rfl,rfl,HG0,hgn,HP2,by simp [*],by simp⟩
 ·have hltI:¬(k:Int) < (S.length:Int):=by omega
  have HB0:Hide (shortB S=true):=⟨by
   have h1:=HP.out
   rw [show k=S.length by omega,List.take_length] at h1
   exact List.all_eq_true.2 fun w hw=>decide_eq_true (h1 w hw)⟩
  clear HP
  iterate 8 (all_goals try (first | with_reducible refine splitI (fun h=>?_) (fun h=>?_) | with_reducible refine splitBI (fun h=>?_) (fun h=>?_) | simp (config:={ maxSteps:=1000000 }) (disch:=first | assumption | omega | (simp; done) | fail) [Tryz.results36, *]))
  refine LX.ind (fun m gf H'=>∃ (k:Nat) (gL:Nat→Option Blk),k≤E.length∧m=E.length - k∧H'=⟨.fn gL,n+1⟩∧Hide (∀ b,b < n→gL b=g b)∧gL n=some (.cells [.lit (.int .i64 q),.lit (.int .i64 O),sv,se,.lit (.int .i64 I2),.lit (.int .i64 O2),st] true 0)∧Hide (∀ w∈E.take k,w.length≤300)∧gf 1=some (.ptr n 0)∧gf 4=some (.lit (.int .i64 k))) (m0:=E.length) ?_ ?_
  ·exact ⟨0,_,Nat.zero_le _,rfl,rfl,HG0,hgn,⟨by simp⟩,by simp [*],by simp⟩
  clear hgn w1 wk
  rintro m gf H' ⟨k,gL,hk,rfl,rfl,HG1,hgn,HP,w1,wk⟩ ih1
  refine LX.roundP (noO_ok _ _) hG [] (by decide +kernel) ?_
  by_cases hlt:k < E.length
  ·have hltI:(k:Int) < (E.length:Int):=by omega
   obtain ⟨q1,hw1,hrep⟩:=HRE.out.2 k hlt
   obtain ⟨a2,off,ha2,hrow,hia⟩:=HE.out.ia (P:=Tryz.prog) hlt 1
   simp only [Nat.mul_one] at hia
   have hcell:=(hrow.mono (HG1.out a2 ha2)).one (k:=k) (s:=1) (List.getElem?_eq_some_iff.1 hw1).1
   rw [(List.getElem?_eq_some_iff.1 hw1).2] at hcell
   have hlw:=@lenV Tryz.prog _ _ _ _ _ hrep
   have HTK:Hide (E.take (k+1)=E.take k++[E[k]]):=⟨by rw [List.take_succ,List.getElem?_eq_getElem hlt]; rfl⟩
   have HMEM:=Hide.mk (List.getElem_mem hlt)
   clear hrow hrep hw1
   generalize E[k]=w at *
   by_cases hbig:w.length > 300
   ·have hbigI:300 < (w.length:Int):=by omega
    have hr:ret=1:=by
     rw [HRET.out,if_neg]
     intro h
     rw [Bool.and_eq_true,Bool.and_eq_true] at h
     replace h:=h.1.2
     have h2:=of_decide_eq_true (List.all_eq_true.1 h w HMEM.out)
     omega
    iterate 8 (all_goals try (first | with_reducible refine splitI (fun h=>?_) (fun h=>?_) | with_reducible refine splitBI (fun h=>?_) (fun h=>?_) | simp (config:={ maxSteps:=1000000 }) (disch:=first | assumption | omega | (simp; done) | fail) [Tryz.results36, *]))
    exact ⟨Nat.le_succ n,fun b hb=>HG1.out b hb⟩
   ·have hbigI:¬300 < (w.length:Int):=by omega
    have HP2:Hide (∀ w∈E.take (k+1),w.length≤300):=⟨fun v hv=>by
     rw [HTK.out] at hv
     rcases List.mem_append.1 hv with h | h
     ·exact HP.out v h
     ·rw [List.mem_singleton.1 h]; omega⟩
    iterate 8 (all_goals try (first | with_reducible refine splitI (fun h=>?_) (fun h=>?_) | with_reducible refine splitBI (fun h=>?_) (fun h=>?_) | simp (config:={ maxSteps:=1000000 }) (disch:=first | assumption | omega | (simp; done) | fail) [Tryz.results36, *]))
    exact ih1.out (E.length - (k+1)) _ _ (by omega) ⟨k+1,gL,by omega,rfl,rfl,HG1,hgn,HP2,by simp [*],by simp⟩
  ·have hltI:¬(k:Int) < (E.length:Int):=by omega
   have HB1:Hide (shortB E=true):=⟨by
    have h1:=HP.out
    rw [show k=E.length by omega,List.take_length] at h1
    exact List.all_eq_true.2 fun w hw=>decide_eq_true (h1 w hw)⟩
   clear HP
   iterate 8 (all_goals try (first | with_reducible refine splitI (fun h=>?_) (fun h=>?_) | with_reducible refine splitBI (fun h=>?_) (fun h=>?_) | simp (config:={ maxSteps:=1000000 }) (disch:=first | assumption | omega | (simp; done) | fail) [Tryz.results36, *]))
   refine LX.ind (fun m gf H'=>∃ (k:Nat) (gL:Nat→Option Blk),k≤T.length∧m=T.length - k∧H'=⟨.fn gL,n+1⟩∧Hide (∀ b,b < n→gL b=g b)∧gL n=some (.cells [.lit (.int .i64 q),.lit (.int .i64 O),sv,se,.lit (.int .i64 I2),.lit (.int .i64 O2),st] true 0)∧Hide (∀ w∈T.take k,w.length≤20)∧gf 1=some (.ptr n 0)∧gf 5=some (.lit (.int .i64 k))) (m0:=T.length) ?_ ?_
   ·exact ⟨0,_,Nat.zero_le _,rfl,rfl,HG1,hgn,⟨by simp⟩,by simp [*],by simp⟩
   clear hgn w1 wk
   rintro m gf H' ⟨k,gL,hk,rfl,rfl,HG2,hgn,HP,w1,wk⟩ ih2
   refine LX.roundP (noO_ok _ _) hG [] (by decide +kernel) ?_
   by_cases hlt:k < T.length
   ·have hltI:(k:Int) < (T.length:Int):=by omega
    obtain ⟨q1,hw1,hrep⟩:=HRT.out.2 k hlt
    obtain ⟨a2,off,ha2,hrow,hia⟩:=HT.out.ia (P:=Tryz.prog) hlt 1
    simp only [Nat.mul_one] at hia
    have hcell:=(hrow.mono (HG2.out a2 ha2)).one (k:=k) (s:=1) (List.getElem?_eq_some_iff.1 hw1).1
    rw [(List.getElem?_eq_some_iff.1 hw1).2] at hcell
    have hlw:=@lenV Tryz.prog _ _ _ _ _ hrep
    have HTK:Hide (T.take (k+1)=T.take k++[T[k]]):=⟨by rw [List.take_succ,List.getElem?_eq_getElem hlt]; rfl⟩
    have HMEM:=Hide.mk (List.getElem_mem hlt)
    clear hrow hrep hw1
    generalize T[k]=w at *
    by_cases hbig:w.length > 20
    ·have hbigI:20 < (w.length:Int):=by omega
     have hr:ret=1:=by
      rw [HRET.out,if_neg]
      intro h
      rw [Bool.and_eq_true] at h
      replace h:=h.2
      have h2:=of_decide_eq_true (List.all_eq_true.1 h w HMEM.out)
      omega
     iterate 8 (all_goals try (first | with_reducible refine splitI (fun h=>?_) (fun h=>?_) | with_reducible refine splitBI (fun h=>?_) (fun h=>?_) | simp (config:={ maxSteps:=1000000 }) (disch:=first | assumption | omega | (simp; done) | fail) [Tryz.results36, *]))
     exact ⟨Nat.le_succ n,fun b hb=>HG2.out b hb⟩
    ·have hbigI:¬20 < (w.length:Int):=by omega
     have HP2:Hide (∀ w∈T.take (k+1),w.length≤20):=⟨fun v hv=>by
      rw [HTK.out] at hv
      rcases List.mem_append.1 hv with h | h
      ·exact HP.out v h
      ·rw [List.mem_singleton.1 h]; omega⟩
     iterate 8 (all_goals try (first | with_reducible refine splitI (fun h=>?_) (fun h=>?_) | with_reducible refine splitBI (fun h=>?_) (fun h=>?_) | simp (config:={ maxSteps:=1000000 }) (disch:=first | assumption | omega | (simp; done) | fail) [Tryz.results36, *]))
     exact ih2.out (T.length - (k+1)) _ _ (by omega) ⟨k+1,gL,by omega,rfl,rfl,HG2,hgn,HP2,by simp [*],by simp⟩
   ·have hltI:¬(k:Int) < (T.length:Int):=by omega
    have HB2:Hide (rowsB T=true):=⟨by
     have h1:=HP.out
     rw [show k=T.length by omega,List.take_length] at h1
     exact List.all_eq_true.2 fun w hw=>decide_eq_true (h1 w hw)⟩
    clear HP
    have hr:ret=0:=by rw [HRET.out,HB0.out,HB1.out,HB2.out]; rfl
    iterate 8 (all_goals try (first | with_reducible refine splitI (fun h=>?_) (fun h=>?_) | with_reducible refine splitBI (fun h=>?_) (fun h=>?_) | simp (config:={ maxSteps:=1000000 }) (disch:=first | assumption | omega | (simp; done) | fail) [Tryz.results36, *]))
    exact ⟨Nat.le_succ n,fun b hb=>HG2.out b hb⟩
end Go.Ai
end
section
namespace Go.Ai
open Go.Proofs
set_option maxRecDepth 100000
def vI (k:IntKind) (n:Nat) : AV:=.lit (.int k (Int.ofNat n))
def vM (k:IntKind) (n:Nat) : AV:=.lit (.int k (Int.negSucc n))
def bl0:List AV:=[vM .i64 0,vM .i64 0,vM .i64 0,vM .i64 0]
def bl1:List AV:=[.sl 20 0 2 2]
def bl2:List AV:=[vI .i64 1]
def bl3:List AV:=[vI .i64 0]
def bl4:List AV:=[.sl 5 0 1 1,.sl 6 0 1 1]
def bl5:List AV:=[]
def bl6:List AV:=[.sl 1 0 0 0]
def bl7:List AV:=[vI .i64 5,vI .i64 0,vI .i64 6,vI .i64 0]
def bl8:List AV:=[vI .i64 3,vI .i64 1,vI .i64 4,vI .i64 0]
def bl9:List AV:=[vI .i64 1,vI .i64 0,vI .i64 2,vI .i64 0]
def bl10:List AV:=[.sl 495 0 2 2,.sl 502 0 2 2,.sl 509 0 2 2,.sl 516 0 2 2,.sl 521 0 2 2,.sl 526 0 2 2,.sl 531 0 2 2]
def bl11:List AV:=[.sl 546 0 1 1,.sl 548 0 1 1]
def bl12:List AV:=[.sl 544 0 0 0]
def bl13:List AV:=[.sl 724 0 2 2,.sl 726 0 2 2,.sl 728 0 2 2,.sl 730 0 2 2,.sl 732 0 2 2,.sl 734 0 2 2,.sl 736 0 2 2]
def bl14:List AV:=[.sl 720 0 1 1,.sl 722 0 1 1]
def bl15:List AV:=[.sl 718 0 0 0,.sl 739 0 1 1]
def bl16:List AV:=[vI .i64 9,vI .i64 1,vI .i64 10,vI .i64 0]
def bl17:List AV:=[vI .i64 7,vI .i64 0,vI .i64 8,vI .i64 0]
def bl18:List AV:=[.sl 1530 0 2 2,.sl 1537 0 2 2,.sl 1544 0 2 2,.sl 1551 0 2 2,.sl 1558 0 2 2,.sl 1565 0 2 2,.sl 1570 0 2 2,.sl 1575 0 2 2,.sl 1580 0 2 2,.sl 1585 0 2 2,.sl 1590 0 2 2]
def bl19:List AV:=[.sl 1607 0 1 1,.sl 1609 0 1 1]
def bl20:List AV:=[.sl 1603 0 0 0,.sl 1605 0 1 1]
def bl21:List AV:=[vM .i64 0,vM .i64 0]
def bl22:List AV:=[.sl 2881 0 1 1]
def bl23:List AV:=[.sl 2867 0 1 1]
def bl24:List AV:=[.sl 2863 0 0 0]
def bl25:List AV:=[vI .i64 2,vI .i64 0]
def bl26:List AV:=[vI .i64 1,vI .i64 0]
def bl27:List AV:=[.sl 2952 0 1 1,.sl 2957 0 1 1,.sl 2962 0 1 1]
def bl28:List AV:=[.sl 2976 0 1 1]
def bl29:List AV:=[.sl 2974 0 0 0]
def bl30:List AV:=[vI .i64 3,vI .i64 1]
def bl31:List AV:=[.sl 3415 0 1 1,.sl 3420 0 1 1,.sl 3425 0 1 1,.sl 3430 0 1 1]
def bl32:List AV:=[.sl 3444 0 1 1]
def bl33:List AV:=[.sl 3442 0 0 0]
def bl34:List AV:=[vI .i64 0,vI .i64 1,vI .i64 1,vI .i64 0]
def bl35:List AV:=[vI .i64 1,vI .i64 0,vI .i64 0,vI .i64 0]
def bl36:List AV:=[.sl 117 0 2 2,.sl 118 0 2 2]
def bl37:List AV:=[vI .i64 0,vI .i64 0,vI .i64 0]
def bl38:List AV:=[vI .i64 0,vI .i64 1,vI .i64 1]
def bl39:List AV:=[vI .i64 0,vI .i64 0,vI .i64 1]
def bl40:List AV:=[vI .i64 0,vI .i64 1,vI .i64 0]
def bl41:List AV:=[.sl 1110 0 3 3,.sl 1102 0 3 3,.sl 1142 0 3 3,.sl 1134 0 3 3,.sl 1174 0 3 3,.sl 1166 0 3 3,.sl 1206 0 3 3,.sl 1198 0 3 3]
def bl42:List AV:=[.sl 896 0 2 2,.sl 897 0 2 2]
def bl43:List AV:=[vI .i64 0,vI .i64 0]
def glob0:List (Nat×List AV):=[]
noncomputable def H0:Mem:=⟨.tr (baseT glob0 e4),0⟩
theorem hG0:0=Tryz.prog.globals.size:=by kernel_rfl
def bs0:List (Nat×List AV):=glob0++[(20,bl0),(18,bl1),(6,bl2),(5,bl3),(3,bl4),(1,bl5),(2,bl6)]
def bs1:List (Nat×List AV):=glob0++[(531,bl0),(526,bl0),(521,bl0),(516,bl0),(509,bl7),(502,bl8),(495,bl9),(493,bl10),(548,bl2),(546,bl3),(541,bl11),(544,bl5),(539,bl12)]
def bs2:List (Nat×List AV):=glob0++[(736,bl0),(734,bl0),(732,bl0),(730,bl0),(728,bl7),(726,bl8),(724,bl9),(717,bl13),(722,bl2),(720,bl3),(715,bl14),(739,bl3),(718,bl5),(741,bl15)]
def bs3:List (Nat×List AV):=glob0++[(1590,bl0),(1585,bl0),(1580,bl0),(1575,bl0),(1570,bl0),(1565,bl0),(1558,bl16),(1551,bl17),(1544,bl7),(1537,bl8),(1530,bl9),(1528,bl18),(1609,bl2),(1607,bl3),(1600,bl19),(1605,bl3),(1603,bl5),(1598,bl20)]
def bs4:List (Nat×List AV):=glob0++[(2881,bl21),(2879,bl22),(2867,bl3),(2865,bl23),(2863,bl5),(2864,bl24)]
def bs5:List (Nat×List AV):=glob0++[(2962,bl21),(2957,bl25),(2952,bl26),(2950,bl27),(2976,bl3),(2971,bl28),(2974,bl5),(2969,bl29)]
def bs6:List (Nat×List AV):=glob0++[(3430,bl21),(3425,bl30),(3420,bl25),(3415,bl26),(3413,bl31),(3444,bl3),(3439,bl32),(3442,bl5),(3437,bl33)]
def bs7:List (Nat×List AV):=glob0++[(118,bl34),(117,bl35),(119,bl36),(20,bl0),(18,bl1),(6,bl2),(5,bl3),(3,bl4),(1,bl5),(2,bl6)]
def bs8:List (Nat×List AV):=glob0++[(1198,bl37),(1206,bl38),(1166,bl39),(1174,bl40),(1134,bl40),(1142,bl39),(1102,bl40),(1110,bl37),(1068,bl41),(736,bl0),(734,bl0),(732,bl0),(730,bl0),(728,bl7),(726,bl8),(724,bl9),(717,bl13),(722,bl2),(720,bl3),(715,bl14),(739,bl3),(718,bl5),(741,bl15)]
def bs9:List (Nat×List AV):=glob0++[(897,bl34),(896,bl35),(898,bl42),(736,bl0),(734,bl0),(732,bl0),(730,bl0),(728,bl7),(726,bl8),(724,bl9),(717,bl13),(722,bl2),(720,bl3),(715,bl14),(739,bl3),(718,bl5),(741,bl15)]
def bs10:List (Nat×List AV):=glob0++[(2379,bl43),(2378,bl26),(1590,bl0),(1585,bl0),(1580,bl0),(1575,bl0),(1570,bl0),(1565,bl0),(1558,bl16),(1551,bl17),(1544,bl7),(1537,bl8),(1530,bl9),(1528,bl18),(1609,bl2),(1607,bl3),(1600,bl19),(1605,bl3),(1603,bl5),(1598,bl20)]
end Go.Ai
end
