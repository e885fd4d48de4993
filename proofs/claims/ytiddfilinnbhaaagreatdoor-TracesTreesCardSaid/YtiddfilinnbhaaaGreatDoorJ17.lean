/- A small verified interpreter over names, its proofs, and what was proved with it. No condition. -/
import Derived.Test.YtiddfilinnbhaaaGreatDoorJ15
import Derived.Test.YtiddfilinnbhaaaGreatDoorJ16
import Derived.Test.YtiddfilinnbhaaaGreatDoorJ13
import Derived.Test.YtiddfilinnbhaaaGreatDoorJ11
set_option linter.all false
set_option linter.deprecated false
section
namespace Go.Ai
open Go.Proofs
set_option maxRecDepth 10000
set_option maxHeartbeats 40000000
theorem Answer_bad {I O:Int} {T:List (List (Int×Int))} (hf:¬treeErr I O T=0) (hl:T.length≤1000000) (hw:∀ r∈T,r.length≤1000000) (g:Nat→Option Blk) (n:Nat) (tv wv:AV) (h1w:oneC wv=true) (hT:TreeV g n T tv) :
  WC 3 Tryz.prog 30 [.agg [.lit (.int .i64 I),.lit (.int .i64 O),tv],wv] ⟨.fn g,n⟩ fun r=>r=.ret (.tup [.lit (.slice none 0 0),.lit (.bool false),.lit (.int .i64 (treeErr I O T))]) ⟨.fn g,n⟩:=by
 refine WC.drop1 rfl ?_
 have h1t:=hT.choose_spec.1.one
 have hone:allOne [.lit (.int .i64 I),.lit (.int .i64 O),tv]=true:=by simp [h1t]
 have HCK:=Hide.mk fun (gX:Nat→Option Blk) (n2:Nat) (hn:n≤n2) (hX:∀ b,b < n→gX b=g b)=>(let ⟨svs,h1,h2,h3⟩:=hT.mono hn hX; CheckTree_w I O T hl hw gX n2 tv svs h1 ⟨h2,h3⟩)
 clear hT
 generalize treeErr I O T=f at *
 refine WC.enterP (noO_ok _ _) hG [] Tryz.func30 rfl (by decide +kernel) (Nat.le_of_ble_eq_true (by kernel_rfl)) ?_
 iterate 8 (all_goals try (first | with_reducible refine splitI (fun h=>?_) (fun h=>?_) | with_reducible refine splitBI (fun h=>?_) (fun h=>?_) | simp (config:={ maxSteps:=1000000 }) (disch:=first | assumption | omega | (simp; done) | fail) [Tryz.results30, *]))
 refine WC.mono (HCK.out _ _ (by omega) fun b hb=>gput_lt hb) ?_
 rintro _ rfl
 iterate 8 (all_goals try (first | with_reducible refine splitI (fun h=>?_) (fun h=>?_) | with_reducible refine splitBI (fun h=>?_) (fun h=>?_) | simp (config:={ maxSteps:=1000000 }) (disch:=first | assumption | omega | (simp; done) | fail) [Tryz.results30, *]))
 exact ⟨Nat.le_succ n,fun b hb=>gput_lt hb⟩
theorem Back_bad {I O:Int} {T:List (List (Int×Int))} (hf:¬treeErr I O T=0) (hl:T.length≤1000000) (hw:∀ r∈T,r.length≤1000000) (g:Nat→Option Blk) (n:Nat) (tv:AV) (hT:TreeV g n T tv) :
  WC 3 Tryz.prog 34 [.agg [.lit (.int .i64 I),.lit (.int .i64 O),tv]] ⟨.fn g,n⟩ fun r=>∃ g' n',r=.ret (.tup [.agg [.lit (.int .i64 0),.lit (.int .i64 0),.lit (.slice none 0 0)],.lit (.int .i64 (treeErr I O T))]) ⟨.fn g',n'⟩∧n≤n'∧∀ b,b < n→g' b=g b:=by
 have h1t:=hT.choose_spec.1.one
 have hone:allOne [.lit (.int .i64 I),.lit (.int .i64 O),tv]=true:=by simp [h1t]
 have HCK:=Hide.mk fun (gX:Nat→Option Blk) (n2:Nat) (hn:n≤n2) (hX:∀ b,b < n→gX b=g b)=>(let ⟨svs,h1,h2,h3⟩:=hT.mono hn hX; CheckTree_w I O T hl hw gX n2 tv svs h1 ⟨h2,h3⟩)
 clear hT
 generalize treeErr I O T=f at *
 refine WC.enterP (noO_ok _ _) hG pl34 Tryz.func34 rfl (by decide +kernel) (Nat.le_of_ble_eq_true (by kernel_rfl)) ?_
 iterate 8 (all_goals try (first | with_reducible refine splitI (fun h=>?_) (fun h=>?_) | with_reducible refine splitBI (fun h=>?_) (fun h=>?_) | simp (config:={ maxSteps:=1000000 }) (disch:=first | assumption | omega | (simp; done) | fail) [Tryz.results34, *]))
 refine WC.mono (HCK.out _ _ (by omega) fun b hb=>by simp (disch:=omega) only [gput_lt]) ?_
 rintro _ rfl
 iterate 8 (all_goals try (first | with_reducible refine splitI (fun h=>?_) (fun h=>?_) | with_reducible refine splitBI (fun h=>?_) (fun h=>?_) | simp (config:={ maxSteps:=1000000 }) (disch:=first | assumption | omega | (simp; done) | fail) [Tryz.results34, *]))
 exact ⟨_,_,⟨rfl,rfl⟩,by omega,fun b (hb:b < n)=>by simp (disch:=omega) only [gput_lt]⟩
theorem Answer_err {I:Nat} {O:Int} {T:List (List (Int×Int))} (hI1:1≤I) (hI2:I≤16) (hO1:1≤O) (hO2:O≤16) (h0:0 < T.length) (hl:T.length≤65537) (hgo:goT I O T 0 1=some T.length) {w:List Int} (hwl:w.length≤1000000) (hwe:¬wErr w I=0) (g:Nat→Option Blk) (n:Nat) (tv wv:AV) (hT:TreeV g n T tv) (hW:RepW g n w wv) :
  WC 3 Tryz.prog 30 [.agg [.lit (.int .i64 I),.lit (.int .i64 O),tv],wv] ⟨.fn g,n⟩ fun r=>r=.ret (.tup [.lit (.slice none 0 0),.lit (.bool false),.lit (.int .i64 (wErr w I))]) ⟨.fn g,n⟩:=by
 refine WC.drop1 rfl ?_
 have h1t:=hT.choose_spec.1.one
 have hone:allOne [.lit (.int .i64 I),.lit (.int .i64 O),tv]=true:=by simp [h1t]
 have HCK:=Hide.mk fun (gX:Nat→Option Blk) (n2:Nat) (hn:n≤n2) (hX:∀ b,b < n→gX b=g b)=>check_tree hI1 hI2 hO1 hO2 h0 hl hgo (fun r hr=>by have:=(okT_of hgo r hr).1; omega) gX n2 tv (hT.mono hn hX)
 have HWE:=Hide.mk fun (gX:Nat→Option Blk) (n2:Nat) (hn:n≤n2) (hX:∀ b,b < n→gX b=g b)=>wCheck_w w hwl I gX n2 wv (SliceV.mono hn hX hW)
 clear hT hW hgo
 generalize wErr w I=f at *
 refine WC.enterP (noO_ok _ _) hG [] Tryz.func30 rfl (by decide +kernel) (Nat.le_of_ble_eq_true (by kernel_rfl)) ?_
 iterate 8 (all_goals try (first | with_reducible refine splitI (fun h=>?_) (fun h=>?_) | with_reducible refine splitBI (fun h=>?_) (fun h=>?_) | simp (config:={ maxSteps:=1000000 }) (disch:=first | assumption | omega | (simp; done) | fail) [Tryz.results30, *]))
 refine WC.mono (HCK.out _ _ (by omega) fun b hb=>gput_lt hb) ?_
 rintro _ rfl
 iterate 8 (all_goals try (first | with_reducible refine splitI (fun h=>?_) (fun h=>?_) | with_reducible refine splitBI (fun h=>?_) (fun h=>?_) | simp (config:={ maxSteps:=1000000 }) (disch:=first | assumption | omega | (simp; done) | fail) [Tryz.results30, *]))
 refine WC.mono (HWE.out _ _ (by omega) fun b hb=>gput_lt hb) ?_
 rintro _ rfl
 iterate 8 (all_goals try (first | with_reducible refine splitI (fun h=>?_) (fun h=>?_) | with_reducible refine splitBI (fun h=>?_) (fun h=>?_) | simp (config:={ maxSteps:=1000000 }) (disch:=first | assumption | omega | (simp; done) | fail) [Tryz.results30, *]))
 exact ⟨Nat.le_succ n,fun b hb=>gput_lt hb⟩
theorem refL_len (n:Nat) : ∀ (row:List (Int×Int)) (i:Nat),(refL n row i).length≤row.length
 | [],_=>Nat.le_refl _
 | e :: row,i=>by
  have:=refL_len n row (i+1)
  show ((if e.1 = -1∧e.2 = -2 then [(n,(i:Int))] else [])++refL n row (i+1)).length≤row.length+1
  rw [List.length_append]
  split
  ·rw [List.length_singleton]; omega
  ·rw [List.length_nil]; omega
theorem endsM_len {k:Nat} : ∀ {T:List (List (Int×Int))} {n:Nat},(∀ r∈T,r.length≤k)→(endsM T n).length≤T.length * (k+1)
 | [],_,_=>by simp [endsM]
 | r :: T,n,h=>by
  have h1:=endsM_len (T:=T) (n:=n+1) fun x hx=>h x (by simp [hx])
  have h2:=refL_len n r 0
  have h3:=h r (by simp)
  have e:(T.length+1) * (k+1)=T.length * (k+1)+(k+1):=by rw [Nat.add_mul,Nat.one_mul]
  show (endR n r++endsM T (n+1)).length≤(T.length+1) * (k+1)
  unfold endR
  rw [List.length_append,List.length_append,e]
  generalize T.length * (k+1)=P at *
  split
  ·rw [List.length_singleton]; omega
  ·rw [List.length_nil]; omega
theorem end_lt {T:List (List (Int×Int))} {s:Nat×Int} (h:s∈endsM T 0) : s.1 < T.length:=by
 rcases end_iff.1 h with ⟨k,h1,i,h2,h3,rfl⟩ | ⟨k,h1,h2,rfl⟩ <;> exact h1
theorem eW_le {T:List (List (Int×Int))} {W:List (List Int)} (hL:Lab T W) {s:Nat×Int} (h:s∈endsM T 0) : (eW W s).length≤T.length:=by
 have h1:=end_lt h
 have h2:=hL.le s.1 s.1 (Nat.le_refl _) h1
 unfold eW
 rw [List.length_append]
 split
 ·rw [List.length_nil]; omega
 ·rw [List.length_singleton]; omega
theorem Back_small {I:Nat} {O:Int} {T:List (List (Int×Int))} (hf:treeErr I O T=0) (hl:T.length≤40) (g:Nat→Option Blk) (n:Nat) (tv:AV) (hT:TreeV g n T tv) :
  WC 3 Tryz.prog 34 [.agg [.lit (.int .i64 I),.lit (.int .i64 O),tv]] ⟨.fn g,n⟩ fun r=>∃ lv g' n',r=.ret (.tup [lv,.lit (.int .i64 0)]) ⟨.fn g',n'⟩∧n≤n'∧(∀ b,b < n→g' b=g b)∧∃ B m,lv=.agg [.lit (.int .i64 I),.lit (.int .i64 O),.sl B 0 m m]:=by
 have hLab:=lab_of hf
 unfold treeErr at hf
 by_cases c1:(I:Int) > 16∨O > 16∨T.length > 65537
 ·rw [if_pos c1] at hf; cases hf
 rw [if_neg c1] at hf
 by_cases c2:(I:Int) < 1∨O < 1∨T.length < 1
 ·rw [if_pos c2] at hf; cases hf
 rw [if_neg c2] at hf
 by_cases c3:goT I O T 0 1=some T.length
 ·have hr:∀ r∈T,r.length≤16:=fun r hr=>by have:=(okT_of c3 r hr).1; omega
  have hE:=endsM_len (n:=0) hr
  have hE2:(endsM T 0).length≤680:=by omega
  have hS:=sumW_le (W:=rWords T) (k:=40) (l:=endsM T 0) fun s hs=>Nat.le_trans (eW_le hLab hs) hl
  refine WC.mono (Back_w (by omega) (by omega) (by omega) (by omega) (by omega) (by omega) c3 hLab (by omega) (fun t ht=>by have:=hLab.le t t (Nat.le_refl _) ht; omega) (fun s hs=>by have:=eW_le hLab hs; omega) (by omega) g n tv hT) ?_
  rintro _ ⟨us,cs,B,g',n',rfl,_,_,h1,h2,_⟩
  exact ⟨_,_,_,rfl,h1,h2,_,_,rfl⟩
 ·rw [if_neg c3] at hf; cases hf
end Go.Ai
end
