/- A small verified interpreter over names, its proofs, and what was proved with it. No condition. -/
import Derived.Test.YtpimmmnkcgnjjaaGreatN20
import Derived.Test.YtpimmmnkcgnjjaaGreatN21
set_option linter.all false
set_option linter.deprecated false
section
namespace Go.Ai
open Go.Proofs
set_option maxRecDepth 10000
set_option maxHeartbeats 40000000
theorem newLen (I:Nat) : (rowsL I []).length=1:=by rw [rowsL_nil]; rfl
theorem newRow {I:Nat} {r:List (Int×Int)} (h:r∈rowsL I []) : r=List.replicate I (-1,-1):=by rw [rowsL_nil] at h; exact List.mem_singleton.1 h
theorem newAsks_w {I:Nat} {o:Int} (h1:1≤I) (h2:I≤16) (h3:1≤o) (h4:o≤16) (hgo:goT I o (rowsL I []) 0 1=some (rowsL I []).length) (g:Nat→Option Blk) (n:Nat) (sv ev tv:AV) (hT:TabV g n [[]] (ones I) (rowsL I []) sv ev tv) :
  WC 0 Tryz.prog 14 [.agg [.lit (.int .i64 I),.lit (.int .i64 o),sv,ev,.lit (.int .i64 I),.lit (.int .i64 o),tv]] ⟨.fn g,n⟩ fun r=>∃ B g' n',r=.ret (.tup [.sl B 0 (I * I) (I * I),.lit (.int .i64 0)]) ⟨.fn g',n'⟩∧n≤n'∧∀ b,b < n→g' b=g b:=by
 have h1s:=hT.s.one
 have h1e:=hT.e.one
 have h1t:=hT.t.choose_spec.1.one
 have hE:∀ e∈ones I,0 < e.length∧e.length≤300∧inW e I=true:=fun e he=>by
  obtain ⟨i,hi,rfl⟩:=ones_mem.1 he
  exact ⟨by simp,by simp,by simp [inW]; omega⟩
 have hol:(ones I).length=I:=by simp [ones]
 have hII:I * I≤256:=Nat.mul_le_mul h2 h2
 refine WC.mono (TAsks_w (.lit (.int .i64 I)) (.lit (.int .i64 o)) sv ev (.lit (.int .i64 I)) (.lit (.int .i64 o)) tv (by simp [h1s,h1e,h1t]) (fun l=>l.Perm (ones I++pairsI I)) (fun l hl=>?_) g n (fun gX n2 hn hX=>?_) fun gX n2 hn hX=>?_) ?_
 ·refine ⟨?_,fun w hw=>?_⟩
  ·rw [hl.length_eq,List.length_append,hol]
   have:(pairsI I).length=I * I:=by
    have:=leaf_new h1 (List.Perm.refl (ones I++pairsI I))
    have h9:=List.length_filter_le (fun w=>!frontM (ones I++pairsI I) w) (ones I++pairsI I)
    unfold pairsI
    have hs:∀ L:List Nat,(L.map ((fun _=>I) ∘ fun i:Nat=>[(i:Int)])).sum=L.length * I:=fun L=>by
     induction L with
     | nil=>simp
     | cons a L ih=>rw [List.map_cons,List.sum_cons,ih,List.length_cons,Nat.add_mul]; simp; omega
    simp [ones,hs]
   omega
  ·rcases List.mem_append.1 (hl.mem_iff.1 hw) with h | h
   ·obtain ⟨i,hi,rfl⟩:=ones_mem.1 h
    exact ⟨by simp,fun j hj=>by simp at hj; omega⟩
   ·obtain ⟨i,j,hi,hj,rfl⟩:=pairs_mem.1 h
    exact ⟨by simp,fun k hk=>by simp at hk; omega⟩
 ·have hX2:=hT.mono hn hX
  have:=TabCheck_w I o I o [[]] (ones I) (rowsL I []) gX n2 sv ev tv (hX2.s.listT (by simp) fun w hw=>by rw [List.mem_singleton.1 hw]; simp) (hX2.e.listT (by omega) fun w hw=>by have:=hE w hw; omega) ⟨by rw [newLen]; omega,fun r hr=>by rw [newRow hr,List.length_replicate]; omega,hX2.t⟩
  rw [tab_new h1 h2 h3 h4 hgo] at this
  exact this
 ·have hX2:=hT.mono hn hX
  refine WC.mono (tasks_w (T:=rowsL I []) h1 h2 (S:=[[]]) (E:=ones I) (by simp) (fun w hw=>by rw [List.mem_singleton.1 hw]; exact ⟨by simp,rfl⟩) (by omega) hE (by rw [newLen]; omega) (fun r hr=>by
   rw [newRow hr]
   refine ⟨List.length_replicate ..,fun e he=>.inl ?_⟩
   rw [(List.mem_replicate.1 he).2]) (.lit (.int .i64 o)) (.lit (.int .i64 I)) (.lit (.int .i64 o)) rfl gX n2 sv ev tv hX2.s.listV hX2.e.listV hX2.t (by rw [unks_new]; exact news_nodup I)) ?_
  rintro _ ⟨l',ov,g',n',rfl,q1,q2,q3,q4,q5⟩
  rw [unks_new] at q3
  exact ⟨l',ov,g',n',rfl,q3,q1,q2,q5⟩
 ·rintro _ ⟨l,rv,g',n',rfl,hl,hn,hg,B,cs,rfl,_⟩
  rw [leaf_new h1 hl]
  exact ⟨B,g',n',rfl,hn,hg⟩
theorem tablesNew_w (x o:Int) (g:Nat→Option Blk) (n:Nat) : WC 0 Tryz.prog 3 [.lit (.int .i64 x),.lit (.int .i64 o)] ⟨.fn g,n⟩ fun r=>r=.ret (.lit (.bool true)) ⟨.fn g,n⟩:=by
 refine WC.drop1 rfl ?_
 have HN:=Hide.mk (TNew_w x o g n)
 have HLV:=Hide.mk lives_w
 by_cases h1:16 < x
 ·have he:newErr x o=3:=by unfold newErr; rw [if_pos (.inl h1)]
  refine WC.enterP (noO_ok _ _) hG [] Tryz.func3 rfl (by decide +kernel) (Nat.le_of_ble_eq_true (by kernel_rfl)) ?_
  iterate 8 all_goals try first|with_reducible refine splitI (fun h=>?_) fun h=>?_|with_reducible refine splitBI (fun h=>?_) fun h=>?_|simp (maxSteps:=999999) (disch:=first|assumption|omega|(simp;done)|fail) [Tryz.results3, *]
  refine WC.mono HN.out ?_
  rintro _ ⟨g1,n1,hn1,hg1,⟨_,rfl⟩ | ⟨h0,_⟩⟩
  ·rw [he]
   have HG1:=Hide.mk hg1
   clear hg1
   iterate 8 all_goals try first|with_reducible refine splitI (fun h=>?_) fun h=>?_|with_reducible refine splitBI (fun h=>?_) fun h=>?_|simp (maxSteps:=999999) (disch:=first|assumption|omega|(simp;done)|fail) [Tryz.results3, *]
   refine WC.mono (HLV.out _) ?_
   rintro _ rfl
   iterate 8 all_goals try first|with_reducible refine splitI (fun h=>?_) fun h=>?_|with_reducible refine splitBI (fun h=>?_) fun h=>?_|simp (maxSteps:=999999) (disch:=first|assumption|omega|(simp;done)|fail) [Tryz.results3, *]
   exact ⟨show n≤n1+1 by omega,fun b (hb:b < n)=>(gput_lt (by omega)).trans (HG1.out b hb)⟩
  ·rw [he] at h0; cases h0
 by_cases h2:16 < o
 ·have he:newErr x o=3:=by unfold newErr; rw [if_pos (.inr h2)]
  refine WC.enterP (noO_ok _ _) hG [] Tryz.func3 rfl (by decide +kernel) (Nat.le_of_ble_eq_true (by kernel_rfl)) ?_
  iterate 8 all_goals try first|with_reducible refine splitI (fun h=>?_) fun h=>?_|with_reducible refine splitBI (fun h=>?_) fun h=>?_|simp (maxSteps:=999999) (disch:=first|assumption|omega|(simp;done)|fail) [Tryz.results3, *]
  refine WC.mono HN.out ?_
  rintro _ ⟨g1,n1,hn1,hg1,⟨_,rfl⟩ | ⟨h0,_⟩⟩
  ·rw [he]
   have HG1:=Hide.mk hg1
   clear hg1
   iterate 8 all_goals try first|with_reducible refine splitI (fun h=>?_) fun h=>?_|with_reducible refine splitBI (fun h=>?_) fun h=>?_|simp (maxSteps:=999999) (disch:=first|assumption|omega|(simp;done)|fail) [Tryz.results3, *]
   refine WC.mono (HLV.out _) ?_
   rintro _ rfl
   iterate 8 all_goals try first|with_reducible refine splitI (fun h=>?_) fun h=>?_|with_reducible refine splitBI (fun h=>?_) fun h=>?_|simp (maxSteps:=999999) (disch:=first|assumption|omega|(simp;done)|fail) [Tryz.results3, *]
   exact ⟨show n≤n1+1 by omega,fun b (hb:b < n)=>(gput_lt (by omega)).trans (HG1.out b hb)⟩
  ·rw [he] at h0; cases h0
 by_cases h3:x < 1
 ·have he:newErr x o=1:=by unfold newErr; rw [if_neg (by omega),if_pos (.inl h3)]
  refine WC.enterP (noO_ok _ _) hG [] Tryz.func3 rfl (by decide +kernel) (Nat.le_of_ble_eq_true (by kernel_rfl)) ?_
  iterate 8 all_goals try first|with_reducible refine splitI (fun h=>?_) fun h=>?_|with_reducible refine splitBI (fun h=>?_) fun h=>?_|simp (maxSteps:=999999) (disch:=first|assumption|omega|(simp;done)|fail) [Tryz.results3, *]
  refine WC.mono HN.out ?_
  rintro _ ⟨g1,n1,hn1,hg1,⟨_,rfl⟩ | ⟨h0,_⟩⟩
  ·rw [he]
   have HG1:=Hide.mk hg1
   clear hg1
   iterate 8 all_goals try first|with_reducible refine splitI (fun h=>?_) fun h=>?_|with_reducible refine splitBI (fun h=>?_) fun h=>?_|simp (maxSteps:=999999) (disch:=first|assumption|omega|(simp;done)|fail) [Tryz.results3, *]
   refine WC.mono (HLV.out _) ?_
   rintro _ rfl
   iterate 8 all_goals try first|with_reducible refine splitI (fun h=>?_) fun h=>?_|with_reducible refine splitBI (fun h=>?_) fun h=>?_|simp (maxSteps:=999999) (disch:=first|assumption|omega|(simp;done)|fail) [Tryz.results3, *]
   exact ⟨show n≤n1+1 by omega,fun b (hb:b < n)=>(gput_lt (by omega)).trans (HG1.out b hb)⟩
  ·rw [he] at h0; cases h0
 by_cases h4:o < 1
 ·have he:newErr x o=1:=by unfold newErr; rw [if_neg (by omega),if_pos (.inr h4)]
  refine WC.enterP (noO_ok _ _) hG [] Tryz.func3 rfl (by decide +kernel) (Nat.le_of_ble_eq_true (by kernel_rfl)) ?_
  iterate 8 all_goals try first|with_reducible refine splitI (fun h=>?_) fun h=>?_|with_reducible refine splitBI (fun h=>?_) fun h=>?_|simp (maxSteps:=999999) (disch:=first|assumption|omega|(simp;done)|fail) [Tryz.results3, *]
  refine WC.mono HN.out ?_
  rintro _ ⟨g1,n1,hn1,hg1,⟨_,rfl⟩ | ⟨h0,_⟩⟩
  ·rw [he]
   have HG1:=Hide.mk hg1
   clear hg1
   iterate 8 all_goals try first|with_reducible refine splitI (fun h=>?_) fun h=>?_|with_reducible refine splitBI (fun h=>?_) fun h=>?_|simp (maxSteps:=999999) (disch:=first|assumption|omega|(simp;done)|fail) [Tryz.results3, *]
   refine WC.mono (HLV.out _) ?_
   rintro _ rfl
   iterate 8 all_goals try first|with_reducible refine splitI (fun h=>?_) fun h=>?_|with_reducible refine splitBI (fun h=>?_) fun h=>?_|simp (maxSteps:=999999) (disch:=first|assumption|omega|(simp;done)|fail) [Tryz.results3, *]
   exact ⟨show n≤n1+1 by omega,fun b (hb:b < n)=>(gput_lt (by omega)).trans (HG1.out b hb)⟩
  ·rw [he] at h0; cases h0
 have he:newErr x o=0:=by unfold newErr; rw [if_neg (by omega),if_neg (by omega)]
 refine WC.enterP (noO_ok _ _) hG [] Tryz.func3 rfl (by decide +kernel) (Nat.le_of_ble_eq_true (by kernel_rfl)) ?_
 iterate 8 all_goals try first|with_reducible refine splitI (fun h=>?_) fun h=>?_|with_reducible refine splitBI (fun h=>?_) fun h=>?_|simp (maxSteps:=999999) (disch:=first|assumption|omega|(simp;done)|fail) [Tryz.results3, *]
 refine WC.mono HN.out ?_
 rintro _ ⟨g1,n1,hn1,hg1,⟨h0,_⟩ | ⟨_,I,rfl,q1,q2,q3,q4,b1,b2,b3,rfl,hT,hgo⟩⟩
 ·exact absurd he h0
 have HG1:=Hide.mk hg1
 have h1s:=hT.s.one
 have h1e:=hT.e.one
 have h1t:=hT.t.choose_spec.1.one
 have HA:=Hide.mk fun (gX:Nat→Option Blk) (n2:Nat) (hn:n1≤n2) (hX:∀ b,b < n1→gX b=g1 b)=>newAsks_w q1 q2 q3 q4 hgo gX n2 _ _ _ (hT.mono hn hX)
 have HC:=Hide.mk fun (gX:Nat→Option Blk) (n2:Nat) (hn:n1≤n2) (hX:∀ b,b < n1→gX b=g1 b)=>(show WC 0 Tryz.prog 15 [.agg [.lit (.int .i64 I),.lit (.int .i64 o),.sl b1 0 1 1,.sl b2 0 I I,.lit (.int .i64 I),.lit (.int .i64 o),.sl b3 0 (rowsL I []).length (rowsL I []).length]] ⟨.fn gX,n2⟩ fun r=>r=.ret (.lit (.int .i64 0)) ⟨.fn gX,n2⟩ from by
  have hX2:=hT.mono hn hX
  have:=rCheck_w I o I o [[]] (ones I) (rowsL I []) gX n2 (.sl b1 0 1 1) (.sl b2 0 I I) (.sl b3 0 (rowsL I []).length (rowsL I []).length) ⟨by simp,fun w hw=>by rw [List.mem_singleton.1 hw]; simp,hX2.s⟩ ⟨by simp [ones]; omega,fun w hw=>by obtain ⟨i,hi,rfl⟩:=ones_mem.1 hw; simp,hX2.e⟩ ⟨by rw [newLen]; omega,fun r hr=>by rw [newRow hr,List.length_replicate]; omega,hX2.t⟩ (fun _ _ _ _ e=>by cases e; exact Nat.le_refl _) (fun _ _ _ _ e=>by cases e; exact Nat.le_refl _)
  rw [tab_new q1 q2 q3 q4 hgo] at this
  exact this)
 have hl1:(rowsL I []).length=1:=newLen I
 rw [hl1] at h1t HA HC ⊢
 have hII:I * I≤256:=Nat.mul_le_mul q2 q2
 have hm:(I:Int) * (I:Int)=((I * I:Nat) : Int):=by simp
 clear hg1 hT hgo HN
 generalize I * I=Q at *
 iterate 8 all_goals try first|with_reducible refine splitI (fun h=>?_) fun h=>?_|with_reducible refine splitBI (fun h=>?_) fun h=>?_|simp (maxSteps:=999999) (disch:=first|assumption|omega|(simp;done)|fail) [Tryz.results3, *]
 refine WC.mono (HA.out _ _ (by omega) fun b hb=>gput_lt hb) ?_
 rintro _ ⟨B,g2,n2,rfl,hn2,hg2⟩
 have hb5:=(hg2 n1 (by omega)).trans gput_eq
 have HG2:=Hide.mk hg2
 clear hg2
 iterate 8 all_goals try first|with_reducible refine splitI (fun h=>?_) fun h=>?_|with_reducible refine splitBI (fun h=>?_) fun h=>?_|simp (maxSteps:=999999) (disch:=first|assumption|omega|(simp;done)|fail) [Tryz.results3, *]
 refine WC.mono (HC.out _ _ (by omega) fun b hb=>(HG2.out b (by omega)).trans (gput_lt hb)) ?_
 rintro _ rfl
 iterate 8 all_goals try first|with_reducible refine splitI (fun h=>?_) fun h=>?_|with_reducible refine splitBI (fun h=>?_) fun h=>?_|simp (maxSteps:=999999) (disch:=first|assumption|omega|(simp;done)|fail) [Tryz.results3, *]
 refine WC.mono (HLV.out _) ?_
 rintro _ rfl
 iterate 8 all_goals try first|with_reducible refine splitI (fun h=>?_) fun h=>?_|with_reducible refine splitBI (fun h=>?_) fun h=>?_|simp (maxSteps:=999999) (disch:=first|assumption|omega|(simp;done)|fail) [Tryz.results3, *]
 exact ⟨show n≤n2 by omega,fun b (hb:b < n)=>(HG2.out b (by omega)).trans ((gput_lt (by omega)).trans (HG1.out b hb))⟩
end Go.Ai
end
