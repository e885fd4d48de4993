/- A small verified interpreter over names, its proofs, and what was proved with it. No condition. -/
import Derived.Test.YtiddfilinnbhaaaGreatDoorA12
set_option linter.all false
set_option linter.deprecated false
section
namespace Go.Ai
open Go.Proofs
set_option maxRecDepth 10000
set_option maxHeartbeats 40000000
theorem Against_any {M:MachM} (hM:M.ok) {I O:Int} {ts:List (List Int×List Int)} (hL:LogOK I O ts) (g:Nat→Option Blk) (n:Nat) (ms:List AV) (sv:AV) (hr:RepM g n M ms) (hT:LogR g n ts sv) :
  WC 3 Tryz.prog 17 [.agg ms,.agg [.lit (.int .i64 I),.lit (.int .i64 O),sv]] ⟨.fn g,n⟩ fun r=>∃ (a b:Int) (c:Bool) (e:Int) (gX:Nat→Option Blk) (n' : Nat),r=.ret (.tup [.agg [.lit (.int .i64 a),.lit (.int .i64 b)],.lit (.bool c),.lit (.int .i64 e)]) ⟨.fn gX,n'⟩∧n≤n'∧(∀ b,b < n→gX b=g b) ∧
   (¬M.inp=I→a=0∧b=0∧c=false∧e=5)∧(M.inp=I→devP (devF M ts 0)=(a,b)∧c=(devF M ts 0).isNone∧e=0):=by
 by_cases h:M.inp=I
 ·subst h
  refine WC.mono (Against_w hM hL g n ms sv hr hT) ?_
  rintro _ ⟨gX,n',rfl,h1,h2⟩
  exact ⟨_,_,_,_,_,_,rfl,h1,h2,fun h=>absurd rfl h,fun _=>⟨rfl,rfl,rfl⟩⟩
 ·refine WC.mono (Against_alpha hM hL h g n ms sv hr hT) ?_
  rintro _ ⟨gX,n',rfl,h1,h2⟩
  exact ⟨_,_,_,_,_,_,rfl,h1,h2,fun _=>⟨rfl,rfl,rfl,rfl⟩,fun h2=>absurd h2 h⟩
theorem tracesAgainst_w {st inp out:Nat} {part:Bool} {es:List Nat} {ev:AV} {ws:List (List Nat)} {wv:AV} (ia ib ic:Nat) (hia:ia < 256) (hib:ib < 256) (hic:ic < 256) (st2 inp2 out2:Nat) (part2:Bool) (es2:List Nat) (ev2:AV) (hst2:st2 < 256) (hinp2:inp2 < 256) (hout2:out2 < 256) (m:Int) (g:Nat→Option Blk) (n:Nat) (hI:InG g n st inp out es ev ws wv) (hes2:SliceA g n ev2 es2.length (u16Cells es2)) (heb2:∀ c∈es2,c < 65536) (h0:g 0=some (.cells [.lit (.int .i64 m)] false 0)) (hn0:3≤n) :
    WC 3 Tryz.prog 4 [.agg [.lit (.int .u8 st),.lit (.int .u8 inp),.lit (.int .u8 out),.lit (.bool part),ev,wv,.lit (.int .u8 ia),.lit (.int .u8 ib),.lit (.int .u8 ic)],.agg [.lit (.int .u8 st2),.lit (.int .u8 inp2),.lit (.int .u8 out2),.lit (.bool part2),ev2]] ⟨.fn g,n⟩ fun r=>r=.ret (.lit (.bool true)) ⟨.fn g,n⟩:=by
  refine WC.drop1 rfl ?_
  have h1e:=hI.se.one
  have h1w:=hI.sw.choose_spec.1.one
  have h1v:=hes2.one
  have hone:allOne [.lit (.int .u8 st),.lit (.int .u8 inp),.lit (.int .u8 out),.lit (.bool part),ev,wv,.lit (.int .u8 ia),.lit (.int .u8 ib),.lit (.int .u8 ic)]=true:=by simp [h1e,h1w]
  have honem:allOne [.lit (.int .u8 st2),.lit (.int .u8 inp2),.lit (.int .u8 out2),.lit (.bool part2),ev2]=true:=by simp [h1v]
  have HLV:=Hide.mk fun (gX:Nat→Option Blk) (n2:Nat) (hX:∀ b,b < n→gX b=g b)=>lives_w ⟨.fn gX,n2⟩ m ((hX 0 (by omega)).trans h0)
  have HGO:=Hide.mk fun (gX:Nat→Option Blk) (n2:Nat) (hn:n≤n2) (hX:∀ b,b < n→gX b=g b)=>GOf_w (part:=part) ia ib ic hia hib hic gX n2 (hI.mono hn hX)
  have HM1:=Hide.mk fun (gX:Nat→Option Blk) (n2:Nat) (hn:n≤n2) (hX:∀ b,b < n→gX b=g b)=>MOf_w st inp out part es ev gX n2 hI.b0 hI.b1 hI.b2 (hI.se.mono hn hX) hI.eb
  have HM2:=Hide.mk fun (gX:Nat→Option Blk) (n2:Nat) (hn:n≤n2) (hX:∀ b,b < n→gX b=g b)=>MOf_w st2 inp2 out2 part2 es2 ev2 gX n2 hst2 hinp2 hout2 (hes2.mono hn hX) heb2
  have HK1:=Hide.mk (machOf_ok st inp out part es)
  have HK2:=Hide.mk (machOf_ok st2 inp2 out2 part2 es2)
  clear hI hes2 heb2 h0
  generalize machOf st inp out part es=M at *
  generalize machOf st2 inp2 out2 part2 es2=M2 at *
  have HL:=Hide.mk (ofG_ok HK1.out ws ia ib ic)
  generalize ofG M ws ia ib ic=ts at *
  refine WC.enterP (noO_ok _ _) hG pl4 Tryz.func4 rfl (by decide +kernel) (Nat.le_of_ble_eq_true (by kernel_rfl)) ?_
  iterate 8 (all_goals try (first | with_reducible refine splitI (fun h=>?_) (fun h=>?_) | with_reducible refine splitBI (fun h=>?_) (fun h=>?_) | simp (config:={ maxSteps:=1000000 }) (disch:=first | assumption | omega | (simp; done) | fail) [Tryz.results4, *]))
  refine WC.mono (HGO.out _ _ (by omega) fun b (hb:b < n)=>by simp (disch:=omega) only [gput_lt]) ?_
  rintro _ ⟨sv,g1,n1,B,rfl,hn1,hg1,hlf⟩
  have HG1:Hide (∀ b,b < n→g1 b=g b):=⟨fun b hb=>(hg1 b (by omega)).trans (by simp (disch:=omega) only [gput_lt])⟩
  have hx1:=hg1 n (by omega)
  have hy1:=hg1 (n+1) (by omega)
  simp (disch:=omega) only [gput_lt,gput_eq] at hx1 hy1
  have HT:=Hide.mk hlf.log
  have h1sv:=hlf.one
  have honeL:allOne [.lit (.int .i64 M.inp),.lit (.int .i64 M.out),sv]=true:=by simp [h1sv]
  have hnn1:n+1+1≤n1:=hn1
  clear hg1 hlf hn1 HGO
  iterate 8 (all_goals try (first | with_reducible refine splitI (fun h=>?_) (fun h=>?_) | with_reducible refine splitBI (fun h=>?_) (fun h=>?_) | simp (config:={ maxSteps:=1000000 }) (disch:=first | assumption | omega | (simp; done) | fail) [Tryz.results4, *]))
  refine WC.mono (HM2.out _ _ (by omega) fun b (hb:b < n)=>by simp (disch:=omega) only [gput_lt]; exact HG1.out b hb) ?_
  rintro _ ⟨ms2,g2,n2,rfl,hn2,hg2,hfr2⟩
  have HG2:Hide (∀ b,b < n1→g2 b=g1 b):=⟨fun b hb=>(hg2 b (by omega)).trans (gput_lt hb)⟩
  have hl2:g2 n1=some (.cells [.lit (.int .i64 M.inp),.lit (.int .i64 M.out),sv] true 0):=(hg2 n1 (by omega)).trans gput_eq
  have hx2:=(HG2.out n (by omega)).trans hx1
  have hnn2:n1+1≤n2:=hn2
  obtain ⟨rv2,rfl,h1v2⟩:=hfr2.rep.one
  have hone2:allOne [.lit (.int .i64 M2.inp),.lit (.int .i64 M2.out),rv2]=true:=by simp [h1v2]
  have HR2:=Hide.mk hfr2.rep
  clear hg2 hn2 hfr2 HM2 hx1 hy1
  have HAG:=Hide.mk fun (gX:Nat→Option Blk) (n3:Nat) (hn:n2≤n3) (hX:∀ b,b < n2→gX b=g2 b)=>Against_any HK2.out HL.out gX n3 _ sv (HR2.out.mono hn hX) (HT.out.mono (by omega) fun b hb=>(hX b (by omega)).trans (HG2.out b hb))
  have HRA:Hide (M2.inp=M.inp→∀ (gX:Nat→Option Blk) (n3:Nat) (hn:n2≤n3) (hX:∀ b,b < n2→gX b=g2 b),WC 3 Tryz.prog 23 [.agg [.lit (.int .i64 M2.inp),.lit (.int .i64 M2.out),rv2],.agg [.lit (.int .i64 M.inp),.lit (.int .i64 M.out),sv]] ⟨.fn gX,n3⟩ _):=⟨fun he gX n3 hn hX=>by
    have hL2:=HL.out
    rw [← he] at hL2 ⊢
    exact rAgainst_w HK2.out hL2 gX n3 _ sv (HR2.out.mono hn hX) (HT.out.mono (by omega) fun b hb=>(hX b (by omega)).trans (HG2.out b hb))⟩
  iterate 8 (all_goals try (first | with_reducible refine splitI (fun h=>?_) (fun h=>?_) | with_reducible refine splitBI (fun h=>?_) (fun h=>?_) | simp (config:={ maxSteps:=1000000 }) (disch:=first | assumption | omega | (simp; done) | fail) [Tryz.results4, *]))
  refine WC.mono (HAG.out _ _ (by omega) fun b (hb:b < n2)=>by simp (disch:=omega) only [gput_lt]) ?_
  rintro _ ⟨a1,b1,c1,e1,g3,n3,rfl,hn3,hg3,hNE,hEQ⟩
  have hcase:(M2.inp=M.inp∧c1=true∧e1=0)∨(M2.inp=M.inp∧c1=false∧e1=0)∨(¬M2.inp=M.inp∧a1=0∧b1=0∧c1=false∧e1=5):=by
    by_cases hI:M2.inp=M.inp
    · obtain ⟨_,_,h3⟩:=hEQ hI
      cases c1
      · exact .inr (.inl ⟨hI,rfl,h3⟩)
      · exact .inl ⟨hI,rfl,h3⟩
    · obtain ⟨h1,h2,h3,h4⟩:=hNE hI
      exact .inr (.inr ⟨hI,h1,h2,h3,h4⟩)
  have HRB:Hide (M2.inp=M.inp→∀ (gX:Nat→Option Blk) (n3:Nat) (hn:n2≤n3) (hX:∀ b,b < n2→gX b=g2 b),WC 3 Tryz.prog 23 [.agg [.lit (.int .i64 M.inp),.lit (.int .i64 M2.out),rv2],.agg [.lit (.int .i64 M.inp),.lit (.int .i64 M.out),sv]] ⟨.fn gX,n3⟩ fun r=>∃ gY n',r=.ret (.tup [.agg [.lit (.int .i64 a1),.lit (.int .i64 b1)],.lit (.bool (!c1))]) ⟨.fn gY,n'⟩∧n3≤n'∧∀ b,b < n3→gY b=gX b):=⟨fun he gX n3 hn hX=>by
    obtain ⟨h1,h2,_⟩:=hEQ he
    have h3:=HRA.out he gX n3 hn hX
    rw [he,h1,show (devF M2 ts 0).isSome = !c1 by rw [h2]; cases devF M2 ts 0 <;> rfl] at h3
    exact h3⟩
  clear hNE hEQ HRA
  have hcc:((devF M ts 0).isNone=true∧(devF M ts 0).isSome=false)∨((devF M ts 0).isNone=false∧(devF M ts 0).isSome=true):=by cases devF M ts 0 <;> simp
  rcases hcase with ⟨hI,rfl,rfl⟩ | ⟨hI,rfl,rfl⟩ | ⟨hI,rfl,rfl,rfl,rfl⟩ <;> rcases hcc with hNN | hNN
  all_goals
    have HNN:=Hide.mk hNN
    clear hNN
    have HG3:Hide (∀ b,b < n2→g3 b=g2 b):=⟨fun b hb=>(hg3 b (by omega)).trans (gput_lt hb)⟩
    have hm3:g3 n2=some (.cells [.lit (.int .i64 M2.inp),.lit (.int .i64 M2.out),rv2] true 0):=(hg3 n2 (by omega)).trans gput_eq
    have hl3:=(HG3.out n1 (by omega)).trans hl2
    have hx3:=(HG3.out n (by omega)).trans hx2
    have hnn3:n2+1≤n3:=hn3
    clear hg3 hn3 hl2 hx2 HAG
    iterate 8 (all_goals try (first | with_reducible refine splitI (fun h=>?_) (fun h=>?_) | with_reducible refine splitBI (fun h=>?_) (fun h=>?_) | simp (config:={ maxSteps:=1000000 }) (disch:=first | assumption | omega | (simp; done) | fail) [Tryz.results4, *]))
    refine WC.mono (HM1.out _ _ (by omega) fun b (hb:b < n)=>by simp (disch:=omega) only [gput_lt]; rw [HG3.out b (by omega),HG2.out b (by omega),HG1.out b hb]) ?_
    rintro _ ⟨ms1,g4,n4,rfl,hn4,hg4,hfr4⟩
    have hz4:=hg4 (n3+1) (by omega)
    have hp4:=hg4 n3 (by omega)
    simp (disch:=omega) only [gput_lt,gput_eq] at hz4 hp4
    have HG4:Hide (∀ b,b < n3→g4 b=g3 b):=⟨fun b hb=>(hg4 b (by omega)).trans (by simp (disch:=omega) only [gput_lt])⟩
    have hm4:=(HG4.out n2 (by omega)).trans hm3
    have hl4:=(HG4.out n1 (by omega)).trans hl3
    have hx4:=(HG4.out n (by omega)).trans hx3
    have hnn4:n3+1+1≤n4:=hn4
    have HA1:=Hide.mk (Against_w HK1.out HL.out g4 n4 _ sv hfr4.rep (HT.out.mono (by omega) fun b hb=>by rw [HG4.out b (by omega),HG3.out b (by omega),HG2.out b hb]))
    obtain ⟨rv1,rfl,h1v1⟩:=hfr4.rep.one
    have hone1:allOne [.lit (.int .i64 M.inp),.lit (.int .i64 M.out),rv1]=true:=by simp [h1v1]
    clear hg4 hn4 hl3 hx3 hm3 hfr4
    iterate 8 (all_goals try (first | with_reducible refine splitI (fun h=>?_) (fun h=>?_) | with_reducible refine splitBI (fun h=>?_) (fun h=>?_) | simp (config:={ maxSteps:=1000000 }) (disch:=first | assumption | omega | (simp; done) | fail) [Tryz.results4, *]))
    refine WC.mono HA1.out ?_
    obtain ⟨a,b,hab⟩:=devP_ex (devF M ts 0)
    rw [hab,HNN.out.1]
    have HAB:=Hide.mk hab
    clear hab
    rintro _ ⟨g5,n5,rfl,hn5,hg5⟩
    have HG5:=Hide.mk hg5
    have hz5:=(hg5 (n3+1) (by omega)).trans hz4
    have hp5:=(hg5 n3 (by omega)).trans hp4
    have hm5:=(hg5 n2 (by omega)).trans hm4
    have hl5:=(hg5 n1 (by omega)).trans hl4
    have hx5:=(hg5 n (by omega)).trans hx4
    clear hg5 hl4 hx4 hm4 hp4 hz4 HA1
    iterate 8 (all_goals try (first | with_reducible refine splitI (fun h=>?_) (fun h=>?_) | with_reducible refine splitBI (fun h=>?_) (fun h=>?_) | simp (config:={ maxSteps:=1000000 }) (disch:=first | assumption | omega | (simp; done) | fail) [Tryz.results4, *]))
    refine WC.mono (HM1.out _ _ (by omega) fun b (hb:b < n)=>by simp (disch:=omega) only [gput_lt]; rw [HG5.out b (by omega),HG4.out b (by omega),HG3.out b (by omega),HG2.out b (by omega),HG1.out b hb]) ?_
    rintro _ ⟨ms3,g6,n6,rfl,hn6,hg6,hfr6⟩
    have HG6:Hide (∀ b,b < n5→b≠n3+1→g6 b=g5 b):=⟨fun b hb hne=>(hg6 b (by omega)).trans (by simp (disch:=omega) only [gput_lt,gput_ne])⟩
    have hz6:=hg6 n5 (by omega)
    have hq6:=hg6 (n3+1) (by omega)
    simp (disch:=omega) only [gput_lt,gput_eq] at hz6 hq6
    have hp6:=(HG6.out n3 (by omega) (by omega)).trans hp5
    have hm6:=(HG6.out n2 (by omega) (by omega)).trans hm5
    have hl6:=(HG6.out n1 (by omega) (by omega)).trans hl5
    have hnn6:n5+1≤n6:=hn6
    have HA3:=Hide.mk (rAgainst_w HK1.out HL.out g6 n6 _ sv hfr6.rep (HT.out.mono (by omega) fun b hb=>by rw [HG6.out b (by omega) (by omega),HG5.out b (by omega),HG4.out b (by omega),HG3.out b (by omega),HG2.out b hb]))
    obtain ⟨rv3,rfl,h1v3⟩:=hfr6.rep.one
    have hone3:allOne [.lit (.int .i64 M.inp),.lit (.int .i64 M.out),rv3]=true:=by simp [h1v3]
    rw [HAB.out] at HA3
    clear hg6 hn6 hl5 hx5 hm5 hp5 hfr6 HM1 HAB
    rw [HNN.out.2] at HA3
    iterate 8 (all_goals try (first | with_reducible refine splitI (fun h=>?_) (fun h=>?_) | with_reducible refine splitBI (fun h=>?_) (fun h=>?_) | simp (config:={ maxSteps:=1000000 }) (disch:=first | assumption | omega | (simp; done) | fail) [Tryz.results4, *]))
    refine WC.mono HA3.out ?_
    rintro _ ⟨g7,n7,rfl,hn7,hg7⟩
    have HG7:=Hide.mk hg7
    have hq7:=(hg7 (n3+1) (by omega)).trans hq6
    have hz7:=(hg7 n5 (by omega)).trans hz6
    have hp7:=(hg7 n3 (by omega)).trans hp6
    have hm7:=(hg7 n2 (by omega)).trans hm6
    have hl7:=(hg7 n1 (by omega)).trans hl6
    clear hg7 hl6 hm6 hp6 hq6 hz6 HA3
    have HALL:Hide (∀ b,b < n→g7 b=g b):=⟨fun b hb=>by rw [HG7.out b (by omega),HG6.out b (by omega) (by omega),HG5.out b (by omega),HG4.out b (by omega),HG3.out b (by omega),HG2.out b (by omega),HG1.out b hb]⟩
    have HAL2:Hide (∀ b,b < n2→g7 b=g2 b):=⟨fun b hb=>by rw [HG7.out b (by omega),HG6.out b (by omega) (by omega),HG5.out b (by omega),HG4.out b (by omega),HG3.out b (by omega)]⟩
    iterate 8 (all_goals try (first | with_reducible refine splitI (fun h=>?_) (fun h=>?_) | with_reducible refine splitBI (fun h=>?_) (fun h=>?_) | simp (config:={ maxSteps:=1000000 }) (disch:=first | assumption | omega | (simp; done) | fail) [Tryz.results4, *]))
    by_cases hq:M2.inp=M.inp
    · first
        | exact absurd hq hI
        | (refine WC.mono (HRB.out hI _ _ (by omega) fun b (hb:b < n2)=>by simp (disch:=omega) only [gput_lt]; exact HAL2.out b hb) ?_
           rintro _ ⟨g8,n8,rfl,hn8,hg8⟩
           have HG8:Hide (∀ b,b < n7→b≠n5→g8 b=g7 b):=⟨fun b hb hne=>(hg8 b (by omega)).trans (by simp (disch:=omega) only [gput_lt,gput_ne])⟩
           have hr8:=(hg8 n5 (by omega))
           simp only [gput_eq] at hr8
           have hp8:=(HG8.out n3 (by omega) (by omega)).trans hp7
           clear hg8
           iterate 8 (all_goals try (first | with_reducible refine splitI (fun h=>?_) (fun h=>?_) | with_reducible refine splitBI (fun h=>?_) (fun h=>?_) | simp (config:={ maxSteps:=1000000 }) (disch:=first | assumption | omega | (simp; done) | fail) [Tryz.results4, *]))
           refine WC.mono (HLV.out _ _ fun b (hb:b < n)=>by simp (disch:=omega) only [gput_lt]; rw [HG8.out b (by omega) (by omega),HALL.out b hb]) ?_
           rintro _ rfl
           iterate 8 (all_goals try (first | with_reducible refine splitI (fun h=>?_) (fun h=>?_) | with_reducible refine splitBI (fun h=>?_) (fun h=>?_) | simp (config:={ maxSteps:=1000000 }) (disch:=first | assumption | omega | (simp; done) | fail) [Tryz.results4, *]))
           exact ⟨by show n≤n8; omega,fun b (hb:b < n)=>(gput_lt (by omega)).trans ((HG8.out b (by omega) (by omega)).trans (HALL.out b hb))⟩)
    · first
        | exact absurd hI hq
        | (refine WC.mono (HLV.out _ _ fun b (hb:b < n)=>by simp (disch:=omega) only [gput_lt]; exact HALL.out b hb) ?_
           rintro _ rfl
           iterate 8 (all_goals try (first | with_reducible refine splitI (fun h=>?_) (fun h=>?_) | with_reducible refine splitBI (fun h=>?_) (fun h=>?_) | simp (config:={ maxSteps:=1000000 }) (disch:=first | assumption | omega | (simp; done) | fail) [Tryz.results4, *]))
           exact ⟨by show n≤n7; omega,fun b (hb:b < n)=>(gput_lt (by omega)).trans (HALL.out b hb)⟩)
end Go.Ai
end
