/- A small verified interpreter over names, its proofs, and what was proved with it. No condition. -/
import Derived.Test.YtfllomlghjolpaaDoorD12
import Derived.Test.YtfllomlghjolpaaDoorD06
set_option linter.all false
set_option linter.deprecated false
section
namespace Go.Ai
open Go.Proofs
set_option maxRecDepth 10000
set_option maxHeartbeats 40000000
theorem LX.gen {G:Nat} {P:Program} {k:Nat} {b:Code} {fr:Fr} {Q:Out→Prop} (g:Nat→Option Blk) (n:Nat) (h:∀ gL,gL=g→LX G P k b fr ⟨.fn gL,n⟩ Q) : LX G P k b fr ⟨.fn g,n⟩ Q:=h g rfl
theorem formulasDual_w (hl:retIs (.lit (.bool true)) (callF Tryd.prog noO 10000 14 [] H0)=true) (st inp out:Nat) (part:Bool) (es codes:List Nat) (ev cv:AV) (st' inp' out' : Int) (part' : Bool) (codes' : List Nat) (ev' cv' : AV) (g:Nat→Option Blk) (n:Nat) (h0:∀ i x,blks0[i]?=some x→g i=some x) (hn:8≤n)
    (hst:st < 256) (hinp:inp < 256) (hout:out < 256) (hes:SliceA g n ev es.length (u16Cells es)) (heb:∀ c∈es,c < 65536) (hcs:SliceA g n cv codes.length (u8Cells codes)) (hcb:∀ c∈codes,c < 256)
    (hes' : oneC ev'=true) (hcs' : SliceA g n cv' codes'.length (u8Cells codes')) (hcb' : ∀ c∈codes',c < 256) :
    WC 6 Tryd.prog 6 [.agg [.lit (.int .u8 st),.lit (.int .u8 inp),.lit (.int .u8 out),.lit (.bool part),ev,cv],.agg [.lit (.int .u8 st'),.lit (.int .u8 inp'),.lit (.int .u8 out'),.lit (.bool part'),ev',cv']] ⟨.fn g,n⟩ fun r=>∃ H',r=.ret (.lit (.bool true)) H':=by
  have h1e:=hes.one
  have h1c:=hcs.one
  have h1c':=hcs'.one
  have h1a:allOne [.lit (.int .u8 st),.lit (.int .u8 inp),.lit (.int .u8 out),.lit (.bool part),ev,cv]=true:=by simp [h1e,h1c]
  have h1a' : allOne [.lit (.int .u8 st'),.lit (.int .u8 inp'),.lit (.int .u8 out'),.lit (.bool part'),ev',cv']=true:=by simp [hes',h1c']
  have h1a2:allOne [.lit (.int .u8 st),.lit (.int .u8 inp),.lit (.int .u8 out),.lit (.bool part),ev]=true:=by simp [h1e]
  have H00:=Hide.mk h0
  have HL:=Hide.mk hl
  have H8:Hide (∀ i y,blks0[i]?=some y→i < 8):=⟨fun i y hy=>(List.getElem?_eq_some_iff.1 hy).1⟩
  have HMK:=Hide.mk (machOf_ok st inp out part es)
  have HW:=Hide.mk (fun (g:Nat→Option Blk) (n:Nat) (h1:SliceA g n ev es.length (u16Cells es)) (h2:SliceA g n cv codes.length (u8Cells codes))=>FOf_w st inp out part es codes ev cv g n hst hinp hout h1 heb h2 hcb)
  have HW':=Hide.mk (fun (g:Nat→Option Blk) (n:Nat) (h1:SliceA g n ev es.length (u16Cells es)) (h2:SliceA g n cv' codes'.length (u8Cells codes'))=>FOf_w st inp out part es codes' ev cv' g n hst hinp hout h1 heb h2 hcb')
  have HE:=Hide.mk hes
  have HC:=Hide.mk hcs
  have HC':=Hide.mk hcs'
  have hlC:∀ {H:Mem} {e' : Ev} {o:Oper} {c' : Call} {e:TypeId},lenS Tryd.prog H e' o c' (some (.slice e)) (some [cv])=.val (.lit (.int .i64 codes.length)) H:=by
    intro H e' o c' e
    rcases HC.out with ⟨h1,rfl | rfl⟩ | ⟨a2,off,c2,_,rfl,_⟩
    · rw [h1]; rfl
    · rw [h1]; rfl
    · rfl
  have hlC' : ∀ {H:Mem} {e' : Ev} {o:Oper} {c' : Call} {e:TypeId},lenS Tryd.prog H e' o c' (some (.slice e)) (some [cv'])=.val (.lit (.int .i64 codes'.length)) H:=by
    intro H e' o c' e
    rcases HC'.out with ⟨h1,rfl | rfl⟩ | ⟨a2,off,c2,_,rfl,_⟩
    · rw [h1]; rfl
    · rw [h1]; rfl
    · rfl
  have LIVES:Hide (∀ (g' : Nat→Option Blk) (n' : Nat),(∀ q,q < n→g' q=g q)→WC 6 Tryd.prog 14 [] ⟨.fn g',n'⟩ fun r=>r=.ret (.lit (.bool true)) ⟨.fn g',n'⟩):=⟨fun g' n' h=>own_w (callF_ok (noO_ok _ _) hG 10000) rfl rfl HL.out _ (holds_of fun i y hy=>by
    have h8:=H8.out i y hy
    show g' i=_
    rw [h i (by omega)]
    exact H00.out i y hy)⟩
  clear h0 hl hes heb hcs hcb hcs' hcb'
  refine WC.enterP (noO_ok _ _) hG pl6 Tryd.func6 rfl (by decide +kernel) (Nat.le_of_ble_eq_true (by kernel_rfl)) ?_
  by_cases hc1:9 < codes.length
  · have hcI:(9:Int) < (codes.length:Int):=by omega
    iterate 6 (all_goals try (first | with_reducible refine splitI (fun h=>?_) (fun h=>?_) | with_reducible refine splitBI (fun h=>?_) (fun h=>?_) | simp (config:={ maxSteps:=1000000 }) (disch:=first | assumption | omega | (simp; done) | fail) [Tryd.results6, *]))
    refine WC.mono (LIVES.out _ _ fun q hq=>by simp (disch:=omega) only [gput_lt]) ?_
    rintro _ rfl
    iterate 6 (all_goals try (first | with_reducible refine splitI (fun h=>?_) (fun h=>?_) | with_reducible refine splitBI (fun h=>?_) (fun h=>?_) | simp (config:={ maxSteps:=1000000 }) (disch:=first | assumption | omega | (simp; done) | fail) [Tryd.results6, *]))
  have hcI:¬(9:Int) < (codes.length:Int):=by omega
  by_cases hc2:9 < codes'.length
  · have hcI' : (9:Int) < (codes'.length:Int):=by omega
    iterate 6 (all_goals try (first | with_reducible refine splitI (fun h=>?_) (fun h=>?_) | with_reducible refine splitBI (fun h=>?_) (fun h=>?_) | simp (config:={ maxSteps:=1000000 }) (disch:=first | assumption | omega | (simp; done) | fail) [Tryd.results6, *]))
    refine WC.mono (LIVES.out _ _ fun q hq=>by simp (disch:=omega) only [gput_lt]) ?_
    rintro _ rfl
    iterate 6 (all_goals try (first | with_reducible refine splitI (fun h=>?_) (fun h=>?_) | with_reducible refine splitBI (fun h=>?_) (fun h=>?_) | simp (config:={ maxSteps:=1000000 }) (disch:=first | assumption | omega | (simp; done) | fail) [Tryd.results6, *]))
  have hcI' : ¬(9:Int) < (codes'.length:Int):=by omega
  have HF:=Hide.mk (ofF_ok9 st inp out codes (by omega))
  have HF':=Hide.mk (ofF_ok9 st inp out codes' (by omega))
  have HVM:=Hide.mk (of_valid st inp out part es codes)
  have HVM':=Hide.mk (of_valid st inp out part es codes')
  iterate 6 (all_goals try (first | with_reducible refine splitI (fun h=>?_) (fun h=>?_) | with_reducible refine splitBI (fun h=>?_) (fun h=>?_) | simp (config:={ maxSteps:=1000000 }) (disch:=first | assumption | omega | (simp; done) | fail) [Tryd.results6, *]))
  refine WC.mono (HW.out _ _ (HE.out.mono (by omega) fun q hq=>(by simp (disch:=omega) only [gput_lt])) (HC.out.mono (by omega) fun q hq=>(by simp (disch:=omega) only [gput_lt]))) ?_
  generalize machOf st inp out part es=M at *
  generalize ofF st inp out codes=f at *
  generalize ofF st inp out codes'=f' at *
  rintro _ ⟨ms,cs,g1,n1,rfl,hn1,hg1,hrm,hrn⟩
  obtain ⟨rv,hms,h1r⟩:=hrm.one
  obtain ⟨k3,q3,sv3,hcz,h1c3,hop3⟩:=repN_one hrn
  subst hms hcz
  have h1m:allOne [.lit (.int .i64 M.inp),.lit (.int .i64 M.out),rv]=true:=by simp [h1r]
  have h1p:allOne [.lit (.int .u8 f.op),.lit (.int .i64 k3),.lit (.int .i64 q3),sv3]=true:=by simp [h1c3]
  have b3:g1 (n+1)=some (.cells [.lit (.int .u8 st),.lit (.int .u8 inp),.lit (.int .u8 out),.lit (.bool part),ev,cv'] true 0):=by rw [hg1 (n+1) (by omega)]; simp (disch:=omega) only [gput_lt,gput_eq]; try rfl
  have b2:g1 n=some (.cells [.lit (.int .u8 st),.lit (.int .u8 inp),.lit (.int .u8 out),.lit (.bool part),ev,cv] true 0):=by rw [hg1 n (by omega)]; simp (disch:=omega) only [gput_lt,gput_ne,gput_eq]; try rfl
  have h1b:allOne [.lit (.int .u8 st),.lit (.int .u8 inp),.lit (.int .u8 out),.lit (.bool part),ev,cv']=true:=by simp [h1e,h1c']
  have HG1:Hide (∀ q,q < n→g1 q=g q):=⟨fun q hq=>by rw [hg1 q (by omega)]; simp (disch:=omega) only [gput_lt,gput_ne]⟩
  have HRM:=Hide.mk hrm
  have HRN:=Hide.mk hrn
  clear hg1 hrm hrn HW
  iterate 6 (all_goals try (first | with_reducible refine splitI (fun h=>?_) (fun h=>?_) | with_reducible refine splitBI (fun h=>?_) (fun h=>?_) | simp (config:={ maxSteps:=1000000 }) (disch:=first | assumption | omega | (simp; done) | fail) [Tryd.results6, *]))
  refine WC.mono (HW'.out _ _ (HE.out.mono (by omega) fun q hq=>(by simp (disch:=omega) only [gput_lt,gput_ne]; exact HG1.out q hq)) (HC'.out.mono (by omega) fun q hq=>(by simp (disch:=omega) only [gput_lt,gput_ne]; exact HG1.out q hq))) ?_
  rintro _ ⟨ms',cs',g2,n2,rfl,hn2,hg2,hrm',hrn'⟩
  obtain ⟨rv',hms',h1r'⟩:=hrm'.one
  obtain ⟨k4,q4,sv4,hcz,h1c4,hop4⟩:=repN_one hrn'
  subst hms' hcz
  have h1m' : allOne [.lit (.int .i64 M.inp),.lit (.int .i64 M.out),rv']=true:=by simp [h1r']
  have h1q:allOne [.lit (.int .u8 f'.op),.lit (.int .i64 k4),.lit (.int .i64 q4),sv4]=true:=by simp [h1c4]
  have d5:g2 n1=some (.cells [.lit (.int .i64 M.inp),.lit (.int .i64 M.out),rv] true 0):=by rw [hg2 n1 (by omega)]; simp (disch:=omega) only [gput_lt,gput_ne,gput_eq]
  have d6:g2 (n1+1)=some (.cells [.lit (.int .u8 f.op),.lit (.int .i64 k3),.lit (.int .i64 q3),sv3] true 0):=by rw [hg2 (n1+1) (by omega)]; simp (disch:=omega) only [gput_ne,gput_eq]
  have HG2:Hide (∀ q,q < n1→g2 q=g1 q):=⟨fun q hq=>by rw [hg2 q (by omega)]; simp (disch:=omega) only [gput_lt,gput_ne]⟩
  have HRN':=Hide.mk hrn'
  have hop3':=Hide.mk hop3
  clear hg2 hrm' hrn' HW' b2 b3
  iterate 6 (all_goals try (first | with_reducible refine splitI (fun h=>?_) (fun h=>?_) | with_reducible refine splitBI (fun h=>?_) (fun h=>?_) | simp (config:={ maxSteps:=1000000 }) (disch:=first | assumption | omega | (simp; done) | fail) [Tryd.results6, *]))
  first | refine WC.mono (node_sl _ _ _ _ _ _ _) ?_ | refine WC.mono (node_nil _ _ 0) ?_
  rintro _ rfl
  iterate 1 (all_goals try (first | with_reducible refine splitI (fun h=>?_) (fun h=>?_) | with_reducible refine splitBI (fun h=>?_) (fun h=>?_) | simp (config:={ maxSteps:=1000000 }) (disch:=first | assumption | omega | (simp; done) | fail) [Tryd.results6, *]))
  first | refine WC.mono (node_sl _ _ _ _ _ _ _) ?_ | refine WC.mono (node_nil _ _ 0) ?_
  rintro _ rfl
  iterate 1 (all_goals try (first | with_reducible refine splitI (fun h=>?_) (fun h=>?_) | with_reducible refine splitBI (fun h=>?_) (fun h=>?_) | simp (config:={ maxSteps:=1000000 }) (disch:=first | assumption | omega | (simp; done) | fail) [Tryd.results6, *]))
  first | refine WC.mono (node_sl _ _ _ _ _ _ _) ?_ | refine WC.mono (node_nil _ _ 0) ?_
  rintro _ rfl
  iterate 1 (all_goals try (first | with_reducible refine splitI (fun h=>?_) (fun h=>?_) | with_reducible refine splitBI (fun h=>?_) (fun h=>?_) | simp (config:={ maxSteps:=1000000 }) (disch:=first | assumption | omega | (simp; done) | fail) [Tryd.results6, *]))
  first | refine WC.mono (node_sl _ _ _ _ _ _ _) ?_ | refine WC.mono (node_nil _ _ 0) ?_
  rintro _ rfl
  iterate 1 (all_goals try (first | with_reducible refine splitI (fun h=>?_) (fun h=>?_) | with_reducible refine splitBI (fun h=>?_) (fun h=>?_) | simp (config:={ maxSteps:=1000000 }) (disch:=first | assumption | omega | (simp; done) | fail) [Tryd.results6, *]))
  first | refine WC.mono (node_sl _ _ _ _ _ _ _) ?_ | refine WC.mono (node_nil _ _ 0) ?_
  rintro _ rfl
  iterate 1 (all_goals try (first | with_reducible refine splitI (fun h=>?_) (fun h=>?_) | with_reducible refine splitBI (fun h=>?_) (fun h=>?_) | simp (config:={ maxSteps:=1000000 }) (disch:=first | assumption | omega | (simp; done) | fail) [Tryd.results6, *]))
  first | refine WC.mono (node_sl _ _ _ _ _ _ _) ?_ | refine WC.mono (node_nil _ _ 0) ?_
  rintro _ rfl
  iterate 1 (all_goals try (first | with_reducible refine splitI (fun h=>?_) (fun h=>?_) | with_reducible refine splitBI (fun h=>?_) (fun h=>?_) | simp (config:={ maxSteps:=1000000 }) (disch:=first | assumption | omega | (simp; done) | fail) [Tryd.results6, *]))
  first | refine WC.mono (node_sl _ _ _ _ _ _ _) ?_ | refine WC.mono (node_nil _ _ 0) ?_
  rintro _ rfl
  iterate 1 (all_goals try (first | with_reducible refine splitI (fun h=>?_) (fun h=>?_) | with_reducible refine splitBI (fun h=>?_) (fun h=>?_) | simp (config:={ maxSteps:=1000000 }) (disch:=first | assumption | omega | (simp; done) | fail) [Tryd.results6, *]))
  first | refine WC.mono (node_sl _ _ _ _ _ _ _) ?_ | refine WC.mono (node_nil _ _ 0) ?_
  rintro _ rfl
  iterate 1 (all_goals try (first | with_reducible refine splitI (fun h=>?_) (fun h=>?_) | with_reducible refine splitBI (fun h=>?_) (fun h=>?_) | simp (config:={ maxSteps:=1000000 }) (disch:=first | assumption | omega | (simp; done) | fail) [Tryd.results6, *]))
  first | refine WC.mono (node_sl _ _ _ _ _ _ _) ?_ | refine WC.mono (node_nil _ _ 0) ?_
  rintro _ rfl
  iterate 1 (all_goals try (first | with_reducible refine splitI (fun h=>?_) (fun h=>?_) | with_reducible refine splitBI (fun h=>?_) (fun h=>?_) | simp (config:={ maxSteps:=1000000 }) (disch:=first | assumption | omega | (simp; done) | fail) [Tryd.results6, *]))
  first | refine WC.mono (node_sl _ _ _ _ _ _ _) ?_ | refine WC.mono (node_nil _ _ 0) ?_
  rintro _ rfl
  iterate 1 (all_goals try (first | with_reducible refine splitI (fun h=>?_) (fun h=>?_) | with_reducible refine splitBI (fun h=>?_) (fun h=>?_) | simp (config:={ maxSteps:=1000000 }) (disch:=first | assumption | omega | (simp; done) | fail) [Tryd.results6, *]))
  first | refine WC.mono (node_sl _ _ _ _ _ _ _) ?_ | refine WC.mono (node_nil _ _ 0) ?_
  rintro _ rfl
  iterate 1 (all_goals try (first | with_reducible refine splitI (fun h=>?_) (fun h=>?_) | with_reducible refine splitBI (fun h=>?_) (fun h=>?_) | simp (config:={ maxSteps:=1000000 }) (disch:=first | assumption | omega | (simp; done) | fail) [Tryd.results6, *]))
  first | refine WC.mono (node_sl _ _ _ _ _ _ _) ?_ | refine WC.mono (node_nil _ _ 0) ?_
  rintro _ rfl
  iterate 1 (all_goals try (first | with_reducible refine splitI (fun h=>?_) (fun h=>?_) | with_reducible refine splitBI (fun h=>?_) (fun h=>?_) | simp (config:={ maxSteps:=1000000 }) (disch:=first | assumption | omega | (simp; done) | fail) [Tryd.results6, *]))
  first | refine WC.mono (node_sl _ _ _ _ _ _ _) ?_ | refine WC.mono (node_nil _ _ 0) ?_
  rintro _ rfl
  iterate 1 (all_goals try (first | with_reducible refine splitI (fun h=>?_) (fun h=>?_) | with_reducible refine splitBI (fun h=>?_) (fun h=>?_) | simp (config:={ maxSteps:=1000000 }) (disch:=first | assumption | omega | (simp; done) | fail) [Tryd.results6, *]))
  first | refine WC.mono (node_sl _ _ _ _ _ _ _) ?_ | refine WC.mono (node_nil _ _ 0) ?_
  rintro _ rfl
  iterate 1 (all_goals try (first | with_reducible refine splitI (fun h=>?_) (fun h=>?_) | with_reducible refine splitBI (fun h=>?_) (fun h=>?_) | simp (config:={ maxSteps:=1000000 }) (disch:=first | assumption | omega | (simp; done) | fail) [Tryd.results6, *]))
  first | refine WC.mono (node_sl _ _ _ _ _ _ _) ?_ | refine WC.mono (node_nil _ _ 0) ?_
  rintro _ rfl
  iterate 1 (all_goals try (first | with_reducible refine splitI (fun h=>?_) (fun h=>?_) | with_reducible refine splitBI (fun h=>?_) (fun h=>?_) | simp (config:={ maxSteps:=1000000 }) (disch:=first | assumption | omega | (simp; done) | fail) [Tryd.results6, *]))
  first | refine WC.mono (node_sl _ _ _ _ _ _ _) ?_ | refine WC.mono (node_nil _ _ 0) ?_
  rintro _ rfl
  iterate 1 (all_goals try (first | with_reducible refine splitI (fun h=>?_) (fun h=>?_) | with_reducible refine splitBI (fun h=>?_) (fun h=>?_) | simp (config:={ maxSteps:=1000000 }) (disch:=first | assumption | omega | (simp; done) | fail) [Tryd.results6, *]))
  first | refine WC.mono (node_sl _ _ _ _ _ _ _) ?_ | refine WC.mono (node_nil _ _ 0) ?_
  rintro _ rfl
  iterate 1 (all_goals try (first | with_reducible refine splitI (fun h=>?_) (fun h=>?_) | with_reducible refine splitBI (fun h=>?_) (fun h=>?_) | simp (config:={ maxSteps:=1000000 }) (disch:=first | assumption | omega | (simp; done) | fail) [Tryd.results6, *]))
  first | refine WC.mono (node_sl _ _ _ _ _ _ _) ?_ | refine WC.mono (node_nil _ _ 0) ?_
  rintro _ rfl
  iterate 1 (all_goals try (first | with_reducible refine splitI (fun h=>?_) (fun h=>?_) | with_reducible refine splitBI (fun h=>?_) (fun h=>?_) | simp (config:={ maxSteps:=1000000 }) (disch:=first | assumption | omega | (simp; done) | fail) [Tryd.results6, *]))
  first | refine WC.mono (node_sl _ _ _ _ _ _ _) ?_ | refine WC.mono (node_nil _ _ 0) ?_
  rintro _ rfl
  iterate 1 (all_goals try (first | with_reducible refine splitI (fun h=>?_) (fun h=>?_) | with_reducible refine splitBI (fun h=>?_) (fun h=>?_) | simp (config:={ maxSteps:=1000000 }) (disch:=first | assumption | omega | (simp; done) | fail) [Tryd.results6, *]))
  first | refine WC.mono (node_sl _ _ _ _ _ _ _) ?_ | refine WC.mono (node_nil _ _ 0) ?_
  rintro _ rfl
  iterate 1 (all_goals try (first | with_reducible refine splitI (fun h=>?_) (fun h=>?_) | with_reducible refine splitBI (fun h=>?_) (fun h=>?_) | simp (config:={ maxSteps:=1000000 }) (disch:=first | assumption | omega | (simp; done) | fail) [Tryd.results6, *]))
  first | refine WC.mono (node_sl _ _ _ _ _ _ _) ?_ | refine WC.mono (node_nil _ _ 0) ?_
  rintro _ rfl
  iterate 1 (all_goals try (first | with_reducible refine splitI (fun h=>?_) (fun h=>?_) | with_reducible refine splitBI (fun h=>?_) (fun h=>?_) | simp (config:={ maxSteps:=1000000 }) (disch:=first | assumption | omega | (simp; done) | fail) [Tryd.results6, *]))
  first | refine WC.mono (node_sl _ _ _ _ _ _ _) ?_ | refine WC.mono (node_nil _ _ 0) ?_
  rintro _ rfl
  iterate 1 (all_goals try (first | with_reducible refine splitI (fun h=>?_) (fun h=>?_) | with_reducible refine splitBI (fun h=>?_) (fun h=>?_) | simp (config:={ maxSteps:=1000000 }) (disch:=first | assumption | omega | (simp; done) | fail) [Tryd.results6, *]))
  first | refine WC.mono (node_sl _ _ _ _ _ _ _) ?_ | refine WC.mono (node_nil _ _ 0) ?_
  rintro _ rfl
  iterate 1 (all_goals try (first | with_reducible refine splitI (fun h=>?_) (fun h=>?_) | with_reducible refine splitBI (fun h=>?_) (fun h=>?_) | simp (config:={ maxSteps:=1000000 }) (disch:=first | assumption | omega | (simp; done) | fail) [Tryd.results6, *]))
  first | refine WC.mono (node_sl _ _ _ _ _ _ _) ?_ | refine WC.mono (node_nil _ _ 0) ?_
  rintro _ rfl
  iterate 1 (all_goals try (first | with_reducible refine splitI (fun h=>?_) (fun h=>?_) | with_reducible refine splitBI (fun h=>?_) (fun h=>?_) | simp (config:={ maxSteps:=1000000 }) (disch:=first | assumption | omega | (simp; done) | fail) [Tryd.results6, *]))
  refine LX.gen _ _ (fun gL hgL=>?_)
  have HL1:Hide (∀ q,q < n1→gL q=g1 q):=⟨fun q hq=>by
    rw [hgL]
    simp (disch:=omega) only [gput_lt]
    exact HG2.out q hq⟩
  have HL2:Hide (∀ q,q < n2→gL q=g2 q):=⟨fun q hq=>by
    rw [hgL]
    simp (disch:=omega) only [gput_lt]⟩
  have c5:gL n1=some (.cells [.lit (.int .i64 M.inp),.lit (.int .i64 M.out),rv] true 0):=(HL2.out n1 (by omega)).trans d5
  have B2:gL (n2+1+1)=some (.cells [.lit (.int .u8 f.op),.lit (.int .i64 k3),.lit (.int .i64 q3),sv3] true 0):=by
    rw [hgL]
    simp (disch:=omega) only [gput_lt,gput_ne,gput_eq]
  have B3:gL (n2+1+1+1)=some (.cells [(.lit (.int .u8 f'.op)),.lit (.int .i64 k4),.lit (.int .i64 q4),sv4] true 0):=by
    rw [hgL]
    simp (disch:=omega) only [gput_lt,gput_ne,gput_eq]
  have B8:gL (n2+1+1+1+1+1+1+1+1)=some (.cells [.lit (.int .u8 4),.lit (.int .i64 0),.lit (.int .i64 0),.sl (n2+1+1) 0 1 1,.lit (.int .u8 4),.lit (.int .i64 0),.lit (.int .i64 0),.sl (n2+1+1+1) 0 1 1] true 0):=by
    rw [hgL]
    simp (disch:=omega) only [gput_lt,gput_ne,gput_eq]
  have B11:gL (n2+1+1+1+1+1+1+1+1+1+1+1)=some (.cells [.lit (.int .u8 4),.lit (.int .i64 0),.lit (.int .i64 0),.sl (n2+1+1+1) 0 1 1,.lit (.int .u8 5),.lit (.int .i64 0),.lit (.int .i64 0),.sl (n2+1+1+1+1+1+1+1+1) 0 2 2] true 0):=by
    rw [hgL]
    simp (disch:=omega) only [gput_lt,gput_ne,gput_eq]
  have B13:gL (n2+1+1+1+1+1+1+1+1+1+1+1+1+1)=some (.cells [.lit (.int .u8 f.op),.lit (.int .i64 k3),.lit (.int .i64 q3),sv3] true 0):=by
    rw [hgL]
    simp (disch:=omega) only [gput_lt,gput_ne,gput_eq]
  have B14:gL (n2+1+1+1+1+1+1+1+1+1+1+1+1+1+1)=some (.cells [.lit (.int .u8 4),.lit (.int .i64 0),.lit (.int .i64 0),.sl (n2+1+1) 0 1 1] true 0):=by
    rw [hgL]
    simp (disch:=omega) only [gput_lt,gput_ne,gput_eq]
  have B15:gL (n2+1+1+1+1+1+1+1+1+1+1+1+1+1+1+1)=some (.cells [.lit (.int .u8 f.op),.lit (.int .i64 k3),.lit (.int .i64 q3),sv3] true 0):=by
    rw [hgL]
    simp (disch:=omega) only [gput_lt,gput_ne,gput_eq]
  have B16:gL (n2+1+1+1+1+1+1+1+1+1+1+1+1+1+1+1+1)=some (.cells [.lit (.int .u8 4),.lit (.int .i64 0),.lit (.int .i64 0),.sl (n2+1+1) 0 1 1] true 0):=by
    rw [hgL]
    simp (disch:=omega) only [gput_lt,gput_ne,gput_eq]
  have B17:gL (n2+1+1+1+1+1+1+1+1+1+1+1+1+1+1+1+1+1)=some (.cells [.lit (.int .u8 f.op),.lit (.int .i64 k3),.lit (.int .i64 q3),sv3] true 0):=by
    rw [hgL]
    simp (disch:=omega) only [gput_lt,gput_ne,gput_eq]
  have B18:gL (n2+1+1+1+1+1+1+1+1+1+1+1+1+1+1+1+1+1+1)=some (.cells [.lit (.int .u8 4),.lit (.int .i64 0),.lit (.int .i64 0),.sl (n2+1+1) 0 1 1] true 0):=by
    rw [hgL]
    simp (disch:=omega) only [gput_lt,gput_ne,gput_eq]
  have B19:gL (n2+1+1+1+1+1+1+1+1+1+1+1+1+1+1+1+1+1+1+1)=some (.cells [.lit (.int .u8 f.op),.lit (.int .i64 k3),.lit (.int .i64 q3),sv3] true 0):=by
    rw [hgL]
    simp (disch:=omega) only [gput_lt,gput_ne,gput_eq]
  have B20:gL (n2+1+1+1+1+1+1+1+1+1+1+1+1+1+1+1+1+1+1+1+1)=some (.cells [.lit (.int .u8 f.op),.lit (.int .i64 k3),.lit (.int .i64 q3),sv3] true 0):=by
    rw [hgL]
    simp (disch:=omega) only [gput_lt,gput_ne,gput_eq]
  have B21:gL (n2+1+1+1+1+1+1+1+1+1+1+1+1+1+1+1+1+1+1+1+1+1)=some (.cells [.lit (.int .u8 f.op),.lit (.int .i64 k3),.lit (.int .i64 q3),sv3] true 0):=by
    rw [hgL]
    simp (disch:=omega) only [gput_lt,gput_ne,gput_eq]
  have B22:gL (n2+1+1+1+1+1+1+1+1+1+1+1+1+1+1+1+1+1+1+1+1+1+1)=some (.cells [.lit (.int .u8 f.op),.lit (.int .i64 k3),.lit (.int .i64 q3),sv3,(.lit (.int .u8 f'.op)),.lit (.int .i64 k4),.lit (.int .i64 q4),sv4] true 0):=by
    rw [hgL]
    simp (disch:=omega) only [gput_lt,gput_ne,gput_eq]
  have B23:gL (n2+1+1+1+1+1+1+1+1+1+1+1+1+1+1+1+1+1+1+1+1+1+1+1)=some (.cells [(.lit (.int .u8 f'.op)),.lit (.int .i64 k4),.lit (.int .i64 q4),sv4] true 0):=by
    rw [hgL]
    simp (disch:=omega) only [gput_lt,gput_ne,gput_eq]
  have B24:gL (n2+1+1+1+1+1+1+1+1+1+1+1+1+1+1+1+1+1+1+1+1+1+1+1+1)=some (.cells [.lit (.int .u8 10),.lit (.int .i64 0),.lit (.int .i64 0),.sl (n2+1+1+1+1+1+1+1+1+1+1+1) 0 2 2] true 0):=by
    rw [hgL]
    simp (disch:=omega) only [gput_lt,gput_ne,gput_eq]
  have B27:gL (n2+1+1+1+1+1+1+1+1+1+1+1+1+1+1+1+1+1+1+1+1+1+1+1+1+1+1+1)=some (.cells [.lit (.int .u8 7),.lit (.int .i64 0),.lit (.int .i64 0),.sl (n2+1+1+1+1+1+1+1+1+1+1+1+1+1+1) 0 1 1] true 0):=by
    rw [hgL]
    simp (disch:=omega) only [gput_lt,gput_ne,gput_eq]
  have B31:gL (n2+1+1+1+1+1+1+1+1+1+1+1+1+1+1+1+1+1+1+1+1+1+1+1+1+1+1+1+1+1+1+1)=some (.cells [.lit (.int .u8 9),.lit (.int .i64 0),.lit (.int .i64 0),.sl (n2+1+1+1+1+1+1+1+1+1+1+1+1+1+1+1+1) 0 1 1] true 0):=by
    rw [hgL]
    simp (disch:=omega) only [gput_lt,gput_ne,gput_eq]
  have B35:gL (n2+1+1+1+1+1+1+1+1+1+1+1+1+1+1+1+1+1+1+1+1+1+1+1+1+1+1+1+1+1+1+1+1+1+1+1)=some (.cells [.lit (.int .u8 8),.lit (.int .i64 0),.lit (.int .i64 0),.sl (n2+1+1+1+1+1+1+1+1+1+1+1+1+1+1+1+1+1+1) 0 1 1] true 0):=by
    rw [hgL]
    simp (disch:=omega) only [gput_lt,gput_ne,gput_eq]
  have B39:gL (n2+1+1+1+1+1+1+1+1+1+1+1+1+1+1+1+1+1+1+1+1+1+1+1+1+1+1+1+1+1+1+1+1+1+1+1+1+1+1+1)=some (.cells [.lit (.int .u8 0),.lit (.int .i64 0),.lit (.int .i64 0),.lit (.slice none 0 0),.lit (.int .u8 f.op),.lit (.int .i64 k3),.lit (.int .i64 q3),sv3] true 0):=by
    rw [hgL]
    simp (disch:=omega) only [gput_lt,gput_ne,gput_eq]
  have B43:gL (n2+1+1+1+1+1+1+1+1+1+1+1+1+1+1+1+1+1+1+1+1+1+1+1+1+1+1+1+1+1+1+1+1+1+1+1+1+1+1+1+1+1+1+1)=some (.cells [.lit (.int .u8 8),.lit (.int .i64 0),.lit (.int .i64 0),.sl (n2+1+1+1+1+1+1+1+1+1+1+1+1+1+1+1+1+1+1+1+1+1) 0 1 1] true 0):=by
    rw [hgL]
    simp (disch:=omega) only [gput_lt,gput_ne,gput_eq]
  have B45:gL (n2+1+1+1+1+1+1+1+1+1+1+1+1+1+1+1+1+1+1+1+1+1+1+1+1+1+1+1+1+1+1+1+1+1+1+1+1+1+1+1+1+1+1+1+1+1)=some (.cells [.lit (.int .u8 f.op),.lit (.int .i64 k3),.lit (.int .i64 q3),sv3,.lit (.int .u8 7),.lit (.int .i64 0),.lit (.int .i64 0),.sl (n2+1+1+1+1+1+1+1+1+1+1+1+1+1+1+1+1+1+1+1+1+1+1+1+1+1+1+1+1+1+1+1+1+1+1+1+1+1+1+1+1+1+1+1) 0 1 1] true 0):=by
    rw [hgL]
    simp (disch:=omega) only [gput_lt,gput_ne,gput_eq]
  have B50:gL (n2+1+1+1+1+1+1+1+1+1+1+1+1+1+1+1+1+1+1+1+1+1+1+1+1+1+1+1+1+1+1+1+1+1+1+1+1+1+1+1+1+1+1+1+1+1+1+1+1+1+1)=some (.cells [.lit (.int .u8 12),.lit (.int .i64 0),.lit (.int .i64 0),.sl (n2+1+1+1+1+1+1+1+1+1+1+1+1+1+1+1+1+1+1+1+1+1+1+1) 0 1 1,.lit (.int .u8 4),.lit (.int .i64 0),.lit (.int .i64 0),.sl (n2+1+1+1+1+1+1+1+1+1+1+1+1+1+1+1+1+1+1+1+1+1+1+1+1) 0 1 1] true 0):=by
    rw [hgL]
    simp (disch:=omega) only [gput_lt,gput_ne,gput_eq]
  obtain ⟨L,CS,hL,hcs,hLn⟩ : ∃ L CS,gL L=some (.cells CS true 0)∧CS=[.lit (.int .u8 11),.lit (.int .i64 0),.lit (.int .i64 0),.sl (n2+1+1+1+1+1+1+1+1+1+1+1+1+1) 0 1 1,.lit (.int .u8 4),.lit (.int .i64 0),.lit (.int .i64 0),.sl (n2+1+1+1+1+1+1+1+1+1+1+1+1+1+1+1+1+1+1+1+1+1+1+1+1+1+1+1) 0 1 1,.lit (.int .u8 12),.lit (.int .i64 0),.lit (.int .i64 0),.sl (n2+1+1+1+1+1+1+1+1+1+1+1+1+1+1+1) 0 1 1,.lit (.int .u8 4),.lit (.int .i64 0),.lit (.int .i64 0),.sl (n2+1+1+1+1+1+1+1+1+1+1+1+1+1+1+1+1+1+1+1+1+1+1+1+1+1+1+1+1+1+1+1) 0 1 1,.lit (.int .u8 13),.lit (.int .i64 0),.lit (.int .i64 0),.sl (n2+1+1+1+1+1+1+1+1+1+1+1+1+1+1+1+1+1) 0 1 1,.lit (.int .u8 4),.lit (.int .i64 0),.lit (.int .i64 0),.sl (n2+1+1+1+1+1+1+1+1+1+1+1+1+1+1+1+1+1+1+1+1+1+1+1+1+1+1+1+1+1+1+1+1+1+1+1) 0 1 1,.lit (.int .u8 8),.lit (.int .i64 0),.lit (.int .i64 0),.sl (n2+1+1+1+1+1+1+1+1+1+1+1+1+1+1+1+1+1+1+1) 0 1 1,.lit (.int .u8 10),.lit (.int .i64 0),.lit (.int .i64 0),.sl (n2+1+1+1+1+1+1+1+1+1+1+1+1+1+1+1+1+1+1+1+1+1+1+1+1+1+1+1+1+1+1+1+1+1+1+1+1+1+1+1) 0 2 2,.lit (.int .u8 8),.lit (.int .i64 0),.lit (.int .i64 0),.sl (n2+1+1+1+1+1+1+1+1+1+1+1+1+1+1+1+1+1+1+1+1) 0 1 1,.lit (.int .u8 6),.lit (.int .i64 0),.lit (.int .i64 0),.sl (n2+1+1+1+1+1+1+1+1+1+1+1+1+1+1+1+1+1+1+1+1+1+1+1+1+1+1+1+1+1+1+1+1+1+1+1+1+1+1+1+1+1+1+1+1+1) 0 2 2,.lit (.int .u8 14),.lit (.int .i64 0),.lit (.int .i64 0),.sl (n2+1+1+1+1+1+1+1+1+1+1+1+1+1+1+1+1+1+1+1+1+1+1) 0 2 2,.lit (.int .u8 5),.lit (.int .i64 0),.lit (.int .i64 0),.sl (n2+1+1+1+1+1+1+1+1+1+1+1+1+1+1+1+1+1+1+1+1+1+1+1+1+1+1+1+1+1+1+1+1+1+1+1+1+1+1+1+1+1+1+1+1+1+1+1+1+1+1) 0 2 2]∧L=(n2+1+1+1+1+1+1+1+1+1+1+1+1+1+1+1+1+1+1+1+1+1+1+1+1+1+1+1+1+1+1+1+1+1+1+1+1+1+1+1+1+1+1+1+1+1+1+1+1+1+1+1+1):=⟨_,_,by rw [hgL]; exact gput_eq,rfl,rfl⟩
  have rf:repN gL (n2+1+1+1+1+1+1+1+1+1+1+1+1+1+1+1+1+1+1+1+1+1+1+1+1+1+1+1+1+1+1+1+1+1+1+1+1+1+1+1+1+1+1+1+1+1+1+1+1+1+1+1+1+1) f [.lit (.int .u8 f.op),.lit (.int .i64 k3),.lit (.int .i64 q3),sv3]:=repN_mono (by omega) HL1.out HRN.out
  have rg:repN gL (n2+1+1+1+1+1+1+1+1+1+1+1+1+1+1+1+1+1+1+1+1+1+1+1+1+1+1+1+1+1+1+1+1+1+1+1+1+1+1+1+1+1+1+1+1+1+1+1+1+1+1+1+1+1) f' [(.lit (.int .u8 f'.op)),.lit (.int .i64 k4),.lit (.int .i64 q4),sv4]:=repN_mono (by omega) HL2.out HRN'.out
  have rno:repN gL (n2+1+1+1+1+1+1+1+1+1+1+1+1+1+1+1+1+1+1+1+1+1+1+1+1+1+1+1+1+1+1+1+1+1+1+1+1+1+1+1+1+1+1+1+1+1+1+1+1+1+1+1+1+1) (un 4 f) [.lit (.int .u8 4),.lit (.int .i64 0),.lit (.int .i64 0),.sl (n2+1+1) 0 1 1]:=rep_un (by omega) B2 (by omega) rf
  have rnog:repN gL (n2+1+1+1+1+1+1+1+1+1+1+1+1+1+1+1+1+1+1+1+1+1+1+1+1+1+1+1+1+1+1+1+1+1+1+1+1+1+1+1+1+1+1+1+1+1+1+1+1+1+1+1+1+1) (un 4 f') [.lit (.int .u8 4),.lit (.int .i64 0),.lit (.int .i64 0),.sl (n2+1+1+1) 0 1 1]:=rep_un (by omega) B3 (by omega) rg
  have run:repN gL (n2+1+1+1+1+1+1+1+1+1+1+1+1+1+1+1+1+1+1+1+1+1+1+1+1+1+1+1+1+1+1+1+1+1+1+1+1+1+1+1+1+1+1+1+1+1+1+1+1+1+1+1+1+1) (untilN f f') [.lit (.int .u8 10),.lit (.int .i64 0),.lit (.int .i64 0),.sl (n2+1+1+1+1+1+1+1+1+1+1+1) 0 2 2]:=rep_bi (by omega) B11 (by omega) rnog (rep_bi (by omega) B8 (by omega) rno rnog)
  have hrep:repL gL (n2+1+1+1+1+1+1+1+1+1+1+1+1+1+1+1+1+1+1+1+1+1+1+1+1+1+1+1+1+1+1+1+1+1+1+1+1+1+1+1+1+1+1+1+1+1+1+1+1+1+1+1+1+1) (dualL f f') CS:=by
    rw [hcs]
    refine repL_cons4 (rep_un (by omega) B13 (by omega) rf) (repL_cons4 (rep_un (by omega) B27 (by omega) (rep_un (by omega) B14 (by omega) rno)) (repL_cons4 (rep_un (by omega) B15 (by omega) rf) (repL_cons4 (rep_un (by omega) B31 (by omega) (rep_un (by omega) B16 (by omega) rno)) (repL_cons4 (rep_un (by omega) B17 (by omega) rf) (repL_cons4 (rep_un (by omega) B35 (by omega) (rep_un (by omega) B18 (by omega) rno)) (repL_cons4 (rep_un (by omega) B19 (by omega) rf) ?_))))))
    refine repL_cons4 (rep_bi (by omega) B39 (by omega) rep_leaf rf) (repL_cons4 (rep_un (by omega) B20 (by omega) rf) (repL_cons4 (rep_bi (by omega) B45 (by omega) rf (rep_un (by omega) B43 (by omega) (rep_un (by omega) B21 (by omega) rf))) (repL_cons4 (rep_bi (by omega) B22 (by omega) rf rg) (repL_cons4 (rep_bi (by omega) B50 (by omega) (rep_un (by omega) B23 (by omega) rg) (rep_un (by omega) B24 (by omega) run)) repL_nil))))
  have hLlt:L < (n2+1+1+1+1+1+1+1+1+1+1+1+1+1+1+1+1+1+1+1+1+1+1+1+1+1+1+1+1+1+1+1+1+1+1+1+1+1+1+1+1+1+1+1+1+1+1+1+1+1+1+1+1+1):=by rw [hLn]; omega
  have hcl:CS.length=48:=by rw [hcs]; rfl
  have HREP:=Hide.mk hrep
  have HGOOD:=Hide.mk (dual_good HVM.out HVM'.out HF.out HF'.out)
  have hn53:n1 < (n2+1+1+1+1+1+1+1+1+1+1+1+1+1+1+1+1+1+1+1+1+1+1+1+1+1+1+1+1+1+1+1+1+1+1+1+1+1+1+1+1+1+1+1+1+1+1+1+1+1+1+1+1+1):=by omega
  have HLN:=Hide.mk hLn
  clear B2 B3 B8 B11 B13 B14 B15 B16 B17 B18 B19 B20 B21 B22 B23 B24 B27 B31 B35 B39 B43 B45 B50 hgL rf rg rno rnog run hrep hcs d5 d6
  generalize (n2+1+1+1+1+1+1+1+1+1+1+1+1+1+1+1+1+1+1+1+1+1+1+1+1+1+1+1+1+1+1+1+1+1+1+1+1+1+1+1+1+1+1+1+1+1+1+1+1+1+1+1+1+1)=nL at *
  rw [← HLN.out]
  clear HLN hLn
  have h64:M.rows.length≤64:=HMK.out.2.2.2.2.2.1
  refine LX.ind (fun m gf H'=>∃ (i n' : Nat) (g' : Nat→Option Blk),i≤12∧Hide (i % 2=0)∧m=12 - i∧H'=⟨.fn g',n'⟩∧nL≤n'∧(∀ q,q < nL→g' q=gL q)∧gf 5=some (.ptr n1 0)∧gf 12=some (.sl L 0 12 12)∧gf 13=some (.lit (.int .i64 i))) (m0:=12) ?_ ?_
  · exact ⟨0,_,_,by omega,⟨rfl⟩,rfl,rfl,Nat.le_refl _,fun _ _=>rfl,by simp,by simp,by simp⟩
  rintro m gf H' ⟨i,n3,g3,hi,hi2,rfl,rfl,hn3,hg3,w5,w12,w13⟩ ih
  have HG3:=Hide.mk hg3
  clear hg3
  have e5:=(HG3.out n1 (by omega)).trans c5
  have eL:=(HG3.out L (by omega)).trans hL
  refine LX.roundP (noO_ok _ _) hG pl6 (by decide +kernel) ?_
  by_cases hit:i < 12
  · have hitI:(i:Int) < 12:=by omega
    have hi10:i+1 < 12:=by have:=hi2.out; omega
    have hi10I:(i:Int)+1 < 12:=by omega
    have hl12:(dualL f f').length=12:=rfl
    have hrow:Row g3 L 0 CS:=⟨CS,true,0,eL,by simp,by simp⟩
    have hx0:=repL_at HREP.out i (by omega)
    have hy0:=repL_at HREP.out (i+1) (by omega)
    have hc0:=hrow.agg (k:=i * 4) (s:=4) (by omega)
    have hc1:=hrow.agg (k:=(i+1) * 4) (s:=4) (by omega)
    rw [Nat.zero_add] at hc0 hc1
    have hxi:=List.getElem?_eq_getElem (l:=dualL f f') (i:=i) (by omega)
    have hyi:=List.getElem?_eq_getElem (l:=dualL f f') (i:=i+1) (by omega)
    have hxg:=HGOOD.out _ (List.getElem_mem (l:=dualL f f') (n:=i) (by omega))
    have hyg:=HGOOD.out _ (List.getElem_mem (l:=dualL f f') (n:=i+1) (by omega))
    generalize (dualL f f')[i]'(by omega)=x at hx0 hxi hxg
    generalize (dualL f f')[i+1]'(by omega)=y at hy0 hyi hyg
    obtain ⟨k5,q5,sv5,hcx,h1x,hopx⟩:=repN_one hx0
    obtain ⟨k6,q6,sv6,hcy,h1y,hopy⟩:=repN_one hy0
    rw [hcx] at hc0 hx0
    rw [hcy] at hc1 hy0
    have h1x' : allOne [.lit (.int .u8 x.op),.lit (.int .i64 k5),.lit (.int .i64 q5),sv5]=true:=by simp [h1x]
    have h1y' : allOne [.lit (.int .u8 y.op),.lit (.int .i64 k6),.lit (.int .i64 q6),sv6]=true:=by simp [h1y]
    have htn:((i:Int)+1).toNat=i+1:=by omega
    have HX:=Hide.mk hx0
    have HY:=Hide.mk hy0
    have HP:=Hide.mk (fun (X Y:SetS) (h1:semN M x X) (h2:semN M y Y)=>dual_pair HMK.out hit hi2.out hxi hyi h1 h2)
    have HXG:=Hide.mk hxg
    have HYG:=Hide.mk hyg
    have OPS:Hide (g3 0=some opsB):=⟨by rw [HG3.out 0 (by omega),HL1.out 0 (by omega),HG1.out 0 (by omega)]; exact H00.out 0 _ rfl⟩
    have RM3:Hide (RepM g3 n3 M [.lit (.int .i64 M.inp),.lit (.int .i64 M.out),rv]):=⟨HRM.out.mono (by omega) fun q hq=>by rw [HG3.out q (by omega)]; exact HL1.out q hq⟩
    have EL:=Hide.mk eL
    clear hx0 hy0 hcx hcy hrow hxi hyi hxg hyg hl12 eL
    iterate 6 (all_goals try (first | with_reducible refine splitI (fun h=>?_) (fun h=>?_) | with_reducible refine splitBI (fun h=>?_) (fun h=>?_) | simp (config:={ maxSteps:=1000000 }) (disch:=first | assumption | omega | (simp; done) | fail) [Tryd.results6, *]))
    refine WC.mono (Sat_yes HMK.out x (by have:=HXG.out.2; omega) HXG.out.1 (by rw [small_ok' _ 64 (by have:=HXG.out.2; omega)]) _ _ _ _ OPS.out (by omega) RM3.out (repN_mono (g:=gL) (b:=nL) hn3 HG3.out HX.out)) ?_
    rintro _ ⟨A,z,g4,n4,rfl,hn4,hg4,hA1,hA2,hA3,hsx⟩
    have HG4:=Hide.mk hg4
    have HSX:=Hide.mk hsx
    have e5':=(hg4 n1 (by omega)).trans e5
    have EL':=Hide.mk ((hg4 L (by omega)).trans EL.out)
    have hc1' : loadB (some (true,4)) (g4 L) ((i+1) * 4)=some (.agg [.lit (.int .u8 y.op),.lit (.int .i64 k6),.lit (.int .i64 q6),sv6]):=by rw [hg4 L (by omega)]; exact hc1
    clear hg4 hsx
    iterate 6 (all_goals try (first | with_reducible refine splitI (fun h=>?_) (fun h=>?_) | with_reducible refine splitBI (fun h=>?_) (fun h=>?_) | simp (config:={ maxSteps:=1000000 }) (disch:=first | assumption | omega | (simp; done) | fail) [Tryd.results6, *]))
    refine WC.mono (Sat_yes HMK.out y (by have:=HYG.out.2; omega) HYG.out.1 (by rw [small_ok' _ 64 (by have:=HYG.out.2; omega)]) _ _ _ _ ((HG4.out 0 (by omega)).trans OPS.out) (by omega) (RM3.out.mono hn4 HG4.out) (repN_mono (g:=gL) (b:=nL) (Nat.le_trans hn3 hn4) (fun q hq=>by rw [HG4.out q (by omega)]; exact HG3.out q hq) HY.out)) ?_
    rintro _ ⟨B,z',g5,n5,rfl,hn5,hg5,hB1,hB2,hB3,hsy⟩
    have HG5:=Hide.mk hg5
    have HEQ:=Hide.mk (HP.out _ _ HSX.out hsy)
    have hA4:=(hg5 A (by omega)).trans hA3
    have e5'':=(hg5 n1 (by omega)).trans e5'
    obtain ⟨svsR,hrvR⟩ : ∃ svs,SliceV g3 n3 rv M.rows.length svs:=by
      obtain ⟨rv2,svs2,e2,_,h2⟩:=RM3.out
      cases e2
      exact ⟨svs2,h2⟩
    have hlr:=@lenV Tryd.prog _ _ _ _ _ hrvR
    clear hrvR
    clear hg5 hsy e5 e5' hA3 hc0 hc1 hc1'
    iterate 6 (all_goals try (first | with_reducible refine splitI (fun h=>?_) (fun h=>?_) | with_reducible refine splitBI (fun h=>?_) (fun h=>?_) | simp (config:={ maxSteps:=1000000 }) (disch:=first | assumption | omega | (simp; done) | fail) [Tryd.results6, *]))
    refine LX.ind (fun m gf H'=>∃ (k:Nat),k≤M.rows.length∧m=M.rows.length - k∧H'=⟨.fn g5,n5⟩∧gf 5=some (.ptr n1 0)∧gf 12=some (.sl L 0 12 12)∧gf 13=some (.lit (.int .i64 i))∧gf 14=some (.sl A 0 M.rows.length M.rows.length)∧gf 16=some (.sl B 0 M.rows.length M.rows.length)∧gf 18=some (.lit (.int .i64 k))) (m0:=M.rows.length) ?_ ?_
    · exact ⟨0,Nat.zero_le _,rfl,rfl,by simp [*],by simp [*],by simp [*],by simp,by simp,by simp⟩
    rintro m gf H' ⟨k,hk,rfl,rfl,x5,x12,x13,x14,x16,x18⟩ ihk
    refine LX.roundP (noO_ok _ _) hG pl6 (by decide +kernel) ?_
    by_cases hlt:k < M.rows.length
    · have hltI:(k:Int) < (M.rows.length:Int):=by omega
      have hlA:=boolC_len M.rows.length z
      have hlB:=boolC_len M.rows.length z'
      have hatA:=boolC_at M.rows.length z k
      have hatB:=boolC_at M.rows.length z' k
      rw [if_pos hlt] at hatA hatB
      have hkA:k < (boolC M.rows.length z).length:=by omega
      have hkB:k < (boolC M.rows.length z').length:=by omega
      have he:z.testBit k=z'.testBit k:=HEQ.out k hlt
      have hgA:(boolC M.rows.length z)[k]'hkA=.lit (.bool (z'.testBit k)):=by
        rw [List.getElem?_eq_getElem hkA,he] at hatA
        exact Option.some.inj hatA
      have hgB:(boolC M.rows.length z')[k]'hkB=.lit (.bool (z'.testBit k)):=by
        rw [List.getElem?_eq_getElem hkB] at hatB
        exact Option.some.inj hatB
      clear hatA hatB he
      generalize z'.testBit k=bb at *
      cases bb
      all_goals
        iterate 6 (all_goals try (first | with_reducible refine splitI (fun h=>?_) (fun h=>?_) | with_reducible refine splitBI (fun h=>?_) (fun h=>?_) | simp (config:={ maxSteps:=1000000 }) (disch:=first | assumption | omega | (simp; done) | fail) [Tryd.results6, *]))
        exact ihk.out (M.rows.length - (k+1)) _ _ (by omega) ⟨k+1,by omega,rfl,rfl,by simp [*],by simp [*],by simp [*],by simp [*],by simp [*],by simp⟩
    · have hltI:¬(k:Int) < (M.rows.length:Int):=by omega
      iterate 6 (all_goals try (first | with_reducible refine splitI (fun h=>?_) (fun h=>?_) | with_reducible refine splitBI (fun h=>?_) (fun h=>?_) | simp (config:={ maxSteps:=1000000 }) (disch:=first | assumption | omega | (simp; done) | fail) [Tryd.results6, *]))
      exact ih.out (12 - (i+2)) _ _ (by omega) ⟨i+2,n5,g5,by omega,⟨by have:=hi2.out; omega⟩,rfl,rfl,by omega,fun q hq=>by rw [HG5.out q (by omega),HG4.out q (by omega)]; exact HG3.out q hq,by simp [*],by simp [*],by simp⟩
  · have hitI:¬(i:Int) < 12:=by omega
    iterate 6 (all_goals try (first | with_reducible refine splitI (fun h=>?_) (fun h=>?_) | with_reducible refine splitBI (fun h=>?_) (fun h=>?_) | simp (config:={ maxSteps:=1000000 }) (disch:=first | assumption | omega | (simp; done) | fail) [Tryd.results6, *]))
    refine WC.mono (LIVES.out _ _ fun q hq=>by rw [HG3.out q (by omega),HL1.out q (by omega)]; exact HG1.out q hq) ?_
    rintro _ rfl
    iterate 6 (all_goals try (first | with_reducible refine splitI (fun h=>?_) (fun h=>?_) | with_reducible refine splitBI (fun h=>?_) (fun h=>?_) | simp (config:={ maxSteps:=1000000 }) (disch:=first | assumption | omega | (simp; done) | fail) [Tryd.results6, *]))
end Go.Ai
end
