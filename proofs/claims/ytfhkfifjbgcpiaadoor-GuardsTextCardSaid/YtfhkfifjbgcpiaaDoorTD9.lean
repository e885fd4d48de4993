/- A small verified interpreter over names, its proofs, and what was proved with it. No condition. -/
import Derived.Test.YtfhkfifjbgcpiaaDoorTD8
import Derived.Test.YtfhkfifjbgcpiaaDoorTD1
set_option linter.all false
set_option linter.deprecated false
section
namespace Go.Ai
open Go.Proofs
set_option maxRecDepth 10000
set_option maxHeartbeats 40000000
theorem guardsText_w (hl:retIs (.lit (.bool true)) (callF Tryd.prog O5 10000 16 [] H0)=true) (codes:List Nat) (nums:List Int) (g:Nat→Option Blk) (n:Nat) (cv nv:AV) (h0:∀ i x,blks0[i]?=some x→g i=some x) (hn:8≤n)
    (hc:SliceA g n cv codes.length (u8Cells codes)) (hcb:∀ c∈codes,c < 256) (hnv:SliceA g n nv nums.length (i32Cells nums)) (hnb:∀ c∈nums,-2147483648≤c∧c≤2147483647) (hl1:oneC cv=true) (hl2:oneC nv=true) :
    WC 6 Tryd.prog 3 [.agg [cv,nv]] ⟨.fn g,n⟩ fun r=>∃ H',r=.ret (.lit (.bool true)) H':=by
  have h1a:allOne [cv,nv]=true:=by simp [hl1,hl2]
  have HC:=Hide.mk hc
  have HNV:=Hide.mk hnv
  have HCB:=Hide.mk hcb
  have HNB:=Hide.mk hnb
  have H00:=Hide.mk h0
  have HL:=Hide.mk hl
  clear hc hnv hcb hnb h0 hl
  refine WC.enterP (noO_ok _ _) hG6 pl3 Tryd.func3 rfl (by decide +kernel) (Nat.le_of_ble_eq_true (by kernel_rfl)) ?_
  iterate 6 (all_goals try (first | with_reducible refine splitI (fun h=>?_) (fun h=>?_) | with_reducible refine splitBI (fun h=>?_) (fun h=>?_) | simp (config:={ maxSteps:=1000000 }) (disch:=first | assumption | omega | (simp; done) | fail) [Tryd.results3, *]))
  refine WC.mono (of_w codes nums _ _ cv nv (HC.out.mono (by omega) (fun a ha=>by simp (disch:=omega) only [gput_lt])) HCB.out (HNV.out.mono (by omega) (fun a ha=>by simp (disch:=omega) only [gput_lt])) HNB.out hl1 hl2) ?_
  rintro _ ⟨cs,g1,n1,rfl,hn1,hg1,hrep⟩
  obtain ⟨hsh,hty,hsz⟩:=ofM_ok codes nums HNB.out
  generalize ofM codes nums=x at hrep hsh hty hsz
  obtain ⟨k2,sv2,hcy,h1c,hop2⟩:=repN_op hrep
  subst hcy
  have h1x:allOne [.lit (.int .u8 x.op),.lit (.int .i64 k2),sv2]=true:=by simp [h1c]
  have HG1:Hide (∀ i y,blks0[i]?=some y→g1 i=some y):=⟨fun i y hy=>by
    have h8:i < 8:=(List.getElem?_eq_some_iff.1 hy).1
    rw [hg1 i (by omega)]
    simp (disch:=omega) only [gput_lt]
    exact H00.out i y hy⟩
  have H8:Hide (∀ i y,blks0[i]?=some y→i < 8):=⟨fun i y hy=>(List.getElem?_eq_some_iff.1 hy).1⟩
  have HREP:=Hide.mk hrep
  have hck:checkM varsE x=0:=check_ok varsE_ok hsh hty (by omega)
  have hvs:=checkVars_short (checkM_vars hck)
  have hts:(textM varsE x).size≤64 * sizeN x:=text_size hvs x (checkM_ok hck)
  have HTXT:Hide (textTop varsE x=(textM varsE x,0)):=⟨by unfold textTop; rw [if_neg (fun e=>e hck)]⟩
  have HPAR:Hide (parseM varsE (textM varsE x)=(x,0,0)):=⟨parse_text hck (by omega)⟩
  have HAT:Hide (AtoiOK (textM varsE x)):=⟨atoi_ok (by omega)⟩
  have HRT:Hide (TextAt varsE x):=⟨rtext_w varsE hvs (by simp [varsE]) 1000000 (Nat.le_refl _) x (by omega)⟩
  have HSH:Hide (shapedM varsE.length x=true):=⟨checkM_ok hck⟩
  have hvl:(List.flatMap VarM.cells varsE).length=9:=rfl
  have htx:(textM varsE x).size≤1000000:=by omega
  unfold TextAt at HRT
  generalize textM varsE x=tx at *
  clear hrep hg1 h1a hsh hty hck hvs hts
  iterate 8 (all_goals try (first | with_reducible refine splitI (fun h=>?_) (fun h=>?_) | with_reducible refine splitBI (fun h=>?_) (fun h=>?_) | simp (config:={ maxSteps:=1000000 }) (disch:=first | assumption | omega | (simp; done) | fail) [Tryd.results3, *]))
  refine WC.mono (Vars_w _ _) ?_
  rintro _ rfl
  iterate 8 (all_goals try (first | with_reducible refine splitI (fun h=>?_) (fun h=>?_) | with_reducible refine splitBI (fun h=>?_) (fun h=>?_) | simp (config:={ maxSteps:=1000000 }) (disch:=first | assumption | omega | (simp; done) | fail) [Tryd.results3, *]))
  refine WC.mono (Text_w varsE x _ _ _ _ (by simp (disch:=omega) only [gput_lt]; exact HG1.out 0 _ rfl) (by simp (disch:=omega) only [gput_lt]; exact HG1.out 1 _ rfl) (by omega) (sliceV_all (own:=true) (z:=0) (by simp (disch:=omega) only [gput_lt,gput_eq,gput_ne]) (by omega)) (by simp [varsE]) (by omega)
    (repN_mono (by omega) (fun a ha=>by simp (disch:=omega) only [gput_lt]) HREP.out)) ?_
  rw [HTXT.out]
  rintro _ rfl
  iterate 8 (all_goals try (first | with_reducible refine splitI (fun h=>?_) (fun h=>?_) | with_reducible refine splitBI (fun h=>?_) (fun h=>?_) | simp (config:={ maxSteps:=1000000 }) (disch:=first | assumption | omega | (simp; done) | fail) [Tryd.results3, *]))
  refine WC.mono (Vars_w _ _) ?_
  rintro _ rfl
  iterate 8 (all_goals try (first | with_reducible refine splitI (fun h=>?_) (fun h=>?_) | with_reducible refine splitBI (fun h=>?_) (fun h=>?_) | simp (config:={ maxSteps:=1000000 }) (disch:=first | assumption | omega | (simp; done) | fail) [Tryd.results3, *]))
  refine WC.mono (Parse_w varsE tx HAT.out htx _ _ _ (by simp (disch:=omega) only [gput_lt]; exact HG1.out 0 _ rfl) (by simp (disch:=omega) only [gput_lt]; exact HG1.out 3 _ rfl) (by omega) (sliceV_all (own:=true) (z:=0) (by simp (disch:=omega) only [gput_lt,gput_eq,gput_ne]) (by omega)) (by simp [varsE])) ?_
  rintro _ ⟨ds,g3,n3,rfl,hn3,hg3,hfr⟩
  rw [HPAR.out] at hfr ⊢
  dsimp only at hfr ⊢
  have hrep3:=hfr.rep
  obtain ⟨k3,sv3,hcz,h1c3,hop3⟩:=repN_op hrep3
  subst hcz
  have h1p:allOne [.lit (.int .u8 x.op),.lit (.int .i64 k3),sv3]=true:=by simp [h1c3]
  have HB3:Hide (∀ i y,blks0[i]?=some y→g3 i=some y):=⟨fun i y hy=>by
    have:=H8.out i y hy
    rw [hg3 i (by omega)]
    simp (disch:=omega) only [gput_lt]
    exact HG1.out i y hy⟩
  have HR1:Hide (repN g3 n3 x [.lit (.int .u8 x.op),.lit (.int .i64 k2),sv2]):=⟨repN_mono (by omega) (fun a ha=>by rw [hg3 a (by omega)]; simp (disch:=omega) only [gput_lt]) HREP.out⟩
  have HR3:=Hide.mk hrep3
  have hx1:g3 n1=some (.cells [.lit (.int .u8 x.op),.lit (.int .i64 k2),sv2] true 0):=by rw [hg3 n1 (by omega)]; simp (disch:=omega) only [gput_lt,gput_eq,gput_ne]
  clear hfr hg3 hrep3
  iterate 8 (all_goals try (first | with_reducible refine splitI (fun h=>?_) (fun h=>?_) | with_reducible refine splitBI (fun h=>?_) (fun h=>?_) | simp (config:={ maxSteps:=1000000 }) (disch:=first | assumption | omega | (simp; done) | fail) [Tryd.results3, *]))
  refine WC.mono (Vars_w _ _) ?_
  rintro _ rfl
  iterate 8 (all_goals try (first | with_reducible refine splitI (fun h=>?_) (fun h=>?_) | with_reducible refine splitBI (fun h=>?_) (fun h=>?_) | simp (config:={ maxSteps:=1000000 }) (disch:=first | assumption | omega | (simp; done) | fail) [Tryd.results3, *]))
  refine WC.mono (HRT.out _ _ _ _ (by omega) (repN_mono (by omega) (fun a ha=>by simp (disch:=omega) only [gput_lt]) HR1.out) (sliceV_all (own:=true) (z:=0) (by simp (disch:=omega) only [gput_lt,gput_eq,gput_ne]) (by omega)) HSH.out) ?_
  rintro _ rfl
  iterate 8 (all_goals try (first | with_reducible refine splitI (fun h=>?_) (fun h=>?_) | with_reducible refine splitBI (fun h=>?_) (fun h=>?_) | simp (config:={ maxSteps:=1000000 }) (disch:=first | assumption | omega | (simp; done) | fail) [Tryd.results3, *]))
  refine WC.mono (rsame_w 1000000 (Nat.le_refl _) x (by omega) _ _ _ _ (repN_mono (by omega) (fun a ha=>by simp (disch:=omega) only [gput_lt]) HR3.out) (repN_mono (by omega) (fun a ha=>by simp (disch:=omega) only [gput_lt]) HR1.out)) ?_
  rintro _ rfl
  iterate 8 (all_goals try (first | with_reducible refine splitI (fun h=>?_) (fun h=>?_) | with_reducible refine splitBI (fun h=>?_) (fun h=>?_) | simp (config:={ maxSteps:=1000000 }) (disch:=first | assumption | omega | (simp; done) | fail) [Tryd.results3, *]))
  refine WC.mono (own_w (callF_ok O5_ok hG6 10000) rfl rfl HL.out _ (holds_of fun i y hy=>?_)) ?_
  · have h8:=H8.out i y hy
    have hgi:=HB3.out i y hy
    show gput _ _ _ _=_
    simp (disch:=omega) only [gput_lt]
    exact hgi
  rintro _ rfl
  iterate 8 (all_goals try (first | with_reducible refine splitI (fun h=>?_) (fun h=>?_) | with_reducible refine splitBI (fun h=>?_) (fun h=>?_) | simp (config:={ maxSteps:=1000000 }) (disch:=first | assumption | omega | (simp; done) | fail) [Tryd.results3, *]))
end Go.Ai
end
