/- A small verified interpreter over names, its proofs, and what was proved with it. No condition. -/
import Derived.Test.YtfhkfifjbgcpiaaDoorPDC
import Derived.Test.YtfhkfifjbgcpiaaDoorPDA
import Derived.Test.YtfhkfifjbgcpiaaDoorPD6
import Derived.Test.YtfhkfifjbgcpiaaDoorPD9
set_option linter.all false
set_option linter.deprecated false
section
namespace Go.Ai
open Go.Proofs
set_option maxRecDepth 10000
set_option maxHeartbeats 40000000
theorem rparse_w (vs:List VarM) (s:ByteArray) (hv:checkVarsM vs=0) (hs:s.size≤65536) (g:Nat→Option Blk) (n va:Nat) (hva:va < n) (hvr:Row g va 0 (vs.flatMap VarM.cells)) (hn:vs.length≤1000000) :
    WC 6 Tryd.prog 17 [.sl va 0 vs.length vs.length,.lit (.string s)] ⟨.fn g,n⟩ fun r=>ParQ (parseM vs s) g n r:=by
  have a1:=advM_le (s:=s) (j:=0) (Nat.zero_le _)
  generalize hret:parseM vs s=ret
  have HRET:Hide ((match readF vs s (20 * s.size+9) 1 (advM s 0) with
      | some (.err e k)=>(zeroN,((k:Nat) : Int),e)
      | some (.ok x k)=>if tokB s k≠⟨#[]⟩ then (zeroN,((k:Nat) : Int),4) else if checkM vs x≠0 then (zeroN,0,checkM vs x) else (x,0,0)
      | none=>(zeroN,0,0))=ret):=⟨by rw [← hret,parseM,if_neg (fun h=>h hv),if_neg (by omega)]; rfl⟩
  clear hret
  have HVR:=Hide.mk hvr
  clear hvr hv
  have hpos:=posL_ok (s:=s) _ (advM s 0) a1.2 (Nat.le_refl _)
  have hpsz:=posL_size (s:=s) _ (advM s 0) a1.2 (Nat.le_refl _)
  have hp0:=posL_head s (advM s 0)
  have HT:=Hide.mk (fun g n=>tokens_w s (by omega) g n)
  generalize posL s (advM s 0)=pos at *
  refine WC.enterP (noO_ok _ _) hG6 pl17 Tryd.func17 rfl (by decide +kernel) (Nat.le_of_ble_eq_true (by kernel_rfl)) ?_
  iterate 20 (all_goals try (first | with_reducible refine splitI (fun h=>?_) (fun h=>?_) | with_reducible refine splitBI (fun h=>?_) (fun h=>?_) | simp (config:={ maxSteps:=1000000 }) (disch:=first | assumption | omega | (simp; done) | fail) [Tryd.results17, *]))
  refine WC.mono (HT.out _ _) ?_
  rintro _ ⟨a,g1,n1,rfl,ha1,ha2,hg1,hga⟩
  have e1:g1 n=some (.cells [.lit (.int .u8 0),.lit (.int .i64 0),.lit (.slice none 0 0)] true 0):=by rw [hg1 n (by omega)]; simp
  have HG1:=Hide.mk hg1
  have HGA:=Hide.mk hga
  have HPOS:=Hide.mk hpos
  have HP0:=Hide.mk hp0
  have hrat:RAt vs va s pos a g1 n1:=⟨by omega,by omega,HVR.out.mono (by rw [hg1 va (by omega)]; simp (disch:=omega) only [gput_lt]),⟨_,_,_,hga,by simp,by simp⟩⟩
  have HRAT:=Hide.mk hrat
  clear hg1 hga hpos hp0 hrat
  iterate 20 (all_goals try (first | with_reducible refine splitI (fun h=>?_) (fun h=>?_) | with_reducible refine splitBI (fun h=>?_) (fun h=>?_) | simp (config:={ maxSteps:=1000000 }) (disch:=first | assumption | omega | (simp; done) | fail) [Tryd.results17, *]))
  refine WC.mono (rlevel_w HPOS.out (by omega) (by omega) hn (20 * s.size+9) (by omega) 1 0 (advM s 0) g1 n1 HRAT.out HP0.out (by omega) (by omega) (by omega)) ?_
  rintro _ ⟨res,hrd,x,op,q,sv2,j,e,g2,n2,rfl,hn2,hg2,hfr,hend⟩
  have HFR:=Hide.mk hfr
  have HG2:=Hide.mk hg2
  have e2:g2 n=some (.cells [.lit (.int .u8 0),.lit (.int .i64 0),.lit (.slice none 0 0)] true 0):=(hg2 n (by omega)).trans e1
  have h1c:=repN_c hfr.rep
  have h1a:allOne [.lit (.int .u8 op),.lit (.int .i64 q),sv2]=true:=by simp [h1c]
  have h1b:allOne [.lit (.int .u8 op),.lit (.int .i64 q),sv2,.lit (.int .i64 j),.lit (.int .i64 e)]=true:=by simp [h1c]
  have h1b4:allOne [.lit (.int .u8 op),.lit (.int .i64 q),sv2,.lit (.int .i64 j),.lit (.int .i64 4)]=true:=by simp [h1c]
  have hnn2:¬n=n2:=by omega
  have HOLD:Hide (∀ b,b < n→g2 b=g b):=⟨fun b hb=>by rw [hg2 b (by omega),HG1.out b (by omega)]; simp (disch:=omega) only [gput_lt]⟩
  have hjk:∃ k,pos[j]?=some k:=by
    cases res with
    | ok y k=>exact ⟨k,hend.2.2⟩
    | err c k=>exact ⟨k,hend.2.2⟩
  obtain ⟨k,hjk⟩:=hjk
  have hjl:j < pos.length:=(List.getElem?_eq_some_iff.1 hjk).1
  have hjI:(j:Int) < (pos.length:Int):=by omega
  have r1:=row_tok (z:=1) HRAT.out.toks hjk
  rw [Nat.zero_add] at r1
  obtain ⟨r1,r2⟩:=r1
  rw [← hg2 a (by omega)] at r1 r2
  have hkle:=(HPOS.out j k hjk).1
  have HE:Hide ((e=0∧readF vs s (20 * s.size+9) 1 (advM s 0)=some (.ok x k))∨(¬e=0∧readF vs s (20 * s.size+9) 1 (advM s 0)=some (.err e k))):=⟨by
    cases res with
    | ok y k2 =>
      obtain ⟨h1,rfl,h3⟩:=hend
      rw [hjk] at h3
      cases h3
      exact .inl ⟨h1,hrd⟩
    | err c k2 =>
      obtain ⟨rfl,h2,h3⟩:=hend
      rw [hjk] at h3
      cases h3
      exact .inr ⟨h2,hrd⟩⟩
  clear hend hrd hg2 hfr e1 hjk
  rcases HE.out with ⟨rfl,hrd⟩ | ⟨he,hrd⟩
  · have hsz:sizeN x≤1000000:=by
      have:=(read_size (vs:=vs) (s:=s) _).1 _ _ _ _ a1.2 hrd
      omega
    have HR2:=HRET.out
    rw [hrd] at HR2
    dsimp only at HR2
    clear HE hrd
    by_cases hte:tokB s k=⟨#[]⟩
    · rw [if_neg (fun h=>h hte)] at HR2
      rw [hte] at r1
      have HRC:Hide (∀ (g' : Nat→Option Blk) (n' : Nat),n2≤n'→(∀ a,a < n2→g' a=g2 a)→WC 6 Tryd.prog 26 [.sl va 0 vs.length vs.length,.agg [.lit (.int .u8 op),.lit (.int .i64 q),sv2]] ⟨.fn g',n'⟩ fun r=>r=.ret (.lit (.int .i64 (checkM vs x))) ⟨.fn g',n'⟩):=⟨fun g' n' h1 h2=>rcheck_w vs x g' n' _ _ (.inr ⟨va,0,by omega,.inl ⟨_,rfl⟩,HVR.out.mono (by rw [h2 va (by omega),HOLD.out va hva])⟩) hn hsz (repN_mono h1 h2 HFR.out.rep)⟩
      have HR3:=Hide.mk HR2
      clear HR2 hte
      iterate 20 (all_goals try (first | with_reducible refine splitI (fun h=>?_) (fun h=>?_) | with_reducible refine splitBI (fun h=>?_) (fun h=>?_) | simp (config:={ maxSteps:=1000000 }) (disch:=first | assumption | omega | (simp; done) | fail) [Tryd.results17, *]))
      refine WC.mono (HRC.out _ _ (by omega) (fun b hb=>(by simp (disch:=omega) only [gput_lt]))) ?_
      rintro _ rfl
      by_cases hck:checkM vs x=0
      · have HR4:=HR3.out
        rw [if_neg (fun h=>h hck)] at HR4
        subst HR4
        rw [hck]
        clear HR3
        iterate 20 (all_goals try (first | with_reducible refine splitI (fun h=>?_) (fun h=>?_) | with_reducible refine splitBI (fun h=>?_) (fun h=>?_) | simp (config:={ maxSteps:=1000000 }) (disch:=first | assumption | omega | (simp; done) | fail) [Tryd.results17, *]))
        refine ⟨_,_,_,rfl,by omega,fun b hb=>?_,HFR.out.keep (by omega) (by omega) (fun a h4 h5=>by simp (disch:=omega) only [gput_ne,gput_lt])⟩
        simp (disch:=omega) only [gput_lt]
        exact HOLD.out b hb
      · have HR4:=HR3.out
        rw [if_pos hck] at HR4
        subst HR4
        generalize checkM vs x=cv at *
        clear HR3
        iterate 20 (all_goals try (first | with_reducible refine splitI (fun h=>?_) (fun h=>?_) | with_reducible refine splitBI (fun h=>?_) (fun h=>?_) | simp (config:={ maxSteps:=1000000 }) (disch:=first | assumption | omega | (simp; done) | fail) [Tryd.results17, *]))
        refine ⟨_,_,_,rfl,by omega,fun b hb=>?_,FreshN.leaf (by omega)⟩
        simp (disch:=omega) only [gput_lt]
        exact HOLD.out b hb
    · rw [if_pos hte] at HR2
      have hteI:¬tokB s k=⟨#[]⟩:=hte
      subst HR2
      iterate 20 (all_goals try (first | with_reducible refine splitI (fun h=>?_) (fun h=>?_) | with_reducible refine splitBI (fun h=>?_) (fun h=>?_) | simp (config:={ maxSteps:=1000000 }) (disch:=first | assumption | omega | (simp; done) | fail) [Tryd.results17, *]))
      refine ⟨_,_,_,rfl,by omega,fun b hb=>?_,FreshN.leaf (by omega)⟩
      simp (disch:=omega) only [gput_lt]
      exact HOLD.out b hb
  · have HR2:=HRET.out
    rw [hrd] at HR2
    dsimp only at HR2
    subst HR2
    clear HE hrd
    iterate 20 (all_goals try (first | with_reducible refine splitI (fun h=>?_) (fun h=>?_) | with_reducible refine splitBI (fun h=>?_) (fun h=>?_) | simp (config:={ maxSteps:=1000000 }) (disch:=first | assumption | omega | (simp; done) | fail) [Tryd.results17, *]))
    refine ⟨_,_,_,rfl,by omega,fun b hb=>?_,FreshN.leaf (by omega)⟩
    simp (disch:=omega) only [gput_lt]
    exact HOLD.out b hb
end Go.Ai
end
section
namespace Go.Ai
open Go.Proofs
set_option maxRecDepth 10000
set_option maxHeartbeats 40000000
theorem varsE_ck:checkVarsM varsE=0:=by decide +kernel
theorem varsE_row {g:Nat→Option Blk} {n:Nat} (h:g n=some (.cells (varsE.flatMap VarM.cells) true 0)) : Row g n 0 (varsE.flatMap VarM.cells):=⟨_,_,_,h,Nat.le_of_eq (Nat.zero_add _),by rw [List.drop_zero,List.take_length]⟩
theorem parse_big (s:ByteArray) (hs:65536 < s.size) (g:Nat→Option Blk) (n va:Nat) (hva:va < n) (hvr:Row g va 0 (varsE.flatMap VarM.cells)) :
    WC 6 Tryd.prog 13 [.sl va 0 3 3,.lit (.string s)] ⟨.fn g,n⟩ fun r=>ParQ (zeroN,0,3) g n r:=by
  have hbI:(65536:Int) < (s.size:Int):=by omega
  have HV:=Hide.mk (fun (g' : Nat→Option Blk) (n' : Nat) (hn:n≤n') (hg:∀ a,a < n→g' a=g a)=>checkVars_w varsE g' n' (.sl va 0 3 3) (.inr ⟨va,0,by omega,.inl ⟨3,rfl⟩,hvr.mono (hg va hva)⟩) (by decide))
  refine WC.enterX (noO_ok _ _) hG6 [] Tryd.func13 rfl (by decide +kernel) (Nat.le_of_ble_eq_true (by kernel_rfl)) ?_
  iterate 12 (all_goals try (first | with_reducible refine splitI (fun h=>?_) (fun h=>?_) | with_reducible refine splitBI (fun h=>?_) (fun h=>?_) | simp (config:={ maxSteps:=1000000 }) (disch:=first | assumption | omega | (simp; done) | fail) [Tryd.results13, *]))
  refine WC.mono (HV.out _ _ (by omega) (fun a ha=>(by simp (disch:=omega) only [gput_lt]))) ?_
  rintro _ rfl
  rw [varsE_ck]
  iterate 12 (all_goals try (first | with_reducible refine splitI (fun h=>?_) (fun h=>?_) | with_reducible refine splitBI (fun h=>?_) (fun h=>?_) | simp (config:={ maxSteps:=1000000 }) (disch:=first | assumption | omega | (simp; done) | fail) [Tryd.results13, *]))
  refine ⟨_,_,_,rfl,by omega,fun a ha=>?_,FreshN.leaf (by omega)⟩
  simp (disch:=omega) only [gput_lt]
theorem parseM_ok (s:ByteArray) : (parseM varsE s).2.2=0→checkM varsE (parseM varsE s).1=0:=by
  have hz:checkM varsE zeroN=0:=by decide +kernel
  rw [parseM,if_neg (fun h=>h varsE_ck)]
  split
  · intro _; exact hz
  split
  · intro _; exact hz
  · split
    · intro _; exact hz
    · split
      · intro _; exact hz
      · rename_i h
        intro _
        exact Classical.not_not.1 h
  · intro _; exact hz
theorem parseM_size {vs:List VarM} {s:ByteArray} (hs:s.size≤65536) : sizeN (parseM vs s).1≤65537:=by
  have hz:sizeN zeroN=1:=by decide
  have a1:=advM_le (s:=s) (j:=0) (Nat.zero_le _)
  rw [parseM]
  split
  · show sizeN zeroN≤_; omega
  rw [if_neg (by omega)]
  split
  · show sizeN zeroN≤_; omega
  · rename_i x k e
    have:=(read_size (vs:=vs) (s:=s) _).1 _ _ _ _ a1.2 e
    split
    · show sizeN zeroN≤_; omega
    · split
      · show sizeN zeroN≤_; omega
      · show sizeN x≤_; have:=(read_le (vs:=vs) (s:=s) _).1 _ _ _ _ a1.2 e; omega
  · show sizeN zeroN≤_; omega
theorem guardsParse_w (hl:retIs (.lit (.bool true)) (callF Tryd.prog O5 10000 16 [] H0)=true) (s:ByteArray) (g:Nat→Option Blk) (n:Nat) (h0:∀ i x,blks0[i]?=some x→g i=some x) (hn:8≤n) :
    WC 6 Tryd.prog 4 [.lit (.string s)] ⟨.fn g,n⟩ fun r=>∃ H',r=.ret (.lit (.bool true)) H':=by
  have H00:=Hide.mk h0
  have HL:=Hide.mk hl
  have H8:Hide (∀ i y,blks0[i]?=some y→i < 8):=⟨fun i y hy=>(List.getElem?_eq_some_iff.1 hy).1⟩
  clear h0 hl
  have hvl:(List.flatMap VarM.cells varsE).length=9:=rfl
  by_cases hbig:65536 < s.size
  · have hbI:(65536:Int) < (s.size:Int):=by omega
    refine WC.enterP (noO_ok _ _) hG6 pl4 Tryd.func4 rfl (by decide +kernel) (Nat.le_of_ble_eq_true (by kernel_rfl)) ?_
    iterate 8 (all_goals try (first | with_reducible refine splitI (fun h=>?_) (fun h=>?_) | with_reducible refine splitBI (fun h=>?_) (fun h=>?_) | simp (config:={ maxSteps:=1000000 }) (disch:=first | assumption | omega | (simp; done) | fail) [Tryd.results4, *]))
    refine WC.mono (Vars_w _ _) ?_
    rintro _ rfl
    iterate 8 (all_goals try (first | with_reducible refine splitI (fun h=>?_) (fun h=>?_) | with_reducible refine splitBI (fun h=>?_) (fun h=>?_) | simp (config:={ maxSteps:=1000000 }) (disch:=first | assumption | omega | (simp; done) | fail) [Tryd.results4, *]))
    refine WC.mono (parse_big s hbig _ _ n (by omega) (varsE_row gput_eq)) ?_
    rintro _ ⟨ds,g3,n3,rfl,hn3,hg3,hfr⟩
    have hrep3:=hfr.rep
    obtain ⟨k3,sv3,hcz,h1c3,hop3⟩:=repN_op hrep3
    subst hcz
    have h1p:allOne [.lit (.int .u8 zeroN.op),.lit (.int .i64 k3),sv3]=true:=by simp [h1c3]
    have HB3:Hide (∀ i y,blks0[i]?=some y→g3 i=some y):=⟨fun i y hy=>by
      have:=H8.out i y hy
      rw [hg3 i (by omega)]
      simp (disch:=omega) only [gput_lt]
      exact H00.out i y hy⟩
    have HR3:=Hide.mk hrep3
    clear hfr hg3 hrep3
    iterate 8 (all_goals try (first | with_reducible refine splitI (fun h=>?_) (fun h=>?_) | with_reducible refine splitBI (fun h=>?_) (fun h=>?_) | simp (config:={ maxSteps:=1000000 }) (disch:=first | assumption | omega | (simp; done) | fail) [Tryd.results4, *]))
    refine WC.mono (rsame_w 1 (by omega) zeroN (by decide) _ _ _ _ (repN_mono (by omega) (fun a ha=>(by simp (disch:=omega) only [gput_lt])) HR3.out) ⟨by omega,_,rfl,.inl ⟨rfl,.inl rfl⟩⟩) ?_
    rintro _ rfl
    iterate 8 (all_goals try (first | with_reducible refine splitI (fun h=>?_) (fun h=>?_) | with_reducible refine splitBI (fun h=>?_) (fun h=>?_) | simp (config:={ maxSteps:=1000000 }) (disch:=first | assumption | omega | (simp; done) | fail) [Tryd.results4, *]))
    refine WC.mono (own_w (callF_ok O5_ok hG6 10000) rfl rfl HL.out _ (holds_of fun i y hy=>?_)) ?_
    · have h8:=H8.out i y hy
      have hgi:=HB3.out i y hy
      show gput _ _ _ _=_
      simp (disch:=omega) only [gput_lt]
      exact hgi
    rintro _ rfl
    iterate 8 (all_goals try (first | with_reducible refine splitI (fun h=>?_) (fun h=>?_) | with_reducible refine splitBI (fun h=>?_) (fun h=>?_) | simp (config:={ maxSteps:=1000000 }) (disch:=first | assumption | omega | (simp; done) | fail) [Tryd.results4, *]))
  have hbI:¬(65536:Int) < (s.size:Int):=by omega
  have hs:s.size≤65536:=by omega
  have hpz:=parseM_size (vs:=varsE) hs
  have hpk:=parseM_ok s
  refine WC.enterP (noO_ok _ _) hG6 pl4 Tryd.func4 rfl (by decide +kernel) (Nat.le_of_ble_eq_true (by kernel_rfl)) ?_
  iterate 8 (all_goals try (first | with_reducible refine splitI (fun h=>?_) (fun h=>?_) | with_reducible refine splitBI (fun h=>?_) (fun h=>?_) | simp (config:={ maxSteps:=1000000 }) (disch:=first | assumption | omega | (simp; done) | fail) [Tryd.results4, *]))
  refine WC.mono (Vars_w _ _) ?_
  rintro _ rfl
  iterate 8 (all_goals try (first | with_reducible refine splitI (fun h=>?_) (fun h=>?_) | with_reducible refine splitBI (fun h=>?_) (fun h=>?_) | simp (config:={ maxSteps:=1000000 }) (disch:=first | assumption | omega | (simp; done) | fail) [Tryd.results4, *]))
  generalize hpm:parseM varsE s=ret at *
  refine WC.mono (Parse_w varsE s (atoi_ok (by omega)) (by omega) _ _ _ (by simp (disch:=omega) only [gput_lt]; exact H00.out 0 _ rfl) (by simp (disch:=omega) only [gput_lt]; exact H00.out 3 _ rfl) (by omega) (sliceV_all (own:=true) (z:=0) (by simp (disch:=omega) only [gput_lt,gput_eq,gput_ne]) (by omega)) (by simp [varsE])) ?_
  rw [hpm]
  rintro _ ⟨ds,g3,n3,rfl,hn3,hg3,hfr⟩
  have hrep3:=hfr.rep
  obtain ⟨k3,sv3,hcz,h1c3,hop3⟩:=repN_op hrep3
  subst hcz
  have h1p:allOne [.lit (.int .u8 ret.1.op),.lit (.int .i64 k3),sv3]=true:=by simp [h1c3]
  have HB3:Hide (∀ i y,blks0[i]?=some y→g3 i=some y):=⟨fun i y hy=>by
    have:=H8.out i y hy
    rw [hg3 i (by omega)]
    simp (disch:=omega) only [gput_lt]
    exact H00.out i y hy⟩
  have HR3:=Hide.mk hrep3
  clear hfr hg3 hrep3
  by_cases h200:200 < s.size
  · have h200I:(200:Int) < (s.size:Int):=by omega
    iterate 8 (all_goals try (first | with_reducible refine splitI (fun h=>?_) (fun h=>?_) | with_reducible refine splitBI (fun h=>?_) (fun h=>?_) | simp (config:={ maxSteps:=1000000 }) (disch:=first | assumption | omega | (simp; done) | fail) [Tryd.results4, *]))
    refine WC.mono (own_w (callF_ok O5_ok hG6 10000) rfl rfl HL.out _ (holds_of fun i y hy=>?_)) ?_
    · have h8:=H8.out i y hy
      have hgi:=HB3.out i y hy
      show gput _ _ _ _=_
      simp (disch:=omega) only [gput_lt]
      exact hgi
    rintro _ rfl
    iterate 8 (all_goals try (first | with_reducible refine splitI (fun h=>?_) (fun h=>?_) | with_reducible refine splitBI (fun h=>?_) (fun h=>?_) | simp (config:={ maxSteps:=1000000 }) (disch:=first | assumption | omega | (simp; done) | fail) [Tryd.results4, *]))
  have h200I:¬(200:Int) < (s.size:Int):=by omega
  iterate 8 (all_goals try (first | with_reducible refine splitI (fun h=>?_) (fun h=>?_) | with_reducible refine splitBI (fun h=>?_) (fun h=>?_) | simp (config:={ maxSteps:=1000000 }) (disch:=first | assumption | omega | (simp; done) | fail) [Tryd.results4, *]))
  refine WC.mono (Vars_w _ _) ?_
  rintro _ rfl
  iterate 8 (all_goals try (first | with_reducible refine splitI (fun h=>?_) (fun h=>?_) | with_reducible refine splitBI (fun h=>?_) (fun h=>?_) | simp (config:={ maxSteps:=1000000 }) (disch:=first | assumption | omega | (simp; done) | fail) [Tryd.results4, *]))
  refine WC.mono (rparse_w varsE s varsE_ck hs _ _ _ (by omega) (varsE_row (by simp (disch:=omega) only [gput_lt,gput_eq,gput_ne])) (by decide)) ?_
  rw [hpm]
  rintro _ ⟨es,g4,n4,rfl,hn4,hg4,hfr4⟩
  have hrep4:=hfr4.rep
  obtain ⟨k4,sv4,hcy,h1c4,hop4⟩:=repN_op hrep4
  subst hcy
  have h1q:allOne [.lit (.int .u8 ret.1.op),.lit (.int .i64 k4),sv4]=true:=by simp [h1c4]
  have HB4:Hide (∀ i y,blks0[i]?=some y→g4 i=some y):=⟨fun i y hy=>by
    have:=H8.out i y hy
    rw [hg4 i (by omega)]
    simp (disch:=omega) only [gput_lt]
    exact HB3.out i y hy⟩
  have HR4:=Hide.mk hrep4
  have HR5:Hide (repN g4 n4 ret.1 [.lit (.int .u8 ret.1.op),.lit (.int .i64 k3),sv3]):=⟨repN_mono (by omega) (fun a ha=>by rw [hg4 a (by omega)]; simp (disch:=omega) only [gput_lt]) HR3.out⟩
  have e3:g4 n3=some (.cells [.lit (.int .u8 ret.1.op),.lit (.int .i64 k3),sv3] true 0):=by rw [hg4 n3 (by omega)]; simp (disch:=omega) only [gput_lt,gput_eq]
  have hn34:¬n3=n4:=by omega
  clear hfr4 hg4 hrep4
  iterate 8 (all_goals try (first | with_reducible refine splitI (fun h=>?_) (fun h=>?_) | with_reducible refine splitBI (fun h=>?_) (fun h=>?_) | simp (config:={ maxSteps:=1000000 }) (disch:=first | assumption | omega | (simp; done) | fail) [Tryd.results4, *]))
  refine WC.mono (rsame_w 1000000 (Nat.le_refl _) ret.1 (by omega) _ _ _ _ (repN_mono (by omega) (fun a ha=>(by simp (disch:=omega) only [gput_lt])) HR5.out) (repN_mono (by omega) (fun a ha=>(by simp (disch:=omega) only [gput_lt])) HR4.out)) ?_
  rintro _ rfl
  by_cases h0:ret.2.2=0
  · have hck:=hpk h0
    have hvs:=checkVars_short (checkM_vars hck)
    have hts:(textM varsE ret.1).size≤64 * sizeN ret.1:=text_size hvs ret.1 (checkM_ok hck)
    have HTXT:Hide (textTop varsE ret.1=(textM varsE ret.1,0)):=⟨by unfold textTop; rw [if_neg (fun e=>e hck)]⟩
    have HRT:Hide (TextAt varsE ret.1):=⟨rtext_w varsE hvs (by simp [varsE]) 1000000 (Nat.le_refl _) ret.1 (by omega)⟩
    have HSH:Hide (shapedM varsE.length ret.1=true):=⟨checkM_ok hck⟩
    have htx:(textM varsE ret.1).size≤10000000:=by omega
    unfold TextAt at HRT
    generalize textM varsE ret.1=tx at *
    clear hck hvs hts hpk
    iterate 8 (all_goals try (first | with_reducible refine splitI (fun h=>?_) (fun h=>?_) | with_reducible refine splitBI (fun h=>?_) (fun h=>?_) | simp (config:={ maxSteps:=1000000 }) (disch:=first | assumption | omega | (simp; done) | fail) [Tryd.results4, *]))
    refine WC.mono (Vars_w _ _) ?_
    rintro _ rfl
    iterate 8 (all_goals try (first | with_reducible refine splitI (fun h=>?_) (fun h=>?_) | with_reducible refine splitBI (fun h=>?_) (fun h=>?_) | simp (config:={ maxSteps:=1000000 }) (disch:=first | assumption | omega | (simp; done) | fail) [Tryd.results4, *]))
    refine WC.mono (Text_w varsE ret.1 _ _ _ _ (by simp (disch:=omega) only [gput_lt]; exact HB4.out 0 _ rfl) (by simp (disch:=omega) only [gput_lt]; exact HB4.out 1 _ rfl) (by omega) (sliceV_all (own:=true) (z:=0) (by simp (disch:=omega) only [gput_lt,gput_eq,gput_ne]) (by omega)) (by simp [varsE]) (by omega) (repN_mono (by omega) (fun a ha=>(by simp (disch:=omega) only [gput_lt])) HR5.out)) ?_
    rw [HTXT.out]
    rintro _ rfl
    iterate 8 (all_goals try (first | with_reducible refine splitI (fun h=>?_) (fun h=>?_) | with_reducible refine splitBI (fun h=>?_) (fun h=>?_) | simp (config:={ maxSteps:=1000000 }) (disch:=first | assumption | omega | (simp; done) | fail) [Tryd.results4, *]))
    refine WC.mono (Vars_w _ _) ?_
    rintro _ rfl
    iterate 8 (all_goals try (first | with_reducible refine splitI (fun h=>?_) (fun h=>?_) | with_reducible refine splitBI (fun h=>?_) (fun h=>?_) | simp (config:={ maxSteps:=1000000 }) (disch:=first | assumption | omega | (simp; done) | fail) [Tryd.results4, *]))
    refine WC.mono (HRT.out _ _ _ _ (by omega) (repN_mono (by omega) (fun a ha=>(by simp (disch:=omega) only [gput_lt])) HR5.out) (sliceV_all (own:=true) (z:=0) (by simp (disch:=omega) only [gput_lt,gput_eq,gput_ne]) (by omega)) HSH.out) ?_
    rintro _ rfl
    iterate 8 (all_goals try (first | with_reducible refine splitI (fun h=>?_) (fun h=>?_) | with_reducible refine splitBI (fun h=>?_) (fun h=>?_) | simp (config:={ maxSteps:=1000000 }) (disch:=first | assumption | omega | (simp; done) | fail) [Tryd.results4, *]))
    refine WC.mono (own_w (callF_ok O5_ok hG6 10000) rfl rfl HL.out _ (holds_of fun i y hy=>?_)) ?_
    · have h8:=H8.out i y hy
      have hgi:=HB4.out i y hy
      show gput _ _ _ _=_
      simp (disch:=omega) only [gput_lt]
      exact hgi
    rintro _ rfl
    iterate 8 (all_goals try (first | with_reducible refine splitI (fun h=>?_) (fun h=>?_) | with_reducible refine splitBI (fun h=>?_) (fun h=>?_) | simp (config:={ maxSteps:=1000000 }) (disch:=first | assumption | omega | (simp; done) | fail) [Tryd.results4, *]))
  · iterate 8 (all_goals try (first | with_reducible refine splitI (fun h=>?_) (fun h=>?_) | with_reducible refine splitBI (fun h=>?_) (fun h=>?_) | simp (config:={ maxSteps:=1000000 }) (disch:=first | assumption | omega | (simp; done) | fail) [Tryd.results4, *]))
    refine WC.mono (own_w (callF_ok O5_ok hG6 10000) rfl rfl HL.out _ (holds_of fun i y hy=>?_)) ?_
    · have h8:=H8.out i y hy
      have hgi:=HB4.out i y hy
      show gput _ _ _ _=_
      simp (disch:=omega) only [gput_lt]
      exact hgi
    rintro _ rfl
    iterate 8 (all_goals try (first | with_reducible refine splitI (fun h=>?_) (fun h=>?_) | with_reducible refine splitBI (fun h=>?_) (fun h=>?_) | simp (config:={ maxSteps:=1000000 }) (disch:=first | assumption | omega | (simp; done) | fail) [Tryd.results4, *]))
end Go.Ai
end
