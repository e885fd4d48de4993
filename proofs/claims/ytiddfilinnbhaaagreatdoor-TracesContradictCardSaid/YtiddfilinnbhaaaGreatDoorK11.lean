/- A small verified interpreter over names, its proofs, and what was proved with it. No condition. -/
import Derived.Shelf.Vars
import Derived.Test.YtiddfilinnbhaaaGreatDoorK10
import Derived.Test.YtiddfilinnbhaaaGreatDoorK05
import Derived.Test.YtiddfilinnbhaaaGreatDoorK09
import Derived.Test.YtiddfilinnbhaaaGreatDoorK06
import Derived.Test.YtiddfilinnbhaaaGreatDoorK07
set_option linter.all false
set_option linter.deprecated false
section
namespace Go.Ai
open Go.Proofs
theorem H0m_get {m:Int} {a:Nat} {x:Blk} (h:(H0m m).get a=some x) : a=0∧x=.cells [.lit (.int .i64 m)] false 0:=by
 have h1:get4 (u4 e4 0 (.v 0 (.cells [.lit (.int .i64 m)] false 0))) a=some x:=h
 rcases get4_v _ _ _ _ _ h1 with ⟨rfl,rfl⟩ | ⟨_,h2⟩
 ·exact ⟨rfl,rfl⟩
 ·rw [get4_e4] at h2; cases h2
theorem lives_w (H:Mem) (m:Int) (hM:H.get 0=some (.cells [.lit (.int .i64 m)] false 0)) : WC 3 Tryz.prog 16 [] H fun r=>r=.ret (.lit (.bool true)) H:=by
 refine WC.local (H0:=H0m m) (O:=callB Tryz.prog bl34 O34 10000) (callB_ok O34_ok hG 10000) (top_run m) rfl rfl (Nat.le_refl 3) (fun a=>?_) (fun a x hx=>?_) fun a x hx=>?_
 ·cases hx:(H0m m).get a with
  | none=>rfl
  | some x =>
   obtain ⟨rfl,rfl⟩:=H0m_get hx
   rfl
 ·obtain ⟨rfl,rfl⟩:=H0m_get hx
  exact hM
 ·obtain ⟨rfl,rfl⟩:=H0m_get hx
  show 0 < 3
  omega
end Go.Ai
end
section
namespace Go.Ai
open Go.Proofs
set_option maxRecDepth 10000
set_option maxHeartbeats 40000000
end Go.Ai
end
section
namespace Go.Ai
open Go.Proofs
set_option maxRecDepth 10000
set_option maxHeartbeats 40000000
def nextM (M:MachM) (s i:Int) : Int×Int:=if s < 0 then (-1,-1) else (M.rows.getD s.toNat []).getD i.toNat (-1,-1)
def runM (M:MachM) : Int→List Int→List Int
 | _,[]=>[]
 | s,i :: w=>(nextM M s i).2 :: runM M (nextM M s i).1 w
def aftM (M:MachM) : Int→List Int→Int
 | s,[]=>s
 | s,i :: w=>aftM M (nextM M s i).1 w
theorem runM_len {M:MachM} : ∀ (w:List Int) (s:Int),(runM M s w).length=w.length
 | [],_=>rfl
 | _ :: w,s=>by unfold runM; rw [List.length_cons,List.length_cons,runM_len w]
theorem runM_app {M:MachM} : ∀ (a b:List Int) (s:Int),runM M s (a++b)=runM M s a++runM M (aftM M s a) b
 | [],_,_=>rfl
 | i :: a,b,s=>by
  show (nextM M s i).2 :: runM M (nextM M s i).1 (a++b)=_
  rw [runM_app a b]; rfl
theorem aftM_app {M:MachM} : ∀ (a b:List Int) (s:Int),aftM M s (a++b)=aftM M (aftM M s a) b
 | [],_,_=>rfl
 | i :: a,b,s=>aftM_app a b _
def stOK (M:MachM) (s:Int) : Prop:=s = -1∨∃ k:Nat,s=k∧k < M.rows.length
theorem edgeOK_st {M:MachM} {e:Int×Int} (h:edgeOK M.rows.length M.out e=true) : stOK M e.1 ∧ -1≤e.2∧(e.2 = -1∨e.2 < M.out)∧(e.2 = -1→e.1 = -1):=by
 unfold edgeOK at h
 rcases Bool.or_eq_true_iff.1 h with h | h
 ·have h:=of_decide_eq_true h
  subst h
  exact ⟨.inl rfl,by decide,.inl rfl,fun _=>rfl⟩
 ·simp only [Bool.and_eq_true,decide_eq_true_eq] at h
  exact ⟨.inr ⟨e.1.toNat,by omega,by omega⟩,by omega,.inr h.2.2.2,fun h2=>by omega⟩
theorem nextM_at {M:MachM} (hM:M.ok) {k:Nat} {i:Int} (hk:k < M.rows.length) (h0:0≤i) (h1:i < M.inp) : ∃ (hi:i.toNat < (M.rows[k]).length),nextM M k i=(M.rows[k])[i.toNat]∧edgeOK M.rows.length M.out (nextM M k i)=true:=by
 have hr:=hM.2.2.2.2.2.2 _ (List.getElem_mem hk)
 have hi:i.toNat < (M.rows[k]).length:=by omega
 have e:nextM M k i=(M.rows[k])[i.toNat]:=by
  unfold nextM
  rw [if_neg (by omega),show ((k:Int)).toNat=k from rfl]
  have h3:M.rows.getD k []=M.rows[k]:=by rw [List.getD_eq_getElem?_getD,List.getElem?_eq_getElem hk]; rfl
  rw [h3,List.getD_eq_getElem?_getD,List.getElem?_eq_getElem hi]
  rfl
 exact ⟨hi,e,by rw [e]; exact hr.2 _ (List.getElem_mem hi)⟩
theorem nextM_neg {M:MachM} {s i:Int} (h:s < 0) : nextM M s i=(-1,-1):=if_pos h
theorem nextM_ok {M:MachM} (hM:M.ok) {s i:Int} (hs:stOK M s) (h0:0≤i) (h1:i < M.inp) : edgeOK M.rows.length M.out (nextM M s i)=true:=by
 rcases hs with rfl | ⟨k,rfl,hk⟩
 ·rw [nextM_neg (by decide)]; rfl
 ·exact (nextM_at hM hk h0 h1).2.2
structure EdgeAt (g:Nat→Option Blk) (n:Nat) (rv:AV) (k i:Nat) (e:Int×Int) (a off a2 off2:Nat) (q:AV) : Prop where
 an:a < n
 an2:a2 < n
 ia:∀ {H:Mem} {ev:Ev} {o:Oper} {t:TypeId},iaS Tryz.prog H ev o t (some (none,1)) (some rv) (some (.lit (.int .i64 (k:Int))))=.val (.ptr a (off+k)) H
 cell:loadB (some (false,1)) (g a) (off+k)=some q
 ia2:∀ {H:Mem} {ev:Ev} {o:Oper} {t:TypeId},iaS Tryz.prog H ev o t (some (none,2)) (some q) (some (.lit (.int .i64 (i:Int))))=.val (.ptr a2 (off2+i * 2)) H
 cell2:loadB (some (true,2)) (g a2) (off2+i * 2)=some (.agg [.lit (.int .i64 e.1),.lit (.int .i64 e.2)])
theorem RepM.edge {g:Nat→Option Blk} {n:Nat} {M:MachM} {a0 b0 rv:AV} (h:RepM g n M [a0,b0,rv]) {k:Nat} (hk:k < M.rows.length) {i:Nat} (hi:i < (M.rows[k]).length) : ∃ a off a2 off2 q,EdgeAt g n rv k i (M.rows[k])[i] a off a2 off2 q:=by
 obtain ⟨sv,svs,e,hr,hs⟩:=h
 injection e with _ e; injection e with _ e; injection e with e _
 subst e
 have hkl:k < svs.length:=by rw [hr.len]; exact hk
 obtain ⟨a,off,ha,hrow,hia⟩:=hs.ia (P:=Tryz.prog) hk 1
 simp only [Nat.mul_one] at hia
 have hc:=hrow.one (k:=k) (s:=1) hkl
 obtain ⟨a2,off2,ha2,hrow2,hia2⟩:=SliceV.ia (P:=Tryz.prog) (hr.at k hk hkl) hi 2
 have hc2:=hrow2.agg (k:=i * 2) (s:=2) (by rw [rowC_len]; omega)
 rw [rowC_at _ i hi] at hc2
 exact ⟨a,off,a2,off2,svs[k],ha,ha2,hia,hc,hia2,hc2⟩
theorem rNext_w {M:MachM} (hM:M.ok) (s i:Int) (hs:stOK M s) (h0:0≤i) (h1:i < M.inp) (g:Nat→Option Blk) (n:Nat) (ms:List AV) (hr:RepM g n M ms) :
  WC 3 Tryz.prog 67 [.agg ms,.lit (.int .i64 s),.lit (.int .i64 i)] ⟨.fn g,n⟩ fun r=>∃ g' n',r=.ret (.agg [.lit (.int .i64 (nextM M s i).1),.lit (.int .i64 (nextM M s i).2)]) ⟨.fn g',n'⟩∧n≤n'∧∀ b,b < n→g' b=g b:=by
 obtain ⟨rv,rfl,h1r⟩:=hr.one
 have h1a:allOne [.lit (.int .i64 M.inp),.lit (.int .i64 M.out),rv]=true:=by simp [h1r]
 have HR:=Hide.mk hr
 clear hr
 rcases hs with rfl | ⟨k,rfl,hk⟩
 ·rw [nextM_neg (by decide)]
  refine WC.enterP (noO_ok _ _) hG [] Tryz.func67 rfl (by decide +kernel) (Nat.le_of_ble_eq_true (by kernel_rfl)) ?_
  iterate 8 (all_goals try (first | with_reducible refine splitI (fun h=>?_) (fun h=>?_) | with_reducible refine splitBI (fun h=>?_) (fun h=>?_) | simp (config:={ maxSteps:=1000000 }) (disch:=first | assumption | omega | (simp; done) | fail) [Tryz.results67, *]))
  refine ⟨_,_,⟨rfl,rfl⟩,by omega,fun b (hb:b < n)=>by simp (disch:=omega) [gput_lt]⟩
 ·obtain ⟨hi,he,_⟩:=nextM_at hM hk h0 h1
  obtain ⟨a,off,a2,off2,q,HE0⟩:=HR.out.edge hk hi
  rw [← he] at HE0
  obtain ⟨j,rfl⟩ : ∃ j:Nat,i=j:=⟨i.toNat,by omega⟩
  have HE:=Hide.mk HE0
  clear HE0 he
  have han:=HE.out.an
  have han2:=HE.out.an2
  have hia:∀ {H:Mem} {ev:Ev} {o:Oper} {t:TypeId},iaS Tryz.prog H ev o t (some (none,1)) (some rv) (some (.lit (.int .i64 (k:Int))))=.val (.ptr a (off+k)) H:=fun {H ev o t}=>HE.out.ia
  have hc:=HE.out.cell
  have hia2:∀ {H:Mem} {ev:Ev} {o:Oper} {t:TypeId},iaS Tryz.prog H ev o t (some (none,2)) (some q) (some (.lit (.int .i64 (j:Int))))=.val (.ptr a2 (off2+j * 2)) H:=fun {H ev o t}=>HE.out.ia2
  have hc2:loadB (some (true,2)) (g a2) (off2+j * 2)=_:=HE.out.cell2
  have hk0:¬(k:Int) < 0:=by omega
  clear HE
  generalize (nextM M k j).1=x at *
  generalize (nextM M k j).2=y at *
  refine WC.enterP (noO_ok _ _) hG [] Tryz.func67 rfl (by decide +kernel) (Nat.le_of_ble_eq_true (by kernel_rfl)) ?_
  iterate 8 (all_goals try (first | with_reducible refine splitI (fun h=>?_) (fun h=>?_) | with_reducible refine splitBI (fun h=>?_) (fun h=>?_) | simp (config:={ maxSteps:=1000000 }) (disch:=first | assumption | omega | (simp; done) | fail) [Tryz.results67, *]))
  refine ⟨_,_,⟨rfl,rfl⟩,by omega,fun b (hb:b < n)=>by simp (disch:=omega) [gput_lt]⟩
theorem take_snoc {α:Type} {l:List α} {k:Nat} (h:k < l.length) : l.take (k+1)=l.take k++[l[k]]:=by rw [List.take_succ,List.getElem?_eq_getElem h]; rfl
def FreshW (g:Nat→Option Blk) (lo n:Nat) (w:List Int) (sv:AV) : Prop:=∃ gk:Nat→Option Blk,(∀ a z,gk a=some z→g a=some z∧lo≤a∧a < n)∧RepW gk n w sv
theorem FreshW.rep {g:Nat→Option Blk} {lo n:Nat} {w:List Int} {sv:AV} (h:FreshW g lo n w sv) : RepW g n w sv :=
 let ⟨_,h1,h3⟩:=h; SliceV.ext (Nat.le_refl _) (fun a z _ hz=>(h1 a z hz).1) h3
theorem FreshW.keep {g g' : Nat→Option Blk} {lo lo' n n' : Nat} {w:List Int} {sv:AV} (h:FreshW g lo n w sv) (h0:lo'≤lo) (h2:n≤n') (hg:∀ a,lo≤a→a < n→g' a=g a) : FreshW g' lo' n' w sv:=by
 obtain ⟨gk,h1,h3⟩:=h
 refine ⟨gk,fun a z hz=>?_,SliceV.ext h2 (fun a z _ hz=>hz) h3⟩
 obtain ⟨e1,e2,e3⟩:=h1 a z hz
 exact ⟨(hg a e2 e3).trans e1,by omega,by omega⟩
theorem GrowV.fresh {g:Nat→Option Blk} {lo n B len:Nat} {sv:AV} {w:List Int} (h:GrowV g lo n B sv len 1 (wdC w)) (hl:len=w.length) : FreshW g lo n w sv:=by
 subst hl
 refine ⟨_,fun a z hz=>?_,h.slice⟩
 have hz' : (if a=B∧lo≤B∧B < n then g a else none)=some z:=hz
 split at hz'
 ·rename_i h1
  obtain ⟨rfl,h2,h3⟩:=h1
  exact ⟨hz',h2,h3⟩
 ·cases hz'
theorem wdC_snoc (w:List Int) (x:Int) : wdC (w++[x])=wdC w++[.lit (.int .i64 x)]:=by simp [wdC]
theorem rRun_w {M:MachM} (hM:M.ok) (w:List Int) (hwl:w.length≤300) (hw:inW w M.inp=true) (g:Nat→Option Blk) (n:Nat) (ms:List AV) (wv:AV) (hr:RepM g n M ms) (hv:RepW g n w wv) :
  WC 3 Tryz.prog 33 [.agg ms,.lit (.int .i64 0),wv] ⟨.fn g,n⟩ fun r=>∃ sv g' n',r=.ret sv ⟨.fn g',n'⟩∧n≤n'∧(∀ b,b < n→g' b=g b)∧FreshW g' n n' (runM M 0 w) sv:=by
 obtain ⟨rv,rfl,h1r⟩:=hr.one
 have h1a:allOne [.lit (.int .i64 M.inp),.lit (.int .i64 M.out),rv]=true:=by simp [h1r]
 have hlen:=@lenV Tryz.prog _ _ _ _ _ hv
 have HR:=Hide.mk hr
 have HV:=Hide.mk hv
 have HM:=Hide.mk hM
 have HW:=Hide.mk hw
 have hr0:=hM.2.2.2.2.1
 clear hr hv hM hw
 refine WC.enterP (noO_ok _ _) hG pl33 Tryz.func33 rfl (by decide +kernel) (Nat.le_of_ble_eq_true (by kernel_rfl)) ?_
 iterate 8 (all_goals try (first | with_reducible refine splitI (fun h=>?_) (fun h=>?_) | with_reducible refine splitBI (fun h=>?_) (fun h=>?_) | simp (config:={ maxSteps:=1000000 }) (disch:=first | assumption | omega | (simp; done) | fail) [Tryz.results33, *]))
 refine LX.ind (fun m gf H'=>∃ (k n' : Nat) (gL:Nat→Option Blk) (B:Nat) (sv:AV) (cs:List AV) (s:Int),k≤w.length∧m=w.length - k∧H'=⟨.fn gL,n'⟩∧n+1≤n'∧Hide (∀ b,b < n→gL b=g b)∧gL n=some (.cells [.lit (.int .i64 M.inp),.lit (.int .i64 M.out),rv] true 0) ∧
  Hide (GrowV gL (n+1) n' B sv k 1 cs)∧Hide (cs=wdC (runM M 0 (w.take k)))∧Hide (s=aftM M 0 (w.take k)∧stOK M s)∧gf 1=some (.lit (.int .i64 s))∧gf 2=some wv∧gf 3=some (.ptr n 0)∧gf 7=some sv∧gf 8=some (.lit (.int .i64 k))) (m0:=w.length) ?_ ?_
 ·exact ⟨0,_,_,0,_,[],0,Nat.zero_le _,rfl,rfl,Nat.le_refl _,⟨fun b hb=>gput_lt hb⟩,gput_eq,⟨.inl ⟨rfl,rfl,rfl⟩⟩,⟨rfl⟩,⟨rfl,.inr ⟨0,rfl,by omega⟩⟩,by simp,by simp,by simp,by simp,by simp⟩
 rintro m gf H' ⟨k,n',gL,B,sv,cs,s,hk,rfl,rfl,hn',HG,hgn,HGR,HC,HST,w1,w2,w3,w7,w8⟩ ih
 refine LX.roundP (noO_ok _ _) hG pl33 (by decide +kernel) ?_
 by_cases hlt:k < w.length
 ·have hltI:(k:Int) < (w.length:Int):=by omega
  obtain ⟨a2,off,ha2,hia,hcell⟩:=SliceV.mono (Nat.le_of_lt hn') HG.out HV.out |> fun h=>RepW.at (w:=w) h hlt
  have htk:=take_snoc hlt
  have hx:=of_decide_eq_true (List.all_eq_true.1 HW.out _ (List.getElem_mem hlt))
  have HN:=Hide.mk (fun (gX:Nat→Option Blk) (n2:Nat) (hn2:n≤n2) (hX:∀ b,b < n→gX b=g b)=>rNext_w HM.out s w[k] HST.out.2 hx.1 hx.2 gX n2 _ (HR.out.mono hn2 hX))
  have HA:Hide (aftM M 0 (w.take (k+1))=(nextM M s w[k]).1):=⟨by rw [htk,aftM_app,← HST.out.1]; rfl⟩
  have HRN:Hide (runM M 0 (w.take (k+1))=runM M 0 (w.take k)++[(nextM M s w[k]).2]):=⟨by rw [htk,runM_app,← HST.out.1]; rfl⟩
  have HOK:=Hide.mk (edgeOK_st (nextM_ok HM.out HST.out.2 hx.1 hx.2)).1
  clear hx htk
  generalize w[k]=x at *
  generalize nextM M s x=e at *
  obtain ⟨to,eo⟩:=e
  dsimp only at *
  iterate 8 (all_goals try (first | with_reducible refine splitI (fun h=>?_) (fun h=>?_) | with_reducible refine splitBI (fun h=>?_) (fun h=>?_) | simp (config:={ maxSteps:=1000000 }) (disch:=first | assumption | omega | (simp; done) | fail) [Tryz.results33, *]))
  refine WC.mono (HN.out _ _ (by omega) fun b (hb:b < n)=>(gput_lt (by omega)).trans (HG.out b hb)) ?_
  rintro _ ⟨g2,n2,rfl,hn2,hX⟩
  have HG2:Hide (∀ b,b < n→g2 b=g b):=⟨fun b hb=>(hX b (by omega)).trans ((gput_lt (by omega)).trans (HG.out b hb))⟩
  have hnn2:n'+1≤n2:=hn2
  have hg2n:g2 n=some (.cells [.lit (.int .i64 M.inp),.lit (.int .i64 M.out),rv] true 0):=(hX n (by omega)).trans ((gput_lt (by omega)).trans hgn)
  have hg2e:g2 n'=some (.cells [.lit (.int .i64 0),.lit (.int .i64 0)] true 0):=(hX n' (by omega)).trans gput_eq
  have HX:=Hide.mk hX
  have HEND:Hide (∀ cs',cs'=cs++[.lit (.int .i64 eo)]→cs'=wdC (runM M 0 (w.take (k+1)))∧cs'.length=(k+1) * 1):=⟨fun cs' h=>by
   rw [HRN.out,wdC_snoc,← HC.out]
   refine ⟨h,?_⟩
   rw [h,HC.out,List.length_append,wdC_len,runM_len,List.length_take]
   simp; omega⟩
  clear hX hn2 HN hia hcell ha2
  rcases HGR.out with ⟨hk0,hc0,hs0⟩ | ⟨hk0,hs0,hB1,hB2,hB3,hB4⟩
  ·subst hs0
   have HZ:=Hide.mk (And.intro hk0 hc0)
   clear hk0 hc0
   iterate 8 (all_goals try (first | with_reducible refine splitI (fun h=>?_) (fun h=>?_) | with_reducible refine splitBI (fun h=>?_) (fun h=>?_) | simp (config:={ maxSteps:=1000000 }) (disch:=first | assumption | omega | (simp; done) | fail) [Tryz.results33, *]))
   have HQ:=HEND.out [.lit (.int .i64 eo)] (by rw [HZ.out.2]; rfl)
   refine ih.out (w.length - (k+1)) _ _ (by omega) ⟨k+1,n2+1+1,_,n2+1,.slq (n2+1) 0 (k+1) 0,_,to,by omega,rfl,rfl,by omega,⟨fun b hb=>?_⟩,?_,⟨.mk gput_eq (by omega) (by omega) HQ.2⟩,⟨HQ.1⟩,⟨HA.out.symm,HOK.out⟩,by simp,by simp [*],by simp [*],by rw [HZ.out.1]; simp,by simp⟩
   ·simp (disch:=omega) only [gput_lt]; exact HG2.out b hb
   ·simp (disch:=omega) only [gput_lt]; exact hg2n
  ·subst hs0
   have hB5:g2 B=some (.cells cs true 1):=(HX.out B (by omega)).trans ((gput_lt hB2).trans hB3)
   clear hB3
   iterate 8 (all_goals try (first | with_reducible refine splitI (fun h=>?_) (fun h=>?_) | with_reducible refine splitBI (fun h=>?_) (fun h=>?_) | simp (config:={ maxSteps:=1000000 }) (disch:=first | assumption | omega | (simp; done) | fail) [Tryz.results33, *]))
   have HQ:=HEND.out _ rfl
   refine ih.out (w.length - (k+1)) _ _ (by omega) ⟨k+1,n2+1+1,_,n2+1,.slq (n2+1) 0 (k+1) 0,_,to,by omega,rfl,rfl,by omega,⟨fun b hb=>?_⟩,?_,⟨.mk gput_eq (by omega) (by omega) HQ.2⟩,⟨HQ.1⟩,⟨HA.out.symm,HOK.out⟩,by simp,by simp [*],by simp [*],by simp,by simp⟩
   ·simp (disch:=omega) only [gput_lt,gput_ne]; exact HG2.out b hb
   ·simp (disch:=omega) only [gput_lt,gput_ne]; exact hg2n
 ·have hltI:¬(k:Int) < (w.length:Int):=by omega
  have hkw:k=w.length:=by omega
  have HREP:Hide (FreshW gL n n' (runM M 0 w) sv):=⟨by
   have h1:=HGR.out
   rw [HC.out,hkw,List.take_length] at h1
   exact (h1.fresh (runM_len w 0).symm).keep (Nat.le_succ n) (Nat.le_refl _) fun _ _ _=>rfl⟩
  clear hkw
  iterate 8 (all_goals try (first | with_reducible refine splitI (fun h=>?_) (fun h=>?_) | with_reducible refine splitBI (fun h=>?_) (fun h=>?_) | simp (config:={ maxSteps:=1000000 }) (disch:=first | assumption | omega | (simp; done) | fail) [Tryz.results33, *]))
  exact ⟨_,_,_,⟨rfl,rfl,rfl⟩,by omega,HG.out,HREP.out⟩
end Go.Ai
end
section
namespace Go.Ai
open Go.Proofs
set_option maxRecDepth 10000
set_option maxHeartbeats 40000000
end Go.Ai
end
section
namespace Go.Ai
open Go.Proofs
set_option maxRecDepth 10000
set_option maxHeartbeats 40000000
def u8C (bs:List Nat) : List AV:=bs.map fun (b:Nat)=>.lit (.int .u8 (b:Int))
def RepB (g:Nat→Option Blk) (n:Nat) (bs:List Nat) (sv:AV) : Prop:=SliceV g n sv bs.length (u8C bs)
theorem RepB.at {g:Nat→Option Blk} {n:Nat} {w:List Nat} {q1:AV} (h:RepB g n w q1) {k:Nat} (hk:k < w.length) : ∃ a off,a < n∧(∀ {H:Mem} {ev:Ev} {o:Oper} {t:TypeId},iaS Tryz.prog H ev o t (some (none,1)) (some q1) (some (.lit (.int .i64 (k:Int))))=.val (.ptr a (off+k)) H)∧loadB (some (false,1)) (g a) (off+k)=some (.lit (.int .u8 (w[k] : Nat))):=by
 obtain ⟨a2,off,ha2,hrow,hia⟩:=SliceV.ia (P:=Tryz.prog) h hk 1
 simp only [Nat.mul_one] at hia
 have hcell:=hrow.one (k:=k) (s:=1) (by unfold u8C; rw [List.length_map]; exact hk)
 rw [show (u8C w)[k]'(by unfold u8C; rw [List.length_map]; exact hk)=.lit (.int .u8 (w[k] : Nat)) by simp [u8C]] at hcell
 exact ⟨a2,off,ha2,hia,hcell⟩
def wordG (bs:List Nat) (I most:Nat) : List Int:=(bs.take most).map fun b=>((b % I:Nat) : Int)
theorem Word_w (bs:List Nat) (hb:∀ b∈bs,b < 256) (I most:Nat) (hI0:0 < I) (hI:I≤16) (hm:most≤12) (g:Nat→Option Blk) (n:Nat) (bv:AV) (hv:RepB g n bs bv) :
  WC 3 Tryz.prog 29 [bv,.lit (.int .i64 I),.lit (.int .i64 most)] ⟨.fn g,n⟩ fun r=>∃ sv g' n',r=.ret sv ⟨.fn g',n'⟩∧n≤n'∧(∀ b,b < n→g' b=g b)∧FreshW g' n n' (wordG bs I most) sv:=by
 have hlen:=@lenV Tryz.prog _ _ _ _ _ hv
 have HV:=Hide.mk hv
 have HBS:=Hide.mk hb
 clear hv hb
 refine WC.enterP (noO_ok _ _) hG [] Tryz.func29 rfl (by decide +kernel) (Nat.le_of_ble_eq_true (by kernel_rfl)) ?_
 iterate 8 (all_goals try (first | with_reducible refine splitI (fun h=>?_) (fun h=>?_) | with_reducible refine splitBI (fun h=>?_) (fun h=>?_) | simp (config:={ maxSteps:=1000000 }) (disch:=first | assumption | omega | (simp; done) | fail) [Tryz.results29, *]))
 refine LX.ind (fun m gf H'=>∃ (k n' : Nat) (gL:Nat→Option Blk) (B:Nat) (sv:AV) (cs:List AV),k≤bs.length∧k≤most∧m=most - k∧H'=⟨.fn gL,n'⟩∧n≤n'∧Hide (∀ b,b < n→gL b=g b) ∧
  Hide (GrowV gL n n' B sv k 1 cs)∧Hide (cs=wdC ((bs.take k).map fun b=>((b % I:Nat) : Int)))∧gf 0=some bv∧gf 1=some (.lit (.int .i64 I))∧gf 2=some (.lit (.int .i64 most))∧gf 7=some sv∧gf 8=some (.lit (.int .i64 k))) (m0:=most) ?_ ?_
 ·exact ⟨0,_,_,0,_,[],Nat.zero_le _,Nat.zero_le _,rfl,rfl,Nat.le_refl _,⟨fun b hb=>rfl⟩,⟨.inl ⟨rfl,rfl,rfl⟩⟩,⟨rfl⟩,by simp,by simp,by simp,by simp,by simp⟩
 rintro m gf H' ⟨k,n',gL,B,sv,cs,hk,hkm,rfl,rfl,hn',HG,HGR,HC,w0,w1,w2,w7,w8⟩ ih
 refine LX.roundP (noO_ok _ _) hG [] (by decide +kernel) ?_
 have fin:¬(k < bs.length∧k < most)→Hide (FreshW gL n n' (wordG bs I most) sv):=fun h=>⟨by
  have h1:=HGR.out
  have e:bs.take k=bs.take most:=by
   by_cases h2:k < most
   ·rw [List.take_of_length_le (by omega),List.take_of_length_le (by omega)]
   ·rw [show k=most by omega]
  rw [HC.out,e] at h1
  exact h1.fresh (by rw [List.length_map,← e,List.length_take]; omega)⟩
 have FIN:=Hide.mk fin
 clear fin
 by_cases hlt:k < bs.length
 ·have hltI:(k:Int) < (bs.length:Int):=by omega
  by_cases hlm:k < most
  ·have hlmI:(k:Int) < (most:Int):=by omega
   obtain ⟨a2,off,ha2,hia,hcell⟩:=RepB.at (n:=n') (w:=bs) (SliceV.mono hn' HG.out HV.out) hlt
   have hx:=HBS.out _ (List.getElem_mem hlt)
   have HEND:Hide (∀ cs',cs'=cs++[.lit (.int .i64 ((bs[k] % I:Nat) : Int))]→cs'=wdC ((bs.take (k+1)).map fun b=>((b % I:Nat) : Int))∧cs'.length=(k+1) * 1):=⟨fun cs' h=>by
    rw [take_snoc hlt,List.map_append,List.map_singleton,wdC_snoc,← HC.out]
    refine ⟨h,?_⟩
    rw [h,HC.out,List.length_append,wdC_len,List.length_map,List.length_take]
    simp; omega⟩
   generalize bs[k]=x at *
   have hrem:(x:Int).tmod (I:Int)=((x % I:Nat) : Int):=(Int.ofNat_tmod x I).symm
   have hxi:x % I < 256:=Nat.lt_of_le_of_lt (Nat.mod_le x I) hx
   generalize x % I=y at *
   have hI1:¬(I:Int)=0:=by omega
   have hI2:¬I=0:=by omega
   rcases HGR.out with ⟨hk0,hc0,hs0⟩ | ⟨hk0,hs0,hB1,hB2,hB3,hB4⟩
   ·subst hs0
    have HZ:=Hide.mk (And.intro hk0 hc0)
    clear hk0 hc0
    iterate 8 (all_goals try (first | with_reducible refine splitI (fun h=>?_) (fun h=>?_) | with_reducible refine splitBI (fun h=>?_) (fun h=>?_) | simp (config:={ maxSteps:=1000000 }) (disch:=first | assumption | omega | (simp; done) | fail) [Tryz.results29, *]))
    have HQ:=HEND.out [.lit (.int .i64 (y:Int))] (by rw [HZ.out.2]; rfl)
    refine ih.out (most - (k+1)) _ _ (by omega) ⟨k+1,n'+1+1,_,n'+1,.slq (n'+1) 0 (k+1) 0,_,by omega,by omega,rfl,rfl,by omega,⟨fun b hb=>?_⟩,⟨.mk gput_eq (by omega) (by omega) HQ.2⟩,⟨HQ.1⟩,by simp [*],by simp [*],by simp [*],by rw [HZ.out.1]; simp,by simp⟩
    simp (disch:=omega) only [gput_lt]; exact HG.out b hb
   ·subst hs0
    iterate 8 (all_goals try (first | with_reducible refine splitI (fun h=>?_) (fun h=>?_) | with_reducible refine splitBI (fun h=>?_) (fun h=>?_) | simp (config:={ maxSteps:=1000000 }) (disch:=first | assumption | omega | (simp; done) | fail) [Tryz.results29, *]))
    have HQ:=HEND.out _ rfl
    refine ih.out (most - (k+1)) _ _ (by omega) ⟨k+1,n'+1+1,_,n'+1,.slq (n'+1) 0 (k+1) 0,_,by omega,by omega,rfl,rfl,by omega,⟨fun b hb=>?_⟩,⟨.mk gput_eq (by omega) (by omega) HQ.2⟩,⟨HQ.1⟩,by simp [*],by simp [*],by simp [*],by simp,by simp⟩
    simp (disch:=omega) only [gput_lt,gput_ne]; exact HG.out b hb
  ·have hlmI:¬(k:Int) < (most:Int):=by omega
   have HF:=FIN.out (by omega)
   iterate 8 (all_goals try (first | with_reducible refine splitI (fun h=>?_) (fun h=>?_) | with_reducible refine splitBI (fun h=>?_) (fun h=>?_) | simp (config:={ maxSteps:=1000000 }) (disch:=first | assumption | omega | (simp; done) | fail) [Tryz.results29, *]))
   exact ⟨_,_,_,⟨rfl,rfl,rfl⟩,by omega,HG.out,HF.out⟩
 ·have hltI:¬(k:Int) < (bs.length:Int):=by omega
  have HF:=FIN.out (by omega)
  iterate 8 (all_goals try (first | with_reducible refine splitI (fun h=>?_) (fun h=>?_) | with_reducible refine splitBI (fun h=>?_) (fun h=>?_) | simp (config:={ maxSteps:=1000000 }) (disch:=first | assumption | omega | (simp; done) | fail) [Tryz.results29, *]))
  exact ⟨_,_,_,⟨rfl,rfl,rfl⟩,by omega,HG.out,HF.out⟩
end Go.Ai
end
section
namespace Go.Ai
open Go.Proofs
set_option maxRecDepth 10000
set_option maxHeartbeats 40000000
theorem Word2_w (bs:List Nat) (hb:∀ b∈bs,b < 256) (I:Int) (most:Nat) (hI0:1≤I) (hI:I≤16) (hm:most≤12) (mm:Int) (hmm:mm=most) (g:Nat→Option Blk) (n:Nat) (bv:AV) (hv:RepB g n bs bv) :
  WC 3 Tryz.prog 29 [bv,.lit (.int .i64 I),.lit (.int .i64 mm)] ⟨.fn g,n⟩ fun r=>∃ sv g' n',r=.ret sv ⟨.fn g',n'⟩∧n≤n'∧(∀ b,b < n→g' b=g b)∧FreshW g' n n' (wordG bs I.toNat most) sv:=by
 obtain ⟨k,rfl⟩ : ∃ k:Nat,I=k:=⟨I.toNat,by omega⟩
 subst hmm
 exact Word_w bs hb k most (by omega) (by omega) hm g n bv hv
theorem SliceV.cell {g:Nat→Option Blk} {b len:Nat} {sv:AV} {cs:List AV} : SliceV g b sv len cs→cellsOf sv=[sv]:=by
 rintro (⟨_,_,rfl | rfl⟩ | ⟨a,off,_,⟨c,rfl⟩ | ⟨c,rfl⟩,_⟩) <;> rfl
def SafeW (g:Nat→Option Blk) (lo n B:Nat) (w:List Int) (sv:AV) : Prop:=∃ gk:Nat→Option Blk,(∀ a z,gk a=some z→g a=some z∧lo≤a∧a < n∧a≠B)∧RepW gk n w sv
theorem SafeW.rep {g:Nat→Option Blk} {lo n B:Nat} {w:List Int} {sv:AV} (h:SafeW g lo n B w sv) : RepW g n w sv :=
 let ⟨_,h1,h3⟩:=h; SliceV.ext (Nat.le_refl _) (fun a z _ hz=>(h1 a z hz).1) h3
theorem SafeW.keep {g g' : Nat→Option Blk} {lo lo' n n' B B' : Nat} {w:List Int} {sv:AV} (h:SafeW g lo n B w sv) (h0:lo'≤lo) (h2:n≤n') (hB:n≤B'∨B'=B∨B' < lo) (hg:∀ a,lo≤a→a < n→a≠B→g' a=g a) : SafeW g' lo' n' B' w sv:=by
 obtain ⟨gk,h1,h3⟩:=h
 refine ⟨gk,fun a z hz=>?_,SliceV.ext h2 (fun a z _ hz=>hz) h3⟩
 obtain ⟨e1,e2,e3,e4⟩:=h1 a z hz
 exact ⟨(hg a e2 e3 e4).trans e1,by omega,by omega,by omega⟩
theorem FreshW.safe {g g' : Nat→Option Blk} {lo lo' n n' B:Nat} {w:List Int} {sv:AV} (h:FreshW g lo n w sv) (h0:lo'≤lo) (h2:n≤n') (hB:n≤B∨B < lo) (hg:∀ a,lo≤a→a < n→g' a=g a) : SafeW g' lo' n' B w sv:=by
 obtain ⟨gk,h1,h3⟩:=h
 refine ⟨gk,fun a z hz=>?_,SliceV.ext h2 (fun a z _ hz=>hz) h3⟩
 obtain ⟨e1,e2,e3⟩:=h1 a z hz
 exact ⟨(hg a e2 e3).trans e1,by omega,by omega,by omega⟩
def RowsF (g:Nat→Option Blk) (lo n B:Nat) (ts:List (List Int×List Int)) (cs:List AV) : Prop :=
 cs.length=ts.length * 2∧∀ (k:Nat) (h:k < ts.length),∃ s1 s2,cs[k * 2]?=some s1∧cs[k * 2+1]?=some s2∧SafeW g lo n B ts[k].1 s1∧SafeW g lo n B ts[k].2 s2
theorem RowsF.keep {g g' : Nat→Option Blk} {lo lo' n n' B B' : Nat} {ts:List (List Int×List Int)} {cs:List AV} (h:RowsF g lo n B ts cs) (h0:lo'≤lo) (h2:n≤n') (hB:n≤B'∨B'=B∨B' < lo) (hg:∀ a,lo≤a→a < n→a≠B→g' a=g a) : RowsF g' lo' n' B' ts cs :=
 ⟨h.1,fun k hk=>let ⟨s1,s2,h1,h3,h4,h5⟩:=h.2 k hk; ⟨s1,s2,h1,h3,h4.keep h0 h2 hB hg,h5.keep h0 h2 hB hg⟩⟩
theorem RowsF.nil {g:Nat→Option Blk} {lo n B:Nat} : RowsF g lo n B [] []:=⟨rfl,fun k hk=>by cases hk⟩
theorem RowsF.snoc {g:Nat→Option Blk} {lo n B:Nat} {ts:List (List Int×List Int)} {cs:List AV} (h:RowsF g lo n B ts cs) {t:List Int×List Int} {s1 s2:AV} (h1:SafeW g lo n B t.1 s1) (h2:SafeW g lo n B t.2 s2) : RowsF g lo n B (ts++[t]) (cs++[s1,s2]):=by
 have hl:=h.1
 refine ⟨by simp [hl]; omega,fun k hk=>?_⟩
 rw [List.length_append,List.length_singleton] at hk
 by_cases hlt:k < ts.length
 ·obtain ⟨t1,t2,e1,e2,e3,e4⟩:=h.2 k hlt
  refine ⟨t1,t2,?_,?_,?_,?_⟩
  ·rw [List.getElem?_append_left (by omega)]; exact e1
  ·rw [List.getElem?_append_left (by omega)]; exact e2
  ·rw [List.getElem_append_left hlt]; exact e3
  ·rw [List.getElem_append_left hlt]; exact e4
 ·have hk2:k=ts.length:=by omega
  subst hk2
  refine ⟨s1,s2,?_,?_,?_,?_⟩
  ·rw [List.getElem?_append_right (by omega),hl,Nat.sub_self]; rfl
  ·rw [List.getElem?_append_right (by omega),hl,show ts.length * 2+1 - ts.length * 2=1 by omega]; rfl
  ·simpa using h1
  ·simpa using h2
theorem RowsF.rows {g:Nat→Option Blk} {lo n B:Nat} {ts:List (List Int×List Int)} {cs:List AV} (h:RowsF g lo n B ts cs) : RowsT g n ts cs :=
 ⟨h.1,fun k hk=>let ⟨s1,s2,h1,h3,h4,h5⟩:=h.2 k hk; ⟨s1,s2,h1,h3,h4.rep,h5.rep⟩⟩
def LogF (g:Nat→Option Blk) (lo n B:Nat) (ts:List (List Int×List Int)) (sv:AV) : Prop:=∃ cs,GrowV g lo n B sv ts.length 2 cs∧RowsF g lo n B ts cs
theorem LogF.log {g:Nat→Option Blk} {lo n B:Nat} {ts:List (List Int×List Int)} {sv:AV} (h:LogF g lo n B ts sv) : LogR g n ts sv:=by
 obtain ⟨cs,h1,h2⟩:=h
 refine ⟨cs,SliceV.ext (Nat.le_refl _) (fun a x _ hx=>?_) h1.slice,h2.rows⟩
 split at hx
 ·exact hx
 ·cases hx
theorem LogF.keep {g g' : Nat→Option Blk} {lo lo' n n' B:Nat} {ts:List (List Int×List Int)} {sv:AV} (h:LogF g lo n B ts sv) (h0:lo'≤lo) (h2:n≤n') (hg:∀ a,lo≤a→a < n→g' a=g a) : LogF g' lo' n' B ts sv:=by
 obtain ⟨cs,h1,h3⟩:=h
 refine ⟨cs,?_,h3.keep h0 h2 (.inr (.inl rfl)) fun a h4 h5 _=>hg a h4 h5⟩
 rcases h1 with h1 | ⟨k1,k2,k3,k4,k5,k6⟩
 ·exact .inl h1
 ·exact .inr ⟨k1,k2,by omega,by omega,(hg B k3 k4).trans k5,k6⟩
theorem LogF.one {g:Nat→Option Blk} {lo n B:Nat} {ts:List (List Int×List Int)} {sv:AV} (h:LogF g lo n B ts sv) : oneC sv=true:=let ⟨_,h1,_⟩:=h; h1.one
def ListB (g:Nat→Option Blk) (n:Nat) (l:List (List Nat)) (wv:AV) : Prop:=∃ svs,SliceV g n wv l.length svs∧svs.length=l.length∧∀ (k:Nat) (h:k < l.length),∃ sv,svs[k]?=some sv∧RepB g n l[k] sv
theorem ListB.mono {g g' : Nat→Option Blk} {n n' : Nat} {l:List (List Nat)} {wv:AV} (h:ListB g n l wv) (hn:n≤n') (hg:∀ a,a < n→g' a=g a) : ListB g' n' l wv :=
 let ⟨svs,h1,h2,h3⟩:=h; ⟨svs,h1.mono hn hg,h2,fun k hk=>let ⟨sv,e1,e2⟩:=h3 k hk; ⟨sv,e1,SliceV.mono hn hg e2⟩⟩
theorem ListB.at {g:Nat→Option Blk} {n:Nat} {l:List (List Nat)} {wv:AV} (h:ListB g n l wv) {k:Nat} (hk:k < l.length) : ∃ a off q,a < n∧(∀ {H:Mem} {ev:Ev} {o:Oper} {t:TypeId},iaS Tryz.prog H ev o t (some (none,1)) (some wv) (some (.lit (.int .i64 (k:Int))))=.val (.ptr a (off+k)) H)∧loadB (some (false,1)) (g a) (off+k)=some q∧RepB g n l[k] q:=by
 obtain ⟨svs,h1,h2,h3⟩:=h
 obtain ⟨q,e1,e2⟩:=h3 k hk
 obtain ⟨a,off,ha,hrow,hia⟩:=h1.ia (P:=Tryz.prog) hk 1
 simp only [Nat.mul_one] at hia
 have hc:=hrow.one (k:=k) (s:=1) (by omega)
 rw [(List.getElem?_eq_some_iff.1 e1).2] at hc
 exact ⟨a,off,q,ha,hia,hc,e2⟩
def oneM (M:MachM) (b:List Nat) : List Int×List Int:=(wordG b M.inp.toNat 10,runM M 0 (wordG b M.inp.toNat 10))
def runsM (M:MachM) (ws:List (List Nat)) : List (List Int×List Int):=(ws.take 12).map (oneM M)
theorem wordG_in {b:List Nat} {I:Int} {m:Nat} (h0:1≤I) : inW (wordG b I.toNat m) I=true:=by
 unfold inW wordG
 rw [List.all_eq_true]
 intro x hx
 obtain ⟨y,_,rfl⟩:=List.mem_map.1 hx
 have:=Nat.mod_lt y (show 0 < I.toNat by omega)
 exact decide_eq_true (by omega)
theorem wordG_len {b:List Nat} {I m:Nat} : (wordG b I m).length≤m:=by
 unfold wordG; rw [List.length_map,List.length_take]; omega
structure InG (g:Nat→Option Blk) (n:Nat) (st inp out:Nat) (es:List Nat) (ev:AV) (ws:List (List Nat)) (wv:AV) : Prop where
 b0:st < 256
 b1:inp < 256
 b2:out < 256
 se:SliceA g n ev es.length (u16Cells es)
 eb:∀ c∈es,c < 65536
 sw:ListB g n ws wv
 wb:∀ w∈ws,∀ b∈w,b < 256
theorem InG.mono {g g' : Nat→Option Blk} {n n' st inp out:Nat} {es:List Nat} {ev:AV} {ws:List (List Nat)} {wv:AV} (h:InG g n st inp out es ev ws wv) (hn:n≤n') (hg:∀ a,a < n→g' a=g a) : InG g' n' st inp out es ev ws wv :=
 ⟨h.b0,h.b1,h.b2,h.se.mono hn hg,h.eb,h.sw.mono hn hg,h.wb⟩
theorem Runs_w {st inp out:Nat} {part:Bool} {es:List Nat} {ev:AV} {ws:List (List Nat)} {wv:AV} (ia ib ic:Int) (g:Nat→Option Blk) (n:Nat) (hI:InG g n st inp out es ev ws wv) :
  WC 3 Tryz.prog 25 [.agg [.lit (.int .u8 st),.lit (.int .u8 inp),.lit (.int .u8 out),.lit (.bool part),ev,wv,.lit (.int .u8 ia),.lit (.int .u8 ib),.lit (.int .u8 ic)]] ⟨.fn g,n⟩ fun r=>∃ sv g' n' B,r=.ret (.agg [.lit (.int .i64 (machOf st inp out part es).inp),.lit (.int .i64 (machOf st inp out part es).out),sv]) ⟨.fn g',n'⟩∧n≤n'∧(∀ b,b < n→g' b=g b)∧LogF g' n n' B (runsM (machOf st inp out part es) ws) sv:=by
 have hlen:=@lenV Tryz.prog _ _ _ _ _ hI.sw.choose_spec.1
 have h1e:=hI.se.one
 have h1w:=hI.sw.choose_spec.1.one
 have hone:allOne [.lit (.int .u8 st),.lit (.int .u8 inp),.lit (.int .u8 out),.lit (.bool part),ev,wv,.lit (.int .u8 ia),.lit (.int .u8 ib),.lit (.int .u8 ic)]=true:=by simp [h1e,h1w]
 have HMO:=Hide.mk fun (gX:Nat→Option Blk) (n2:Nat) (hn:n≤n2) (hX:∀ b,b < n→gX b=g b)=>MOf_w st inp out part es ev gX n2 hI.b0 hI.b1 hI.b2 (hI.se.mono hn hX) hI.eb
 have HI:=Hide.mk hI
 have HM:=Hide.mk (machOf_ok st inp out part es)
 clear hI
 generalize machOf st inp out part es=M at *
 refine WC.enterP (noO_ok _ _) hG pl25 Tryz.func25 rfl (by decide +kernel) (Nat.le_of_ble_eq_true (by kernel_rfl)) ?_
 iterate 8 (all_goals try (first | with_reducible refine splitI (fun h=>?_) (fun h=>?_) | with_reducible refine splitBI (fun h=>?_) (fun h=>?_) | simp (config:={ maxSteps:=1000000 }) (disch:=first | assumption | omega | (simp; done) | fail) [Tryz.results25, *]))
 refine WC.mono (HMO.out _ _ (by omega) fun b (hb:b < n)=>by simp (disch:=omega) only [gput_lt]) ?_
 rintro _ ⟨ms,g1,n1,rfl,hn1,hg1,hfr⟩
 obtain ⟨rv,hms,h1r⟩:=hfr.rep.one
 subst hms
 have hone2:allOne [.lit (.int .i64 M.inp),.lit (.int .i64 M.out),rv]=true:=by simp [h1r]
 have HR:=Hide.mk hfr.rep
 have HG1:Hide (∀ b,b < n→g1 b=g b):=⟨fun b hb=>(hg1 b (by omega)).trans (by simp (disch:=omega) only [gput_lt])⟩
 have HX1:=Hide.mk hg1
 clear hg1 hfr HMO
 iterate 8 (all_goals try (first | with_reducible refine splitI (fun h=>?_) (fun h=>?_) | with_reducible refine splitBI (fun h=>?_) (fun h=>?_) | simp (config:={ maxSteps:=1000000 }) (disch:=first | assumption | omega | (simp; done) | fail) [Tryz.results25, *]))
 have hgn1:g1 n=some (.cells [.lit (.int .u8 st),.lit (.int .u8 inp),.lit (.int .u8 out),.lit (.bool part),ev,wv,.lit (.int .u8 ia),.lit (.int .u8 ib),.lit (.int .u8 ic)] true 0):=(HX1.out n (by omega)).trans (by simp (disch:=omega) only [gput_lt,gput_eq])
 have hgo1:g1 (n+1)=some (.cells [.lit (.int .i64 0),.lit (.int .i64 0),.lit (.slice none 0 0)] true 0):=(HX1.out (n+1) (by omega)).trans (by simp (disch:=omega) only [gput_lt,gput_eq])
 clear HX1
 refine LX.ind (fun m gf H'=>∃ (k n' : Nat) (gL:Nat→Option Blk) (B:Nat) (sv:AV),k≤ws.length∧k≤12∧m=12 - k∧H'=⟨.fn gL,n'⟩∧n1+1+1≤n'∧B < n'∧Hide (∀ b,b < n1→gL b=g1 b)∧gL n1=some (.cells [.lit (.int .i64 M.inp),.lit (.int .i64 M.out),rv] true 0) ∧
  gL (n1+1)=some (.cells [.lit (.int .i64 M.inp),.lit (.int .i64 M.out),sv] true 0)∧Hide (LogF gL (n1+1+1) n' B ((ws.take k).map (oneM M)) sv)∧gf 1=some (.ptr n 0)∧gf 2=some (.ptr (n+1) 0)∧gf 3=some (.ptr n1 0)∧gf 4=some (.ptr (n1+1) 0)∧gf 5=some (.lit (.int .i64 k))) (m0:=12) ?_ ?_
 ·refine ⟨0,_,_,0,_,Nat.zero_le _,Nat.zero_le _,rfl,rfl,Nat.le_refl _,by omega,⟨fun b hb=>?_⟩,?_,gput_eq,⟨[],.inl ⟨rfl,rfl,rfl⟩,.nil⟩,by simp,by simp,by simp,by simp,by simp⟩
  ·exact (gput_lt (by omega)).trans (gput_lt hb)
  ·exact (gput_lt (by omega)).trans gput_eq
 rintro m gf H' ⟨k,n',gL,B,sv,hk,hk12,rfl,rfl,hn',hBn,HG,hgm,hgl,HL,w1,w2,w3,w4,w5⟩ ih
 have hgn:=(HG.out n (by omega)).trans hgn1
 have hgo:=(HG.out (n+1) (by omega)).trans hgo1
 have h1sv:=HL.out.one
 have hone3:allOne [.lit (.int .i64 M.inp),.lit (.int .i64 M.out),sv]=true:=by simp [h1sv]
 have FIN:Hide (¬(k < ws.length∧k < 12)→LogF gL (n1+1+1) n' B (runsM M ws) sv):=⟨fun h=>by
  have e:ws.take k=ws.take 12:=by
   by_cases h2:k < 12
   ·rw [List.take_of_length_le (by omega),List.take_of_length_le (by omega)]
   ·rw [show k=12 by omega]
  have h1:=HL.out
  rw [e] at h1
  exact h1⟩
 refine LX.roundP (noO_ok _ _) hG pl25 (by decide +kernel) ?_
 by_cases hlt:k < ws.length
 ·have hltI:(k:Int) < (ws.length:Int):=by omega
  by_cases hlm:k < 12
  ·have hlmI:(k:Int) < 12:=by omega
   obtain ⟨a2,off,q,ha2,hia,hcell,hrb⟩:=HI.out.sw.at hlt
   have hcell2:loadB (some (false,1)) (gL a2) (off+k)=some q:=(congrArg (fun z=>loadB (some (false,1)) z (off+k)) ((HG.out a2 (by omega)).trans (HG1.out a2 ha2))).trans hcell
   have hM:=HM.out
   have HWD:=Hide.mk (fun (gX:Nat→Option Blk) (n2:Nat) (hn2:n≤n2) (hX:∀ b,b < n→gX b=g b)=>Word2_w ws[k] (HI.out.wb _ (List.getElem_mem hlt)) M.inp 10 hM.1 hM.2.1 (by decide) 10 rfl gX n2 q (SliceV.mono hn2 hX hrb))
   have HTK:Hide ((ws.take (k+1)).map (oneM M)=(ws.take k).map (oneM M)++[oneM M ws[k]]):=⟨by rw [take_snoc hlt,List.map_append,List.map_singleton]⟩
   have HW:Hide (oneM M ws[k]=(wordG ws[k] M.inp.toNat 10,runM M 0 (wordG ws[k] M.inp.toNat 10))∧(wordG ws[k] M.inp.toNat 10).length≤10∧inW (wordG ws[k] M.inp.toNat 10) M.inp=true):=⟨rfl,wordG_len,wordG_in hM.1⟩
   clear hcell hrb hM
   generalize wordG ws[k] M.inp.toNat 10=w at *
   generalize oneM M ws[k]=t at *
   iterate 8 (all_goals try (first | with_reducible refine splitI (fun h=>?_) (fun h=>?_) | with_reducible refine splitBI (fun h=>?_) (fun h=>?_) | simp (config:={ maxSteps:=1000000 }) (disch:=first | assumption | omega | (simp; done) | fail) [Tryz.results25, *]))
   refine WC.mono (HWD.out _ _ (by omega) fun b (hb:b < n)=>(HG.out b (by omega)).trans (HG1.out b hb)) ?_
   rintro _ ⟨uv,g2,n2,rfl,hn2,hX2,hfw⟩
   have HX2:=Hide.mk hX2
   have HFW:=Hide.mk hfw
   have hgm2:=(hX2 n1 (by omega)).trans hgm
   have hgl2:=(hX2 (n1+1) (by omega)).trans hgl
   have hone4:oneC uv=true:=hfw.rep.one
   have hcu:cellsOf uv=[uv]:=hfw.rep.cell
   have HRU:=Hide.mk (fun (gX:Nat→Option Blk) (n3:Nat) (hn3:n2≤n3) (hX:∀ b,b < n2→gX b=g2 b)=>rRun_w HM.out w (by have:=HW.out.2.1; omega) HW.out.2.2 gX n3 [.lit (.int .i64 M.inp),.lit (.int .i64 M.out),rv] uv (HR.out.mono (by omega) fun b hb=>(hX b (by omega)).trans ((HX2.out b (by omega)).trans (HG.out b (by omega)))) (SliceV.mono hn3 hX HFW.out.rep))
   clear hX2 hfw HWD hcell2 hia
   iterate 8 (all_goals try (first | with_reducible refine splitI (fun h=>?_) (fun h=>?_) | with_reducible refine splitBI (fun h=>?_) (fun h=>?_) | simp (config:={ maxSteps:=1000000 }) (disch:=first | assumption | omega | (simp; done) | fail) [Tryz.results25, *]))
   refine WC.mono (HRU.out _ _ (by omega) fun b hb=>rfl) ?_
   rintro _ ⟨zv,g3,n3,rfl,hn3,hX3,hfz⟩
   have HX3:=Hide.mk hX3
   have HFZ:=Hide.mk hfz
   have hgm3:=(hX3 n1 (by omega)).trans hgm2
   have hgl3:=(hX3 (n1+1) (by omega)).trans hgl2
   have hone5:oneC zv=true:=hfz.rep.one
   have hcz:cellsOf zv=[zv]:=hfz.rep.cell
   have hone6:allOne [uv,zv]=true:=by simp [hone4,hone5]
   clear hX3 hfz HRU
   obtain ⟨cs,hgr,hrf⟩:=HL.out
   have HRF:=Hide.mk hrf
   have hcl:=hrf.1
   rw [List.length_map,List.length_take,Nat.min_eq_left hk] at hgr
   rw [List.length_map,List.length_take,Nat.min_eq_left hk] at hcl
   clear hrf
   have HNB:Hide (∀ a,n'≤a→a≠B):=⟨fun a h=>by omega⟩
   have HLOG:Hide (∀ gF:Nat→Option Blk,(∀ b,n1+1+1≤b→b < n3→b≠B→gF b=g3 b)→gF (n3+1)=some (.cells (cs++[uv,zv]) true 2)→LogF gF (n1+1+1) (n3+1+1) (n3+1) ((ws.take (k+1)).map (oneM M)) (.slq (n3+1) 0 (k+1) 0)):=⟨fun gF h1 h2=>by
    refine ⟨cs++[uv,zv],?_,?_⟩
    ·rw [HTK.out,List.length_append,List.length_map,List.length_take,Nat.min_eq_left hk]
     exact .mk h2 (by omega) (by omega) (by rw [List.length_append,hcl]; simp; omega)
    ·rw [HTK.out,HW.out.1]
     exact (HRF.out.keep (Nat.le_refl _) (by omega) (.inl (by omega)) fun a h3 h4 h5=>(h1 a h3 (by omega) h5).trans ((HX3.out a (by omega)).trans (HX2.out a h4))).snoc (HFW.out.safe (by omega) (by omega) (.inl (by omega)) fun a h3 h4=>(h1 a (by omega) (by omega) (HNB.out a (by omega))).trans (HX3.out a h4)) (HFZ.out.safe (by omega) (by omega) (.inl (by omega)) fun a h3 h4=>h1 a (by omega) h4 (HNB.out a (by omega)))⟩
   rcases hgr with ⟨hk0,hc0,hs0⟩ | ⟨hk0,hs0,hB1,hB2,hB3,hB4⟩
   ·subst hs0
    have HZ:=Hide.mk (And.intro hk0 hc0)
    clear hk0 hc0
    iterate 8 (all_goals try (first | with_reducible refine splitI (fun h=>?_) (fun h=>?_) | with_reducible refine splitBI (fun h=>?_) (fun h=>?_) | simp (config:={ maxSteps:=1000000 }) (disch:=first | assumption | omega | (simp; done) | fail) [Tryz.results25, *]))
    refine ih.out (12 - (k+1)) _ _ (by omega) ⟨k+1,n3+1+1,_,n3+1,.slq (n3+1) 0 (k+1) 0,by omega,by omega,rfl,rfl,by omega,by omega,⟨fun b hb=>?_⟩,?_,?_,⟨HLOG.out _ (fun b h1 h2 h3=>?_) ?_⟩,by simp [*],by simp [*],by simp [*],by simp [*],by simp⟩
    ·simp (disch:=omega) only [gput_lt,gput_ne]; exact (HX3.out b (by omega)).trans ((HX2.out b (by omega)).trans (HG.out b hb))
    ·simp (disch:=omega) only [gput_lt,gput_ne]; exact hgm3
    ·rw [HZ.out.1]; simp (disch:=omega) only [gput_lt,gput_ne,gput_eq]
    ·simp (disch:=omega) only [gput_lt,gput_ne]
    ·rw [HZ.out.2]; simp (disch:=omega) only [gput_lt,gput_ne,gput_eq]; rfl
   ·subst hs0
    have hB5:g3 B=some (.cells cs true 2):=(HX3.out B (by omega)).trans ((HX2.out B hB2).trans hB3)
    clear hB3
    iterate 8 (all_goals try (first | with_reducible refine splitI (fun h=>?_) (fun h=>?_) | with_reducible refine splitBI (fun h=>?_) (fun h=>?_) | simp (config:={ maxSteps:=1000000 }) (disch:=first | assumption | omega | (simp; done) | fail) [Tryz.results25, *]))
    refine ih.out (12 - (k+1)) _ _ (by omega) ⟨k+1,n3+1+1,_,n3+1,.slq (n3+1) 0 (k+1) 0,by omega,by omega,rfl,rfl,by omega,by omega,⟨fun b hb=>?_⟩,?_,?_,⟨HLOG.out _ (fun b h1 h2 h3=>?_) ?_⟩,by simp [*],by simp [*],by simp [*],by simp [*],by simp⟩
    ·simp (disch:=omega) only [gput_lt,gput_ne]; exact (HX3.out b (by omega)).trans ((HX2.out b (by omega)).trans (HG.out b hb))
    ·simp (disch:=omega) only [gput_lt,gput_ne]; exact hgm3
    ·simp (disch:=omega) only [gput_lt,gput_ne,gput_eq]
    ·simp (disch:=omega) only [gput_lt,gput_ne]
    ·simp (disch:=omega) only [gput_lt,gput_ne,gput_eq]
  ·have hlmI:¬(k:Int) < 12:=by omega
   have HF:=Hide.mk (FIN.out (by omega))
   iterate 8 (all_goals try (first | with_reducible refine splitI (fun h=>?_) (fun h=>?_) | with_reducible refine splitBI (fun h=>?_) (fun h=>?_) | simp (config:={ maxSteps:=1000000 }) (disch:=first | assumption | omega | (simp; done) | fail) [Tryz.results25, *]))
   exact ⟨_,_,_,⟨rfl,rfl,rfl⟩,by omega,fun b hb=>(gput_lt (by omega)).trans ((HG.out b (by omega)).trans (HG1.out b hb)),B,HF.out.keep (by omega) (Nat.le_refl _) fun a h1 h2=>gput_ne (by omega)⟩
 ·have hltI:¬(k:Int) < (ws.length:Int):=by omega
  have HF:=Hide.mk (FIN.out (by omega))
  iterate 8 (all_goals try (first | with_reducible refine splitI (fun h=>?_) (fun h=>?_) | with_reducible refine splitBI (fun h=>?_) (fun h=>?_) | simp (config:={ maxSteps:=1000000 }) (disch:=first | assumption | omega | (simp; done) | fail) [Tryz.results25, *]))
  exact ⟨_,_,_,⟨rfl,rfl,rfl⟩,by omega,fun b hb=>(gput_lt (by omega)).trans ((HG.out b (by omega)).trans (HG1.out b hb)),B,HF.out.keep (by omega) (Nat.le_refl _) fun a h1 h2=>gput_ne (by omega)⟩
end Go.Ai
end
section
namespace Go.Ai
open Go.Proofs
set_option maxRecDepth 10000
def changeR (O:Int) (b k:Nat) (r:List Int) : List Int :=
 if b=2 then (if r.getD k 0 = -1 then r else r.set k ((r.getD k 0+1).tmod O)) else r.take k++List.replicate (r.length - k) (-1)
theorem changeR_len {O:Int} {b k:Nat} {r:List Int} (hk:k≤r.length) : (changeR O b k r).length=r.length:=by
 unfold changeR
 split
 ·split
  ·rfl
  ·exact List.length_set
 ·rw [List.length_append,List.length_take,List.length_replicate]; omega
def ofG (M:MachM) (ws:List (List Nat)) (ia ib ic:Nat) : List (List Int×List Int) :=
 if (runsM M ws).length=0∨ic % 4 < 2 then runsM M ws else
 if ((runsM M ws).getD (ia % (runsM M ws).length) ([],[])).2.length=0 then runsM M ws else
 (runsM M ws).set (ia % (runsM M ws).length) (((runsM M ws).getD (ia % (runsM M ws).length) ([],[])).1,changeR M.out (ic % 4) (ib % ((runsM M ws).getD (ia % (runsM M ws).length) ([],[])).2.length) ((runsM M ws).getD (ia % (runsM M ws).length) ([],[])).2)
theorem okR_cons {O:Int} {p:Bool} {o:Int} {r:List Int} (h1 : -1≤o) (h2:o < O) (h3:p=true→o = -1) (h4:okR O (decide (o = -1)) r=true) : okR O p (o :: r)=true:=by
 show (!(decide (o < -1) || (decide (O≤o) || (p && decide (¬o = -1)))) && okR O (decide (o = -1)) r)=true
 rw [decide_eq_false (by omega),decide_eq_false (by omega),h4]
 cases p with
 | false=>rfl
 | true=>rw [decide_eq_false (by simp [h3 rfl])]; rfl
theorem okR_inv {O:Int} {p:Bool} {o:Int} {r:List Int} (h:okR O p (o :: r)=true) : -1≤o∧o < O∧(p=true→o = -1)∧okR O (decide (o = -1)) r=true:=by
 have h' : (!(decide (o < -1) || (decide (O≤o) || (p && decide (¬o = -1)))) && okR O (decide (o = -1)) r)=true:=h
 rw [Bool.and_eq_true,Bool.not_eq_true',Bool.or_eq_false_iff,Bool.or_eq_false_iff] at h'
 obtain ⟨⟨h1,h2,h3⟩,h4⟩:=h'
 have h1:=of_decide_eq_false h1
 have h2:=of_decide_eq_false h2
 refine ⟨by omega,by omega,fun hp=>?_,h4⟩
 rw [hp,Bool.true_and] at h3
 have h3:=of_decide_eq_false h3
 omega
theorem okR_run {M:MachM} (hM:M.ok) : ∀ (w:List Int) (s:Int) (p:Bool),stOK M s→(p=true→s = -1)→inW w M.inp=true→okR M.out p (runM M s w)=true
 | [],_,_,_,_,_=>rfl
 | i :: w,s,p,hs,hp,hw=>by
  unfold inW at hw
  rw [List.all_cons,Bool.and_eq_true] at hw
  have hi:=of_decide_eq_true hw.1
  have he:=edgeOK_st (nextM_ok hM hs hi.1 hi.2)
  have hO:=hM.2.2.1
  show okR M.out p ((nextM M s i).2 :: runM M (nextM M s i).1 w)=true
  refine okR_cons he.2.1 (by rcases he.2.2.1 with h | h <;> omega) (fun h=>?_) (okR_run hM w _ _ he.1 (fun h=>he.2.2.2 (of_decide_eq_true h)) hw.2)
  rw [nextM_neg (by rw [hp h]; decide)]
theorem okR_none {O:Int} (hO:1≤O) : ∀ (m:Nat) (p:Bool),okR O p (List.replicate m (-1))=true
 | 0,_=>rfl
 | m+1,p=>by
  rw [List.replicate_succ]
  exact okR_cons (by omega) (by omega) (fun _=>rfl) (okR_none hO m _)
theorem okR_cut {O:Int} (hO:1≤O) (m:Nat) : ∀ (r:List Int) (k:Nat) (p:Bool),okR O p r=true→okR O p (r.take k++List.replicate m (-1))=true
 | _,0,p,_=>by rw [List.take_zero]; exact okR_none hO m p
 | [],k+1,p,_=>by rw [List.take_nil]; exact okR_none hO m p
 | o :: r,k+1,p,h=>by
  obtain ⟨h1,h2,h3,h4⟩:=okR_inv h
  exact okR_cons h1 h2 h3 (okR_cut hO m r k _ h4)
theorem okR_set {O v:Int} (hv:0≤v) (hv2:v < O) : ∀ (r:List Int) (k:Nat) (p:Bool),okR O p r=true→¬r.getD k 0 = -1→okR O p (r.set k v)=true
 | [],_,_,h,_=>h
 | o :: r,0,p,h,hne=>by
  obtain ⟨h1,h2,h3,h4⟩:=okR_inv h
  have hne' : ¬o = -1:=hne
  refine okR_cons (by omega) hv2 (fun hp=>absurd (h3 hp) hne') ?_
  rw [decide_eq_false (by omega)]
  rw [decide_eq_false hne'] at h4
  exact h4
 | o :: r,k+1,p,h,hne=>by
  obtain ⟨h1,h2,h3,h4⟩:=okR_inv h
  exact okR_cons h1 h2 h3 (okR_set hv hv2 r k _ h4 hne)
theorem okR_at {O:Int} : ∀ (r:List Int) (k:Nat) (p:Bool),okR O p r=true→k < r.length → -1≤r.getD k 0∧r.getD k 0 < O
 | [],_,_,_,hk=>by cases hk
 | o :: r,0,p,h,_=>by obtain ⟨h1,h2,_,_⟩:=okR_inv h; exact ⟨h1,h2⟩
 | o :: r,k+1,p,h,hk=>by obtain ⟨_,_,_,h4⟩:=okR_inv h; exact okR_at r k _ h4 (by simpa using hk)
theorem okR_change {O:Int} (hO:1≤O) {b k:Nat} {r:List Int} (h:okR O false r=true) (hk:k < r.length) : okR O false (changeR O b k r)=true:=by
 unfold changeR
 split
 ·split
  ·exact h
  ·rename_i hne
   have:=okR_at r k false h hk
   exact okR_set (Int.tmod_nonneg _ (by omega)) (Int.tmod_lt_of_pos _ (by omega)) r k false h hne
 ·exact okR_cut hO _ r k false h
structure LogOK (I O:Int) (ts:List (List Int×List Int)) : Prop where
 len:ts.length≤40
 i1:1≤I
 i2:I≤16
 o1:1≤O
 o2:O≤16
 wl:∀ t∈ts,t.1.length≤12
 ok:∀ t∈ts,validB I O t=true
theorem LogOK.small {I O:Int} {ts:List (List Int×List Int)} (h:LogOK I O ts) : SmallL ts:=by
 refine ⟨h.len,fun t ht=>by have:=h.wl t ht; omega,fun t ht=>?_⟩
 have h1:=h.ok t ht
 unfold validB at h1
 rw [Bool.and_eq_true,Bool.and_eq_true] at h1
 have h2:=of_decide_eq_true h1.1.1
 have:=h.wl t ht
 omega
theorem LogOK.err {I O:Int} {ts:List (List Int×List Int)} (h:LogOK I O ts) : logErr I O ts=0:=by
 have h1:=h.i1; have h2:=h.i2; have h3:=h.o1; have h4:=h.o2
 unfold logErr
 have e:withinB I O ts=true:=by
  unfold withinB
  rw [decide_eq_true h2,decide_eq_true h4,Bool.and_true,Bool.and_true,List.all_eq_true]
  intro t ht
  have:=h.wl t ht
  exact decide_eq_true (by omega)
 rw [e,if_neg (by decide),if_neg (by omega),if_pos]
 rw [List.all_eq_true]
 exact h.ok
theorem LogOK.lens {I O:Int} {ts:List (List Int×List Int)} (h:LogOK I O ts) {t:List Int×List Int} (ht:t∈ts) : t.2.length=t.1.length∧inW t.1 I=true∧okR O false t.2=true:=by
 have h1:=h.ok t ht
 unfold validB at h1
 rw [Bool.and_eq_true,Bool.and_eq_true] at h1
 exact ⟨of_decide_eq_true h1.1.1,h1.1.2,h1.2⟩
theorem validB_of {I O:Int} {t:List Int×List Int} (h1:t.2.length=t.1.length) (h2:inW t.1 I=true) (h3:okR O false t.2=true) : validB I O t=true:=by
 unfold validB; rw [decide_eq_true h1,h2,h3]; rfl
theorem runsM_ok {M:MachM} (hM:M.ok) (ws:List (List Nat)) : LogOK M.inp M.out (runsM M ws):=by
 refine ⟨?_,hM.1,hM.2.1,hM.2.2.1,hM.2.2.2.1,fun t ht=>?_,fun t ht=>?_⟩
 ·unfold runsM; rw [List.length_map,List.length_take]; omega
 ·unfold runsM at ht
  obtain ⟨b,_,rfl⟩:=List.mem_map.1 ht
  exact Nat.le_trans wordG_len (by decide)
 ·unfold runsM at ht
  obtain ⟨b,_,rfl⟩:=List.mem_map.1 ht
  have hl:=hM.2.2.2.2.1
  exact validB_of (runM_len _ _) (wordG_in hM.1) (okR_run hM _ 0 false (.inr ⟨0,rfl,by omega⟩) (fun h=>by cases h) (wordG_in hM.1))
theorem LogOK.set {I O:Int} {ts:List (List Int×List Int)} (h:LogOK I O ts) {i:Nat} {t:List Int×List Int} (h1:t.1.length≤12) (h2:validB I O t=true) : LogOK I O (ts.set i t) :=
 ⟨by rw [List.length_set]; exact h.len,h.i1,h.i2,h.o1,h.o2,fun u hu=>by rcases List.mem_or_eq_of_mem_set hu with h3 | rfl; exact h.wl u h3; exact h1,fun u hu=>by rcases List.mem_or_eq_of_mem_set hu with h3 | rfl; exact h.ok u h3; exact h2⟩
theorem getD_mem {α:Type} {l:List α} {k:Nat} {d:α} (h:k < l.length) : l.getD k d∈l∧l.getD k d=l[k]:=by
 have:l.getD k d=l[k]:=by rw [List.getD_eq_getElem?_getD,List.getElem?_eq_getElem h]; rfl
 exact ⟨this ▸ List.getElem_mem h,this⟩
theorem ofG_ok {M:MachM} (hM:M.ok) (ws:List (List Nat)) (ia ib ic:Nat) : LogOK M.inp M.out (ofG M ws ia ib ic):=by
 have h:=runsM_ok hM ws
 unfold ofG
 split
 ·exact h
 ·split
  ·exact h
  ·rename_i h1 h2
   have hl:ia % (runsM M ws).length < (runsM M ws).length:=Nat.mod_lt _ (by omega)
   have hm:=(getD_mem (d:=([],[])) hl).1
   have hv:=h.lens hm
   generalize (runsM M ws).getD (ia % (runsM M ws).length) ([],[])=t at *
   have hk:ib % t.2.length < t.2.length:=Nat.mod_lt _ (by omega)
   refine h.set (h.wl t hm) (validB_of ?_ hv.2.1 (okR_change hM.2.2.1 hv.2.2 hk))
   show (changeR M.out (ic % 4) (ib % t.2.length) t.2).length=_
   rw [changeR_len (by omega)]
   exact hv.1
theorem ofG_len {M:MachM} (hM:M.ok) (ws:List (List Nat)) (ia ib ic:Nat) : (ofG M ws ia ib ic).length≤12:=by
 have h:(runsM M ws).length≤12:=by unfold runsM; rw [List.length_map,List.length_take]; omega
 unfold ofG
 split
 ·exact h
 ·split
  ·exact h
  ·rw [List.length_set]; exact h
def stepL:List Int→List Int→List Int→List Int→Nat→Option Nat
 | i :: x,a :: r,j :: y,b :: s,k=>if i=j then (if a=b then stepL x r y s (k+1) else some k) else none
 | _,_,_,_,_=>none
def conA (t:List Int×List Int) : List (List Int×List Int)→Nat→Option (Nat×Nat)
 | [],_=>none
 | u :: us,a=>match stepL u.1 u.2 t.1 t.2 0 with
  | some k=>some (a,k)
  | none=>conA t us (a+1)
def conB (ts:List (List Int×List Int)) : List (List Int×List Int)→Nat→Option (Nat×Nat×Nat)
 | [],_=>none
 | t :: us,b=>match conA t (ts.take b) 0 with
  | some (a,k)=>some (a,b,k)
  | none=>conB ts us (b+1)
theorem stepL_run {M:MachM} : ∀ (w v:List Int) (s:Int) (k:Nat),stepL w (runM M s w) v (runM M s v) k=none
 | [],_,_,_=>rfl
 | _ :: _,[],_,_=>rfl
 | i :: w,j :: v,s,k=>by
  show (if i=j then (if (nextM M s i).2=(nextM M s j).2 then _ else _) else none)=none
  by_cases h:i=j
  ·subst h
   rw [if_pos rfl,if_pos rfl]
   exact stepL_run w v _ _
  ·rw [if_neg h]
theorem conA_run {M:MachM} {t:List Int×List Int} (ht:t.2=runM M 0 t.1) : ∀ (us:List (List Int×List Int)) (a:Nat),(∀ u∈us,u.2=runM M 0 u.1)→conA t us a=none
 | [],_,_=>rfl
 | u :: us,a,h=>by
  unfold conA
  rw [h u (by simp),ht,stepL_run]
  exact conA_run ht us _ fun v hv=>h v (by simp [hv])
theorem conB_run {M:MachM} {ts:List (List Int×List Int)} (h:∀ u∈ts,u.2=runM M 0 u.1) : ∀ (us:List (List Int×List Int)) (b:Nat),(∀ u∈us,u.2=runM M 0 u.1)→conB ts us b=none
 | [],_,_=>rfl
 | t :: us,b,h2=>by
  unfold conB
  rw [conA_run (h2 t (by simp)) _ _ fun u hu=>h u (List.mem_of_mem_take hu)]
  exact conB_run h us _ fun v hv=>h2 v (by simp [hv])
theorem runs_none (M:MachM) (ws:List (List Nat)) : conB (runsM M ws) (runsM M ws) 0=none:=by
 have h:∀ u∈runsM M ws,u.2=runM M 0 u.1:=fun u hu=>by
  unfold runsM at hu
  obtain ⟨b,_,rfl⟩:=List.mem_map.1 hu
  rfl
 exact conB_run h _ _ h
end Go.Ai
end
section
namespace Go.Ai
open Go.Proofs
set_option maxRecDepth 10000
set_option maxHeartbeats 40000000
theorem RowsF.set2 {g:Nat→Option Blk} {lo n B:Nat} {ts:List (List Int×List Int)} {cs:List AV} (h:RowsF g lo n B ts cs) {i:Nat} (hi:i < ts.length) {r:List Int} {q:AV} (hq:SafeW g lo n B r q) : RowsF g lo n B (ts.set i (ts[i].1,r)) (cs.set (i * 2+1) q):=by
 refine ⟨by rw [List.length_set,List.length_set]; exact h.1,fun k hk=>?_⟩
 rw [List.length_set] at hk
 obtain ⟨s1,s2,h1,h2,h3,h4⟩:=h.2 k hk
 by_cases hki:i=k
 ·subst hki
  refine ⟨s1,q,?_,?_,?_,?_⟩
  ·rw [List.getElem?_set_ne (by omega)]; exact h1
  ·rw [List.getElem?_set_self (by have:=h.1; omega)]
  ·simp only [List.getElem_set_self]; exact h3
  ·simp only [List.getElem_set_self]; exact hq
 ·refine ⟨s1,s2,?_,?_,?_,?_⟩
  ·rw [List.getElem?_set_ne (by omega)]; exact h1
  ·rw [List.getElem?_set_ne (by omega)]; exact h2
  ·rw [List.getElem_set_ne hki]; exact h3
  ·rw [List.getElem_set_ne hki]; exact h4
theorem SafeW.mk {g:Nat→Option Blk} {lo n B m:Nat} {w:List Int} {own:Bool} {z:Nat} (h:g m=some (.cells (wdC w) own z)) (h1:lo≤m) (h2:m < n) (h3:m≠B) {c:Nat} : SafeW g lo n B w (.slq m 0 w.length c) :=
 ⟨fun a=>if a=m then g a else none,⟨fun a z hz=>(by
  have hz' : (if a=m then g a else none)=some z:=hz
  split at hz'
  ·rename_i h4; subst h4; exact ⟨hz',h1,h2,h3⟩
  ·cases hz'),.inr ⟨m,0,h2,.inr ⟨c,rfl⟩,wdC w,own,z,(if_pos rfl).trans h,by simp,by simp⟩⟩⟩
theorem wdC_set (w:List Int) (k:Nat) (v:Int) : (wdC w).set k (.lit (.int .i64 v))=wdC (w.set k v):=by
 unfold wdC; rw [List.map_set]
def noneC (r:List Int) (k j:Nat) : List Int:=r.take k++(List.replicate (j - k) (-1)++r.drop j)
theorem noneC_step {r:List Int} {k j:Nat} (hk:k≤j) (hj:j < r.length) : (noneC r k j).set j (-1)=noneC r k (j+1):=by
 unfold noneC
 rw [List.set_append_right _ _ (by rw [List.length_take]; omega),List.length_take,Nat.min_eq_left (by omega),List.set_append_right _ _ (by rw [List.length_replicate]; omega),List.length_replicate,Nat.sub_self,List.drop_eq_getElem_cons hj,List.set_cons_zero,show j+1 - k=(j - k)+1 by omega,List.replicate_succ',List.append_assoc]
 rfl
theorem noneC_len {r:List Int} {k j:Nat} (hk:k≤j) (hj:j≤r.length) : (noneC r k j).length=r.length:=by
 unfold noneC
 rw [List.length_append,List.length_append,List.length_take,List.length_replicate,List.length_drop]; omega
theorem noneC_end {r:List Int} {k:Nat} (hk:k≤r.length) : noneC r k r.length=r.take k++List.replicate (r.length - k) (-1):=by
 unfold noneC; rw [List.drop_length,List.append_nil]
theorem GOf_w {st inp out:Nat} {part:Bool} {es:List Nat} {ev:AV} {ws:List (List Nat)} {wv:AV} (ia ib ic:Nat) (hia:ia < 256) (hib:ib < 256) (hic:ic < 256) (g:Nat→Option Blk) (n:Nat) (hI:InG g n st inp out es ev ws wv) :
  WC 3 Tryz.prog 22 [.agg [.lit (.int .u8 st),.lit (.int .u8 inp),.lit (.int .u8 out),.lit (.bool part),ev,wv,.lit (.int .u8 ia),.lit (.int .u8 ib),.lit (.int .u8 ic)]] ⟨.fn g,n⟩ fun r=>∃ sv g' n' B,r=.ret (.agg [.lit (.int .i64 (machOf st inp out part es).inp),.lit (.int .i64 (machOf st inp out part es).out),sv]) ⟨.fn g',n'⟩∧n≤n'∧(∀ b,b < n→g' b=g b)∧LogF g' n n' B (ofG (machOf st inp out part es) ws ia ib ic) sv:=by
 have h1e:=hI.se.one
 have h1w:=hI.sw.choose_spec.1.one
 have hone:allOne [.lit (.int .u8 st),.lit (.int .u8 inp),.lit (.int .u8 out),.lit (.bool part),ev,wv,.lit (.int .u8 ia),.lit (.int .u8 ib),.lit (.int .u8 ic)]=true:=by simp [h1e,h1w]
 have HRU:=Hide.mk fun (gX:Nat→Option Blk) (n2:Nat) (hn:n≤n2) (hX:∀ b,b < n→gX b=g b)=>Runs_w (part:=part) ia ib ic gX n2 (hI.mono hn hX)
 have HM:=Hide.mk (machOf_ok st inp out part es)
 clear hI
 generalize machOf st inp out part es=M at *
 have HOF:=Hide.mk (rfl:ofG M ws ia ib ic=ofG M ws ia ib ic)
 have hOK:=runsM_ok HM.out ws
 have HOK:=Hide.mk hOK
 have hO1:=hOK.o1
 have hO2:=hOK.o2
 obtain ⟨L,hL⟩ : ∃ L,L=ofG M ws ia ib ic:=⟨_,rfl⟩
 rw [← hL]
 unfold ofG at hL
 have HL:=Hide.mk hL
 clear hL HOF hOK
 generalize runsM M ws=ts at *
 have hrem4:(ic:Int).tmod 4=((ic % 4:Nat) : Int):=(Int.ofNat_tmod ic 4).symm
 have hq4:ic % 4 < 4:=Nat.mod_lt _ (by decide)
 generalize ic % 4=q at *
 refine WC.enterP (noO_ok _ _) hG pl22 Tryz.func22 rfl (by decide +kernel) (Nat.le_of_ble_eq_true (by kernel_rfl)) ?_
 iterate 8 (all_goals try (first | with_reducible refine splitI (fun h=>?_) (fun h=>?_) | with_reducible refine splitBI (fun h=>?_) (fun h=>?_) | simp (config:={ maxSteps:=1000000 }) (disch:=first | assumption | omega | (simp; done) | fail) [Tryz.results22, *]))
 refine WC.mono (HRU.out _ _ (by omega) fun b (hb:b < n)=>by simp (disch:=omega) only [gput_lt]) ?_
 rintro _ ⟨sv,g1,n1,B,rfl,hn1,hg1,hlf⟩
 have HG1:Hide (∀ b,b < n→g1 b=g b):=⟨fun b hb=>(hg1 b (by omega)).trans (by simp (disch:=omega) only [gput_lt])⟩
 have hgn1:g1 n=some (.cells [.lit (.int .u8 st),.lit (.int .u8 inp),.lit (.int .u8 out),.lit (.bool part),ev,wv,.lit (.int .u8 ia),.lit (.int .u8 ib),.lit (.int .u8 ic)] true 0):=(hg1 n (by omega)).trans (by simp (disch:=omega) only [gput_lt,gput_eq])
 have hgo1:g1 (n+1)=some (.cells [.lit (.int .i64 0),.lit (.int .i64 0),.lit (.slice none 0 0)] true 0):=(hg1 (n+1) (by omega)).trans (by simp (disch:=omega) only [gput_lt,gput_eq])
 clear hg1 HRU
 have h1sv:=hlf.one
 have hone3:allOne [.lit (.int .i64 M.inp),.lit (.int .i64 M.out),sv]=true:=by simp [h1sv]
 have hlenS:=@lenV Tryz.prog _ _ _ _ _ hlf.log.choose_spec.1
 have HLF:=Hide.mk hlf
 have htl:=HOK.out.len
 clear hlf
 have FIN0:Hide (L=ts→∀ gF:Nat→Option Blk,∀ m,n1≤m→(∀ b,n+1+1≤b→b < n1→gF b=g1 b)→LogF gF n m B L sv):=⟨fun h gF m hm hgF=>by
  rw [h]; exact HLF.out.keep (by omega) hm fun a h1 h2=>hgF a (by omega) h2⟩
 by_cases c1:ts.length=0
 ·have hLt:L=ts:=by rw [HL.out,if_pos (.inl c1)]
  have HF:=Hide.mk (FIN0.out hLt)
  have c1I:(ts.length:Int)=0:=by omega
  clear hLt
  iterate 8 (all_goals try (first | with_reducible refine splitI (fun h=>?_) (fun h=>?_) | with_reducible refine splitBI (fun h=>?_) (fun h=>?_) | simp (config:={ maxSteps:=1000000 }) (disch:=first | assumption | omega | (simp; done) | fail) [Tryz.results22, *]))
  refine ⟨_,_,_,⟨rfl,rfl,rfl⟩,by omega,fun b hb=>?_,B,HF.out _ _ (by omega) fun b h1 h2=>?_⟩
  ·simp (disch:=omega) only [gput_lt]; exact HG1.out b hb
  ·simp (disch:=omega) only [gput_lt,gput_ne]
 have c1I:¬(ts.length:Int)=0:=by omega
 have c1N:¬ts=[]:=fun h=>c1 (by rw [h]; rfl)
 have hremI:(ia:Int).tmod (ts.length:Int)=((ia % ts.length:Nat) : Int):=(Int.ofNat_tmod ia _).symm
 by_cases c2:q < 2
 ·have hLt:L=ts:=by rw [HL.out,if_pos (.inr c2)]
  have HF:=Hide.mk (FIN0.out hLt)
  have c2I:(q:Int) < 2:=by omega
  clear hLt
  iterate 8 (all_goals try (first | with_reducible refine splitI (fun h=>?_) (fun h=>?_) | with_reducible refine splitBI (fun h=>?_) (fun h=>?_) | simp (config:={ maxSteps:=1000000 }) (disch:=first | assumption | omega | (simp; done) | fail) [Tryz.results22, *]))
  refine ⟨_,_,_,⟨rfl,rfl,rfl⟩,by omega,fun b hb=>?_,B,HF.out _ _ (by omega) fun b h1 h2=>?_⟩
  ·simp (disch:=omega) only [gput_lt]; exact HG1.out b hb
  ·simp (disch:=omega) only [gput_lt,gput_ne]
 have c2I:¬(q:Int) < 2:=by omega
 have hi:ia % ts.length < ts.length:=Nat.mod_lt _ (by omega)
 rw [if_neg (by omega),(getD_mem hi).2] at HL
 generalize ia % ts.length=i at *
 have hiI:(i:Int) < (ts.length:Int):=by omega
 have HTI:=Hide.mk (HOK.out.lens (List.getElem_mem hi))
 have hrl:(ts[i]).2.length≤12:=by rw [HTI.out.1]; exact HOK.out.wl _ (List.getElem_mem hi)
 obtain ⟨cs,hgr,hrf⟩:=HLF.out
 rcases hgr with ⟨hk0,_,_⟩ | ⟨hk0,hs0,hB1,hB2,hB3,hB4⟩
 ·omega
 subst hs0
 obtain ⟨s1,s2,hc1,hc2,hw1,hw2⟩:=hrf.2 i hi
 obtain ⟨hil,hc2⟩:=List.getElem?_eq_some_iff.1 hc2
 have h1s2:oneC s2=true:=hw2.rep.one
 have hcs2:cellsOf s2=[s2]:=hw2.rep.cell
 have hlenR:=@lenV Tryz.prog _ _ _ _ _ hw2.rep
 have HRF:=Hide.mk hrf
 have HW2:=Hide.mk hw2.rep
 have HW1:=Hide.mk hw1
 clear hw1 hw2 hrf hc1
 by_cases c3:(ts[i]).2.length=0
 ·have hLt:L=ts:=by rw [HL.out,if_pos c3]
  have HF:=Hide.mk (FIN0.out hLt)
  have H30:Hide (SliceV g1 n1 s2 0 (wdC (ts[i]).2)):=⟨by have h:=HW2.out; unfold RepW at h; rw [c3] at h; exact h⟩
  have hap:=fun {H:Mem} {ev:Ev} {d:Option Tmp} {ty:TypeId} {p:String} {af:Array Edge} {gd:Option (Nat×Bool)} {x y:Operand} {s t:TypeId} {a off:Nat} {hx:ev x=some (.sl a off 0 0)} {hy:ev y=some s2} (hp:(apI Tryz.prog s t).isSome=true)=>SliceV.ap00 (P:=Tryz.prog) (H30.out) (H:=H) (ev:=ev) (d:=d) (ty:=ty) (p:=p) (af:=af) (gd:=gd) (x:=x) (y:=y) (a:=a) (off:=off) (hx:=hx) (hy:=hy) hp
  have c3I:((ts[i]).2.length:Int)=0:=by omega
  clear hLt
  iterate 8 (all_goals try (first | with_reducible refine splitI (fun h=>?_) (fun h=>?_) | with_reducible refine splitBI (fun h=>?_) (fun h=>?_) | simp (config:={ maxSteps:=1000000 }) (disch:=first | assumption | omega | (simp; done) | fail) [Tryz.results22, *]))
  refine ⟨_,_,_,⟨rfl,rfl,rfl⟩,by omega,fun b hb=>?_,B,HF.out _ _ (by omega) fun b h1 h2=>?_⟩
  ·simp (disch:=omega) only [gput_lt]; exact HG1.out b hb
  ·simp (disch:=omega) only [gput_lt,gput_ne]
 have c3I:¬((ts[i]).2.length:Int)=0:=by omega
 rw [if_neg c3] at HL
 obtain ⟨a2,blk,ha2,hga2,hap⟩:=SliceV.ap0 (P:=Tryz.prog) (sz:=1) HW2.out (by omega) (by omega) (by rw [wdC_len]; omega)
 have hremR:(ib:Int).tmod ((ts[i]).2.length:Int)=((ib % (ts[i]).2.length:Nat) : Int):=(Int.ofNat_tmod ib _).symm
 have hk:ib % (ts[i]).2.length < (ts[i]).2.length:=Nat.mod_lt _ (by omega)
 have HAT:=Hide.mk (okR_at (ts[i]).2 (ib % (ts[i]).2.length) false HTI.out.2.2 hk)
 have HGD:=Hide.mk (getD_mem (d:=(0:Int)) hk)
 have HFIN:Hide (∀ (gF:Nat→Option Blk) (m c:Nat) (r' : List Int),r'.length=(ts[i]).2.length→L=ts.set i ((ts[i]).1,r')→(∀ b,n+1+1≤b→b < n1→b≠B→gF b=g1 b)→gF B=some (.cells (cs.set (i * 2+1) (.slq (n1+1+1) 0 (ts[i]).2.length c)) true 2)→gF (n1+1+1)=some (.cells (wdC r') true 1)→n1+1+1 < m→LogF gF n m B L (.slq B 0 ts.length 0)):=⟨fun gF m c r' h1 h2 h3 h4 h5 h6=>by
  refine ⟨cs.set (i * 2+1) (.slq (n1+1+1) 0 (ts[i]).2.length c),.inr ⟨?_,?_,by omega,by omega,h4,?_⟩,?_⟩
  ·rw [h2,List.length_set]; exact hk0
  ·rw [h2,List.length_set]
  ·rw [h2,List.length_set,List.length_set]; exact hB4
  ·rw [h2]
   refine (HRF.out.keep (by omega) (by omega) (.inr (.inl rfl)) h3).set2 hi ?_
   rw [← h1]
   exact .mk h5 (by omega) h6 (by omega)⟩
 generalize ib % (ts[i]).2.length=k at *
 have hkI:(k:Int) < ((ts[i]).2.length:Int):=by omega
 have hwk:(wdC (ts[i]).2)[k]'(by rw [wdC_len]; exact hk)=.lit (.int .i64 ((ts[i]).2[k])):=(List.getElem?_eq_some_iff.1 (wdC_at _ k hk)).2
 have hwl:(wdC (ts[i]).2).length=(ts[i]).2.length:=wdC_len _
 rw [HGD.out.2] at HAT
 have HCH:Hide (changeR M.out q k (ts[i]).2=if q=2 then (if (ts[i]).2[k] = -1 then (ts[i]).2 else (ts[i]).2.set k (((ts[i]).2[k]+1).tmod M.out)) else (ts[i]).2.take k++List.replicate ((ts[i]).2.length - k) (-1)):=⟨by unfold changeR; rw [HGD.out.2]⟩
 have HWS:Hide (∀ v,(wdC (ts[i]).2).set k (.lit (.int .i64 v))=wdC ((ts[i]).2.set k v)):=⟨fun v=>wdC_set _ _ _⟩
 have ha2n:¬a2=n1:=by omega
 clear HLF FIN0
 generalize (ts[i]).2=r at *
 have hrkO : -1≤r[k]∧r[k] < M.out:=HAT.out
 generalize hxx:r[k]=x at *
 have HXX:=Hide.mk hxx
 clear hxx
 have hx1:=hrkO.1
 have hx2:=hrkO.2
 have hOI:¬M.out=0:=by omega
 by_cases c4:q=2
 ·subst c4
  rw [if_pos rfl] at HCH
  by_cases c5:x = -1
  ·rw [if_pos c5] at HCH
   have HF:=Hide.mk fun gF m c h3 h4 h5 h6=>HFIN.out gF m c r rfl (by rw [HL.out,HCH.out]) h3 h4 h5 h6
   iterate 12 (all_goals try (first | with_reducible refine splitI (fun h=>?_) (fun h=>?_) | with_reducible refine splitBI (fun h=>?_) (fun h=>?_) | simp (config:={ maxSteps:=1000000 }) (disch:=first | assumption | omega | (simp; done) | fail) [Tryz.results22, *]))
   refine LX.roundP (noO_ok _ _) hG pl22 (by decide +kernel) ?_
   iterate 8 (all_goals try (first | with_reducible refine splitI (fun h=>?_) (fun h=>?_) | with_reducible refine splitBI (fun h=>?_) (fun h=>?_) | simp (config:={ maxSteps:=1000000 }) (disch:=first | assumption | omega | (simp; done) | fail) [Tryz.results22, *]))
   refine ⟨_,_,_,⟨rfl,rfl,rfl⟩,by omega,fun b hb=>?_,B,HF.out _ _ 0 (fun b h1 h2 h3=>?_) ?_ ?_ (by omega)⟩
   ·simp (disch:=omega) only [gput_lt]; exact HG1.out b hb
   ·simp (disch:=omega) only [gput_lt,gput_ne]
   ·simp (disch:=omega) only [gput_lt,gput_ne,gput_eq]
   ·simp (disch:=omega) only [gput_lt,gput_ne,gput_eq]
  ·rw [if_neg c5] at HCH
   have HF:=Hide.mk fun gF m c h3 h4 h5 h6=>HFIN.out gF m c (r.set k ((x+1).tmod M.out)) List.length_set (by rw [HL.out,HCH.out]) h3 h4 h5 h6
   have hv0:0≤(x+1).tmod M.out:=Int.tmod_nonneg _ (by omega)
   have hv1:(x+1).tmod M.out < M.out:=Int.tmod_lt_of_pos _ (by omega)
   have hws:=HWS.out ((x+1).tmod M.out)
   have hsl:((wdC r).set k (.lit (.int .i64 ((x+1).tmod M.out)))).length=r.length:=by rw [List.length_set]; exact hwl
   iterate 12 (all_goals try (first | with_reducible refine splitI (fun h=>?_) (fun h=>?_) | with_reducible refine splitBI (fun h=>?_) (fun h=>?_) | simp (config:={ maxSteps:=1000000 }) (disch:=first | assumption | omega | (simp; done) | fail) [Tryz.results22, *]))
   refine LX.roundP (noO_ok _ _) hG pl22 (by decide +kernel) ?_
   iterate 8 (all_goals try (first | with_reducible refine splitI (fun h=>?_) (fun h=>?_) | with_reducible refine splitBI (fun h=>?_) (fun h=>?_) | simp (config:={ maxSteps:=1000000 }) (disch:=first | assumption | omega | (simp; done) | fail) [Tryz.results22, *]))
   refine ⟨_,_,_,⟨rfl,rfl,rfl⟩,by omega,fun b hb=>?_,B,HF.out _ _ 0 (fun b h1 h2 h3=>?_) ?_ ?_ (by omega)⟩
   ·simp (disch:=omega) only [gput_lt]; exact HG1.out b hb
   ·simp (disch:=omega) only [gput_lt,gput_ne]
   ·simp (disch:=omega) only [gput_lt,gput_ne,gput_eq]
   ·simp (disch:=omega) only [gput_lt,gput_ne,gput_eq]
 ·have hq3:q=3:=by omega
  subst hq3
  rw [if_neg c4] at HCH
  have HF:=Hide.mk fun gF m c h3 h4 h5 h6=>HFIN.out gF m c (noneC r k r.length) (noneC_len (by omega) (Nat.le_refl _)) (by rw [HL.out,HCH.out,noneC_end (by omega)]) h3 h4 h5 h6
  iterate 12 (all_goals try (first | with_reducible refine splitI (fun h=>?_) (fun h=>?_) | with_reducible refine splitBI (fun h=>?_) (fun h=>?_) | simp (config:={ maxSteps:=1000000 }) (disch:=first | assumption | omega | (simp; done) | fail) [Tryz.results22, *]))
  obtain ⟨gA,hgA⟩ : ∃ gA,gA=gput (gput g1 n1 (some (.cells [.lit (.int .i64 M.inp),.lit (.int .i64 M.out),.slq B 0 ts.length 0] true 0))) (n1+1) (some (.cells [] true 0)):=⟨_,rfl⟩
  have HGA:=Hide.mk hgA
  rw [← hgA]
  clear hgA
  refine LX.ind (fun m gf H'=>∃ (j:Nat) (gL:Nat→Option Blk),k≤j∧j≤r.length∧m=r.length - j∧H'=⟨.fn gL,n1+1+1+1⟩∧Hide (∀ b,b < n1+1+1→gL b=gA b)∧gL (n1+1+1)=some (.cells (wdC (noneC r k j)) true 1) ∧
   gf 1=some (.ptr n 0)∧gf 2=some (.ptr (n+1) 0)∧gf 3=some (.ptr n1 0)∧gf 4=some (.lit (.int .i64 i))∧gf 5=some (.slq (n1+1+1) 0 r.length 0)∧gf 7=some (.lit (.int .i64 j))) (m0:=r.length - k) ?_ ?_
  ·refine ⟨k,_,Nat.le_refl _,by omega,rfl,rfl,⟨fun b hb=>gput_lt hb⟩,?_,by simp,by simp,by simp,by simp,by simp,by simp⟩
   rw [gput_eq]
   unfold noneC
   rw [Nat.sub_self,List.replicate_zero,List.nil_append,List.take_append_drop]
  rintro m gf H' ⟨j,gL,hkj,hj,rfl,rfl,HG,hgr,w1,w2,w3,w4,w5,w7⟩ ih
  have hgn:=(HG.out n (by omega)).trans ((congrFun HGA.out n).trans (by simp (disch:=omega) only [gput_lt]; exact hgn1))
  have hgo:=(HG.out (n+1) (by omega)).trans ((congrFun HGA.out (n+1)).trans (by simp (disch:=omega) only [gput_lt]; exact hgo1))
  have hgm:gL n1=some (.cells [.lit (.int .i64 M.inp),.lit (.int .i64 M.out),.slq B 0 ts.length 0] true 0):=(HG.out n1 (by omega)).trans ((congrFun HGA.out n1).trans (by simp (disch:=omega) only [gput_lt,gput_eq]))
  have hgB:=(HG.out B (by omega)).trans ((congrFun HGA.out B).trans (by simp (disch:=omega) only [gput_lt]; exact hB3))
  have hrem43:(ic:Int).tmod 4=3:=hrem4
  have hncl:(wdC (noneC r k j)).length=r.length:=by rw [wdC_len,noneC_len hkj hj]
  clear hB3 hgo1 hgn1 hrem4
  refine LX.roundP (noO_ok _ _) hG pl22 (by decide +kernel) ?_
  by_cases hlt:j < r.length
  ·have hltI:(j:Int) < (r.length:Int):=by omega
   have HST:=Hide.mk (noneC_step hkj hlt)
   have HWN:=Hide.mk (wdC_set (noneC r k j) j (-1))
   iterate 8 (all_goals try (first | with_reducible refine splitI (fun h=>?_) (fun h=>?_) | with_reducible refine splitBI (fun h=>?_) (fun h=>?_) | simp (config:={ maxSteps:=1000000 }) (disch:=first | assumption | omega | (simp; done) | fail) [Tryz.results22, *]))
   rw [HWN.out,HST.out]
   refine ih.out (r.length - (j+1)) _ _ (by omega) ⟨j+1,_,by omega,by omega,rfl,rfl,⟨fun b hb=>?_⟩,gput_eq,by simp [*],by simp [*],by simp [*],by simp [*],by simp [*],by simp⟩
   exact (gput_lt hb).trans (HG.out b hb)
  ·have hltI:¬(j:Int) < (r.length:Int):=by omega
   have hjr:j=r.length:=by omega
   have HJR:=Hide.mk hjr
   clear hjr
   iterate 8 (all_goals try (first | with_reducible refine splitI (fun h=>?_) (fun h=>?_) | with_reducible refine splitBI (fun h=>?_) (fun h=>?_) | simp (config:={ maxSteps:=1000000 }) (disch:=first | assumption | omega | (simp; done) | fail) [Tryz.results22, *]))
   refine ⟨_,_,_,⟨rfl,rfl,rfl⟩,by omega,fun b hb=>?_,B,HF.out _ _ 0 (fun b h1 h2 h3=>?_) ?_ ?_ (by omega)⟩
   ·simp (disch:=omega) only [gput_lt]; rw [HG.out b (by omega),HGA.out]; simp (disch:=omega) only [gput_lt]; exact HG1.out b hb
   ·simp (disch:=omega) only [gput_lt,gput_ne]; rw [HG.out b (by omega),HGA.out]; simp (disch:=omega) only [gput_lt,gput_ne]
   ·simp (disch:=omega) only [gput_lt,gput_ne,gput_eq]
   ·simp (disch:=omega) only [gput_lt,gput_ne,gput_eq]; rw [hgr,HJR.out]
end Go.Ai
end
section
namespace Go.Ai
open Go.Proofs
set_option maxRecDepth 10000
set_option maxHeartbeats 40000000
def optI:Option Nat→Int
 | some k=>(k:Int)
 | none=>-1
def stepI (u t:List Int×List Int) : Int:=optI (stepL u.1 u.2 t.1 t.2 0)
theorem stepL_at {x a y b:List Int} {k:Nat} (h1:k < x.length) (h2:k < a.length) (h3:k < y.length) (h4:k < b.length) : stepL (x.drop k) (a.drop k) (y.drop k) (b.drop k) k=if x[k]=y[k] then (if a[k]=b[k] then stepL (x.drop (k+1)) (a.drop (k+1)) (y.drop (k+1)) (b.drop (k+1)) (k+1) else some k) else none:=by
 rw [List.drop_eq_getElem_cons h1,List.drop_eq_getElem_cons h2,List.drop_eq_getElem_cons h3,List.drop_eq_getElem_cons h4]; rfl
theorem stepL_nil {x a b:List Int} {k:Nat} : stepL x a [] b k=none:=by
 cases x with
 | nil=>rfl
 | cons i x=>cases a with
  | nil=>rfl
  | cons o a=>rfl
theorem step_w {I O:Int} {u t:List Int×List Int} (hu:u.2.length=u.1.length) (ht:t.2.length=t.1.length) (hul:u.1.length≤12) (htl:t.1.length≤12) (g:Nat→Option Blk) (n:Nat) (s1 s2 r1 r2:AV) (h1:RepW g n u.1 s1) (h2:RepW g n u.2 s2) (h3:RepW g n t.1 r1) (h4:RepW g n t.2 r2) :
  WC 3 Tryz.prog 51 [.agg [s1,s2],.agg [r1,r2]] ⟨.fn g,n⟩ fun r=>r=.ret (.lit (.int .i64 (stepI u t))) ⟨.fn g,n⟩:=by
 refine WC.drop1 rfl ?_
 have hlen1:=@lenV Tryz.prog _ _ _ _ _ h1
 have hlen2:=@lenV Tryz.prog _ _ _ _ _ h2
 have hlen3:=@lenV Tryz.prog _ _ _ _ _ h3
 have hlen4:=@lenV Tryz.prog _ _ _ _ _ h4
 have e1:oneC s1=true:=h1.one
 have e2:oneC s2=true:=h2.one
 have e3:oneC r1=true:=h3.one
 have e4:oneC r2=true:=h4.one
 have hone1:allOne [s1,s2]=true:=by simp [e1,e2]
 have hone2:allOne [r1,r2]=true:=by simp [e3,e4]
 have H1:=Hide.mk h1
 have H2:=Hide.mk h2
 have H3:=Hide.mk h3
 have H4:=Hide.mk h4
 clear h1 h2 h3 h4
 obtain ⟨z,hz⟩ : ∃ z,z=stepI u t:=⟨_,rfl⟩
 rw [← hz]
 have HZ:=Hide.mk hz
 clear hz
 rw [hu] at hlen2
 rw [ht] at hlen4
 by_cases hut:(t.1.length:Int) < (u.1.length:Int)
 all_goals
  refine WC.enterP (noO_ok _ _) hG pl51 Tryz.func51 rfl (by decide +kernel) (Nat.le_of_ble_eq_true (by kernel_rfl)) ?_
  iterate 8 (all_goals try (first | with_reducible refine splitI (fun h=>?_) (fun h=>?_) | with_reducible refine splitBI (fun h=>?_) (fun h=>?_) | simp (config:={ maxSteps:=1000000 }) (disch:=first | assumption | omega | (simp; done) | fail) [Tryz.results51, *]))
  refine LX.ind (fun m gf H'=>∃ (k:Nat),k≤u.1.length∧k≤t.1.length∧m=u.1.length - k∧H'=⟨.fn (gput (gput g n (some (.cells [s1,s2] true 0))) (n+1) (some (.cells [r1,r2] true 0))),n+1+1⟩ ∧
   Hide (z=optI (stepL (u.1.drop k) (u.2.drop k) (t.1.drop k) (t.2.drop k) k))∧gf 2=some (.ptr n 0)∧gf 3=some (.ptr (n+1) 0)∧gf 5=some (.lit (.int .i64 k))) (m0:=u.1.length) ?_ ?_
  ·exact ⟨0,Nat.zero_le _,Nat.zero_le _,rfl,rfl,HZ,by simp,by simp,by simp⟩
  rintro m gf H' ⟨k,hku,hkt,rfl,rfl,HP,w2,w3,w5⟩ ih
  refine LX.roundP (noO_ok _ _) hG pl51 (by decide +kernel) ?_
  by_cases hlu:k < u.1.length
  ·have hluI:(k:Int) < (u.1.length:Int):=by omega
   by_cases hlt:k < t.1.length
   ·have hltI:(k:Int) < (t.1.length:Int):=by omega
    obtain ⟨b1,o1,hb1,hia1,hc1⟩:=RepW.at H1.out hlu
    obtain ⟨b2,o2,hb2,hia2,hc2⟩:=RepW.at H2.out (by omega:k < u.2.length)
    obtain ⟨b3,o3,hb3,hia3,hc3⟩:=RepW.at H3.out hlt
    obtain ⟨b4,o4,hb4,hia4,hc4⟩:=RepW.at H4.out (by omega:k < t.2.length)
    have HST:=Hide.mk (HP.out.trans (congrArg optI (stepL_at hlu (by omega:k < u.2.length) hlt (by omega:k < t.2.length))))
    generalize u.1[k]=i at *
    generalize u.2[k]=a at *
    generalize t.1[k]=j at *
    generalize t.2[k]=b at *
    by_cases hij:i=j
    ·rw [if_pos hij] at HST
     subst hij
     by_cases hab:a=b
     ·rw [if_pos hab] at HST
      subst hab
      iterate 8 (all_goals try (first | with_reducible refine splitI (fun h=>?_) (fun h=>?_) | with_reducible refine splitBI (fun h=>?_) (fun h=>?_) | simp (config:={ maxSteps:=1000000 }) (disch:=first | assumption | omega | (simp; done) | fail) [Tryz.results51, *]))
      exact ih.out (u.1.length - (k+1)) _ _ (by omega) ⟨k+1,by omega,by omega,rfl,rfl,HST,by simp [*],by simp [*],by simp⟩
     ·rw [if_neg hab] at HST
      have hz:z=k:=HST.out
      clear HST HP HZ
      subst hz
      iterate 8 (all_goals try (first | with_reducible refine splitI (fun h=>?_) (fun h=>?_) | with_reducible refine splitBI (fun h=>?_) (fun h=>?_) | simp (config:={ maxSteps:=1000000 }) (disch:=first | assumption | omega | (simp; done) | fail) [Tryz.results51, *]))
      all_goals exact ⟨by show n≤n+1+1; omega,fun b (hb:b < n)=>(gput_lt (by omega)).trans (gput_lt hb)⟩
    ·rw [if_neg hij] at HST
     have hz:z = -1:=HST.out
     clear HST HP HZ
     subst hz
     iterate 8 (all_goals try (first | with_reducible refine splitI (fun h=>?_) (fun h=>?_) | with_reducible refine splitBI (fun h=>?_) (fun h=>?_) | simp (config:={ maxSteps:=1000000 }) (disch:=first | assumption | omega | (simp; done) | fail) [Tryz.results51, *]))
     all_goals exact ⟨by show n≤n+1+1; omega,fun b (hb:b < n)=>(gput_lt (by omega)).trans (gput_lt hb)⟩
   ·have hltI:¬(k:Int) < (t.1.length:Int):=by omega
    have hz:z = -1:=by rw [HP.out,List.drop_eq_nil_of_le (by omega:t.1.length≤k)]; rw [stepL_nil]; rfl
    try (exfalso; omega)
    all_goals clear HP HZ
    all_goals subst hz
    iterate 8 (all_goals try (first | with_reducible refine splitI (fun h=>?_) (fun h=>?_) | with_reducible refine splitBI (fun h=>?_) (fun h=>?_) | simp (config:={ maxSteps:=1000000 }) (disch:=first | assumption | omega | (simp; done) | fail) [Tryz.results51, *]))
    all_goals exact ⟨by show n≤n+1+1; omega,fun b (hb:b < n)=>(gput_lt (by omega)).trans (gput_lt hb)⟩
  ·have hluI:¬(k:Int) < (u.1.length:Int):=by omega
   have hz:z = -1:=by rw [HP.out,List.drop_eq_nil_of_le (by omega:u.1.length≤k)]; rfl
   try (exfalso; omega)
   all_goals clear HP HZ
   all_goals subst hz
   iterate 8 (all_goals try (first | with_reducible refine splitI (fun h=>?_) (fun h=>?_) | with_reducible refine splitBI (fun h=>?_) (fun h=>?_) | simp (config:={ maxSteps:=1000000 }) (disch:=first | assumption | omega | (simp; done) | fail) [Tryz.results51, *]))
   all_goals exact ⟨by show n≤n+1+1; omega,fun b (hb:b < n)=>(gput_lt (by omega)).trans (gput_lt hb)⟩
theorem rStep_w {I O:Int} {u t:List Int×List Int} (hu:u.2.length=u.1.length) (ht:t.2.length=t.1.length) (hul:u.1.length≤12) (htl:t.1.length≤12) (g:Nat→Option Blk) (n:Nat) (s1 s2 r1 r2:AV) (h1:RepW g n u.1 s1) (h2:RepW g n u.2 s2) (h3:RepW g n t.1 r1) (h4:RepW g n t.2 r2) :
  WC 3 Tryz.prog 61 [.agg [s1,s2],.agg [r1,r2]] ⟨.fn g,n⟩ fun r=>r=.ret (.lit (.int .i64 (stepI u t))) ⟨.fn g,n⟩:=by
 refine WC.drop1 rfl ?_
 have hlen1:=@lenV Tryz.prog _ _ _ _ _ h1
 have hlen2:=@lenV Tryz.prog _ _ _ _ _ h2
 have hlen3:=@lenV Tryz.prog _ _ _ _ _ h3
 have hlen4:=@lenV Tryz.prog _ _ _ _ _ h4
 have e1:oneC s1=true:=h1.one
 have e2:oneC s2=true:=h2.one
 have e3:oneC r1=true:=h3.one
 have e4:oneC r2=true:=h4.one
 have hone1:allOne [s1,s2]=true:=by simp [e1,e2]
 have hone2:allOne [r1,r2]=true:=by simp [e3,e4]
 have H1:=Hide.mk h1
 have H2:=Hide.mk h2
 have H3:=Hide.mk h3
 have H4:=Hide.mk h4
 clear h1 h2 h3 h4
 obtain ⟨z,hz⟩ : ∃ z,z=stepI u t:=⟨_,rfl⟩
 rw [← hz]
 have HZ:=Hide.mk hz
 clear hz
 rw [hu] at hlen2
 rw [ht] at hlen4
 by_cases hut:(t.1.length:Int) < (u.1.length:Int)
 all_goals
  refine WC.enterP (noO_ok _ _) hG pl61 Tryz.func61 rfl (by decide +kernel) (Nat.le_of_ble_eq_true (by kernel_rfl)) ?_
  iterate 8 (all_goals try (first | with_reducible refine splitI (fun h=>?_) (fun h=>?_) | with_reducible refine splitBI (fun h=>?_) (fun h=>?_) | simp (config:={ maxSteps:=1000000 }) (disch:=first | assumption | omega | (simp; done) | fail) [Tryz.results61, *]))
  refine LX.ind (fun m gf H'=>∃ (k:Nat),k≤u.1.length∧k≤t.1.length∧m=u.1.length - k∧H'=⟨.fn (gput (gput g n (some (.cells [s1,s2] true 0))) (n+1) (some (.cells [r1,r2] true 0))),n+1+1⟩ ∧
   Hide (z=optI (stepL (u.1.drop k) (u.2.drop k) (t.1.drop k) (t.2.drop k) k))∧gf 2=some (.ptr n 0)∧gf 3=some (.ptr (n+1) 0)∧gf 5=some (.lit (.int .i64 k))) (m0:=u.1.length) ?_ ?_
  ·exact ⟨0,Nat.zero_le _,Nat.zero_le _,rfl,rfl,HZ,by simp,by simp,by simp⟩
  rintro m gf H' ⟨k,hku,hkt,rfl,rfl,HP,w2,w3,w5⟩ ih
  refine LX.roundP (noO_ok _ _) hG pl61 (by decide +kernel) ?_
  by_cases hlu:k < u.1.length
  ·have hluI:(k:Int) < (u.1.length:Int):=by omega
   by_cases hlt:k < t.1.length
   ·have hltI:(k:Int) < (t.1.length:Int):=by omega
    obtain ⟨b1,o1,hb1,hia1,hc1⟩:=RepW.at H1.out hlu
    obtain ⟨b2,o2,hb2,hia2,hc2⟩:=RepW.at H2.out (by omega:k < u.2.length)
    obtain ⟨b3,o3,hb3,hia3,hc3⟩:=RepW.at H3.out hlt
    obtain ⟨b4,o4,hb4,hia4,hc4⟩:=RepW.at H4.out (by omega:k < t.2.length)
    have HST:=Hide.mk (HP.out.trans (congrArg optI (stepL_at hlu (by omega:k < u.2.length) hlt (by omega:k < t.2.length))))
    generalize u.1[k]=i at *
    generalize u.2[k]=a at *
    generalize t.1[k]=j at *
    generalize t.2[k]=b at *
    by_cases hij:i=j
    ·rw [if_pos hij] at HST
     subst hij
     by_cases hab:a=b
     ·rw [if_pos hab] at HST
      subst hab
      iterate 8 (all_goals try (first | with_reducible refine splitI (fun h=>?_) (fun h=>?_) | with_reducible refine splitBI (fun h=>?_) (fun h=>?_) | simp (config:={ maxSteps:=1000000 }) (disch:=first | assumption | omega | (simp; done) | fail) [Tryz.results61, *]))
      exact ih.out (u.1.length - (k+1)) _ _ (by omega) ⟨k+1,by omega,by omega,rfl,rfl,HST,by simp [*],by simp [*],by simp⟩
     ·rw [if_neg hab] at HST
      have hz:z=k:=HST.out
      clear HST HP HZ
      subst hz
      iterate 8 (all_goals try (first | with_reducible refine splitI (fun h=>?_) (fun h=>?_) | with_reducible refine splitBI (fun h=>?_) (fun h=>?_) | simp (config:={ maxSteps:=1000000 }) (disch:=first | assumption | omega | (simp; done) | fail) [Tryz.results61, *]))
      all_goals exact ⟨by show n≤n+1+1; omega,fun b (hb:b < n)=>(gput_lt (by omega)).trans (gput_lt hb)⟩
    ·rw [if_neg hij] at HST
     have hz:z = -1:=HST.out
     clear HST HP HZ
     subst hz
     iterate 8 (all_goals try (first | with_reducible refine splitI (fun h=>?_) (fun h=>?_) | with_reducible refine splitBI (fun h=>?_) (fun h=>?_) | simp (config:={ maxSteps:=1000000 }) (disch:=first | assumption | omega | (simp; done) | fail) [Tryz.results61, *]))
     all_goals exact ⟨by show n≤n+1+1; omega,fun b (hb:b < n)=>(gput_lt (by omega)).trans (gput_lt hb)⟩
   ·have hltI:¬(k:Int) < (t.1.length:Int):=by omega
    have hz:z = -1:=by rw [HP.out,List.drop_eq_nil_of_le (by omega:t.1.length≤k)]; rw [stepL_nil]; rfl
    try (exfalso; omega)
    all_goals clear HP HZ
    all_goals subst hz
    iterate 8 (all_goals try (first | with_reducible refine splitI (fun h=>?_) (fun h=>?_) | with_reducible refine splitBI (fun h=>?_) (fun h=>?_) | simp (config:={ maxSteps:=1000000 }) (disch:=first | assumption | omega | (simp; done) | fail) [Tryz.results61, *]))
    all_goals exact ⟨by show n≤n+1+1; omega,fun b (hb:b < n)=>(gput_lt (by omega)).trans (gput_lt hb)⟩
  ·have hluI:¬(k:Int) < (u.1.length:Int):=by omega
   have hz:z = -1:=by rw [HP.out,List.drop_eq_nil_of_le (by omega:u.1.length≤k)]; rfl
   try (exfalso; omega)
   all_goals clear HP HZ
   all_goals subst hz
   iterate 8 (all_goals try (first | with_reducible refine splitI (fun h=>?_) (fun h=>?_) | with_reducible refine splitBI (fun h=>?_) (fun h=>?_) | simp (config:={ maxSteps:=1000000 }) (disch:=first | assumption | omega | (simp; done) | fail) [Tryz.results61, *]))
   all_goals exact ⟨by show n≤n+1+1; omega,fun b (hb:b < n)=>(gput_lt (by omega)).trans (gput_lt hb)⟩
end Go.Ai
end
section
namespace Go.Ai
open Go.Proofs
set_option maxRecDepth 10000
set_option maxHeartbeats 40000000
def CapV (sv:AV) : Prop:=∀ a o n c,sv=.sl a o n c→n≤c
theorem Row.takes {g:Nat→Option Blk} {a off:Nat} {cs:List AV} (h:Row g a off cs) (m:Nat) : Row g a off (cs.take m):=by
 obtain ⟨l,own,z,h1,h2,h3⟩:=h
 refine ⟨l,own,z,h1,?_,?_⟩
 ·rw [List.length_take]; omega
 ·rw [List.length_take]
  have:(List.take cs.length (List.drop off l)).take m=cs.take m:=by rw [h3]
  rw [List.take_take] at this
  simpa [Nat.min_comm] using this
theorem SliceV.cut {g:Nat→Option Blk} {b len:Nat} {sv:AV} {cs:List AV} (h:SliceV g b sv len cs) (hc:CapV sv) {t:TypeId} (he:(elSz Tryz.prog t).map (·.1)=some none) {k sz:Nat} (hk:k≤len) (h0:0 < len) :
  ∃ sv',(∀ {H:Mem} {ev:Ev} {d:Option Tmp} {ty:TypeId} {p:String} {af:Array Edge} {gd:Option (Nat×Bool)} {x hi:Operand} {hx:ev x=some sv} {hh:ev hi=some (.lit (.int .i64 (k:Int)))},
   ex2 Tryz.prog H ev ⟨d,.slice t x none (some hi) none,ty,p,af,gd⟩ x hi (some sv) (some (.lit (.int .i64 (k:Int)))) hx hh=.val sv' H)∧SliceV g b sv' k (cs.take (k * sz)):=by
 rcases h with ⟨h1,_⟩ | ⟨a,off,ha,⟨c,rfl⟩ | ⟨c,rfl⟩,hrow⟩
 ·omega
 ·have hcc:=hc _ _ _ _ rfl
  refine ⟨.sl a off k c,?_,.inr ⟨a,off,ha,.inl ⟨c,rfl⟩,hrow.takes _⟩⟩
  intro H ev d ty p af gd x hi hx hh
  rw [slice_sl_hi he (by omega) (by omega) (by omega)]
  simp
 ·refine ⟨.slq a off k c,?_,.inr ⟨a,off,ha,.inr ⟨c,rfl⟩,hrow.takes _⟩⟩
  intro H ev d ty p af gd x hi hx hh
  rw [slice_slq_hi he (by omega) (by omega) (by omega)]
  simp
theorem el22:(elSz Tryz.prog 22).map (·.1)=some none:=by kernel_rfl
theorem LogR.cut {g:Nat→Option Blk} {n:Nat} {ts:List (List Int×List Int)} {sv:AV} (h:LogR g n ts sv) (hc:CapV sv) {k:Nat} (hk:k≤ts.length) (h0:0 < ts.length) :
  ∃ sv',(∀ {H:Mem} {ev:Ev} {d:Option Tmp} {ty:TypeId} {p:String} {af:Array Edge} {gd:Option (Nat×Bool)} {x hi:Operand} {hx:ev x=some sv} {hh:ev hi=some (.lit (.int .i64 (k:Int)))},
   ex2 Tryz.prog H ev ⟨d,.slice 22 x none (some hi) none,ty,p,af,gd⟩ x hi (some sv) (some (.lit (.int .i64 (k:Int)))) hx hh=.val sv' H)∧LogR g n (ts.take k) sv':=by
 obtain ⟨cs,h1,h2⟩:=h
 obtain ⟨sv',h3,h4⟩:=h1.cut hc el22 (sz:=2) hk h0
 refine ⟨sv',h3,cs.take (k * 2),by rw [List.length_take,Nat.min_eq_left hk]; exact h4,?_,fun j hj=>?_⟩
 ·rw [List.length_take,List.length_take,h2.1]; omega
 ·have hj2:j < k∧j < ts.length:=by rw [List.length_take] at hj; omega
  obtain ⟨s1,s2,e1,e2,e3,e4⟩:=h2.2 j hj2.2
  exact ⟨s1,s2,by rw [List.getElem?_take,if_pos (by omega)]; exact e1,by rw [List.getElem?_take,if_pos (by omega)]; exact e2,by rw [List.getElem_take]; exact e3,by rw [List.getElem_take]; exact e4⟩
theorem conB_at {ts:List (List Int×List Int)} {k:Nat} (hk:k < ts.length) : conB ts (ts.drop k) k=match conA (ts[k]) (ts.take k) 0 with
  | some (a,j)=>some (a,k,j)
  | none=>conB ts (ts.drop (k+1)) (k+1):=by
 rw [List.drop_eq_getElem_cons hk]; rfl
theorem conA_at {t:List Int×List Int} {us:List (List Int×List Int)} {j:Nat} (hj:j < us.length) : conA t (us.drop j) j=match stepL (us[j]).1 (us[j]).2 t.1 t.2 0 with
  | some k=>some (j,k)
  | none=>conA t (us.drop (j+1)) (j+1):=by
 rw [List.drop_eq_getElem_cons hj]; rfl
def conC:Option (Nat×Nat×Nat)→AV
 | some (a,b,k)=>.agg [.lit (.int .i64 a),.lit (.int .i64 b),.lit (.int .i64 k)]
 | none=>.agg [.lit (.int .i64 0),.lit (.int .i64 0),.lit (.int .i64 0)]
theorem Contradiction_w {I O:Int} {ts:List (List Int×List Int)} (hL:LogOK I O ts) (g:Nat→Option Blk) (n:Nat) (sv:AV) (hT:LogR g n ts sv) (hcap:CapV sv) :
  WC 3 Tryz.prog 19 [.agg [.lit (.int .i64 I),.lit (.int .i64 O),sv]] ⟨.fn g,n⟩ fun r=>∃ gX n',r=.ret (.tup [conC (conB ts ts 0),.lit (.bool (conB ts ts 0).isSome),.lit (.int .i64 0)]) ⟨.fn gX,n'⟩∧n≤n'∧∀ b,b < n→gX b=g b:=by
 have hlen:=@lenV Tryz.prog _ _ _ _ _ hT.choose_spec.1
 have h1s:=hT.choose_spec.1.one
 have hone:allOne [.lit (.int .i64 I),.lit (.int .i64 O),sv]=true:=by simp [h1s]
 have HCK:=Hide.mk fun (gX:Nat→Option Blk) (n2:Nat) (hn:n≤n2) (hX:∀ b,b < n→gX b=g b)=>Check_w I O ts hL.small gX n2 sv (hT.mono hn hX)
 rw [hL.err] at HCK
 have HT:=Hide.mk hT
 have HL:=Hide.mk hL
 have HCAP:=Hide.mk hcap
 have htl:=hL.len
 clear hT hL hcap
 obtain ⟨D,hD⟩ : ∃ D,D=conB ts ts 0:=⟨_,rfl⟩
 rw [← hD]
 have HD:=Hide.mk hD
 clear hD
 refine WC.enterP (noO_ok _ _) hG [] Tryz.func19 rfl (by decide +kernel) (Nat.le_of_ble_eq_true (by kernel_rfl)) ?_
 iterate 8 (all_goals try (first | with_reducible refine splitI (fun h=>?_) (fun h=>?_) | with_reducible refine splitBI (fun h=>?_) (fun h=>?_) | simp (config:={ maxSteps:=1000000 }) (disch:=first | assumption | omega | (simp; done) | fail) [Tryz.results19, *]))
 refine WC.mono (HCK.out _ _ (by omega) fun b (hb:b < n)=>by simp (disch:=omega) only [gput_lt]) ?_
 rintro _ rfl
 iterate 8 (all_goals try (first | with_reducible refine splitI (fun h=>?_) (fun h=>?_) | with_reducible refine splitBI (fun h=>?_) (fun h=>?_) | simp (config:={ maxSteps:=1000000 }) (disch:=first | assumption | omega | (simp; done) | fail) [Tryz.results19, *]))
 refine LX.ind (fun m gf H'=>∃ (k n' : Nat) (gL:Nat→Option Blk),k≤ts.length∧m=ts.length - k∧H'=⟨.fn gL,n'⟩∧n+1+1≤n'∧Hide (∀ b,b < n→gL b=g b)∧gL n=some (.cells [.lit (.int .i64 I),.lit (.int .i64 O),sv] true 0)∧gL (n+1)=some (.cells [.lit (.int .i64 0),.lit (.int .i64 0),.lit (.int .i64 0)] true 0) ∧
  Hide (D=conB ts (ts.drop k) k)∧gf 1=some (.ptr n 0)∧gf 2=some (.ptr (n+1) 0)∧gf 18=some sv∧gf 19=some (.lit (.int .i64 ts.length))∧gf 20=some (.lit (.int .i64 k))) (m0:=ts.length) ?_ ?_
 ·refine ⟨0,_,_,Nat.zero_le _,rfl,rfl,Nat.le_refl _,⟨fun b hb=>?_⟩,?_,gput_eq,⟨HD.out⟩,by simp,by simp,by simp,by simp,by simp⟩
  ·simp (disch:=omega) only [gput_lt]
  ·simp (disch:=omega) only [gput_lt,gput_eq]
 rintro m gf H' ⟨k,n',gL,hk,rfl,rfl,hn',HG,hgn,hgp,HP,w1,w2,w18,w19,w20⟩ ih
 refine LX.roundP (noO_ok _ _) hG [] (by decide +kernel) ?_
 by_cases hlt:k < ts.length
 ·have hltI:(k:Int) < (ts.length:Int):=by omega
  obtain ⟨a2,off,r1,r2,HAT0⟩:=(HT.out.mono (show n≤n' by omega) HG.out).at hlt
  have HAT:=Hide.mk HAT0
  clear HAT0
  have hia:∀ {H:Mem} {ev:Ev} {o:Oper} {ty:TypeId},iaS Tryz.prog H ev o ty (some (none,2)) (some sv) (some (.lit (.int .i64 (k:Int))))=.val (.ptr a2 (off+k * 2)) H:=fun {H ev o ty}=>HAT.out.ia
  have han:a2 < n':=HAT.out.an
  have hagg:=HAT.out.agg
  have h1r1:oneC r1=true:=HAT.out.r1.one
  have h1r2:oneC r2=true:=HAT.out.r2.one
  have honeR:allOne [r1,r2]=true:=by simp [h1r1,h1r2]
  obtain ⟨cut,hcut,hcv⟩:=HT.out.cut HCAP.out (Nat.le_of_lt hlt) (by omega)
  have hcl:=@lenV Tryz.prog _ _ _ _ _ hcv.choose_spec.1
  rw [List.length_take,Nat.min_eq_left hk] at hcl
  have HCV:=Hide.mk (hcv.mono (show n≤n' by omega) HG.out)
  have HDE:=Hide.mk (HP.out.trans (conB_at hlt))
  have HLT:=Hide.mk (HL.out.lens (List.getElem_mem hlt))
  have HWT:=Hide.mk (HL.out.wl _ (List.getElem_mem hlt))
  have HR1:=Hide.mk HAT.out.r1
  have HR2:=Hide.mk HAT.out.r2
  clear HAT hcv
  generalize ts[k]=t at *
  iterate 8 (all_goals try (first | with_reducible refine splitI (fun h=>?_) (fun h=>?_) | with_reducible refine splitBI (fun h=>?_) (fun h=>?_) | simp (config:={ maxSteps:=1000000 }) (disch:=first | assumption | omega | (simp; done) | fail) [Tryz.results19, *]))
  refine LX.ind (fun m gf H'=>∃ (j n2:Nat) (g2:Nat→Option Blk),j≤k∧m=k - j∧H'=⟨.fn g2,n2⟩∧n'+1≤n2∧Hide (∀ b,b < n'→g2 b=gL b)∧g2 n'=some (.cells [r1,r2] true 0)∧Hide (conA t (ts.take k) 0=conA t ((ts.take k).drop j) j) ∧
   gf 1=some (.ptr n 0)∧gf 2=some (.ptr (n+1) 0)∧gf 18=some sv∧gf 19=some (.lit (.int .i64 ts.length))∧gf 20=some (.lit (.int .i64 k))∧gf 6=some (.lit (.int .i64 k))∧gf 7=some (.ptr n' 0)∧gf 28=some cut∧gf 29=some (.lit (.int .i64 k))∧gf 30=some (.lit (.int .i64 j))) (m0:=k) ?_ ?_
  ·refine ⟨0,_,_,Nat.zero_le _,rfl,rfl,Nat.le_refl _,⟨fun b hb=>?_⟩,gput_eq,⟨rfl⟩,by simp [*],by simp [*],by simp [*],by simp [*],by simp [*],by simp,by simp,by simp,by simp,by simp⟩
   exact gput_lt hb
  clear w1 w2 w18 w19 w20
  rintro m gf H' ⟨j,n2,g2,hj,rfl,rfl,hn2,HG2,hgt,HNE,w1,w2,w18,w19,w20,w6,w7,w28,w29,w30⟩ ih2
  have hgn2:=(HG2.out n (by omega)).trans hgn
  have hgp2:=(HG2.out (n+1) (by omega)).trans hgp
  refine LX.roundP (noO_ok _ _) hG [] (by decide +kernel) ?_
  by_cases hltj:j < k
  ·have hltjI:(j:Int) < (k:Int):=by omega
   have hjl:j < (ts.take k).length:=by rw [List.length_take]; omega
   obtain ⟨a3,o3,s1,s2,HAU0⟩:=(HCV.out.mono (show n'≤n2 by omega) HG2.out).at hjl
   have HAU:=Hide.mk HAU0
   clear HAU0
   have hia3:∀ {H:Mem} {ev:Ev} {o:Oper} {ty:TypeId},iaS Tryz.prog H ev o ty (some (none,2)) (some cut) (some (.lit (.int .i64 (j:Int))))=.val (.ptr a3 (o3+j * 2)) H:=fun {H ev o ty}=>HAU.out.ia
   have han3:a3 < n2:=HAU.out.an
   have hagg3:=HAU.out.agg
   have h1s1:oneC s1=true:=HAU.out.r1.one
   have h1s2:oneC s2=true:=HAU.out.r2.one
   have honeS:allOne [s1,s2]=true:=by simp [h1s1,h1s2]
   have HMU:Hide ((ts.take k)[j]∈ts):=⟨List.mem_of_mem_take (List.getElem_mem hjl)⟩
   have HLU:=Hide.mk (HL.out.lens HMU.out)
   have HWU:=Hide.mk (HL.out.wl _ HMU.out)
   have HNA:=Hide.mk (HNE.out.trans (conA_at hjl))
   have HS1:=Hide.mk HAU.out.r1
   have HS2:=Hide.mk HAU.out.r2
   clear HAU
   generalize (ts.take k)[j]=u at *
   have HST:=Hide.mk fun (gX:Nat→Option Blk) (n3:Nat) (hn:n2≤n3) (hX:∀ b,b < n2→gX b=g2 b)=>step_w (I:=I) (O:=O) HLU.out.1 HLT.out.1 HWU.out HWT.out gX n3 s1 s2 r1 r2 (SliceV.mono hn hX HS1.out) (SliceV.mono hn hX HS2.out) (SliceV.mono (by omega) (fun b hb=>(hX b (by omega)).trans (HG2.out b hb)) HR1.out) (SliceV.mono (by omega) (fun b hb=>(hX b (by omega)).trans (HG2.out b hb)) HR2.out)
   have HSI:Hide (stepI u t=optI (stepL u.1 u.2 t.1 t.2 0)):=⟨rfl⟩
   generalize stepI u t=z at *
   iterate 8 (all_goals try (first | with_reducible refine splitI (fun h=>?_) (fun h=>?_) | with_reducible refine splitBI (fun h=>?_) (fun h=>?_) | simp (config:={ maxSteps:=1000000 }) (disch:=first | assumption | omega | (simp; done) | fail) [Tryz.results19, *]))
   refine WC.mono (HST.out _ _ (by omega) fun b hb=>by simp (disch:=omega) only [gput_lt]) ?_
   rintro _ rfl
   cases hq:stepL u.1 u.2 t.1 t.2 0 with
   | none =>
    have hz:z = -1:=by rw [HSI.out,hq]; rfl
    rw [hq] at HNA
    have HNB:Hide (conA t (ts.take k) 0=conA t ((ts.take k).drop (j+1)) (j+1)):=⟨HNA.out⟩
    clear HNA hq HSI
    subst hz
    iterate 8 (all_goals try (first | with_reducible refine splitI (fun h=>?_) (fun h=>?_) | with_reducible refine splitBI (fun h=>?_) (fun h=>?_) | simp (config:={ maxSteps:=1000000 }) (disch:=first | assumption | omega | (simp; done) | fail) [Tryz.results19, *]))
    refine ih2.out (k - (j+1)) _ _ (by omega) ⟨j+1,_,_,by omega,rfl,rfl,?_,⟨fun b hb=>?_⟩,?_,HNB,by simp [*],by simp [*],by simp [*],by simp [*],by simp [*],by simp [*],by simp [*],by simp [*],by simp [*],by simp⟩
    ·omega
    ·simp (disch:=omega) only [gput_lt]; exact HG2.out b hb
    ·simp (disch:=omega) only [gput_lt]; exact hgt
   | some v =>
    have hz:z=v:=by rw [HSI.out,hq]; rfl
    rw [hq] at HNA
    have hDE:=HDE.out
    rw [HNA.out] at hDE
    have hDE2:D=some (j,k,v):=hDE
    clear HNA hq HSI hDE HDE HD HP
    subst hz hDE2
    iterate 8 (all_goals try (first | with_reducible refine splitI (fun h=>?_) (fun h=>?_) | with_reducible refine splitBI (fun h=>?_) (fun h=>?_) | simp (config:={ maxSteps:=1000000 }) (disch:=first | assumption | omega | (simp; done) | fail) [Tryz.results19, *]))
    refine ⟨_,_,⟨rfl,rfl,rfl⟩,by omega,fun b hb=>?_⟩
    simp (disch:=omega) only [gput_lt]
    exact (HG2.out b (by omega)).trans (HG.out b hb)
  ·have hltjI:¬(j:Int) < (k:Int):=by omega
   have hNN:=HNE.out.trans (by rw [List.drop_eq_nil_of_le (by rw [List.length_take]; omega)]; rfl:_=none)
   have hDE:=HDE.out
   rw [hNN] at hDE
   have HDN:Hide (D=conB ts (ts.drop (k+1)) (k+1)):=⟨hDE⟩
   clear hDE hNN
   iterate 8 (all_goals try (first | with_reducible refine splitI (fun h=>?_) (fun h=>?_) | with_reducible refine splitBI (fun h=>?_) (fun h=>?_) | simp (config:={ maxSteps:=1000000 }) (disch:=first | assumption | omega | (simp; done) | fail) [Tryz.results19, *]))
   refine ih.out (ts.length - (k+1)) _ _ (by omega) ⟨k+1,n2,g2,by omega,rfl,rfl,by omega,⟨fun b hb=>(HG2.out b (by omega)).trans (HG.out b hb)⟩,hgn2,hgp2,HDN,by simp [*],by simp [*],by simp [*],by simp [*],by simp⟩
 ·have hltI:¬(k:Int) < (ts.length:Int):=by omega
  have hDE:D=none:=by rw [HP.out,List.drop_eq_nil_of_le (by omega)]; rfl
  clear HP HD
  subst hDE
  iterate 8 (all_goals try (first | with_reducible refine splitI (fun h=>?_) (fun h=>?_) | with_reducible refine splitBI (fun h=>?_) (fun h=>?_) | simp (config:={ maxSteps:=1000000 }) (disch:=first | assumption | omega | (simp; done) | fail) [Tryz.results19, *]))
  refine ⟨_,_,⟨rfl,rfl,rfl⟩,by omega,fun b hb=>?_⟩
  simp (disch:=omega) only [gput_lt]
  exact HG.out b hb
end Go.Ai
end
section
namespace Go.Ai
open Go.Proofs
set_option maxRecDepth 10000
theorem start34 {W:World} (h:W.ShapedOpen Tryz.prog) : ∃ (m:Int) (g:Nat→Option Blk) (ρ:Rn),g 0=some (.cells [.lit (.int .i64 m)] false 0)∧Sim W.heap.size 3 ρ ⟨.fn g,3⟩ W∧NoOwn ⟨.fn g,3⟩:=by
 obtain ⟨m,hm⟩:=cell_of_shapedOpen_int (g:=0) (t:=3) (zero:=#[.int .i64 0]) (k:=.i64) h (by rw [gsize]; decide) (by kernel_rfl) rfl (by kernel_rfl) (by kernel_rfl) Tryz.underlying3
 have hx:∃ c e fz,W.heap[0]?=some (.cells c e fz)∧c[0]?=some (.int .i64 m):=by
  unfold World.cell? at hm
  split at hm
  ·rename_i c e fz hh
   exact ⟨c,e,fz,hh,hm⟩
  ·cases hm
 obtain ⟨c,e,fz,hh,hc⟩:=hx
 refine ⟨m,fun a=>if a=0 then some (.cells [.lit (.int .i64 m)] false 0) else none,fun a=>if a < 3 then some (a,0,0) else none,if_pos rfl,⟨fun a x hx=>?_,fun a a' x x' b o k o' k' hx hx' hne=>?_,fun a ha=>if_neg (Nat.not_lt.2 ha),fun a x ha hx=>if_pos ha,Nat.le_refl _,Nat.le_refl _⟩,fun a x hx=>?_⟩
 ·have hx' : (if a=0 then some (Blk.cells [.lit (.int .i64 m)] false 0) else none)=some x:=hx
  split at hx'
  ·rename_i h0
   subst h0
   cases hx'
   refine .inr ⟨0,0,0,rfl,c,e,fz,hh,fun i v hi=>?_,fun h=>by cases h⟩
   cases i with
   | zero=>cases hi; exact ⟨_,hc,rfl⟩
   | succ i=>cases hi
  ·cases hx'
 ·have h1:(if a=0 then some (Blk.cells [.lit (.int .i64 m)] false 0) else none)=some x:=hx
  have h2:(if a'=0 then some (Blk.cells [.lit (.int .i64 m)] false 0) else none)=some x':=hx'
  split at h1
  ·split at h2
   ·rename_i h3 h4; exact absurd (h3.trans h4.symm) hne
   ·cases h2
  ·cases h1
 ·have hx' : (if a=0 then some (Blk.cells [.lit (.int .i64 m)] false 0) else none)=some x:=hx
  split at hx'
  ·cases hx'; rfl
  ·cases hx'
end Go.Ai
end
section
namespace Go.Ai
open Go.Proofs Go.ChangeShapes Go.WideShapes Go.ChangeAt Go.RowKit
set_option maxRecDepth 10000
variable {H:Type} {enc:TypeId×Value→H} {w:World}
theorem c3:Tryz.prog.cellsOf 3=1:=by kernel_rfl
theorem c4:Tryz.prog.cellsOf 4=1:=by kernel_rfl
theorem c5:Tryz.prog.cellsOf 5=1:=by kernel_rfl
theorem c25:Tryz.prog.cellsOf 25=1:=by kernel_rfl
theorem c27:Tryz.prog.cellsOf 27=5:=by kernel_rfl
theorem c104:Tryz.prog.cellsOf 104=1:=by kernel_rfl
theorem slice_one {t e:TypeId} {fuel:Nat} {cs:List Value} {x:DataW H×List MemPlace} (ht:Tryz.prog.underlying t=some (.slice e)) (h:DataW.trod enc Tryz.prog w 0 (fun _=>true) true fuel t cs=some x) : ∃ s,cs=[s]:=by
 rcases DataW.trod_slice ht h with ⟨h1,_⟩ | ⟨a,len,cap,elems,rest,m,_,h1,_⟩
 ·exact ⟨_,h1⟩
 ·exact ⟨_,h1⟩
def RL {β:Type} (R:(Nat→Option Blk)→Nat→β→List AV→Prop) (g:Nat→Option Blk) (b:Nat) : List β→List AV→Prop
 | [],cs=>cs=[]
 | x :: l,cs=>∃ c r,cs=c++r∧R g b x c∧RL R g b l r
theorem RL_len {β:Type} {R:(Nat→Option Blk)→Nat→β→List AV→Prop} {g:Nat→Option Blk} {b sz:Nat} (hl:∀ {x cs},R g b x cs→cs.length=sz) : ∀ {l:List β} {cs:List AV},RL R g b l cs→cs.length=l.length * sz
 | [],cs,h=>by have h' : cs=[]:=h; rw [h']; simp
 | x :: l,cs,⟨c,r,h1,h2,h3⟩=>by rw [h1,List.length_append,hl h2,RL_len hl h3,List.length_cons,Nat.succ_mul]; omega
theorem RL_take {β:Type} {R:(Nat→Option Blk)→Nat→β→List AV→Prop} {g:Nat→Option Blk} {b:Nat} : ∀ (n:Nat) {l:List β} {cs:List AV},RL R g b l cs→∃ c r,cs=c++r∧RL R g b (l.take n) c
 | 0,l,cs,_=>⟨[],cs,rfl,rfl⟩
 | n+1,[],cs,h=>⟨cs,[],by simp,h⟩
 | n+1,x :: l,cs,⟨c,r,h1,h2,h3⟩=>by
  obtain ⟨c',r',h4,h5⟩:=RL_take n h3
  exact ⟨c++c',r',by rw [h1,h4,List.append_assoc],c,c',rfl,h2,h5⟩
theorem mkL_rep {α β:Type} {f:α→Mem→Option (List AV×Mem)} {R:(Nat→Option Blk)→Nat→β→List AV→Prop} {sz:Nat} (hm:∀ {g g' : Nat→Option Blk} {b b' : Nat} {x:β} {cs:List AV},b≤b'→(∀ a,a < b→g' a=g a)→R g b x cs→R g' b' x cs)
  (hl:∀ {g:Nat→Option Blk} {b:Nat} {x:β} {cs:List AV},R g b x cs→cs.length=sz) :
  ∀ (ds:List α),(∀ d∈ds,∀ g b,∃ avs g' b' x,f d ⟨.fn g,b⟩=some (avs,⟨.fn g',b'⟩)∧b≤b'∧(∀ a,a < b→g' a=g a)∧R g' b' x avs) →
  ∀ g b,∃ avs g' b' l,mkL f sz ds ⟨.fn g,b⟩=some (avs,⟨.fn g',b'⟩)∧b≤b'∧(∀ a,a < b→g' a=g a)∧l.length=ds.length∧RL R g' b' l avs
 | [],_,g,b=>⟨[],g,b,[],rfl,Nat.le_refl _,fun _ _=>rfl,rfl,rfl⟩
 | d :: ds,h,g,b=>by
  obtain ⟨a1,g1,b1,x,e1,h1,h2,h3⟩:=h d (by simp) g b
  obtain ⟨a2,g2,b2,l,e2,k1,k2,k3,k4⟩:=mkL_rep (f:=f) (R:=R) (sz:=sz) hm hl ds (fun d hd=>h d (by simp [hd])) g1 b1
  refine ⟨a1++a2,g2,b2,x :: l,?_,by omega,fun a ha=>(k2 a (by omega)).trans (h2 a ha),by simp [k3],a1,a2,rfl,hm k1 k2 h3,k4⟩
  unfold mkL
  rw [e1]
  dsimp only
  rw [e2]
  dsimp only
  rw [show Nat.beq a1.length sz=true from Nat.beq_eq.mpr (hl h3)]
theorem name_slice {β:Type} {R:(Nat→Option Blk)→Nat→β→List AV→Prop} {t e:TypeId} {sz:Nat} (ht:Tryz.prog.underlying t=some (.slice e)) (hsz:Tryz.prog.cellsOf e=sz) (hs0:0 < sz)
  (hm:∀ {g g' : Nat→Option Blk} {b b' : Nat} {x:β} {cs:List AV},b≤b'→(∀ a,a < b→g' a=g a)→R g b x cs→R g' b' x cs)
  (hl:∀ {g:Nat→Option Blk} {b:Nat} {x:β} {cs:List AV},R g b x cs→cs.length=sz) {fuel:Nat} {s:Value} {d:DataW H} {p:List MemPlace}
  (h:DataW.trod enc Tryz.prog w 0 (fun _=>true) true fuel t [s]=some (d,p))
  (he:∀ m cs d p,m < fuel→DataW.trod enc Tryz.prog w 0 (fun _=>true) true m e cs=some (d,p)→∀ N,m≤N→∀ g b,∃ avs g' b' x,mkD Tryz.prog noTok N e d ⟨.fn g,b⟩=some (avs,⟨.fn g',b'⟩)∧b≤b'∧(∀ a,a < b→g' a=g a)∧R g' b' x avs)
  (N:Nat) (hN:fuel≤N) (g:Nat→Option Blk) (b:Nat) :
  ∃ sv g' b' l,mkD Tryz.prog noTok N t d ⟨.fn g,b⟩=some ([sv],⟨.fn g',b'⟩)∧b≤b'∧(∀ a,a < b→g' a=g a) ∧
   CapV sv∧((l=[]∧(sv=.lit (.slice none 0 0)∨sv=.es))∨∃ a off r,a < b'∧(∃ c,sv=.sl a off l.length c)∧Row g' a off r∧RL R g' b' l r):=by
 rcases DataW.trod_slice ht h with ⟨_,hx⟩ | ⟨a,len,cap,elems,rest,m,rfl,_,hx,_,hlc,_,hlen,hel,hrs,_⟩
 ·cases hx
  have hf:fuel≠0:=by
   rintro rfl
   simp [DataW.trod] at h
  obtain ⟨N,rfl⟩ : ∃ M,N=M+1:=⟨N - 1,by omega⟩
  refine ⟨.lit (.slice none 0 0),g,b,[],?_,Nat.le_refl _,fun _ _=>rfl,fun _ _ _ _ e=>(by cases e),.inl ⟨rfl,.inl rfl⟩⟩
  unfold mkD
  rw [ht]
 ·obtain ⟨hrl,hre⟩:=hrs rfl
  simp only [Prod.mk.injEq] at hx
  obtain ⟨rfl,_⟩:=hx
  obtain ⟨N,rfl⟩ : ∃ M,N=M+1:=⟨N - 1,by omega⟩
  have all:∀ x∈elems++rest,∃ ci,DataW.trod enc Tryz.prog w 0 (fun _=>true) true m e ci=some x:=by
   intro x hx
   rcases List.mem_append.1 hx with hx | hx
   ·obtain ⟨i,hi,rfl⟩:=List.mem_iff_getElem.1 hx
    have:=hel i (by omega)
    rw [List.getElem?_eq_getElem hi] at this
    obtain ⟨ci,_,h3⟩:=Option.bind_eq_some_iff.1 this
    exact ⟨ci,h3⟩
   ·obtain ⟨i,hi,rfl⟩:=List.mem_iff_getElem.1 hx
    have:=hre i (by omega)
    rw [List.getElem?_eq_getElem hi] at this
    obtain ⟨ci,_,h3⟩:=Option.bind_eq_some_iff.1 this
    exact ⟨ci,h3⟩
  obtain ⟨avs,g1,b1,l,e1,k1,k2,k3,k4⟩:=mkL_rep (f:=mkD Tryz.prog noTok N e) (R:=R) (sz:=sz) hm hl ((elems++rest).map (·.1)) (by
   intro d hd g b
   obtain ⟨x,hx,rfl⟩:=List.mem_map.1 hd
   obtain ⟨ci,h3⟩:=all x hx
   exact he m ci x.1 x.2 (by omega) h3 N (by omega) g b) g b
  rw [List.map_append] at e1
  have hla:=RL_len (fun h=>hl h) k4
  rw [List.length_map,List.length_append] at k3
  cases hcs:elems.map (·.1)++rest.map (·.1) with
  | nil =>
   have h0:elems.length=0:=by
    have:=congrArg List.length hcs
    rw [List.length_append,List.length_map,List.length_nil] at this
    omega
   refine ⟨.es,g,b,[],?_,Nat.le_refl _,fun _ _=>rfl,fun _ _ _ _ e=>(by cases e),.inl ⟨rfl,.inr rfl⟩⟩
   unfold mkD
   rw [ht]
   dsimp only
   rw [hcs]
  | cons y ys =>
   have hpos:0 < elems.length+rest.length:=by
    have:=congrArg List.length hcs
    rw [List.length_append,List.length_map,List.length_map,List.length_cons] at this
    omega
   obtain ⟨z,zs,rfl⟩ : ∃ z zs,avs=z :: zs:=by
    cases avs with
    | nil =>
     rw [k3] at hla
     have:0 < (elems.length+rest.length) * sz:=Nat.mul_pos hpos hs0
     rw [List.length_nil] at hla
     omega
    | cons z zs=>exact ⟨z,zs,rfl⟩
   obtain ⟨c,r,q1,q2⟩:=RL_take elems.length k4
   have hcl:=RL_len (fun h=>hl h) q2
   have hfr:∀ a,a < b1→gput g1 b1 (some (.cells (z :: zs) false 0)) a=g1 a:=fun a ha=>gput_lt ha
   refine ⟨.sl b1 0 elems.length (elems.length+rest.length),gput g1 b1 (some (.cells (z :: zs) false 0)),b1+1,l.take elems.length,?_,by omega,fun a ha=>(hfr a (by omega)).trans (k2 a ha),fun _ _ _ _ e=>(by cases e; omega),.inr ⟨b1,0,c,Nat.lt_succ_self _,⟨elems.length+rest.length,?_⟩,?_,?_⟩⟩
   ·unfold mkD
    rw [ht]
    dsimp only
    rw [hcs] at e1
    rw [hsz,hcs]
    dsimp only
    rw [e1]
    simp only [List.length_map]
    rfl
   ·rw [List.length_take,Nat.min_eq_left (by omega)]
   ·refine ⟨z :: zs,false,0,if_pos rfl,?_,?_⟩
    ·rw [q1,List.length_append]; omega
    ·rw [q1,List.drop_zero,List.take_left]
   ·have key:∀ (l:List β) (cs:List AV),RL R g1 b1 l cs→RL R (gput g1 b1 (some (.cells (z :: zs) false 0))) (b1+1) l cs:=by
     intro l
     induction l with
     | nil=>intro cs h; exact h
     | cons x l ih=>rintro cs ⟨c,r,h1,h2,h3⟩; exact ⟨c,r,h1,hm (by omega) hfr h2,ih r h3⟩
    exact key _ _ q2
theorem five_of {cs:List Value} (h:cs.length=5) : ∃ a b c d e,cs=[a,b,c,d,e]:=by
 match cs,h with
 | [a,b,c,d,e],_=>exact ⟨a,b,c,d,e,rfl⟩
theorem five_xs {α:Type} {xs:List α} (h:xs.length=5) : ∃ a b c d e,xs=[a,b,c,d,e]:=by
 match xs,h with
 | [a,b,c,d,e],_=>exact ⟨a,b,c,d,e,rfl⟩
def HalfR (_:Nat→Option Blk) (_:Nat) (x:Nat) (avs:List AV) : Prop:=x < 65536∧avs=[.lit (.int .u16 x)]
theorem wf8 {z:Int} (h:(Lit.int .u8 z).wf=true) : ∃ n:Nat,z=n∧n < 256:=by
 simp only [Lit.wf,Bool.and_eq_true,decide_eq_true_eq] at h
 have h' : 0≤z∧z≤255:=h
 exact ⟨z.toNat,by omega,by omega⟩
theorem wf16 {z:Int} (h:(Lit.int .u16 z).wf=true) : ∃ n:Nat,z=n∧n < 65536:=by
 simp only [Lit.wf,Bool.and_eq_true,decide_eq_true_eq] at h
 have h' : 0≤z∧z≤65535:=h
 exact ⟨z.toNat,by omega,by omega⟩
theorem half_mk (fuel:Nat) (cs:List Value) (d:DataW H) (p:List MemPlace) (h:DataW.trod enc Tryz.prog w 0 (fun _=>true) true fuel 104 cs=some (d,p)) (N:Nat) (hN:fuel≤N) (g:Nat→Option Blk) (b:Nat) :
  ∃ avs g' b' x,mkD Tryz.prog noTok N 104 d ⟨.fn g,b⟩=some (avs,⟨.fn g',b'⟩)∧b≤b'∧(∀ a,a < b→g' a=g a)∧HalfR g' b' x avs:=by
 obtain ⟨x,_,f0,hw⟩:=DataW.trod_int (x:=(d,p)) Tryz.underlying104 h
 obtain ⟨x,rfl,hx⟩:=wf16 hw
 have hd:d=.lit (.int .u16 x):=congrArg Prod.fst f0
 subst hd
 have hm0:fuel≠0:=by rintro rfl; simp [DataW.trod] at h
 obtain ⟨N,rfl⟩ : ∃ M,N=M+1:=⟨N - 1,by omega⟩
 exact ⟨[.lit (.int .u16 x)],g,b,x,by unfold mkD; rw [Tryz.underlying104],Nat.le_refl _,fun _ _=>rfl,hx,rfl⟩
theorem halves_of {g:Nat→Option Blk} {b:Nat} : ∀ {l:List Nat} {cs:List AV},RL HalfR g b l cs→cs=u16Cells l∧∀ c∈l,c < 65536
 | [],_,h=>⟨h,fun c hc=>by cases hc⟩
 | x :: l,_,⟨c,r,h1,⟨hx,h2⟩,h3⟩=>by
  obtain ⟨i1,i2⟩:=halves_of h3
  refine ⟨by rw [h1,h2,i1]; rfl,fun y hy=>?_⟩
  rcases List.mem_cons.1 hy with rfl | hy
  ·exact hx
  ·exact i2 y hy
theorem halfs_mk (fuel:Nat) (s:Value) (d:DataW H) (p:List MemPlace) (h:DataW.trod enc Tryz.prog w 0 (fun _=>true) true fuel 25 [s]=some (d,p)) (N:Nat) (hN:fuel≤N) (g:Nat→Option Blk) (b:Nat) :
  ∃ sv g' b' l,mkD Tryz.prog noTok N 25 d ⟨.fn g,b⟩=some ([sv],⟨.fn g',b'⟩)∧b≤b'∧(∀ a,a < b→g' a=g a)∧SliceA g' b' sv l.length (u16Cells l)∧∀ c∈l,c < 65536:=by
 obtain ⟨sv,g1,b1,l,e1,t1,t2,tc,t3⟩:=name_slice (R:=HalfR) Tryz.underlying25 c104 (by decide) (fun _ _ h=>h) (fun h=>by rw [h.2]; rfl) h (fun m cs d p _ h N hN g b=>half_mk m cs d p h N hN g b) N hN g b
 refine ⟨sv,g1,b1,l,e1,t1,t2,?_⟩
 rcases t3 with ⟨rfl,h⟩ | ⟨a,off,r,q1,⟨c,q2⟩,q3,q4⟩
 ·exact ⟨.inl ⟨rfl,h⟩,fun c hc=>by cases hc⟩
 ·obtain ⟨j1,j2⟩:=halves_of q4
  subst j1
  exact ⟨.inr ⟨a,off,c,q1,q2,q3⟩,j2⟩
theorem M_mk (fuel:Nat) (cs:List Value) (d:DataW H) (p:List MemPlace) (h:DataW.trod enc Tryz.prog w 0 (fun _=>true) true fuel 27 cs=some (d,p)) (N:Nat) (hN:fuel≤N) (g:Nat→Option Blk) (b:Nat) :
  ∃ (st inp out:Nat) (part:Bool) (es:List Nat) (ev:AV) (g' : Nat→Option Blk) (b' : Nat),mkD Tryz.prog noTok N 27 d ⟨.fn g,b⟩=some ([.lit (.int .u8 st),.lit (.int .u8 inp),.lit (.int .u8 out),.lit (.bool part),ev],⟨.fn g',b'⟩)∧b≤b'∧(∀ a,a < b→g' a=g a) ∧
   st < 256∧inp < 256∧out < 256∧SliceA g' b' ev es.length (u16Cells es)∧∀ c∈es,c < 65536:=by
 obtain ⟨xs,m,rfl,hd,hl,hn,he⟩:=DataW.trod_struct Tryz.underlying27 h
 rw [c27] at hl
 obtain ⟨v0,v1,v2,v3,v4,rfl⟩:=five_of hl
 have h0:DataW.trod enc Tryz.prog w 0 (fun _=>true) true m 5 (([v0,v1,v2,v3,v4].drop 0).take (Tryz.prog.cellsOf 5))=xs[0]?:=he 0 _ rfl
 have h1:DataW.trod enc Tryz.prog w 0 (fun _=>true) true m 5 (([v0,v1,v2,v3,v4].drop 1).take (Tryz.prog.cellsOf 5))=xs[1]?:=he 1 _ rfl
 have h2:DataW.trod enc Tryz.prog w 0 (fun _=>true) true m 5 (([v0,v1,v2,v3,v4].drop 2).take (Tryz.prog.cellsOf 5))=xs[2]?:=he 2 _ rfl
 have h3:DataW.trod enc Tryz.prog w 0 (fun _=>true) true m 4 (([v0,v1,v2,v3,v4].drop 3).take (Tryz.prog.cellsOf 4))=xs[3]?:=he 3 _ rfl
 have h4:DataW.trod enc Tryz.prog w 0 (fun _=>true) true m 25 (([v0,v1,v2,v3,v4].drop 4).take (Tryz.prog.cellsOf 25))=xs[4]?:=he 4 _ rfl
 rw [c5] at h0 h1 h2
 rw [c4] at h3
 rw [c25] at h4
 obtain ⟨x0,x1,x2,x3,x4,rfl⟩:=five_xs (show xs.length=5 from hn)
 obtain ⟨st,e0,f0,w0⟩:=DataW.trod_int (x:=x0) Tryz.underlying5 h0
 obtain ⟨inp,e1,f1,w1⟩:=DataW.trod_int (x:=x1) Tryz.underlying5 h1
 obtain ⟨out,e2,f2,w2⟩:=DataW.trod_int (x:=x2) Tryz.underlying5 h2
 obtain ⟨part,e3,f3⟩:=DataW.trod_bool (x:=x3) Tryz.underlying4 h3
 obtain ⟨st,rfl,b0⟩:=wf8 w0
 obtain ⟨inp,rfl,b1⟩:=wf8 w1
 obtain ⟨out,rfl,b2⟩:=wf8 w2
 subst f0
 subst f1
 subst f2
 subst f3
 have hx4:DataW.trod enc Tryz.prog w 0 (fun _=>true) true m 25 [v4]=some (x4.1,x4.2):=h4
 obtain ⟨sv,g1,b1',l,e4,k1,k2,k3,k4⟩:=halfs_mk m v4 _ _ hx4 (N - 1) (by omega) g b
 refine ⟨st,inp,out,part,l,sv,g1,b1',?_,k1,k2,b0,b1,b2,k3,k4⟩
 have hd' : d=.agg [.lit (.int .u8 st),.lit (.int .u8 inp),.lit (.int .u8 out),.lit (.bool part),x4.1]:=congrArg Prod.fst hd
 subst hd'
 have hm0:m≠0:=by rintro rfl; simp [DataW.trod] at h0
 obtain ⟨N,rfl⟩ : ∃ M,N=M+2:=⟨N - 2,by omega⟩
 have e4' : mkD Tryz.prog noTok (N+1) 25 x4.1 ⟨.fn g,b⟩=some ([sv],⟨.fn g1,b1'⟩):=e4
 have i1:∀ k:Int,mkD (Hh:=H) Tryz.prog noTok (N+1) 5 (.lit (.int .u8 k)) ⟨.fn g,b⟩=some ([.lit (.int .u8 k)],⟨.fn g,b⟩):=by
  intro k; unfold mkD; rw [Tryz.underlying5]
 have i2:∀ k:Bool,mkD (Hh:=H) Tryz.prog noTok (N+1) 4 (.lit (.bool k)) ⟨.fn g,b⟩=some ([.lit (.bool k)],⟨.fn g,b⟩):=by
  intro k; unfold mkD; rw [Tryz.underlying4]
 unfold mkD
 rw [Tryz.underlying27]
 dsimp only
 simp only [mkF,i1,i2,e4',c5,c4,c25,c27]
 rfl
end Go.Ai
end
section
namespace Go.Ai
open Go.Proofs Go.ChangeShapes Go.WideShapes Go.ChangeAt Go.RowKit
set_option maxRecDepth 10000
variable {H:Type} {enc:TypeId×Value→H} {w:World}
theorem c50:Tryz.prog.cellsOf 50=1:=by kernel_rfl
theorem c52:Tryz.prog.cellsOf 52=9:=by kernel_rfl
theorem c67:Tryz.prog.cellsOf 67=1:=by kernel_rfl
def ByteR (_:Nat→Option Blk) (_:Nat) (x:Nat) (avs:List AV) : Prop:=x < 256∧avs=[.lit (.int .u8 x)]
theorem byte_mk (fuel:Nat) (cs:List Value) (d:DataW H) (p:List MemPlace) (h:DataW.trod enc Tryz.prog w 0 (fun _=>true) true fuel 5 cs=some (d,p)) (N:Nat) (hN:fuel≤N) (g:Nat→Option Blk) (b:Nat) :
  ∃ avs g' b' x,mkD Tryz.prog noTok N 5 d ⟨.fn g,b⟩=some (avs,⟨.fn g',b'⟩)∧b≤b'∧(∀ a,a < b→g' a=g a)∧ByteR g' b' x avs:=by
 obtain ⟨x,_,f0,hw⟩:=DataW.trod_int (x:=(d,p)) Tryz.underlying5 h
 obtain ⟨x,rfl,hx⟩:=wf8 hw
 have hd:d=.lit (.int .u8 x):=congrArg Prod.fst f0
 subst hd
 have hm0:fuel≠0:=by rintro rfl; simp [DataW.trod] at h
 obtain ⟨N,rfl⟩ : ∃ M,N=M+1:=⟨N - 1,by omega⟩
 exact ⟨[.lit (.int .u8 x)],g,b,x,by unfold mkD; rw [Tryz.underlying5],Nat.le_refl _,fun _ _=>rfl,hx,rfl⟩
theorem bytes_of {g:Nat→Option Blk} {b:Nat} : ∀ {l:List Nat} {cs:List AV},RL ByteR g b l cs→cs=u8C l∧∀ c∈l,c < 256
 | [],_,h=>⟨h,fun c hc=>by cases hc⟩
 | x :: l,_,⟨c,r,h1,⟨hx,h2⟩,h3⟩=>by
  obtain ⟨i1,i2⟩:=bytes_of h3
  refine ⟨by rw [h1,h2,i1]; rfl,fun y hy=>?_⟩
  rcases List.mem_cons.1 hy with rfl | hy
  ·exact hx
  ·exact i2 y hy
def BytesR (g:Nat→Option Blk) (b:Nat) (x:List Nat) (avs:List AV) : Prop:=∃ sv,avs=[sv]∧RepB g b x sv∧∀ c∈x,c < 256
theorem bytes_mk (fuel:Nat) (cs:List Value) (d:DataW H) (p:List MemPlace) (h:DataW.trod enc Tryz.prog w 0 (fun _=>true) true fuel 67 cs=some (d,p)) (N:Nat) (hN:fuel≤N) (g:Nat→Option Blk) (b:Nat) :
  ∃ avs g' b' x,mkD Tryz.prog noTok N 67 d ⟨.fn g,b⟩=some (avs,⟨.fn g',b'⟩)∧b≤b'∧(∀ a,a < b→g' a=g a)∧BytesR g' b' x avs:=by
 obtain ⟨s,rfl⟩:=slice_one Tryz.underlying67 h
 obtain ⟨sv,g1,b1,l,e1,t1,t2,tc,t3⟩:=name_slice (R:=ByteR) Tryz.underlying67 c5 (by decide) (fun _ _ h=>h) (fun h=>by rw [h.2]; rfl) h (fun m cs d p _ h N hN g b=>byte_mk m cs d p h N hN g b) N hN g b
 refine ⟨[sv],g1,b1,l,e1,t1,t2,sv,rfl,?_⟩
 rcases t3 with ⟨rfl,h⟩ | ⟨a,off,r,q1,q2,q3,q4⟩
 ·exact ⟨.inl ⟨rfl,rfl,h⟩,fun c hc=>by cases hc⟩
 ·obtain ⟨j1,j2⟩:=bytes_of q4
  exact ⟨.inr ⟨a,off,q1,.inl q2,by rw [← j1]; exact q3⟩,j2⟩
theorem lists_of {g:Nat→Option Blk} {b:Nat} : ∀ {l:List (List Nat)} {cs:List AV},RL BytesR g b l cs→(cs.length=l.length∧∀ (k:Nat) (h:k < l.length),∃ sv,cs[k]?=some sv∧RepB g b l[k] sv)∧∀ x∈l,∀ c∈x,c < 256
 | [],_,h=>by
  have h:_=[]:=h
  subst h
  exact ⟨⟨rfl,fun k hk=>by simp at hk⟩,fun x hx=>by cases hx⟩
 | x :: l,_,⟨c,r,h1,⟨sv,h2,h3,h4⟩,h5⟩=>by
  obtain ⟨⟨i1,i2⟩,i3⟩:=lists_of h5
  subst h1 h2
  refine ⟨⟨by simp [i1],fun k hk=>?_⟩,fun y hy=>?_⟩
  ·cases k with
   | zero=>exact ⟨sv,rfl,h3⟩
   | succ k =>
    obtain ⟨t1,j1,j2⟩:=i2 k (by simpa using hk)
    exact ⟨t1,by simpa using j1,j2⟩
  ·rcases List.mem_cons.1 hy with rfl | hy
   ·exact h4
   ·exact i3 y hy
theorem lists_mk (fuel:Nat) (s:Value) (d:DataW H) (p:List MemPlace) (h:DataW.trod enc Tryz.prog w 0 (fun _=>true) true fuel 50 [s]=some (d,p)) (N:Nat) (hN:fuel≤N) (g:Nat→Option Blk) (b:Nat) :
  ∃ sv g' b' l,mkD Tryz.prog noTok N 50 d ⟨.fn g,b⟩=some ([sv],⟨.fn g',b'⟩)∧b≤b'∧(∀ a,a < b→g' a=g a)∧ListB g' b' l sv∧∀ x∈l,∀ c∈x,c < 256:=by
 obtain ⟨sv,g1,b1,l,e1,t1,t2,tc,t3⟩:=name_slice (R:=BytesR) Tryz.underlying50 c67 (by decide) (fun h1 h2 ⟨s1,e,h3,h4⟩=>⟨s1,e,SliceV.mono h1 h2 h3,h4⟩) (fun ⟨s1,e,_,_⟩=>by rw [e]; rfl) h (fun m cs d p _ h N hN g b=>bytes_mk m cs d p h N hN g b) N hN g b
 refine ⟨sv,g1,b1,l,e1,t1,t2,?_⟩
 rcases t3 with ⟨rfl,h⟩ | ⟨a,off,r,q1,q2,q3,q4⟩
 ·exact ⟨⟨[],.inl ⟨rfl,rfl,h⟩,rfl,fun k hk=>by simp at hk⟩,fun x hx=>by cases hx⟩
 ·obtain ⟨⟨j1,j2⟩,j3⟩:=lists_of q4
  exact ⟨⟨r,.inr ⟨a,off,q1,.inl q2,q3⟩,j1,j2⟩,j3⟩
theorem nine_of {cs:List Value} (h:cs.length=9) : ∃ a b c d e f g i j,cs=[a,b,c,d,e,f,g,i,j]:=by
 match cs,h with
 | [a,b,c,d,e,f,g,i,j],_=>exact ⟨a,b,c,d,e,f,g,i,j,rfl⟩
theorem G_mk (fuel:Nat) (cs:List Value) (d:DataW H) (p:List MemPlace) (h:DataW.trod enc Tryz.prog w 0 (fun _=>true) true fuel 52 cs=some (d,p)) (N:Nat) (hN:fuel≤N) (g:Nat→Option Blk) (b:Nat) :
  ∃ (st inp out:Nat) (part:Bool) (es:List Nat) (ev:AV) (ws:List (List Nat)) (wv:AV) (ia ib ic:Nat) (g' : Nat→Option Blk) (b' : Nat),mkD Tryz.prog noTok N 52 d ⟨.fn g,b⟩=some ([.lit (.int .u8 st),.lit (.int .u8 inp),.lit (.int .u8 out),.lit (.bool part),ev,wv,.lit (.int .u8 ia),.lit (.int .u8 ib),.lit (.int .u8 ic)],⟨.fn g',b'⟩)∧b≤b'∧(∀ a,a < b→g' a=g a) ∧
   InG g' b' st inp out es ev ws wv∧ia < 256∧ib < 256∧ic < 256:=by
 obtain ⟨xs,m,rfl,hd,hl,hn,he⟩:=DataW.trod_struct Tryz.underlying52 h
 rw [c52] at hl
 obtain ⟨v0,v1,v2,v3,v4,v5,v6,v7,v8,rfl⟩:=nine_of hl
 have h0:DataW.trod enc Tryz.prog w 0 (fun _=>true) true m 27 (([v0,v1,v2,v3,v4,v5,v6,v7,v8].drop 0).take (Tryz.prog.cellsOf 27))=xs[0]?:=he 0 _ rfl
 have h1:DataW.trod enc Tryz.prog w 0 (fun _=>true) true m 50 (([v0,v1,v2,v3,v4,v5,v6,v7,v8].drop 5).take (Tryz.prog.cellsOf 50))=xs[1]?:=he 1 _ rfl
 have h2:DataW.trod enc Tryz.prog w 0 (fun _=>true) true m 5 (([v0,v1,v2,v3,v4,v5,v6,v7,v8].drop 6).take (Tryz.prog.cellsOf 5))=xs[2]?:=he 2 _ rfl
 have h3:DataW.trod enc Tryz.prog w 0 (fun _=>true) true m 5 (([v0,v1,v2,v3,v4,v5,v6,v7,v8].drop 7).take (Tryz.prog.cellsOf 5))=xs[3]?:=he 3 _ rfl
 have h4:DataW.trod enc Tryz.prog w 0 (fun _=>true) true m 5 (([v0,v1,v2,v3,v4,v5,v6,v7,v8].drop 8).take (Tryz.prog.cellsOf 5))=xs[4]?:=he 4 _ rfl
 rw [c27] at h0
 rw [c50] at h1
 rw [c5] at h2 h3 h4
 obtain ⟨x0,x1,x2,x3,x4,rfl⟩:=five_xs (show xs.length=5 from hn)
 obtain ⟨ia,e2,f2,w2⟩:=DataW.trod_int (x:=x2) Tryz.underlying5 h2
 obtain ⟨ib,e3,f3,w3⟩:=DataW.trod_int (x:=x3) Tryz.underlying5 h3
 obtain ⟨ic,e4,f4,w4⟩:=DataW.trod_int (x:=x4) Tryz.underlying5 h4
 obtain ⟨ia,rfl,b2⟩:=wf8 w2
 obtain ⟨ib,rfl,b3⟩:=wf8 w3
 obtain ⟨ic,rfl,b4⟩:=wf8 w4
 subst f2
 subst f3
 subst f4
 have hx0:DataW.trod enc Tryz.prog w 0 (fun _=>true) true m 27 [v0,v1,v2,v3,v4]=some (x0.1,x0.2):=h0
 have hx1:DataW.trod enc Tryz.prog w 0 (fun _=>true) true m 50 [v5]=some (x1.1,x1.2):=h1
 obtain ⟨st,inp,out,part,es,ev,g1,b1',e0,k1,k2,k3,k4,k5,k6,k7⟩:=M_mk m _ _ _ hx0 (N - 1) (by omega) g b
 obtain ⟨sv,g2,b2',l,e1,l1,l2,l3,l4⟩:=lists_mk m v5 _ _ hx1 (N - 1) (by omega) g1 b1'
 refine ⟨st,inp,out,part,es,ev,l,sv,ia,ib,ic,g2,b2',?_,by omega,fun a ha=>(l2 a (by omega)).trans (k2 a ha),⟨k3,k4,k5,k6.mono l1 l2,k7,l3,l4⟩,b2,b3,b4⟩
 have hd' : d=.agg [x0.1,x1.1,.lit (.int .u8 ia),.lit (.int .u8 ib),.lit (.int .u8 ic)]:=congrArg Prod.fst hd
 subst hd'
 have hm0:m≠0:=by rintro rfl; simp [DataW.trod] at hx0
 obtain ⟨N,rfl⟩ : ∃ M,N=M+2:=⟨N - 2,by omega⟩
 have e0' : mkD Tryz.prog noTok (N+1) 27 x0.1 ⟨.fn g,b⟩=some ([.lit (.int .u8 st),.lit (.int .u8 inp),.lit (.int .u8 out),.lit (.bool part),ev],⟨.fn g1,b1'⟩):=e0
 have e1' : mkD Tryz.prog noTok (N+1) 50 x1.1 ⟨.fn g1,b1'⟩=some ([sv],⟨.fn g2,b2'⟩):=e1
 have i1:∀ k:Int,mkD (Hh:=H) Tryz.prog noTok (N+1) 5 (.lit (.int .u8 k)) ⟨.fn g2,b2'⟩=some ([.lit (.int .u8 k)],⟨.fn g2,b2'⟩):=by
  intro k; unfold mkD; rw [Tryz.underlying5]
 unfold mkD
 rw [Tryz.underlying52]
 dsimp only
 simp only [mkF,i1,e0',e1',c5,c27,c50,c52]
 rfl
end Go.Ai
end
section
namespace Go.Ai
open Go.Proofs
set_option maxRecDepth 10000
set_option maxHeartbeats 40000000
end Go.Ai
end
section
namespace Go.Ai
open Go.Proofs
set_option maxRecDepth 10000
set_option maxHeartbeats 40000000
end Go.Ai
end
section
namespace Go.Ai
open Go.Proofs
set_option maxRecDepth 10000
set_option maxHeartbeats 40000000
theorem rContradiction_w {I O:Int} {ts:List (List Int×List Int)} (hL:LogOK I O ts) (g:Nat→Option Blk) (n:Nat) (sv:AV) (hT:LogR g n ts sv) :
  WC 3 Tryz.prog 24 [.agg [.lit (.int .i64 I),.lit (.int .i64 O),sv]] ⟨.fn g,n⟩ fun r=>∃ gX n',r=.ret (.tup [conC (conB ts ts 0),.lit (.bool (conB ts ts 0).isSome)]) ⟨.fn gX,n'⟩∧n≤n'∧∀ b,b < n→gX b=g b:=by
 have hlen:=@lenV Tryz.prog _ _ _ _ _ hT.choose_spec.1
 have h1s:=hT.choose_spec.1.one
 have hone:allOne [.lit (.int .i64 I),.lit (.int .i64 O),sv]=true:=by simp [h1s]
 have HT:=Hide.mk hT
 have HL:=Hide.mk hL
 have htl:=hL.len
 clear hT hL
 obtain ⟨D,hD⟩ : ∃ D,D=conB ts ts 0:=⟨_,rfl⟩
 rw [← hD]
 have HD:=Hide.mk hD
 clear hD
 refine WC.enterP (noO_ok _ _) hG pl24 Tryz.func24 rfl (by decide +kernel) (Nat.le_of_ble_eq_true (by kernel_rfl)) ?_
 iterate 8 (all_goals try (first | with_reducible refine splitI (fun h=>?_) (fun h=>?_) | with_reducible refine splitBI (fun h=>?_) (fun h=>?_) | simp (config:={ maxSteps:=1000000 }) (disch:=first | assumption | omega | (simp; done) | fail) [Tryz.results24, *]))
 obtain ⟨gA,hgA⟩ : ∃ gA,gA=gput (gput g n (some (.cells [.lit (.int .i64 I),.lit (.int .i64 O),sv] true 0))) (n+1) (some (.cells [.lit (.int .i64 0),.lit (.int .i64 0),.lit (.int .i64 0)] true 0)):=⟨_,rfl⟩
 rw [← hgA]
 have HGA:Hide (∀ b,b < n→gA b=g b):=⟨fun b hb=>by rw [hgA]; simp (disch:=omega) only [gput_lt]⟩
 have hgn:gA n=some (.cells [.lit (.int .i64 I),.lit (.int .i64 O),sv] true 0):=by rw [hgA]; simp (disch:=omega) only [gput_lt,gput_eq]
 have hgp:gA (n+1)=some (.cells [.lit (.int .i64 0),.lit (.int .i64 0),.lit (.int .i64 0)] true 0):=by rw [hgA]; simp (disch:=omega) only [gput_lt,gput_eq]
 clear hgA
 have HT2:=Hide.mk (HT.out.mono (show n≤n+1+1 by omega) HGA.out)
 refine LX.ind (fun m gf H'=>∃ (k:Nat),k≤ts.length∧m=ts.length - k∧H'=⟨.fn gA,n+1+1⟩∧Hide (D=conB ts (ts.drop k) k)∧gf 1=some (.ptr n 0)∧gf 2=some (.ptr (n+1) 0)∧gf 4=some (.lit (.int .i64 k))) (m0:=ts.length) ?_ ?_
 ·exact ⟨0,Nat.zero_le _,rfl,rfl,⟨HD.out⟩,by simp,by simp,by simp⟩
 rintro m gf H' ⟨k,hk,rfl,rfl,HP,w1,w2,w4⟩ ih
 refine LX.roundP (noO_ok _ _) hG pl24 (by decide +kernel) ?_
 by_cases hlt:k < ts.length
 ·have hltI:(k:Int) < (ts.length:Int):=by omega
  obtain ⟨a2,off,r1,r2,HAT0⟩:=HT2.out.at hlt
  have HAT:=Hide.mk HAT0
  clear HAT0
  have hia:∀ {H:Mem} {ev:Ev} {o:Oper} {ty:TypeId},iaS Tryz.prog H ev o ty (some (none,2)) (some sv) (some (.lit (.int .i64 (k:Int))))=.val (.ptr a2 (off+k * 2)) H:=fun {H ev o ty}=>HAT.out.ia
  have han:a2 < n+1+1:=HAT.out.an
  have hagg:=HAT.out.agg
  have h1r1:oneC r1=true:=HAT.out.r1.one
  have h1r2:oneC r2=true:=HAT.out.r2.one
  have honeR:allOne [r1,r2]=true:=by simp [h1r1,h1r2]
  have HDE:=Hide.mk (HP.out.trans (conB_at hlt))
  have HLT:=Hide.mk (HL.out.lens (List.getElem_mem hlt))
  have HWT:=Hide.mk (HL.out.wl _ (List.getElem_mem hlt))
  have HR1:=Hide.mk HAT.out.r1
  have HR2:=Hide.mk HAT.out.r2
  clear HAT
  generalize ts[k]=t at *
  iterate 8 (all_goals try (first | with_reducible refine splitI (fun h=>?_) (fun h=>?_) | with_reducible refine splitBI (fun h=>?_) (fun h=>?_) | simp (config:={ maxSteps:=1000000 }) (disch:=first | assumption | omega | (simp; done) | fail) [Tryz.results24, *]))
  refine LX.ind (fun m gf H'=>∃ (j:Nat),j≤k∧m=k - j∧H'=⟨.fn gA,n+1+1⟩∧Hide (conA t (ts.take k) 0=conA t ((ts.take k).drop j) j) ∧
   gf 1=some (.ptr n 0)∧gf 2=some (.ptr (n+1) 0)∧gf 4=some (.lit (.int .i64 k))∧gf 5=some (.lit (.int .i64 j))) (m0:=k) ?_ ?_
  ·exact ⟨0,Nat.zero_le _,rfl,rfl,⟨rfl⟩,by simp [*],by simp [*],by simp [*],by simp⟩
  clear w1 w2 w4
  rintro m gf H' ⟨j,hj,rfl,rfl,HNE,w1,w2,w4,w5⟩ ih2
  refine LX.roundP (noO_ok _ _) hG pl24 (by decide +kernel) ?_
  by_cases hltj:j < k
  ·have hltjI:(j:Int) < (k:Int):=by omega
   have hjl:j < (ts.take k).length:=by rw [List.length_take]; omega
   obtain ⟨a3,o3,s1,s2,HAU0⟩:=HT2.out.at (show j < ts.length by omega)
   have HAU:=Hide.mk HAU0
   clear HAU0
   have hia3:∀ {H:Mem} {ev:Ev} {o:Oper} {ty:TypeId},iaS Tryz.prog H ev o ty (some (none,2)) (some sv) (some (.lit (.int .i64 (j:Int))))=.val (.ptr a3 (o3+j * 2)) H:=fun {H ev o ty}=>HAU.out.ia
   have han3:a3 < n+1+1:=HAU.out.an
   have hagg3:=HAU.out.agg
   have h1s1:oneC s1=true:=HAU.out.r1.one
   have h1s2:oneC s2=true:=HAU.out.r2.one
   have honeS:allOne [s1,s2]=true:=by simp [h1s1,h1s2]
   have HMU:Hide (ts[j]∈ts):=⟨List.getElem_mem _⟩
   have HLU:=Hide.mk (HL.out.lens HMU.out)
   have HWU:=Hide.mk (HL.out.wl _ HMU.out)
   have hna:=HNE.out.trans (conA_at hjl)
   rw [List.getElem_take] at hna
   have HNA:=Hide.mk hna
   have HS1:=Hide.mk HAU.out.r1
   have HS2:=Hide.mk HAU.out.r2
   clear HAU hna
   generalize ts[j]=u at *
   have HST:=Hide.mk (rStep_w (I:=I) (O:=O) HLU.out.1 HLT.out.1 HWU.out HWT.out gA (n+1+1) s1 s2 r1 r2 HS1.out HS2.out HR1.out HR2.out)
   have HSI:Hide (stepI u t=optI (stepL u.1 u.2 t.1 t.2 0)):=⟨rfl⟩
   generalize stepI u t=z at *
   iterate 8 (all_goals try (first | with_reducible refine splitI (fun h=>?_) (fun h=>?_) | with_reducible refine splitBI (fun h=>?_) (fun h=>?_) | simp (config:={ maxSteps:=1000000 }) (disch:=first | assumption | omega | (simp; done) | fail) [Tryz.results24, *]))
   refine WC.mono HST.out ?_
   rintro _ rfl
   cases hq:stepL u.1 u.2 t.1 t.2 0 with
   | none =>
    have hz:z = -1:=by rw [HSI.out,hq]; rfl
    rw [hq] at HNA
    have HNB:Hide (conA t (ts.take k) 0=conA t ((ts.take k).drop (j+1)) (j+1)):=⟨HNA.out⟩
    clear HNA hq HSI
    subst hz
    iterate 8 (all_goals try (first | with_reducible refine splitI (fun h=>?_) (fun h=>?_) | with_reducible refine splitBI (fun h=>?_) (fun h=>?_) | simp (config:={ maxSteps:=1000000 }) (disch:=first | assumption | omega | (simp; done) | fail) [Tryz.results24, *]))
    exact ih2.out (k - (j+1)) _ _ (by omega) ⟨j+1,by omega,rfl,rfl,HNB,by simp [*],by simp [*],by simp [*],by simp⟩
   | some v =>
    have hz:z=v:=by rw [HSI.out,hq]; rfl
    rw [hq] at HNA
    have hDE:=HDE.out
    rw [HNA.out] at hDE
    have hDE2:D=some (j,k,v):=hDE
    clear HNA hq HSI hDE HDE HD HP
    subst hz hDE2
    iterate 8 (all_goals try (first | with_reducible refine splitI (fun h=>?_) (fun h=>?_) | with_reducible refine splitBI (fun h=>?_) (fun h=>?_) | simp (config:={ maxSteps:=1000000 }) (disch:=first | assumption | omega | (simp; done) | fail) [Tryz.results24, *]))
    refine ⟨_,_,⟨rfl,rfl,rfl⟩,by omega,fun b hb=>?_⟩
    simp (disch:=omega) only [gput_lt]
    exact HGA.out b hb
  ·have hltjI:¬(j:Int) < (k:Int):=by omega
   have hNN:=HNE.out.trans (by rw [List.drop_eq_nil_of_le (by rw [List.length_take]; omega)]; rfl:_=none)
   have hDE:=HDE.out
   rw [hNN] at hDE
   have HDN:Hide (D=conB ts (ts.drop (k+1)) (k+1)):=⟨hDE⟩
   clear hDE hNN
   iterate 8 (all_goals try (first | with_reducible refine splitI (fun h=>?_) (fun h=>?_) | with_reducible refine splitBI (fun h=>?_) (fun h=>?_) | simp (config:={ maxSteps:=1000000 }) (disch:=first | assumption | omega | (simp; done) | fail) [Tryz.results24, *]))
   exact ih.out (ts.length - (k+1)) _ _ (by omega) ⟨k+1,by omega,rfl,rfl,HDN,by simp [*],by simp [*],by simp⟩
 ·have hltI:¬(k:Int) < (ts.length:Int):=by omega
  have hDE:D=none:=by rw [HP.out,List.drop_eq_nil_of_le (by omega)]; rfl
  clear HP HD
  subst hDE
  iterate 8 (all_goals try (first | with_reducible refine splitI (fun h=>?_) (fun h=>?_) | with_reducible refine splitBI (fun h=>?_) (fun h=>?_) | simp (config:={ maxSteps:=1000000 }) (disch:=first | assumption | omega | (simp; done) | fail) [Tryz.results24, *]))
  refine ⟨_,_,⟨rfl,rfl,rfl⟩,by omega,fun b hb=>?_⟩
  simp (disch:=omega) only [gput_lt]
  exact HGA.out b hb
end Go.Ai
end
section
namespace Go.Ai
open Go.Proofs
set_option maxRecDepth 10000
set_option maxHeartbeats 40000000
theorem stood41:Tryz.prog.stoodInHeld 41=false:=by kernel_rfl
theorem eq_key (nm : String) (u v : Int) (m1 m2 : Sem Value) (hn : nm ≠ "_") (h1 : pureV Tryz.prog m1 = some (.int .i64 u)) (h2 : pureV Tryz.prog m2 = some (.int .i64 v)) :
      pureV Tryz.prog (if nm ≠ "_" then do
        let x ← m1
        let y ← m2
        let z ← Op.equalIn (9998+1) 3 x y
        if (!z)=true then pure (ForInStep.done (some false,())) else pure (ForInStep.yield ((none:Option Bool),()))
      else pure (ForInStep.yield (none,())))=some (if (u == v)=true then ForInStep.yield (none,()) else ForInStep.done (some false,())):=by
  rw [if_pos hn]
  refine (pureV_then h1).trans ((pureV_then h2).trans ((pureV_then (equal_int Tryz.underlying3)).trans ?_))
  cases (u == v) <;> rfl
theorem equal_conf3 (a b e c d f:Int) : pureV Tryz.prog (Op.equal 41 (.agg #[.int .i64 a,.int .i64 b,.int .i64 e]) (.agg #[.int .i64 c,.int .i64 d,.int .i64 f]))=some (a == c && (b == d && e == f)):=by
 unfold Op.equal
 show pureV Tryz.prog (Op.equalIn (9998+1+1) 41 _ _)=_
 rw [Op.equalIn]
 refine (pureV_then (m:=underlying 41) (pureV_underlying Tryz.underlying41)).trans ?_
 dsimp only
 refine (pureV_then (m:=program) (a:=Tryz.prog) rfl).trans ?_
 rw [if_neg (by rw [stood41]; decide)]
 have p0:∀ x y z:Int,pureV Tryz.prog (part 3 #[Value.int IntKind.i64 x,Value.int IntKind.i64 y,Value.int IntKind.i64 z] 0)=some (.int .i64 x):=fun x y z=>rfl
 have p1:∀ x y z:Int,pureV Tryz.prog (part 3 #[Value.int IntKind.i64 x,Value.int IntKind.i64 y,Value.int IntKind.i64 z] 1)=some (.int .i64 y):=fun x y z=>rfl
 have p2:∀ x y z:Int,pureV Tryz.prog (part 3 #[Value.int IntKind.i64 x,Value.int IntKind.i64 y,Value.int IntKind.i64 z] 2)=some (.int .i64 z):=fun x y z=>rfl
 simp only [List.forIn_toArray,List.forIn_cons,List.forIn_nil]
 refine (pureV_then (a:=if (a == c && (b == d && e == f))=true then ((none:Option Bool),()) else (some false,())) ?_).trans ?_
 ·refine (pureV_then (eq_key "A" a c _ _ (by decide) (p0 a b e) (p0 c d f))).trans ?_
  cases (a == c)
  ·rfl
  ·refine (pureV_then (eq_key "B" b d _ _ (by decide) (p1 a b e) (p1 c d f))).trans ?_
   cases (b == d)
   ·rfl
   ·refine (pureV_then (eq_key "Step" e f _ _ (by decide) (p2 a b e) (p2 c d f))).trans ?_
    cases (e == f) <;> rfl
 ·cases (a == c) <;> cases (b == d) <;> cases (e == f) <;> rfl
theorem bin_conf3 {H:Mem} {ev:Ev} {d:Option Tmp} {ty rt:TypeId} {p:String} {af:Array Edge} {g:Option (Nat×Bool)} {x y:Operand} {a b c a' b' c' : Int} (hx:ev x=some (.agg [.lit (.int .i64 a),.lit (.int .i64 b),.lit (.int .i64 c)])) (hy:ev y=some (.agg [.lit (.int .i64 a'),.lit (.int .i64 b'),.lit (.int .i64 c')])) :
  binS Tryz.prog H ev ⟨d,.binOp .eql 41 x y rt,ty,p,af,g⟩ .eql 41 (some (.agg [.lit (.int .i64 a),.lit (.int .i64 b),.lit (.int .i64 c)])) (some (.agg [.lit (.int .i64 a'),.lit (.int .i64 b'),.lit (.int .i64 c')]))=.val (.lit (.bool (decide (a=a') && (decide (b=b') && decide (c=c'))))) H:=by
 show oBin Tryz.prog H ev ⟨d,.binOp .eql 41 x y rt,ty,p,af,g⟩ .eql 41 (some (.agg [.lit (.int .i64 a),.lit (.int .i64 b),.lit (.int .i64 c)])) (some (.agg [.lit (.int .i64 a'),.lit (.int .i64 b'),.lit (.int .i64 c')]))=_
 refine oBin_generic rfl ?_
 have h1:(Op.operands (.binOp .eql 41 x y rt)).toList=[x,y]:=rfl
 unfold generic
 dsimp only
 rw [h1]
 have l1:toLit (.agg [.lit (.int .i64 a),.lit (.int .i64 b),.lit (.int .i64 c)])=some (.agg #[.int .i64 a,.int .i64 b,.int .i64 c]):=rfl
 have l2:toLit (.agg [.lit (.int .i64 a'),.lit (.int .i64 b'),.lit (.int .i64 c')])=some (.agg #[.int .i64 a',.int .i64 b',.int .i64 c']):=rfl
 simp only [List.all_cons,List.all_nil,hx,hy,l1,l2,Bool.and_true,if_true]
 have h2:∀ ρ:Operand→Value,ρ x=.agg #[.int .i64 a,.int .i64 b,.int .i64 c]→ρ y=.agg #[.int .i64 a',.int .i64 b',.int .i64 c']→pureV Tryz.prog (execOp ρ ⟨d,.binOp .eql 41 x y rt,ty,p,af,g⟩)=some (.value (.bool (decide (a=a') && (decide (b=b') && decide (c=c'))))):=by
  intro ρ e1 e2
  refine execOp_bin e1 e2 ?_ ?_
  ·unfold eqGuard; kernel_rfl
  ·show pureV Tryz.prog (do pure (Value.bool (← Op.equal 41 _ _)))=_
   exact (pureV_then (equal_conf3 a b c a' b' c')).trans rfl
 rw [h2 _ (by simp only [hx,l1]) (by simp only [hy,l2])]
attribute [simp] bin_conf3
theorem conC_ex (D:Option (Nat×Nat×Nat)) : ∃ a b c:Int,conC D=.agg [.lit (.int .i64 a),.lit (.int .i64 b),.lit (.int .i64 c)]:=by
 cases D with
 | none=>exact ⟨0,0,0,rfl⟩
 | some x=>exact ⟨x.1,x.2.1,x.2.2,rfl⟩
end Go.Ai
end
