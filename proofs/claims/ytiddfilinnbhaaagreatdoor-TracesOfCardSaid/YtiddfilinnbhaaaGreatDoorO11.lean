/- A small verified interpreter over names, its proofs, and what was proved with it. No condition. -/
import Derived.Shelf.Vars
import Derived.Test.YtiddfilinnbhaaaGreatDoorO10
import Derived.Test.YtiddfilinnbhaaaGreatDoorO05
import Derived.Test.YtiddfilinnbhaaaGreatDoorO09
import Derived.Test.YtiddfilinnbhaaaGreatDoorO06
import Derived.Test.YtiddfilinnbhaaaGreatDoorO07
set_option linter.all false
set_option linter.deprecated false
section
namespace Go.Ai
open Go.Proofs
theorem H0m_get {m:Int} {a:Nat} {x:Blk} (h:(H0m m).get a=some x) : a=0∧x=.cells [.lit (.int .i64 m)] false 0:=by
 have h1:get4 (u4 e4 0 (.v 0 (.cells [.lit (.int .i64 m)] false 0))) a=some x:=h
 rcases get4_v _ _ _ _ _ h1 with ⟨rfl,rfl⟩ | ⟨_,h2⟩
 ·exact ⟨rfl,rfl⟩
 ·rw [get4_e4] at h2; cases h2
theorem lives_w (H:Mem) (m:Int) (hM:H.get 0=some (.cells [.lit (.int .i64 m)] false 0)) : WC 3 Tryz.prog 16 [] H fun r=>r=.ret (.lit (.bool true)) H:=by
 refine WC.local (H0:=H0m m) (O:=callB Tryz.prog bl34 O34 10000) (callB_ok O34_ok hG 10000) (top_run m) rfl rfl (Nat.le_refl 3) (fun a=>?_) (fun a x hx=>?_) fun a x hx=>?_
 ·cases hx:(H0m m).get a with
  | none=>rfl
  | some x =>
   obtain ⟨rfl,rfl⟩:=H0m_get hx
   rfl
 ·obtain ⟨rfl,rfl⟩:=H0m_get hx
  exact hM
 ·obtain ⟨rfl,rfl⟩:=H0m_get hx
  show 0 < 3
  omega
end Go.Ai
end
section
namespace Go.Ai
open Go.Proofs
set_option maxRecDepth 10000
set_option maxHeartbeats 40000000
end Go.Ai
end
section
namespace Go.Ai
open Go.Proofs
set_option maxRecDepth 10000
set_option maxHeartbeats 40000000
def nextM (M:MachM) (s i:Int) : Int×Int:=if s < 0 then (-1,-1) else (M.rows.getD s.toNat []).getD i.toNat (-1,-1)
def runM (M:MachM) : Int→List Int→List Int
 | _,[]=>[]
 | s,i :: w=>(nextM M s i).2 :: runM M (nextM M s i).1 w
def aftM (M:MachM) : Int→List Int→Int
 | s,[]=>s
 | s,i :: w=>aftM M (nextM M s i).1 w
theorem runM_len {M:MachM} : ∀ (w:List Int) (s:Int),(runM M s w).length=w.length
 | [],_=>rfl
 | _ :: w,s=>by unfold runM; rw [List.length_cons,List.length_cons,runM_len w]
theorem runM_app {M:MachM} : ∀ (a b:List Int) (s:Int),runM M s (a++b)=runM M s a++runM M (aftM M s a) b
 | [],_,_=>rfl
 | i :: a,b,s=>by
  show (nextM M s i).2 :: runM M (nextM M s i).1 (a++b)=_
  rw [runM_app a b]; rfl
theorem aftM_app {M:MachM} : ∀ (a b:List Int) (s:Int),aftM M s (a++b)=aftM M (aftM M s a) b
 | [],_,_=>rfl
 | i :: a,b,s=>aftM_app a b _
def stOK (M:MachM) (s:Int) : Prop:=s = -1∨∃ k:Nat,s=k∧k < M.rows.length
theorem edgeOK_st {M:MachM} {e:Int×Int} (h:edgeOK M.rows.length M.out e=true) : stOK M e.1 ∧ -1≤e.2∧(e.2 = -1∨e.2 < M.out)∧(e.2 = -1→e.1 = -1):=by
 unfold edgeOK at h
 rcases Bool.or_eq_true_iff.1 h with h | h
 ·have h:=of_decide_eq_true h
  subst h
  exact ⟨.inl rfl,by decide,.inl rfl,fun _=>rfl⟩
 ·simp only [Bool.and_eq_true,decide_eq_true_eq] at h
  exact ⟨.inr ⟨e.1.toNat,by omega,by omega⟩,by omega,.inr h.2.2.2,fun h2=>by omega⟩
theorem nextM_at {M:MachM} (hM:M.ok) {k:Nat} {i:Int} (hk:k < M.rows.length) (h0:0≤i) (h1:i < M.inp) : ∃ (hi:i.toNat < (M.rows[k]).length),nextM M k i=(M.rows[k])[i.toNat]∧edgeOK M.rows.length M.out (nextM M k i)=true:=by
 have hr:=hM.2.2.2.2.2.2 _ (List.getElem_mem hk)
 have hi:i.toNat < (M.rows[k]).length:=by omega
 have e:nextM M k i=(M.rows[k])[i.toNat]:=by
  unfold nextM
  rw [if_neg (by omega),show ((k:Int)).toNat=k from rfl]
  have h3:M.rows.getD k []=M.rows[k]:=by rw [List.getD_eq_getElem?_getD,List.getElem?_eq_getElem hk]; rfl
  rw [h3,List.getD_eq_getElem?_getD,List.getElem?_eq_getElem hi]
  rfl
 exact ⟨hi,e,by rw [e]; exact hr.2 _ (List.getElem_mem hi)⟩
theorem nextM_neg {M:MachM} {s i:Int} (h:s < 0) : nextM M s i=(-1,-1):=if_pos h
theorem nextM_ok {M:MachM} (hM:M.ok) {s i:Int} (hs:stOK M s) (h0:0≤i) (h1:i < M.inp) : edgeOK M.rows.length M.out (nextM M s i)=true:=by
 rcases hs with rfl | ⟨k,rfl,hk⟩
 ·rw [nextM_neg (by decide)]; rfl
 ·exact (nextM_at hM hk h0 h1).2.2
structure EdgeAt (g:Nat→Option Blk) (n:Nat) (rv:AV) (k i:Nat) (e:Int×Int) (a off a2 off2:Nat) (q:AV) : Prop where
 an:a < n
 an2:a2 < n
 ia:∀ {H:Mem} {ev:Ev} {o:Oper} {t:TypeId},iaS Tryz.prog H ev o t (some (none,1)) (some rv) (some (.lit (.int .i64 (k:Int))))=.val (.ptr a (off+k)) H
 cell:loadB (some (false,1)) (g a) (off+k)=some q
 ia2:∀ {H:Mem} {ev:Ev} {o:Oper} {t:TypeId},iaS Tryz.prog H ev o t (some (none,2)) (some q) (some (.lit (.int .i64 (i:Int))))=.val (.ptr a2 (off2+i * 2)) H
 cell2:loadB (some (true,2)) (g a2) (off2+i * 2)=some (.agg [.lit (.int .i64 e.1),.lit (.int .i64 e.2)])
theorem RepM.edge {g:Nat→Option Blk} {n:Nat} {M:MachM} {a0 b0 rv:AV} (h:RepM g n M [a0,b0,rv]) {k:Nat} (hk:k < M.rows.length) {i:Nat} (hi:i < (M.rows[k]).length) : ∃ a off a2 off2 q,EdgeAt g n rv k i (M.rows[k])[i] a off a2 off2 q:=by
 obtain ⟨sv,svs,e,hr,hs⟩:=h
 injection e with _ e; injection e with _ e; injection e with e _
 subst e
 have hkl:k < svs.length:=by rw [hr.len]; exact hk
 obtain ⟨a,off,ha,hrow,hia⟩:=hs.ia (P:=Tryz.prog) hk 1
 simp only [Nat.mul_one] at hia
 have hc:=hrow.one (k:=k) (s:=1) hkl
 obtain ⟨a2,off2,ha2,hrow2,hia2⟩:=SliceV.ia (P:=Tryz.prog) (hr.at k hk hkl) hi 2
 have hc2:=hrow2.agg (k:=i * 2) (s:=2) (by rw [rowC_len]; omega)
 rw [rowC_at _ i hi] at hc2
 exact ⟨a,off,a2,off2,svs[k],ha,ha2,hia,hc,hia2,hc2⟩
theorem rNext_w {M:MachM} (hM:M.ok) (s i:Int) (hs:stOK M s) (h0:0≤i) (h1:i < M.inp) (g:Nat→Option Blk) (n:Nat) (ms:List AV) (hr:RepM g n M ms) :
  WC 3 Tryz.prog 67 [.agg ms,.lit (.int .i64 s),.lit (.int .i64 i)] ⟨.fn g,n⟩ fun r=>∃ g' n',r=.ret (.agg [.lit (.int .i64 (nextM M s i).1),.lit (.int .i64 (nextM M s i).2)]) ⟨.fn g',n'⟩∧n≤n'∧∀ b,b < n→g' b=g b:=by
 obtain ⟨rv,rfl,h1r⟩:=hr.one
 have h1a:allOne [.lit (.int .i64 M.inp),.lit (.int .i64 M.out),rv]=true:=by simp [h1r]
 have HR:=Hide.mk hr
 clear hr
 rcases hs with rfl | ⟨k,rfl,hk⟩
 ·rw [nextM_neg (by decide)]
  refine WC.enterP (noO_ok _ _) hG [] Tryz.func67 rfl (by decide +kernel) (Nat.le_of_ble_eq_true (by kernel_rfl)) ?_
  iterate 8 (all_goals try (first | with_reducible refine splitI (fun h=>?_) (fun h=>?_) | with_reducible refine splitBI (fun h=>?_) (fun h=>?_) | simp (config:={ maxSteps:=1000000 }) (disch:=first | assumption | omega | (simp; done) | fail) [Tryz.results67, *]))
  refine ⟨_,_,⟨rfl,rfl⟩,by omega,fun b (hb:b < n)=>by simp (disch:=omega) [gput_lt]⟩
 ·obtain ⟨hi,he,_⟩:=nextM_at hM hk h0 h1
  obtain ⟨a,off,a2,off2,q,HE0⟩:=HR.out.edge hk hi
  rw [← he] at HE0
  obtain ⟨j,rfl⟩ : ∃ j:Nat,i=j:=⟨i.toNat,by omega⟩
  have HE:=Hide.mk HE0
  clear HE0 he
  have han:=HE.out.an
  have han2:=HE.out.an2
  have hia:∀ {H:Mem} {ev:Ev} {o:Oper} {t:TypeId},iaS Tryz.prog H ev o t (some (none,1)) (some rv) (some (.lit (.int .i64 (k:Int))))=.val (.ptr a (off+k)) H:=fun {H ev o t}=>HE.out.ia
  have hc:=HE.out.cell
  have hia2:∀ {H:Mem} {ev:Ev} {o:Oper} {t:TypeId},iaS Tryz.prog H ev o t (some (none,2)) (some q) (some (.lit (.int .i64 (j:Int))))=.val (.ptr a2 (off2+j * 2)) H:=fun {H ev o t}=>HE.out.ia2
  have hc2:loadB (some (true,2)) (g a2) (off2+j * 2)=_:=HE.out.cell2
  have hk0:¬(k:Int) < 0:=by omega
  clear HE
  generalize (nextM M k j).1=x at *
  generalize (nextM M k j).2=y at *
  refine WC.enterP (noO_ok _ _) hG [] Tryz.func67 rfl (by decide +kernel) (Nat.le_of_ble_eq_true (by kernel_rfl)) ?_
  iterate 8 (all_goals try (first | with_reducible refine splitI (fun h=>?_) (fun h=>?_) | with_reducible refine splitBI (fun h=>?_) (fun h=>?_) | simp (config:={ maxSteps:=1000000 }) (disch:=first | assumption | omega | (simp; done) | fail) [Tryz.results67, *]))
  refine ⟨_,_,⟨rfl,rfl⟩,by omega,fun b (hb:b < n)=>by simp (disch:=omega) [gput_lt]⟩
theorem take_snoc {α:Type} {l:List α} {k:Nat} (h:k < l.length) : l.take (k+1)=l.take k++[l[k]]:=by rw [List.take_succ,List.getElem?_eq_getElem h]; rfl
def FreshW (g:Nat→Option Blk) (lo n:Nat) (w:List Int) (sv:AV) : Prop:=∃ gk:Nat→Option Blk,(∀ a z,gk a=some z→g a=some z∧lo≤a∧a < n)∧RepW gk n w sv
theorem FreshW.rep {g:Nat→Option Blk} {lo n:Nat} {w:List Int} {sv:AV} (h:FreshW g lo n w sv) : RepW g n w sv :=
 let ⟨_,h1,h3⟩:=h; SliceV.ext (Nat.le_refl _) (fun a z _ hz=>(h1 a z hz).1) h3
theorem FreshW.keep {g g' : Nat→Option Blk} {lo lo' n n' : Nat} {w:List Int} {sv:AV} (h:FreshW g lo n w sv) (h0:lo'≤lo) (h2:n≤n') (hg:∀ a,lo≤a→a < n→g' a=g a) : FreshW g' lo' n' w sv:=by
 obtain ⟨gk,h1,h3⟩:=h
 refine ⟨gk,fun a z hz=>?_,SliceV.ext h2 (fun a z _ hz=>hz) h3⟩
 obtain ⟨e1,e2,e3⟩:=h1 a z hz
 exact ⟨(hg a e2 e3).trans e1,by omega,by omega⟩
theorem GrowV.fresh {g:Nat→Option Blk} {lo n B len:Nat} {sv:AV} {w:List Int} (h:GrowV g lo n B sv len 1 (wdC w)) (hl:len=w.length) : FreshW g lo n w sv:=by
 subst hl
 refine ⟨_,fun a z hz=>?_,h.slice⟩
 have hz' : (if a=B∧lo≤B∧B < n then g a else none)=some z:=hz
 split at hz'
 ·rename_i h1
  obtain ⟨rfl,h2,h3⟩:=h1
  exact ⟨hz',h2,h3⟩
 ·cases hz'
theorem wdC_snoc (w:List Int) (x:Int) : wdC (w++[x])=wdC w++[.lit (.int .i64 x)]:=by simp [wdC]
theorem rRun_w {M:MachM} (hM:M.ok) (w:List Int) (hwl:w.length≤300) (hw:inW w M.inp=true) (g:Nat→Option Blk) (n:Nat) (ms:List AV) (wv:AV) (hr:RepM g n M ms) (hv:RepW g n w wv) :
  WC 3 Tryz.prog 33 [.agg ms,.lit (.int .i64 0),wv] ⟨.fn g,n⟩ fun r=>∃ sv g' n',r=.ret sv ⟨.fn g',n'⟩∧n≤n'∧(∀ b,b < n→g' b=g b)∧FreshW g' n n' (runM M 0 w) sv:=by
 obtain ⟨rv,rfl,h1r⟩:=hr.one
 have h1a:allOne [.lit (.int .i64 M.inp),.lit (.int .i64 M.out),rv]=true:=by simp [h1r]
 have hlen:=@lenV Tryz.prog _ _ _ _ _ hv
 have HR:=Hide.mk hr
 have HV:=Hide.mk hv
 have HM:=Hide.mk hM
 have HW:=Hide.mk hw
 have hr0:=hM.2.2.2.2.1
 clear hr hv hM hw
 refine WC.enterP (noO_ok _ _) hG pl33 Tryz.func33 rfl (by decide +kernel) (Nat.le_of_ble_eq_true (by kernel_rfl)) ?_
 iterate 8 (all_goals try (first | with_reducible refine splitI (fun h=>?_) (fun h=>?_) | with_reducible refine splitBI (fun h=>?_) (fun h=>?_) | simp (config:={ maxSteps:=1000000 }) (disch:=first | assumption | omega | (simp; done) | fail) [Tryz.results33, *]))
 refine LX.ind (fun m gf H'=>∃ (k n' : Nat) (gL:Nat→Option Blk) (B:Nat) (sv:AV) (cs:List AV) (s:Int),k≤w.length∧m=w.length - k∧H'=⟨.fn gL,n'⟩∧n+1≤n'∧Hide (∀ b,b < n→gL b=g b)∧gL n=some (.cells [.lit (.int .i64 M.inp),.lit (.int .i64 M.out),rv] true 0) ∧
  Hide (GrowV gL (n+1) n' B sv k 1 cs)∧Hide (cs=wdC (runM M 0 (w.take k)))∧Hide (s=aftM M 0 (w.take k)∧stOK M s)∧gf 1=some (.lit (.int .i64 s))∧gf 2=some wv∧gf 3=some (.ptr n 0)∧gf 7=some sv∧gf 8=some (.lit (.int .i64 k))) (m0:=w.length) ?_ ?_
 ·exact ⟨0,_,_,0,_,[],0,Nat.zero_le _,rfl,rfl,Nat.le_refl _,⟨fun b hb=>gput_lt hb⟩,gput_eq,⟨.inl ⟨rfl,rfl,rfl⟩⟩,⟨rfl⟩,⟨rfl,.inr ⟨0,rfl,by omega⟩⟩,by simp,by simp,by simp,by simp,by simp⟩
 rintro m gf H' ⟨k,n',gL,B,sv,cs,s,hk,rfl,rfl,hn',HG,hgn,HGR,HC,HST,w1,w2,w3,w7,w8⟩ ih
 refine LX.roundP (noO_ok _ _) hG pl33 (by decide +kernel) ?_
 by_cases hlt:k < w.length
 ·have hltI:(k:Int) < (w.length:Int):=by omega
  obtain ⟨a2,off,ha2,hia,hcell⟩:=SliceV.mono (Nat.le_of_lt hn') HG.out HV.out |> fun h=>RepW.at (w:=w) h hlt
  have htk:=take_snoc hlt
  have hx:=of_decide_eq_true (List.all_eq_true.1 HW.out _ (List.getElem_mem hlt))
  have HN:=Hide.mk (fun (gX:Nat→Option Blk) (n2:Nat) (hn2:n≤n2) (hX:∀ b,b < n→gX b=g b)=>rNext_w HM.out s w[k] HST.out.2 hx.1 hx.2 gX n2 _ (HR.out.mono hn2 hX))
  have HA:Hide (aftM M 0 (w.take (k+1))=(nextM M s w[k]).1):=⟨by rw [htk,aftM_app,← HST.out.1]; rfl⟩
  have HRN:Hide (runM M 0 (w.take (k+1))=runM M 0 (w.take k)++[(nextM M s w[k]).2]):=⟨by rw [htk,runM_app,← HST.out.1]; rfl⟩
  have HOK:=Hide.mk (edgeOK_st (nextM_ok HM.out HST.out.2 hx.1 hx.2)).1
  clear hx htk
  generalize w[k]=x at *
  generalize nextM M s x=e at *
  obtain ⟨to,eo⟩:=e
  dsimp only at *
  iterate 8 (all_goals try (first | with_reducible refine splitI (fun h=>?_) (fun h=>?_) | with_reducible refine splitBI (fun h=>?_) (fun h=>?_) | simp (config:={ maxSteps:=1000000 }) (disch:=first | assumption | omega | (simp; done) | fail) [Tryz.results33, *]))
  refine WC.mono (HN.out _ _ (by omega) fun b (hb:b < n)=>(gput_lt (by omega)).trans (HG.out b hb)) ?_
  rintro _ ⟨g2,n2,rfl,hn2,hX⟩
  have HG2:Hide (∀ b,b < n→g2 b=g b):=⟨fun b hb=>(hX b (by omega)).trans ((gput_lt (by omega)).trans (HG.out b hb))⟩
  have hnn2:n'+1≤n2:=hn2
  have hg2n:g2 n=some (.cells [.lit (.int .i64 M.inp),.lit (.int .i64 M.out),rv] true 0):=(hX n (by omega)).trans ((gput_lt (by omega)).trans hgn)
  have hg2e:g2 n'=some (.cells [.lit (.int .i64 0),.lit (.int .i64 0)] true 0):=(hX n' (by omega)).trans gput_eq
  have HX:=Hide.mk hX
  have HEND:Hide (∀ cs',cs'=cs++[.lit (.int .i64 eo)]→cs'=wdC (runM M 0 (w.take (k+1)))∧cs'.length=(k+1) * 1):=⟨fun cs' h=>by
   rw [HRN.out,wdC_snoc,← HC.out]
   refine ⟨h,?_⟩
   rw [h,HC.out,List.length_append,wdC_len,runM_len,List.length_take]
   simp; omega⟩
  clear hX hn2 HN hia hcell ha2
  rcases HGR.out with ⟨hk0,hc0,hs0⟩ | ⟨hk0,hs0,hB1,hB2,hB3,hB4⟩
  ·subst hs0
   have HZ:=Hide.mk (And.intro hk0 hc0)
   clear hk0 hc0
   iterate 8 (all_goals try (first | with_reducible refine splitI (fun h=>?_) (fun h=>?_) | with_reducible refine splitBI (fun h=>?_) (fun h=>?_) | simp (config:={ maxSteps:=1000000 }) (disch:=first | assumption | omega | (simp; done) | fail) [Tryz.results33, *]))
   have HQ:=HEND.out [.lit (.int .i64 eo)] (by rw [HZ.out.2]; rfl)
   refine ih.out (w.length - (k+1)) _ _ (by omega) ⟨k+1,n2+1+1,_,n2+1,.slq (n2+1) 0 (k+1) 0,_,to,by omega,rfl,rfl,by omega,⟨fun b hb=>?_⟩,?_,⟨.mk gput_eq (by omega) (by omega) HQ.2⟩,⟨HQ.1⟩,⟨HA.out.symm,HOK.out⟩,by simp,by simp [*],by simp [*],by rw [HZ.out.1]; simp,by simp⟩
   ·simp (disch:=omega) only [gput_lt]; exact HG2.out b hb
   ·simp (disch:=omega) only [gput_lt]; exact hg2n
  ·subst hs0
   have hB5:g2 B=some (.cells cs true 1):=(HX.out B (by omega)).trans ((gput_lt hB2).trans hB3)
   clear hB3
   iterate 8 (all_goals try (first | with_reducible refine splitI (fun h=>?_) (fun h=>?_) | with_reducible refine splitBI (fun h=>?_) (fun h=>?_) | simp (config:={ maxSteps:=1000000 }) (disch:=first | assumption | omega | (simp; done) | fail) [Tryz.results33, *]))
   have HQ:=HEND.out _ rfl
   refine ih.out (w.length - (k+1)) _ _ (by omega) ⟨k+1,n2+1+1,_,n2+1,.slq (n2+1) 0 (k+1) 0,_,to,by omega,rfl,rfl,by omega,⟨fun b hb=>?_⟩,?_,⟨.mk gput_eq (by omega) (by omega) HQ.2⟩,⟨HQ.1⟩,⟨HA.out.symm,HOK.out⟩,by simp,by simp [*],by simp [*],by simp,by simp⟩
   ·simp (disch:=omega) only [gput_lt,gput_ne]; exact HG2.out b hb
   ·simp (disch:=omega) only [gput_lt,gput_ne]; exact hg2n
 ·have hltI:¬(k:Int) < (w.length:Int):=by omega
  have hkw:k=w.length:=by omega
  have HREP:Hide (FreshW gL n n' (runM M 0 w) sv):=⟨by
   have h1:=HGR.out
   rw [HC.out,hkw,List.take_length] at h1
   exact (h1.fresh (runM_len w 0).symm).keep (Nat.le_succ n) (Nat.le_refl _) fun _ _ _=>rfl⟩
  clear hkw
  iterate 8 (all_goals try (first | with_reducible refine splitI (fun h=>?_) (fun h=>?_) | with_reducible refine splitBI (fun h=>?_) (fun h=>?_) | simp (config:={ maxSteps:=1000000 }) (disch:=first | assumption | omega | (simp; done) | fail) [Tryz.results33, *]))
  exact ⟨_,_,_,⟨rfl,rfl,rfl⟩,by omega,HG.out,HREP.out⟩
end Go.Ai
end
section
namespace Go.Ai
open Go.Proofs
set_option maxRecDepth 10000
set_option maxHeartbeats 40000000
theorem wC2_w (x q:Int) (p:Nat) (g:Nat→Option Blk) (n:Nat) (hp:g p=some (.cells [.lit (.int .i64 q)] true 0)) (hpn:p < n) :
  WC 3 Tryz.prog 94 [.lit (.int .i64 x),.ptr p 0] ⟨.fn g,n⟩ fun r=>r=.ret (.lit (.bool (decide (¬(0≤x∧x < q))))) ⟨.fn g,n⟩:=by
 by_cases t1:x < 0
 ·have hd:decide (¬(0≤x∧x < q))=true:=decide_eq_true (by omega)
  rw [hd]
  refine WC.enterP (noO_ok _ _) hG [] Tryz.func94 rfl (by decide +kernel) (Nat.le_of_ble_eq_true (by kernel_rfl)) ?_
  iterate 6 (all_goals try (first | with_reducible refine splitI (fun h=>?_) (fun h=>?_) | with_reducible refine splitBI (fun h=>?_) (fun h=>?_) | simp (config:={ maxSteps:=1000000 }) (disch:=first | assumption | omega | (simp; done) | fail) [Tryz.results94, *]))
 by_cases t2:q≤x
 ·have hd:decide (¬(0≤x∧x < q))=true:=decide_eq_true (by omega)
  rw [hd]
  refine WC.enterP (noO_ok _ _) hG [] Tryz.func94 rfl (by decide +kernel) (Nat.le_of_ble_eq_true (by kernel_rfl)) ?_
  iterate 6 (all_goals try (first | with_reducible refine splitI (fun h=>?_) (fun h=>?_) | with_reducible refine splitBI (fun h=>?_) (fun h=>?_) | simp (config:={ maxSteps:=1000000 }) (disch:=first | assumption | omega | (simp; done) | fail) [Tryz.results94, *]))
 ·have hd:decide (¬(0≤x∧x < q))=false:=decide_eq_false (by omega)
  rw [hd]
  refine WC.enterP (noO_ok _ _) hG [] Tryz.func94 rfl (by decide +kernel) (Nat.le_of_ble_eq_true (by kernel_rfl)) ?_
  iterate 6 (all_goals try (first | with_reducible refine splitI (fun h=>?_) (fun h=>?_) | with_reducible refine splitBI (fun h=>?_) (fun h=>?_) | simp (config:={ maxSteps:=1000000 }) (disch:=first | assumption | omega | (simp; done) | fail) [Tryz.results94, *]))
theorem iFunc2_w (w:List Int) (hwl:w.length≤1000000) (q:Int) (sv:AV) (p:Nat) (g:Nat→Option Blk) (n:Nat) (hp:g p=some (.cells [.lit (.int .i64 q)] true 0)) (hpn:p < n) (hsv:RepW g n w sv) :
  WC 3 Tryz.prog 110 [sv,.func (.func 94) [] [.ptr p 0]] ⟨.fn g,n⟩ fun r=>∃ z:Int,r=.ret (.lit (.int .i64 z)) ⟨.fn g,n⟩∧decide (0≤z) = !(w.all fun i=>decide (0≤i∧i < q)):=by
 have hlen:=@lenV Tryz.prog _ _ _ _ _ hsv
 have HS:=Hide.mk hsv
 have HP:=Hide.mk hp
 clear hsv hp
 obtain ⟨ret,hret⟩ : ∃ b,b = !(w.all fun i=>decide (0≤i∧i < q)):=⟨_,rfl⟩
 rw [← hret]
 have HRET:=Hide.mk hret
 clear hret
 refine WC.enterP (noO_ok _ _) hG [] Tryz.func110 rfl (by decide +kernel) (Nat.le_of_ble_eq_true (by kernel_rfl)) ?_
 iterate 6 (all_goals try (first | with_reducible refine splitI (fun h=>?_) (fun h=>?_) | with_reducible refine splitBI (fun h=>?_) (fun h=>?_) | simp (config:={ maxSteps:=1000000 }) (disch:=first | assumption | omega | (simp; done) | fail) [Tryz.results110, *]))
 refine LX.ind (fun m gf H'=>∃ (k:Nat),k≤w.length∧m=w.length - k∧H'=⟨.fn g,n⟩∧Hide (∀ i∈w.take k,0≤i∧i < q) ∧
  gf 0=some sv∧gf 1=some (.func (.func 94) [] [.ptr p 0])∧gf 7=some (.lit (.int .i64 w.length))∧gf 8=some (.lit (.int .i64 k))) (m0:=w.length) ?_ ?_
 ·exact ⟨0,Nat.zero_le _,rfl,rfl,⟨by simp⟩,by simp,by simp,by simp,by simp⟩
 rintro m gf H' ⟨k,hk,rfl,rfl,HPRE,w0,w1,w7,w8⟩ ih
 refine LX.roundP (noO_ok _ _) hG [] (by decide +kernel) ?_
 by_cases hlt:k < w.length
 ·have hltI:(k:Int) < (w.length:Int):=by omega
  obtain ⟨a2,off,ha2,hrow,hia⟩:=SliceV.ia (P:=Tryz.prog) HS.out hlt 1
  simp only [Nat.mul_one] at hia
  have hcell:=hrow.one (k:=k) (s:=1) (by rw [wdC_len]; exact hlt)
  rw [(List.getElem?_eq_some_iff.1 (wdC_at w k hlt)).2] at hcell
  have htk:w.take (k+1)=w.take k++[w[k]]:=by rw [List.take_succ,List.getElem?_eq_getElem hlt]; rfl
  have HT:=Hide.mk htk
  have HM:=Hide.mk (List.getElem_mem hlt)
  clear htk hrow ha2
  generalize w[k]=x at *
  have HC:=Hide.mk (wC2_w x q p g n HP.out hpn)
  iterate 6 (all_goals try (first | with_reducible refine splitI (fun h=>?_) (fun h=>?_) | with_reducible refine splitBI (fun h=>?_) (fun h=>?_) | simp (config:={ maxSteps:=1000000 }) (disch:=first | assumption | omega | (simp; done) | fail) [Tryz.results110, *]))
  refine WC.mono HC.out ?_
  rintro _ rfl
  by_cases hb:0≤x∧x < q
  ·have hd:decide (¬(0≤x∧x < q))=false:=decide_eq_false (by omega)
   rw [hd]
   have HB:=Hide.mk hb
   clear hb
   iterate 6 (all_goals try (first | with_reducible refine splitI (fun h=>?_) (fun h=>?_) | with_reducible refine splitBI (fun h=>?_) (fun h=>?_) | simp (config:={ maxSteps:=1000000 }) (disch:=first | assumption | omega | (simp; done) | fail) [Tryz.results110, *]))
   refine ih.out (w.length - (k+1)) _ _ (by omega) ⟨k+1,by omega,rfl,rfl,⟨fun i hi=>?_⟩,by simp [*],by simp [*],by simp [*],by simp⟩
   rw [HT.out] at hi
   rcases List.mem_append.1 hi with h | h
   ·exact HPRE.out i h
   ·rw [List.mem_singleton.1 h]; exact HB.out
  ·have hd:decide (¬(0≤x∧x < q))=true:=decide_eq_true hb
   rw [hd]
   have hr:ret=true:=by
    rw [HRET.out,Bool.not_eq_true',List.all_eq_false]
    exact ⟨x,HM.out,by simpa using hb⟩
   clear hb
   iterate 6 (all_goals try (first | with_reducible refine splitI (fun h=>?_) (fun h=>?_) | with_reducible refine splitBI (fun h=>?_) (fun h=>?_) | simp (config:={ maxSteps:=1000000 }) (disch:=first | assumption | omega | (simp; done) | fail) [Tryz.results110, *]))
 ·have hltI:¬(k:Int) < (w.length:Int):=by omega
  have hk2:k=w.length:=by omega
  have hr:ret=false:=by
   rw [HRET.out,Bool.not_eq_false',List.all_eq_true]
   intro i hi
   have:=HPRE.out i (by rw [hk2,List.take_length]; exact hi)
   simpa using this
  clear hk2
  iterate 6 (all_goals try (first | with_reducible refine splitI (fun h=>?_) (fun h=>?_) | with_reducible refine splitBI (fun h=>?_) (fun h=>?_) | simp (config:={ maxSteps:=1000000 }) (disch:=first | assumption | omega | (simp; done) | fail) [Tryz.results110, *]))
theorem cFunc2_w (w:List Int) (hwl:w.length≤1000000) (q:Int) (sv:AV) (p:Nat) (g:Nat→Option Blk) (n:Nat) (hp:g p=some (.cells [.lit (.int .i64 q)] true 0)) (hpn:p < n) (hsv:RepW g n w sv) :
  WC 3 Tryz.prog 93 [sv,.func (.func 94) [] [.ptr p 0]] ⟨.fn g,n⟩ fun r=>r=.ret (.lit (.bool (!(w.all fun i=>decide (0≤i∧i < q))))) ⟨.fn g,n⟩:=by
 have HI:=Hide.mk (iFunc2_w w hwl q sv p g n hp hpn hsv)
 clear hp hsv
 generalize (!(w.all fun i=>decide (0≤i∧i < q)))=bb at *
 refine WC.enterP (noO_ok _ _) hG [] Tryz.func93 rfl (by decide +kernel) (Nat.le_of_ble_eq_true (by kernel_rfl)) ?_
 iterate 6 (all_goals try (first | with_reducible refine splitI (fun h=>?_) (fun h=>?_) | with_reducible refine splitBI (fun h=>?_) (fun h=>?_) | simp (config:={ maxSteps:=1000000 }) (disch:=first | assumption | omega | (simp; done) | fail) [Tryz.results93, *]))
 refine WC.mono HI.out ?_
 rintro _ ⟨z,rfl,hz⟩
 cases bb with
 | true =>
  have hz1:0≤z:=of_decide_eq_true hz
  clear hz
  iterate 6 (all_goals try (first | with_reducible refine splitI (fun h=>?_) (fun h=>?_) | with_reducible refine splitBI (fun h=>?_) (fun h=>?_) | simp (config:={ maxSteps:=1000000 }) (disch:=first | assumption | omega | (simp; done) | fail) [Tryz.results93, *]))
 | false =>
  have hz1:¬0≤z:=of_decide_eq_false hz
  clear hz
  iterate 6 (all_goals try (first | with_reducible refine splitI (fun h=>?_) (fun h=>?_) | with_reducible refine splitBI (fun h=>?_) (fun h=>?_) | simp (config:={ maxSteps:=1000000 }) (disch:=first | assumption | omega | (simp; done) | fail) [Tryz.results93, *]))
def wErr (w:List Int) (q:Int) : Int:=if q > 16∨w.length > 256 then 3 else if q < 1∨inW w q=false then 1 else 0
theorem wCheck_w (w:List Int) (hwl:w.length≤1000000) (q:Int) (g:Nat→Option Blk) (n:Nat) (sv:AV) (hsv:RepW g n w sv) :
  WC 3 Tryz.prog 66 [sv,.lit (.int .i64 q)] ⟨.fn g,n⟩ fun r=>r=.ret (.lit (.int .i64 (wErr w q))) ⟨.fn g,n⟩:=by
 refine WC.drop1 rfl ?_
 have hlen:=@lenV Tryz.prog _ _ _ _ _ hsv
 have HS:=Hide.mk hsv
 clear hsv
 by_cases t1:q > 16
 ·have he:wErr w q=3:=by unfold wErr; rw [if_pos (.inl t1)]
  rw [he]
  refine WC.enterP (noO_ok _ _) hG [] Tryz.func66 rfl (by decide +kernel) (Nat.le_of_ble_eq_true (by kernel_rfl)) ?_
  iterate 6 (all_goals try (first | with_reducible refine splitI (fun h=>?_) (fun h=>?_) | with_reducible refine splitBI (fun h=>?_) (fun h=>?_) | simp (config:={ maxSteps:=1000000 }) (disch:=first | assumption | omega | (simp; done) | fail) [Tryz.results66, *]))
  all_goals exact ⟨Nat.le_succ n,fun b hb=>gput_lt hb⟩
 by_cases t2:w.length > 256
 ·have he:wErr w q=3:=by unfold wErr; rw [if_pos (.inr t2)]
  rw [he]
  have t2I:256 < (w.length:Int):=by omega
  refine WC.enterP (noO_ok _ _) hG [] Tryz.func66 rfl (by decide +kernel) (Nat.le_of_ble_eq_true (by kernel_rfl)) ?_
  iterate 6 (all_goals try (first | with_reducible refine splitI (fun h=>?_) (fun h=>?_) | with_reducible refine splitBI (fun h=>?_) (fun h=>?_) | simp (config:={ maxSteps:=1000000 }) (disch:=first | assumption | omega | (simp; done) | fail) [Tryz.results66, *]))
  all_goals exact ⟨Nat.le_succ n,fun b hb=>gput_lt hb⟩
 have t2I:¬256 < (w.length:Int):=by omega
 by_cases t3:q < 1
 ·have he:wErr w q=1:=by unfold wErr; rw [if_neg (by omega),if_pos (.inl t3)]
  rw [he]
  refine WC.enterP (noO_ok _ _) hG [] Tryz.func66 rfl (by decide +kernel) (Nat.le_of_ble_eq_true (by kernel_rfl)) ?_
  iterate 6 (all_goals try (first | with_reducible refine splitI (fun h=>?_) (fun h=>?_) | with_reducible refine splitBI (fun h=>?_) (fun h=>?_) | simp (config:={ maxSteps:=1000000 }) (disch:=first | assumption | omega | (simp; done) | fail) [Tryz.results66, *]))
  all_goals exact ⟨Nat.le_succ n,fun b hb=>gput_lt hb⟩
 have HC:=Hide.mk (cFunc2_w w hwl q sv n (gput g n (some (.cells [.lit (.int .i64 q)] true 0))) (n+1) gput_eq (by omega) (HS.out.mono (by omega) fun a ha=>gput_lt ha))
 have he:wErr w q=if inW w q=false then 1 else 0:=by
  unfold wErr; rw [if_neg (by omega)]
  by_cases h:inW w q=false
  ·rw [if_pos (.inr h),if_pos h]
  ·rw [if_neg (fun h2=>h2.elim t3 h),if_neg h]
 rw [he]
 clear he
 have hin:(w.all fun i=>decide (0≤i∧i < q))=inW w q:=rfl
 rw [hin] at HC
 clear hin
 generalize inW w q=bb at *
 refine WC.enterP (noO_ok _ _) hG [] Tryz.func66 rfl (by decide +kernel) (Nat.le_of_ble_eq_true (by kernel_rfl)) ?_
 iterate 6 (all_goals try (first | with_reducible refine splitI (fun h=>?_) (fun h=>?_) | with_reducible refine splitBI (fun h=>?_) (fun h=>?_) | simp (config:={ maxSteps:=1000000 }) (disch:=first | assumption | omega | (simp; done) | fail) [Tryz.results66, *]))
 refine WC.mono HC.out ?_
 rintro _ rfl
 cases bb
 all_goals
  iterate 6 (all_goals try (first | with_reducible refine splitI (fun h=>?_) (fun h=>?_) | with_reducible refine splitBI (fun h=>?_) (fun h=>?_) | simp (config:={ maxSteps:=1000000 }) (disch:=first | assumption | omega | (simp; done) | fail) [Tryz.results66, *]))
  all_goals exact ⟨Nat.le_succ n,fun b hb=>gput_lt hb⟩
theorem state_w {M:MachM} (hM:M.ok) (g:Nat→Option Blk) (n:Nat) (ms:List AV) (hr:RepM g n M ms) :
  WC 3 Tryz.prog 87 [.agg ms,.lit (.int .i64 0)] ⟨.fn g,n⟩ fun r=>r=.ret (.lit (.int .i64 0)) ⟨.fn g,n⟩:=by
 refine WC.drop1 rfl ?_
 obtain ⟨rv,svs,rfl,hrows,hrv⟩:=hr
 have h1r:=hrv.one
 have h1a:allOne [.lit (.int .i64 M.inp),.lit (.int .i64 M.out),rv]=true:=by simp [h1r]
 have hlen:=@lenV Tryz.prog _ _ _ _ _ hrv
 have HC:=Hide.mk (mCheck_w (M:=M) (fun r hr=>by have:=(hM.2.2.2.2.2.2 r hr).1; have:=hM.2.1; omega) (gput g n (some (.cells [.lit (.int .i64 M.inp),.lit (.int .i64 M.out),rv] true 0))) (n+1) _ (RepM.mono (Nat.le_succ n) (fun a ha=>gput_lt ha) ⟨rv,svs,rfl,hrows,hrv⟩))
 rw [mErr_ok.2 hM] at HC
 have hl0:0 < M.rows.length:=by have:=hM.2.2.2.2.1; omega
 have hl1:¬M.rows=[]:=fun h=>by rw [h] at hl0; cases hl0
 clear hrows hrv
 refine WC.enterP (noO_ok _ _) hG [] Tryz.func87 rfl (by decide +kernel) (Nat.le_of_ble_eq_true (by kernel_rfl)) ?_
 iterate 8 (all_goals try (first | with_reducible refine splitI (fun h=>?_) (fun h=>?_) | with_reducible refine splitBI (fun h=>?_) (fun h=>?_) | simp (config:={ maxSteps:=1000000 }) (disch:=first | assumption | omega | (simp; done) | fail) [Tryz.results87, *]))
 refine WC.mono HC.out ?_
 rintro _ rfl
 iterate 8 (all_goals try (first | with_reducible refine splitI (fun h=>?_) (fun h=>?_) | with_reducible refine splitBI (fun h=>?_) (fun h=>?_) | simp (config:={ maxSteps:=1000000 }) (disch:=first | assumption | omega | (simp; done) | fail) [Tryz.results87, *]))
 all_goals exact ⟨Nat.le_succ n,fun b hb=>gput_lt hb⟩
theorem wErr_ok {w:List Int} {q:Int} (h0:1≤q) (h1:q≤16) (h2:w.length≤256) (h3:inW w q=true) : wErr w q=0:=by
 unfold wErr
 rw [if_neg (by omega),if_neg]
 rintro (h | h)
 ·omega
 ·rw [h3] at h; cases h
theorem mkI57:mkI Tryz.prog 57=some (.lit (.int .i64 0)):=by kernel_rfl
attribute [simp] mkI57
theorem run_w {M:MachM} (hM:M.ok) (w:List Int) (hwl:w.length≤300) (hw:inW w M.inp=true) (g:Nat→Option Blk) (n:Nat) (ms:List AV) (wv:AV) (hr:RepM g n M ms) (hv:RepW g n w wv) :
  WC 3 Tryz.prog 88 [.agg ms,.lit (.int .i64 0),wv] ⟨.fn g,n⟩ fun r=>∃ g' n',r=.ret (.tup [.sl (n+1) 0 w.length w.length,.lit (.int .i64 (aftM M 0 w))]) ⟨.fn g',n'⟩∧n+2≤n'∧(∀ b,b < n→g' b=g b)∧g' (n+1)=some (.cells (wdC (runM M 0 w)) true 0):=by
 obtain ⟨rv,rfl,h1r⟩:=hr.one
 have h1a:allOne [.lit (.int .i64 M.inp),.lit (.int .i64 M.out),rv]=true:=by simp [h1r]
 have hlen:=@lenV Tryz.prog _ _ _ _ _ hv
 have HR:=Hide.mk hr
 have HV:=Hide.mk hv
 have HM:=Hide.mk hM
 have HW:=Hide.mk hw
 have hr0:=hM.2.2.2.2.1
 have hwI:(w.length:Int)≤1048576:=by omega
 clear hr hv hM hw
 refine WC.enterP (noO_ok _ _) hG pl88 Tryz.func88 rfl (by decide +kernel) (Nat.le_of_ble_eq_true (by kernel_rfl)) ?_
 iterate 8 (all_goals try (first | with_reducible refine splitI (fun h=>?_) (fun h=>?_) | with_reducible refine splitBI (fun h=>?_) (fun h=>?_) | simp (config:={ maxSteps:=1000000 }) (disch:=first | assumption | omega | (simp; done) | fail) [Tryz.results88, *]))
 refine LX.ind (fun m gf H'=>∃ (k n' : Nat) (gL:Nat→Option Blk) (cs:List AV) (s:Int),k≤w.length∧m=w.length - k∧H'=⟨.fn gL,n'⟩∧n+2≤n'∧Hide (∀ b,b < n→gL b=g b)∧gL n=some (.cells [.lit (.int .i64 M.inp),.lit (.int .i64 M.out),rv] true 0) ∧
  gL (n+1)=some (.cells cs true 0)∧cs.length=w.length∧Hide (cs=wdC (runM M 0 (w.take k))++List.replicate (w.length - k) (.lit (.int .i64 0)))∧Hide (s=aftM M 0 (w.take k)∧stOK M s)∧gf 1=some (.lit (.int .i64 s))∧gf 3=some (.ptr n 0)∧gf 8=some (.sl (n+1) 0 w.length w.length)∧gf 15=some wv∧gf 16=some (.lit (.int .i64 w.length))∧gf 17=some (.lit (.int .i64 k))) (m0:=w.length) ?_ ?_
 ·refine ⟨0,_,_,_,0,Nat.zero_le _,rfl,rfl,by omega,⟨fun b hb=>?_⟩,?_,gput_eq,?_,⟨?_⟩,⟨rfl,.inr ⟨0,rfl,by omega⟩⟩,by simp,by simp,by simp,by simp,by simp,by simp⟩
  ·exact (gput_lt (by omega)).trans (gput_lt hb)
  ·exact (gput_lt (by omega)).trans gput_eq
  ·simp
  ·simp [wdC,runM]
 rintro m gf H' ⟨k,n',gL,cs,s,hk,rfl,rfl,hn',HG,hgn,hgo,hcl,HC,HST,w1,w3,w8,w15,w16,w17⟩ ih
 refine LX.roundP (noO_ok _ _) hG pl88 (by decide +kernel) ?_
 by_cases hlt:k < w.length
 ·have hltI:(k:Int) < (w.length:Int):=by omega
  obtain ⟨a2,off,ha2,hia,hcell⟩:=SliceV.mono (by omega) HG.out HV.out |> fun h=>RepW.at (n:=n') (w:=w) h hlt
  have htk:=take_snoc hlt
  have hx:=of_decide_eq_true (List.all_eq_true.1 HW.out _ (List.getElem_mem hlt))
  have HA:Hide (aftM M 0 (w.take (k+1))=(nextM M s w[k]).1):=⟨by rw [htk,aftM_app,← HST.out.1]; rfl⟩
  have HRN:Hide (runM M 0 (w.take (k+1))=runM M 0 (w.take k)++[(nextM M s w[k]).2]):=⟨by rw [htk,runM_app,← HST.out.1]; rfl⟩
  have HOK:=Hide.mk (edgeOK_st (nextM_ok HM.out HST.out.2 hx.1 hx.2)).1
  have HEND:Hide (cs.set k (.lit (.int .i64 (nextM M s w[k]).2))=wdC (runM M 0 (w.take (k+1)))++List.replicate (w.length - (k+1)) (.lit (.int .i64 0))):=⟨by
   have hl:(wdC (runM M 0 (w.take k))).length=k:=by rw [wdC_len,runM_len,List.length_take]; omega
   rw [HRN.out,wdC_snoc,HC.out,List.set_append_right _ _ (by omega),hl,Nat.sub_self,show w.length - k=(w.length - (k+1))+1 by omega,List.replicate_succ,List.set_cons_zero,List.append_assoc]
   rfl⟩
  have hnone:=fun gX n2=>none_w gX n2
  have HN:=Hide.mk hnone
  clear hnone
  have hcs2:(cs.set k (.lit (.int .i64 (nextM M s w[k]).2))).length=w.length:=by rw [List.length_set]; exact hcl
  rcases HST.out.2 with hs1 | ⟨j,hs1,hj⟩
  ·have he:=nextM_neg (M:=M) (s:=s) (i:=w[k]) (by omega)
   clear hx htk
   rw [he] at HA HRN HOK HEND hcs2
   clear he
   generalize w[k]=x at *
   subst hs1
   dsimp only at *
   iterate 8 (all_goals try (first | with_reducible refine splitI (fun h=>?_) (fun h=>?_) | with_reducible refine splitBI (fun h=>?_) (fun h=>?_) | simp (config:={ maxSteps:=1000000 }) (disch:=first | assumption | omega | (simp; done) | fail) [Tryz.results88, *]))
   refine WC.mono (HN.out _ _) ?_
   rintro _ rfl
   iterate 8 (all_goals try (first | with_reducible refine splitI (fun h=>?_) (fun h=>?_) | with_reducible refine splitBI (fun h=>?_) (fun h=>?_) | simp (config:={ maxSteps:=1000000 }) (disch:=first | assumption | omega | (simp; done) | fail) [Tryz.results88, *]))
   refine ih.out (w.length - (k+1)) _ _ (by omega) ⟨k+1,_,_,_,-1,by omega,rfl,rfl,by omega,⟨fun b hb=>?_⟩,?_,gput_eq,hcs2,HEND,⟨HA.out.symm,HOK.out⟩,by simp,by simp [*],by simp [*],by simp [*],by simp [*],by simp⟩
   ·simp (disch:=omega) only [gput_lt]; exact HG.out b hb
   ·simp (disch:=omega) only [gput_lt]; exact hgn
  ·obtain ⟨hi,he,_⟩:=nextM_at HM.out hj hx.1 hx.2
   rw [← hs1] at he
   obtain ⟨b1,o1,b2,o2,q,HE0⟩:=(HR.out.mono (Nat.le_refl _) (fun _ _=>rfl)).edge hj hi
   rw [← he] at HE0
   have HE:=Hide.mk HE0
   have hxj:((w[k]).toNat:Int)=w[k]:=Int.toNat_of_nonneg hx.1
   clear HE0 he hi
   clear hx htk
   generalize w[k]=x at *
   obtain ⟨y,rfl⟩ : ∃ y:Nat,x=y:=⟨x.toNat,by omega⟩
   subst hs1
   have han:b1 < n:=HE.out.an
   have han2:b2 < n:=HE.out.an2
   have hib1:∀ {H:Mem} {ev:Ev} {o:Oper} {t:TypeId},iaS Tryz.prog H ev o t (some (none,1)) (some rv) (some (.lit (.int .i64 (j:Int))))=.val (.ptr b1 (o1+j)) H:=fun {H ev o t}=>HE.out.ia
   have hc1:loadB (some (false,1)) (gL b1) (o1+j)=some q:=(congrArg (fun z=>loadB (some (false,1)) z (o1+j)) (HG.out b1 han)).trans HE.out.cell
   have hib2:∀ {H:Mem} {ev:Ev} {o:Oper} {t:TypeId},iaS Tryz.prog H ev o t (some (none,2)) (some q) (some (.lit (.int .i64 (y:Int))))=.val (.ptr b2 (o2+y * 2)) H:=fun {H ev o t}=>HE.out.ia2
   have hc2:loadB (some (true,2)) (gL b2) (o2+y * 2)=some (.agg [.lit (.int .i64 (nextM M j y).1),.lit (.int .i64 (nextM M j y).2)]):=(congrArg (fun z=>loadB (some (true,2)) z (o2+y * 2)) (HG.out b2 han2)).trans HE.out.cell2
   clear HE hxj
   have hj1:¬(j:Int) = -1:=by omega
   generalize nextM M j y=e at *
   obtain ⟨to,eo⟩:=e
   dsimp only at *
   iterate 8 (all_goals try (first | with_reducible refine splitI (fun h=>?_) (fun h=>?_) | with_reducible refine splitBI (fun h=>?_) (fun h=>?_) | simp (config:={ maxSteps:=1000000 }) (disch:=first | assumption | omega | (simp; done) | fail) [Tryz.results88, *]))
   refine WC.mono (HN.out _ _) ?_
   rintro _ rfl
   iterate 8 (all_goals try (first | with_reducible refine splitI (fun h=>?_) (fun h=>?_) | with_reducible refine splitBI (fun h=>?_) (fun h=>?_) | simp (config:={ maxSteps:=1000000 }) (disch:=first | assumption | omega | (simp; done) | fail) [Tryz.results88, *]))
   refine ih.out (w.length - (k+1)) _ _ (by omega) ⟨k+1,_,_,_,to,by omega,rfl,rfl,by omega,⟨fun b hb=>?_⟩,?_,gput_eq,hcs2,HEND,⟨HA.out.symm,HOK.out⟩,by simp,by simp [*],by simp [*],by simp [*],by simp [*],by simp⟩
   ·simp (disch:=omega) only [gput_lt]; exact HG.out b hb
   ·simp (disch:=omega) only [gput_lt]; exact hgn
 ·have hltI:¬(k:Int) < (w.length:Int):=by omega
  have hkw:k=w.length:=by omega
  have HCE:Hide (cs=wdC (runM M 0 w)):=⟨by rw [HC.out,hkw,List.take_length,Nat.sub_self]; simp⟩
  have HSE:Hide (s=aftM M 0 w):=⟨by rw [HST.out.1,hkw,List.take_length]⟩
  have hs2:=HSE.out
  clear hkw
  subst hs2
  iterate 8 (all_goals try (first | with_reducible refine splitI (fun h=>?_) (fun h=>?_) | with_reducible refine splitBI (fun h=>?_) (fun h=>?_) | simp (config:={ maxSteps:=1000000 }) (disch:=first | assumption | omega | (simp; done) | fail) [Tryz.results88, *]))
  exact ⟨_,_,⟨rfl,rfl⟩,hn',HG.out,by rw [← HCE.out]; exact hgo⟩
theorem Run_w {M:MachM} (hM:M.ok) (w:List Int) (hwl:w.length≤256) (hw:inW w M.inp=true) (g:Nat→Option Blk) (n:Nat) (ms:List AV) (wv:AV) (hr:RepM g n M ms) (hv:RepW g n w wv) :
  WC 3 Tryz.prog 50 [.agg ms,.lit (.int .i64 0),wv] ⟨.fn g,n⟩ fun r=>∃ B g' n',r=.ret (.tup [.sl B 0 w.length w.length,.lit (.int .i64 0)]) ⟨.fn g',n'⟩∧n≤B∧B < n'∧(∀ b,b < n→g' b=g b)∧g' B=some (.cells (wdC (runM M 0 w)) true 0):=by
 have HSt:=Hide.mk fun (gX:Nat→Option Blk) (n2:Nat) (hn:n≤n2) (hX:∀ b,b < n→gX b=g b)=>state_w hM gX n2 ms (hr.mono hn hX)
 have HWC:=Hide.mk fun (gX:Nat→Option Blk) (n2:Nat) (hn:n≤n2) (hX:∀ b,b < n→gX b=g b)=>wCheck_w w (by omega) M.inp gX n2 wv (SliceV.mono hn hX hv)
 have HRU:=Hide.mk fun (gX:Nat→Option Blk) (n2:Nat) (hn:n≤n2) (hX:∀ b,b < n→gX b=g b)=>run_w hM w (by omega) hw gX n2 ms wv (hr.mono hn hX) (SliceV.mono hn hX hv)
 rw [wErr_ok hM.1 hM.2.1 hwl hw] at HWC
 obtain ⟨rv,rfl,h1r⟩:=hr.one
 have h1a:allOne [.lit (.int .i64 M.inp),.lit (.int .i64 M.out),rv]=true:=by simp [h1r]
 clear hr hv hw hM
 refine WC.enterP (noO_ok _ _) hG [] Tryz.func50 rfl (by decide +kernel) (Nat.le_of_ble_eq_true (by kernel_rfl)) ?_
 iterate 8 (all_goals try (first | with_reducible refine splitI (fun h=>?_) (fun h=>?_) | with_reducible refine splitBI (fun h=>?_) (fun h=>?_) | simp (config:={ maxSteps:=1000000 }) (disch:=first | assumption | omega | (simp; done) | fail) [Tryz.results50, *]))
 refine WC.mono (HSt.out _ _ (by omega) fun b hb=>gput_lt hb) ?_
 rintro _ rfl
 iterate 8 (all_goals try (first | with_reducible refine splitI (fun h=>?_) (fun h=>?_) | with_reducible refine splitBI (fun h=>?_) (fun h=>?_) | simp (config:={ maxSteps:=1000000 }) (disch:=first | assumption | omega | (simp; done) | fail) [Tryz.results50, *]))
 refine WC.mono (HWC.out _ _ (by omega) fun b hb=>gput_lt hb) ?_
 rintro _ rfl
 iterate 8 (all_goals try (first | with_reducible refine splitI (fun h=>?_) (fun h=>?_) | with_reducible refine splitBI (fun h=>?_) (fun h=>?_) | simp (config:={ maxSteps:=1000000 }) (disch:=first | assumption | omega | (simp; done) | fail) [Tryz.results50, *]))
 refine WC.mono (HRU.out _ _ (by omega) fun b hb=>gput_lt hb) ?_
 rintro _ ⟨g',n',rfl,hn',hX,hB⟩
 have HX:Hide (∀ b,b < n→g' b=g b):=⟨fun b hb=>(hX b (by omega)).trans (gput_lt hb)⟩
 have HB:=Hide.mk hB
 clear hX hB
 iterate 8 (all_goals try (first | with_reducible refine splitI (fun h=>?_) (fun h=>?_) | with_reducible refine splitBI (fun h=>?_) (fun h=>?_) | simp (config:={ maxSteps:=1000000 }) (disch:=first | assumption | omega | (simp; done) | fail) [Tryz.results50, *]))
 exact ⟨_,_,_,⟨rfl,rfl,rfl⟩,by omega,by omega,HX.out,HB.out⟩
end Go.Ai
end
section
namespace Go.Ai
open Go.Proofs
set_option maxRecDepth 10000
set_option maxHeartbeats 40000000
def u8C (bs:List Nat) : List AV:=bs.map fun (b:Nat)=>.lit (.int .u8 (b:Int))
def RepB (g:Nat→Option Blk) (n:Nat) (bs:List Nat) (sv:AV) : Prop:=SliceV g n sv bs.length (u8C bs)
theorem RepB.at {g:Nat→Option Blk} {n:Nat} {w:List Nat} {q1:AV} (h:RepB g n w q1) {k:Nat} (hk:k < w.length) : ∃ a off,a < n∧(∀ {H:Mem} {ev:Ev} {o:Oper} {t:TypeId},iaS Tryz.prog H ev o t (some (none,1)) (some q1) (some (.lit (.int .i64 (k:Int))))=.val (.ptr a (off+k)) H)∧loadB (some (false,1)) (g a) (off+k)=some (.lit (.int .u8 (w[k] : Nat))):=by
 obtain ⟨a2,off,ha2,hrow,hia⟩:=SliceV.ia (P:=Tryz.prog) h hk 1
 simp only [Nat.mul_one] at hia
 have hcell:=hrow.one (k:=k) (s:=1) (by unfold u8C; rw [List.length_map]; exact hk)
 rw [show (u8C w)[k]'(by unfold u8C; rw [List.length_map]; exact hk)=.lit (.int .u8 (w[k] : Nat)) by simp [u8C]] at hcell
 exact ⟨a2,off,ha2,hia,hcell⟩
end Go.Ai
end
section
namespace Go.Ai
open Go.Proofs
set_option maxRecDepth 10000
set_option maxHeartbeats 40000000
theorem SliceV.cell {g:Nat→Option Blk} {b len:Nat} {sv:AV} {cs:List AV} : SliceV g b sv len cs→cellsOf sv=[sv]:=by
 rintro (⟨_,_,rfl | rfl⟩ | ⟨a,off,_,⟨c,rfl⟩ | ⟨c,rfl⟩,_⟩) <;> rfl
def SafeW (g:Nat→Option Blk) (lo n B:Nat) (w:List Int) (sv:AV) : Prop:=∃ gk:Nat→Option Blk,(∀ a z,gk a=some z→g a=some z∧lo≤a∧a < n∧a≠B)∧RepW gk n w sv
theorem SafeW.rep {g:Nat→Option Blk} {lo n B:Nat} {w:List Int} {sv:AV} (h:SafeW g lo n B w sv) : RepW g n w sv :=
 let ⟨_,h1,h3⟩:=h; SliceV.ext (Nat.le_refl _) (fun a z _ hz=>(h1 a z hz).1) h3
theorem SafeW.keep {g g' : Nat→Option Blk} {lo lo' n n' B B' : Nat} {w:List Int} {sv:AV} (h:SafeW g lo n B w sv) (h0:lo'≤lo) (h2:n≤n') (hB:n≤B'∨B'=B∨B' < lo) (hg:∀ a,lo≤a→a < n→a≠B→g' a=g a) : SafeW g' lo' n' B' w sv:=by
 obtain ⟨gk,h1,h3⟩:=h
 refine ⟨gk,fun a z hz=>?_,SliceV.ext h2 (fun a z _ hz=>hz) h3⟩
 obtain ⟨e1,e2,e3,e4⟩:=h1 a z hz
 exact ⟨(hg a e2 e3 e4).trans e1,by omega,by omega,by omega⟩
theorem FreshW.safe {g g' : Nat→Option Blk} {lo lo' n n' B:Nat} {w:List Int} {sv:AV} (h:FreshW g lo n w sv) (h0:lo'≤lo) (h2:n≤n') (hB:n≤B∨B < lo) (hg:∀ a,lo≤a→a < n→g' a=g a) : SafeW g' lo' n' B w sv:=by
 obtain ⟨gk,h1,h3⟩:=h
 refine ⟨gk,fun a z hz=>?_,SliceV.ext h2 (fun a z _ hz=>hz) h3⟩
 obtain ⟨e1,e2,e3⟩:=h1 a z hz
 exact ⟨(hg a e2 e3).trans e1,by omega,by omega,by omega⟩
def RowsF (g:Nat→Option Blk) (lo n B:Nat) (ts:List (List Int×List Int)) (cs:List AV) : Prop :=
 cs.length=ts.length * 2∧∀ (k:Nat) (h:k < ts.length),∃ s1 s2,cs[k * 2]?=some s1∧cs[k * 2+1]?=some s2∧SafeW g lo n B ts[k].1 s1∧SafeW g lo n B ts[k].2 s2
theorem RowsF.keep {g g' : Nat→Option Blk} {lo lo' n n' B B' : Nat} {ts:List (List Int×List Int)} {cs:List AV} (h:RowsF g lo n B ts cs) (h0:lo'≤lo) (h2:n≤n') (hB:n≤B'∨B'=B∨B' < lo) (hg:∀ a,lo≤a→a < n→a≠B→g' a=g a) : RowsF g' lo' n' B' ts cs :=
 ⟨h.1,fun k hk=>let ⟨s1,s2,h1,h3,h4,h5⟩:=h.2 k hk; ⟨s1,s2,h1,h3,h4.keep h0 h2 hB hg,h5.keep h0 h2 hB hg⟩⟩
theorem RowsF.nil {g:Nat→Option Blk} {lo n B:Nat} : RowsF g lo n B [] []:=⟨rfl,fun k hk=>by cases hk⟩
theorem RowsF.snoc {g:Nat→Option Blk} {lo n B:Nat} {ts:List (List Int×List Int)} {cs:List AV} (h:RowsF g lo n B ts cs) {t:List Int×List Int} {s1 s2:AV} (h1:SafeW g lo n B t.1 s1) (h2:SafeW g lo n B t.2 s2) : RowsF g lo n B (ts++[t]) (cs++[s1,s2]):=by
 have hl:=h.1
 refine ⟨by simp [hl]; omega,fun k hk=>?_⟩
 rw [List.length_append,List.length_singleton] at hk
 by_cases hlt:k < ts.length
 ·obtain ⟨t1,t2,e1,e2,e3,e4⟩:=h.2 k hlt
  refine ⟨t1,t2,?_,?_,?_,?_⟩
  ·rw [List.getElem?_append_left (by omega)]; exact e1
  ·rw [List.getElem?_append_left (by omega)]; exact e2
  ·rw [List.getElem_append_left hlt]; exact e3
  ·rw [List.getElem_append_left hlt]; exact e4
 ·have hk2:k=ts.length:=by omega
  subst hk2
  refine ⟨s1,s2,?_,?_,?_,?_⟩
  ·rw [List.getElem?_append_right (by omega),hl,Nat.sub_self]; rfl
  ·rw [List.getElem?_append_right (by omega),hl,show ts.length * 2+1 - ts.length * 2=1 by omega]; rfl
  ·simpa using h1
  ·simpa using h2
theorem RowsF.rows {g:Nat→Option Blk} {lo n B:Nat} {ts:List (List Int×List Int)} {cs:List AV} (h:RowsF g lo n B ts cs) : RowsT g n ts cs :=
 ⟨h.1,fun k hk=>let ⟨s1,s2,h1,h3,h4,h5⟩:=h.2 k hk; ⟨s1,s2,h1,h3,h4.rep,h5.rep⟩⟩
def LogF (g:Nat→Option Blk) (lo n B:Nat) (ts:List (List Int×List Int)) (sv:AV) : Prop:=∃ cs,GrowV g lo n B sv ts.length 2 cs∧RowsF g lo n B ts cs
theorem LogF.log {g:Nat→Option Blk} {lo n B:Nat} {ts:List (List Int×List Int)} {sv:AV} (h:LogF g lo n B ts sv) : LogR g n ts sv:=by
 obtain ⟨cs,h1,h2⟩:=h
 refine ⟨cs,SliceV.ext (Nat.le_refl _) (fun a x _ hx=>?_) h1.slice,h2.rows⟩
 split at hx
 ·exact hx
 ·cases hx
theorem LogF.keep {g g' : Nat→Option Blk} {lo lo' n n' B:Nat} {ts:List (List Int×List Int)} {sv:AV} (h:LogF g lo n B ts sv) (h0:lo'≤lo) (h2:n≤n') (hg:∀ a,lo≤a→a < n→g' a=g a) : LogF g' lo' n' B ts sv:=by
 obtain ⟨cs,h1,h3⟩:=h
 refine ⟨cs,?_,h3.keep h0 h2 (.inr (.inl rfl)) fun a h4 h5 _=>hg a h4 h5⟩
 rcases h1 with h1 | ⟨k1,k2,k3,k4,k5,k6⟩
 ·exact .inl h1
 ·exact .inr ⟨k1,k2,by omega,by omega,(hg B k3 k4).trans k5,k6⟩
theorem LogF.one {g:Nat→Option Blk} {lo n B:Nat} {ts:List (List Int×List Int)} {sv:AV} (h:LogF g lo n B ts sv) : oneC sv=true:=let ⟨_,h1,_⟩:=h; h1.one
def ListB (g:Nat→Option Blk) (n:Nat) (l:List (List Nat)) (wv:AV) : Prop:=∃ svs,SliceV g n wv l.length svs∧svs.length=l.length∧∀ (k:Nat) (h:k < l.length),∃ sv,svs[k]?=some sv∧RepB g n l[k] sv
theorem ListB.mono {g g' : Nat→Option Blk} {n n' : Nat} {l:List (List Nat)} {wv:AV} (h:ListB g n l wv) (hn:n≤n') (hg:∀ a,a < n→g' a=g a) : ListB g' n' l wv :=
 let ⟨svs,h1,h2,h3⟩:=h; ⟨svs,h1.mono hn hg,h2,fun k hk=>let ⟨sv,e1,e2⟩:=h3 k hk; ⟨sv,e1,SliceV.mono hn hg e2⟩⟩
theorem ListB.at {g:Nat→Option Blk} {n:Nat} {l:List (List Nat)} {wv:AV} (h:ListB g n l wv) {k:Nat} (hk:k < l.length) : ∃ a off q,a < n∧(∀ {H:Mem} {ev:Ev} {o:Oper} {t:TypeId},iaS Tryz.prog H ev o t (some (none,1)) (some wv) (some (.lit (.int .i64 (k:Int))))=.val (.ptr a (off+k)) H)∧loadB (some (false,1)) (g a) (off+k)=some q∧RepB g n l[k] q:=by
 obtain ⟨svs,h1,h2,h3⟩:=h
 obtain ⟨q,e1,e2⟩:=h3 k hk
 obtain ⟨a,off,ha,hrow,hia⟩:=h1.ia (P:=Tryz.prog) hk 1
 simp only [Nat.mul_one] at hia
 have hc:=hrow.one (k:=k) (s:=1) (by omega)
 rw [(List.getElem?_eq_some_iff.1 e1).2] at hc
 exact ⟨a,off,q,ha,hia,hc,e2⟩
structure InG (g:Nat→Option Blk) (n:Nat) (st inp out:Nat) (es:List Nat) (ev:AV) (ws:List (List Nat)) (wv:AV) : Prop where
 b0:st < 256
 b1:inp < 256
 b2:out < 256
 se:SliceA g n ev es.length (u16Cells es)
 eb:∀ c∈es,c < 65536
 sw:ListB g n ws wv
 wb:∀ w∈ws,∀ b∈w,b < 256
theorem InG.mono {g g' : Nat→Option Blk} {n n' st inp out:Nat} {es:List Nat} {ev:AV} {ws:List (List Nat)} {wv:AV} (h:InG g n st inp out es ev ws wv) (hn:n≤n') (hg:∀ a,a < n→g' a=g a) : InG g' n' st inp out es ev ws wv :=
 ⟨h.b0,h.b1,h.b2,h.se.mono hn hg,h.eb,h.sw.mono hn hg,h.wb⟩
end Go.Ai
end
section
namespace Go.Ai
open Go.Proofs
set_option maxRecDepth 10000
theorem okR_cons {O:Int} {p:Bool} {o:Int} {r:List Int} (h1 : -1≤o) (h2:o < O) (h3:p=true→o = -1) (h4:okR O (decide (o = -1)) r=true) : okR O p (o :: r)=true:=by
 show (!(decide (o < -1) || (decide (O≤o) || (p && decide (¬o = -1)))) && okR O (decide (o = -1)) r)=true
 rw [decide_eq_false (by omega),decide_eq_false (by omega),h4]
 cases p with
 | false=>rfl
 | true=>rw [decide_eq_false (by simp [h3 rfl])]; rfl
theorem okR_run {M:MachM} (hM:M.ok) : ∀ (w:List Int) (s:Int) (p:Bool),stOK M s→(p=true→s = -1)→inW w M.inp=true→okR M.out p (runM M s w)=true
 | [],_,_,_,_,_=>rfl
 | i :: w,s,p,hs,hp,hw=>by
  unfold inW at hw
  rw [List.all_cons,Bool.and_eq_true] at hw
  have hi:=of_decide_eq_true hw.1
  have he:=edgeOK_st (nextM_ok hM hs hi.1 hi.2)
  have hO:=hM.2.2.1
  show okR M.out p ((nextM M s i).2 :: runM M (nextM M s i).1 w)=true
  refine okR_cons he.2.1 (by rcases he.2.2.1 with h | h <;> omega) (fun h=>?_) (okR_run hM w _ _ he.1 (fun h=>he.2.2.2 (of_decide_eq_true h)) hw.2)
  rw [nextM_neg (by rw [hp h]; decide)]
structure LogOK (I O:Int) (ts:List (List Int×List Int)) : Prop where
 len:ts.length≤40
 i1:1≤I
 i2:I≤16
 o1:1≤O
 o2:O≤16
 wl:∀ t∈ts,t.1.length≤256
 ok:∀ t∈ts,validB I O t=true
theorem LogOK.small {I O:Int} {ts:List (List Int×List Int)} (h:LogOK I O ts) : SmallL ts:=by
 refine ⟨h.len,fun t ht=>by have:=h.wl t ht; omega,fun t ht=>?_⟩
 have h1:=h.ok t ht
 unfold validB at h1
 rw [Bool.and_eq_true,Bool.and_eq_true] at h1
 have h2:=of_decide_eq_true h1.1.1
 have:=h.wl t ht
 omega
theorem LogOK.err {I O:Int} {ts:List (List Int×List Int)} (h:LogOK I O ts) : logErr I O ts=0:=by
 have h1:=h.i1; have h2:=h.i2; have h3:=h.o1; have h4:=h.o2
 unfold logErr
 have e:withinB I O ts=true:=by
  unfold withinB
  rw [decide_eq_true h2,decide_eq_true h4,Bool.and_true,Bool.and_true,List.all_eq_true]
  intro t ht
  have:=h.wl t ht
  exact decide_eq_true (by omega)
 rw [e,if_neg (by decide),if_neg (by omega),if_pos]
 rw [List.all_eq_true]
 exact h.ok
theorem LogOK.lens {I O:Int} {ts:List (List Int×List Int)} (h:LogOK I O ts) {t:List Int×List Int} (ht:t∈ts) : t.2.length=t.1.length∧inW t.1 I=true∧okR O false t.2=true:=by
 have h1:=h.ok t ht
 unfold validB at h1
 rw [Bool.and_eq_true,Bool.and_eq_true] at h1
 exact ⟨of_decide_eq_true h1.1.1,h1.1.2,h1.2⟩
theorem validB_of {I O:Int} {t:List Int×List Int} (h1:t.2.length=t.1.length) (h2:inW t.1 I=true) (h3:okR O false t.2=true) : validB I O t=true:=by
 unfold validB; rw [decide_eq_true h1,h2,h3]; rfl
theorem LogOK.set {I O:Int} {ts:List (List Int×List Int)} (h:LogOK I O ts) {i:Nat} {t:List Int×List Int} (h1:t.1.length≤256) (h2:validB I O t=true) : LogOK I O (ts.set i t) :=
 ⟨by rw [List.length_set]; exact h.len,h.i1,h.i2,h.o1,h.o2,fun u hu=>by rcases List.mem_or_eq_of_mem_set hu with h3 | rfl; exact h.wl u h3; exact h1,fun u hu=>by rcases List.mem_or_eq_of_mem_set hu with h3 | rfl; exact h.ok u h3; exact h2⟩
def neAt:List Int→List Int→Nat→Option Nat
 | a :: x,b :: y,k=>if a=b then neAt x y (k+1) else some k
 | _,_,_=>none
def devF (M:MachM) : List (List Int×List Int)→Nat→Option (Nat×Nat)
 | [],_=>none
 | t :: ts,i=>match neAt (runM M 0 t.1) t.2 0 with
  | some k=>some (i,k)
  | none=>devF M ts (i+1)
end Go.Ai
end
section
namespace Go.Ai
open Go.Proofs
set_option maxRecDepth 10000
set_option maxHeartbeats 40000000
end Go.Ai
end
section
namespace Go.Ai
open Go.Proofs
set_option maxRecDepth 10000
set_option maxHeartbeats 40000000
end Go.Ai
end
section
namespace Go.Ai
open Go.Proofs
set_option maxRecDepth 10000
set_option maxHeartbeats 40000000
theorem SliceV.cut {g:Nat→Option Blk} {b len:Nat} {sv:AV} {cs:List AV} (h:SliceV g b sv len cs) (hc:CapV sv) {t:TypeId} (he:(elSz Tryz.prog t).map (·.1)=some none) {k sz:Nat} (hk:k≤len) (h0:0 < len) :
  ∃ sv',(∀ {H:Mem} {ev:Ev} {d:Option Tmp} {ty:TypeId} {p:String} {af:Array Edge} {gd:Option (Nat×Bool)} {x hi:Operand} {hx:ev x=some sv} {hh:ev hi=some (.lit (.int .i64 (k:Int)))},
   ex2 Tryz.prog H ev ⟨d,.slice t x none (some hi) none,ty,p,af,gd⟩ x hi (some sv) (some (.lit (.int .i64 (k:Int)))) hx hh=.val sv' H)∧SliceV g b sv' k (cs.take (k * sz)):=by
 rcases h with ⟨h1,_⟩ | ⟨a,off,ha,⟨c,rfl⟩ | ⟨c,rfl⟩,hrow⟩
 ·omega
 ·have hcc:=hc _ _ _ _ rfl
  refine ⟨.sl a off k c,?_,.inr ⟨a,off,ha,.inl ⟨c,rfl⟩,hrow.takes _⟩⟩
  intro H ev d ty p af gd x hi hx hh
  rw [slice_sl_hi he (by omega) (by omega) (by omega)]
  simp
 ·refine ⟨.slq a off k c,?_,.inr ⟨a,off,ha,.inr ⟨c,rfl⟩,hrow.takes _⟩⟩
  intro H ev d ty p af gd x hi hx hh
  rw [slice_slq_hi he (by omega) (by omega) (by omega)]
  simp
theorem el22:(elSz Tryz.prog 22).map (·.1)=some none:=by kernel_rfl
theorem LogR.cut {g:Nat→Option Blk} {n:Nat} {ts:List (List Int×List Int)} {sv:AV} (h:LogR g n ts sv) (hc:CapV sv) {k:Nat} (hk:k≤ts.length) (h0:0 < ts.length) :
  ∃ sv',(∀ {H:Mem} {ev:Ev} {d:Option Tmp} {ty:TypeId} {p:String} {af:Array Edge} {gd:Option (Nat×Bool)} {x hi:Operand} {hx:ev x=some sv} {hh:ev hi=some (.lit (.int .i64 (k:Int)))},
   ex2 Tryz.prog H ev ⟨d,.slice 22 x none (some hi) none,ty,p,af,gd⟩ x hi (some sv) (some (.lit (.int .i64 (k:Int)))) hx hh=.val sv' H)∧LogR g n (ts.take k) sv':=by
 obtain ⟨cs,h1,h2⟩:=h
 obtain ⟨sv',h3,h4⟩:=h1.cut hc el22 (sz:=2) hk h0
 refine ⟨sv',h3,cs.take (k * 2),by rw [List.length_take,Nat.min_eq_left hk]; exact h4,?_,fun j hj=>?_⟩
 ·rw [List.length_take,List.length_take,h2.1]; omega
 ·have hj2:j < k∧j < ts.length:=by rw [List.length_take] at hj; omega
  obtain ⟨s1,s2,e1,e2,e3,e4⟩:=h2.2 j hj2.2
  exact ⟨s1,s2,by rw [List.getElem?_take,if_pos (by omega)]; exact e1,by rw [List.getElem?_take,if_pos (by omega)]; exact e2,by rw [List.getElem_take]; exact e3,by rw [List.getElem_take]; exact e4⟩
end Go.Ai
end
section
namespace Go.Ai
open Go.Proofs
set_option maxRecDepth 10000
theorem start34 {W:World} (h:W.ShapedOpen Tryz.prog) : ∃ (m:Int) (g:Nat→Option Blk) (ρ:Rn),g 0=some (.cells [.lit (.int .i64 m)] false 0)∧Sim W.heap.size 3 ρ ⟨.fn g,3⟩ W∧NoOwn ⟨.fn g,3⟩:=by
 obtain ⟨m,hm⟩:=cell_of_shapedOpen_int (g:=0) (t:=3) (zero:=#[.int .i64 0]) (k:=.i64) h (by rw [gsize]; decide) (by kernel_rfl) rfl (by kernel_rfl) (by kernel_rfl) Tryz.underlying3
 have hx:∃ c e fz,W.heap[0]?=some (.cells c e fz)∧c[0]?=some (.int .i64 m):=by
  unfold World.cell? at hm
  split at hm
  ·rename_i c e fz hh
   exact ⟨c,e,fz,hh,hm⟩
  ·cases hm
 obtain ⟨c,e,fz,hh,hc⟩:=hx
 refine ⟨m,fun a=>if a=0 then some (.cells [.lit (.int .i64 m)] false 0) else none,fun a=>if a < 3 then some (a,0,0) else none,if_pos rfl,⟨fun a x hx=>?_,fun a a' x x' b o k o' k' hx hx' hne=>?_,fun a ha=>if_neg (Nat.not_lt.2 ha),fun a x ha hx=>if_pos ha,Nat.le_refl _,Nat.le_refl _⟩,fun a x hx=>?_⟩
 ·have hx' : (if a=0 then some (Blk.cells [.lit (.int .i64 m)] false 0) else none)=some x:=hx
  split at hx'
  ·rename_i h0
   subst h0
   cases hx'
   refine .inr ⟨0,0,0,rfl,c,e,fz,hh,fun i v hi=>?_,fun h=>by cases h⟩
   cases i with
   | zero=>cases hi; exact ⟨_,hc,rfl⟩
   | succ i=>cases hi
  ·cases hx'
 ·have h1:(if a=0 then some (Blk.cells [.lit (.int .i64 m)] false 0) else none)=some x:=hx
  have h2:(if a'=0 then some (Blk.cells [.lit (.int .i64 m)] false 0) else none)=some x':=hx'
  split at h1
  ·split at h2
   ·rename_i h3 h4; exact absurd (h3.trans h4.symm) hne
   ·cases h2
  ·cases h1
 ·have hx' : (if a=0 then some (Blk.cells [.lit (.int .i64 m)] false 0) else none)=some x:=hx
  split at hx'
  ·cases hx'; rfl
  ·cases hx'
end Go.Ai
end
section
namespace Go.Ai
open Go.Proofs Go.ChangeShapes Go.WideShapes Go.ChangeAt Go.RowKit
set_option maxRecDepth 10000
variable {H:Type} {enc:TypeId×Value→H} {w:World}
theorem c3:Tryz.prog.cellsOf 3=1:=by kernel_rfl
theorem c4:Tryz.prog.cellsOf 4=1:=by kernel_rfl
theorem c5:Tryz.prog.cellsOf 5=1:=by kernel_rfl
theorem c25:Tryz.prog.cellsOf 25=1:=by kernel_rfl
theorem c27:Tryz.prog.cellsOf 27=5:=by kernel_rfl
theorem c57:Tryz.prog.cellsOf 57=1:=by kernel_rfl
theorem c104:Tryz.prog.cellsOf 104=1:=by kernel_rfl
theorem slice_one {t e:TypeId} {fuel:Nat} {cs:List Value} {x:DataW H×List MemPlace} (ht:Tryz.prog.underlying t=some (.slice e)) (h:DataW.trod enc Tryz.prog w 0 (fun _=>true) true fuel t cs=some x) : ∃ s,cs=[s]:=by
 rcases DataW.trod_slice ht h with ⟨h1,_⟩ | ⟨a,len,cap,elems,rest,m,_,h1,_⟩
 ·exact ⟨_,h1⟩
 ·exact ⟨_,h1⟩
def RL {β:Type} (R:(Nat→Option Blk)→Nat→β→List AV→Prop) (g:Nat→Option Blk) (b:Nat) : List β→List AV→Prop
 | [],cs=>cs=[]
 | x :: l,cs=>∃ c r,cs=c++r∧R g b x c∧RL R g b l r
theorem RL_len {β:Type} {R:(Nat→Option Blk)→Nat→β→List AV→Prop} {g:Nat→Option Blk} {b sz:Nat} (hl:∀ {x cs},R g b x cs→cs.length=sz) : ∀ {l:List β} {cs:List AV},RL R g b l cs→cs.length=l.length * sz
 | [],cs,h=>by have h' : cs=[]:=h; rw [h']; simp
 | x :: l,cs,⟨c,r,h1,h2,h3⟩=>by rw [h1,List.length_append,hl h2,RL_len hl h3,List.length_cons,Nat.succ_mul]; omega
theorem RL_take {β:Type} {R:(Nat→Option Blk)→Nat→β→List AV→Prop} {g:Nat→Option Blk} {b:Nat} : ∀ (n:Nat) {l:List β} {cs:List AV},RL R g b l cs→∃ c r,cs=c++r∧RL R g b (l.take n) c
 | 0,l,cs,_=>⟨[],cs,rfl,rfl⟩
 | n+1,[],cs,h=>⟨cs,[],by simp,h⟩
 | n+1,x :: l,cs,⟨c,r,h1,h2,h3⟩=>by
  obtain ⟨c',r',h4,h5⟩:=RL_take n h3
  exact ⟨c++c',r',by rw [h1,h4,List.append_assoc],c,c',rfl,h2,h5⟩
theorem mkL_rep {α β:Type} {f:α→Mem→Option (List AV×Mem)} {R:(Nat→Option Blk)→Nat→β→List AV→Prop} {sz:Nat} (hm:∀ {g g' : Nat→Option Blk} {b b' : Nat} {x:β} {cs:List AV},b≤b'→(∀ a,a < b→g' a=g a)→R g b x cs→R g' b' x cs)
  (hl:∀ {g:Nat→Option Blk} {b:Nat} {x:β} {cs:List AV},R g b x cs→cs.length=sz) :
  ∀ (ds:List α),(∀ d∈ds,∀ g b,∃ avs g' b' x,f d ⟨.fn g,b⟩=some (avs,⟨.fn g',b'⟩)∧b≤b'∧(∀ a,a < b→g' a=g a)∧R g' b' x avs) →
  ∀ g b,∃ avs g' b' l,mkL f sz ds ⟨.fn g,b⟩=some (avs,⟨.fn g',b'⟩)∧b≤b'∧(∀ a,a < b→g' a=g a)∧l.length=ds.length∧RL R g' b' l avs
 | [],_,g,b=>⟨[],g,b,[],rfl,Nat.le_refl _,fun _ _=>rfl,rfl,rfl⟩
 | d :: ds,h,g,b=>by
  obtain ⟨a1,g1,b1,x,e1,h1,h2,h3⟩:=h d (by simp) g b
  obtain ⟨a2,g2,b2,l,e2,k1,k2,k3,k4⟩:=mkL_rep (f:=f) (R:=R) (sz:=sz) hm hl ds (fun d hd=>h d (by simp [hd])) g1 b1
  refine ⟨a1++a2,g2,b2,x :: l,?_,by omega,fun a ha=>(k2 a (by omega)).trans (h2 a ha),by simp [k3],a1,a2,rfl,hm k1 k2 h3,k4⟩
  unfold mkL
  rw [e1]
  dsimp only
  rw [e2]
  dsimp only
  rw [show Nat.beq a1.length sz=true from Nat.beq_eq.mpr (hl h3)]
theorem name_slice {β:Type} {R:(Nat→Option Blk)→Nat→β→List AV→Prop} {t e:TypeId} {sz:Nat} (ht:Tryz.prog.underlying t=some (.slice e)) (hsz:Tryz.prog.cellsOf e=sz) (hs0:0 < sz)
  (hm:∀ {g g' : Nat→Option Blk} {b b' : Nat} {x:β} {cs:List AV},b≤b'→(∀ a,a < b→g' a=g a)→R g b x cs→R g' b' x cs)
  (hl:∀ {g:Nat→Option Blk} {b:Nat} {x:β} {cs:List AV},R g b x cs→cs.length=sz) {fuel:Nat} {s:Value} {d:DataW H} {p:List MemPlace}
  (h:DataW.trod enc Tryz.prog w 0 (fun _=>true) true fuel t [s]=some (d,p))
  (he:∀ m cs d p,m < fuel→DataW.trod enc Tryz.prog w 0 (fun _=>true) true m e cs=some (d,p)→∀ N,m≤N→∀ g b,∃ avs g' b' x,mkD Tryz.prog noTok N e d ⟨.fn g,b⟩=some (avs,⟨.fn g',b'⟩)∧b≤b'∧(∀ a,a < b→g' a=g a)∧R g' b' x avs)
  (N:Nat) (hN:fuel≤N) (g:Nat→Option Blk) (b:Nat) :
  ∃ sv g' b' l,mkD Tryz.prog noTok N t d ⟨.fn g,b⟩=some ([sv],⟨.fn g',b'⟩)∧b≤b'∧(∀ a,a < b→g' a=g a) ∧
   CapV sv∧((l=[]∧(sv=.lit (.slice none 0 0)∨sv=.es))∨∃ a off r,a < b'∧(∃ c,sv=.sl a off l.length c)∧Row g' a off r∧RL R g' b' l r):=by
 rcases DataW.trod_slice ht h with ⟨_,hx⟩ | ⟨a,len,cap,elems,rest,m,rfl,_,hx,_,hlc,_,hlen,hel,hrs,_⟩
 ·cases hx
  have hf:fuel≠0:=by
   rintro rfl
   simp [DataW.trod] at h
  obtain ⟨N,rfl⟩ : ∃ M,N=M+1:=⟨N - 1,by omega⟩
  refine ⟨.lit (.slice none 0 0),g,b,[],?_,Nat.le_refl _,fun _ _=>rfl,fun _ _ _ _ e=>(by cases e),.inl ⟨rfl,.inl rfl⟩⟩
  unfold mkD
  rw [ht]
 ·obtain ⟨hrl,hre⟩:=hrs rfl
  simp only [Prod.mk.injEq] at hx
  obtain ⟨rfl,_⟩:=hx
  obtain ⟨N,rfl⟩ : ∃ M,N=M+1:=⟨N - 1,by omega⟩
  have all:∀ x∈elems++rest,∃ ci,DataW.trod enc Tryz.prog w 0 (fun _=>true) true m e ci=some x:=by
   intro x hx
   rcases List.mem_append.1 hx with hx | hx
   ·obtain ⟨i,hi,rfl⟩:=List.mem_iff_getElem.1 hx
    have:=hel i (by omega)
    rw [List.getElem?_eq_getElem hi] at this
    obtain ⟨ci,_,h3⟩:=Option.bind_eq_some_iff.1 this
    exact ⟨ci,h3⟩
   ·obtain ⟨i,hi,rfl⟩:=List.mem_iff_getElem.1 hx
    have:=hre i (by omega)
    rw [List.getElem?_eq_getElem hi] at this
    obtain ⟨ci,_,h3⟩:=Option.bind_eq_some_iff.1 this
    exact ⟨ci,h3⟩
  obtain ⟨avs,g1,b1,l,e1,k1,k2,k3,k4⟩:=mkL_rep (f:=mkD Tryz.prog noTok N e) (R:=R) (sz:=sz) hm hl ((elems++rest).map (·.1)) (by
   intro d hd g b
   obtain ⟨x,hx,rfl⟩:=List.mem_map.1 hd
   obtain ⟨ci,h3⟩:=all x hx
   exact he m ci x.1 x.2 (by omega) h3 N (by omega) g b) g b
  rw [List.map_append] at e1
  have hla:=RL_len (fun h=>hl h) k4
  rw [List.length_map,List.length_append] at k3
  cases hcs:elems.map (·.1)++rest.map (·.1) with
  | nil =>
   have h0:elems.length=0:=by
    have:=congrArg List.length hcs
    rw [List.length_append,List.length_map,List.length_nil] at this
    omega
   refine ⟨.es,g,b,[],?_,Nat.le_refl _,fun _ _=>rfl,fun _ _ _ _ e=>(by cases e),.inl ⟨rfl,.inr rfl⟩⟩
   unfold mkD
   rw [ht]
   dsimp only
   rw [hcs]
  | cons y ys =>
   have hpos:0 < elems.length+rest.length:=by
    have:=congrArg List.length hcs
    rw [List.length_append,List.length_map,List.length_map,List.length_cons] at this
    omega
   obtain ⟨z,zs,rfl⟩ : ∃ z zs,avs=z :: zs:=by
    cases avs with
    | nil =>
     rw [k3] at hla
     have:0 < (elems.length+rest.length) * sz:=Nat.mul_pos hpos hs0
     rw [List.length_nil] at hla
     omega
    | cons z zs=>exact ⟨z,zs,rfl⟩
   obtain ⟨c,r,q1,q2⟩:=RL_take elems.length k4
   have hcl:=RL_len (fun h=>hl h) q2
   have hfr:∀ a,a < b1→gput g1 b1 (some (.cells (z :: zs) false 0)) a=g1 a:=fun a ha=>gput_lt ha
   refine ⟨.sl b1 0 elems.length (elems.length+rest.length),gput g1 b1 (some (.cells (z :: zs) false 0)),b1+1,l.take elems.length,?_,by omega,fun a ha=>(hfr a (by omega)).trans (k2 a ha),fun _ _ _ _ e=>(by cases e; omega),.inr ⟨b1,0,c,Nat.lt_succ_self _,⟨elems.length+rest.length,?_⟩,?_,?_⟩⟩
   ·unfold mkD
    rw [ht]
    dsimp only
    rw [hcs] at e1
    rw [hsz,hcs]
    dsimp only
    rw [e1]
    simp only [List.length_map]
    rfl
   ·rw [List.length_take,Nat.min_eq_left (by omega)]
   ·refine ⟨z :: zs,false,0,if_pos rfl,?_,?_⟩
    ·rw [q1,List.length_append]; omega
    ·rw [q1,List.drop_zero,List.take_left]
   ·have key:∀ (l:List β) (cs:List AV),RL R g1 b1 l cs→RL R (gput g1 b1 (some (.cells (z :: zs) false 0))) (b1+1) l cs:=by
     intro l
     induction l with
     | nil=>intro cs h; exact h
     | cons x l ih=>rintro cs ⟨c,r,h1,h2,h3⟩; exact ⟨c,r,h1,hm (by omega) hfr h2,ih r h3⟩
    exact key _ _ q2
def IntR (_:Nat→Option Blk) (_:Nat) (x:Int) (avs:List AV) : Prop:=avs=[.lit (.int .i64 x)]
theorem int_mk (fuel:Nat) (cs:List Value) (d:DataW H) (p:List MemPlace) (h:DataW.trod enc Tryz.prog w 0 (fun _=>true) true fuel 3 cs=some (d,p)) (N:Nat) (hN:fuel≤N) (g:Nat→Option Blk) (b:Nat) :
  ∃ avs g' b' x,mkD Tryz.prog noTok N 3 d ⟨.fn g,b⟩=some (avs,⟨.fn g',b'⟩)∧b≤b'∧(∀ a,a < b→g' a=g a)∧IntR g' b' x avs:=by
 obtain ⟨x,_,f0,_⟩:=DataW.trod_int (x:=(d,p)) Tryz.underlying3 h
 have hd:d=.lit (.int .i64 x):=congrArg Prod.fst f0
 subst hd
 have hm0:fuel≠0:=by rintro rfl; simp [DataW.trod] at h
 obtain ⟨N,rfl⟩ : ∃ M,N=M+1:=⟨N - 1,by omega⟩
 exact ⟨[.lit (.int .i64 x)],g,b,x,by unfold mkD; rw [Tryz.underlying3],Nat.le_refl _,fun _ _=>rfl,rfl⟩
theorem ints_of {g:Nat→Option Blk} {b:Nat} : ∀ {l:List Int} {cs:List AV},RL IntR g b l cs→cs=wdC l
 | [],_,h=>h
 | x :: l,_,⟨c,r,h1,h2,h3⟩=>by
  have h2:c=[.lit (.int .i64 x)]:=h2
  rw [h1,h2,ints_of h3]; rfl
def WordR (g:Nat→Option Blk) (b:Nat) (x:List Int) (avs:List AV) : Prop:=∃ sv,avs=[sv]∧RepW g b x sv∧CapV sv
theorem word_mk (fuel:Nat) (cs:List Value) (d:DataW H) (p:List MemPlace) (h:DataW.trod enc Tryz.prog w 0 (fun _=>true) true fuel 57 cs=some (d,p)) (N:Nat) (hN:fuel≤N) (g:Nat→Option Blk) (b:Nat) :
  ∃ avs g' b' x,mkD Tryz.prog noTok N 57 d ⟨.fn g,b⟩=some (avs,⟨.fn g',b'⟩)∧b≤b'∧(∀ a,a < b→g' a=g a)∧WordR g' b' x avs:=by
 obtain ⟨s,rfl⟩:=slice_one Tryz.underlying57 h
 obtain ⟨sv,g1,b1,l,e1,t1,t2,tc,t3⟩:=name_slice (R:=IntR) Tryz.underlying57 c3 (by decide) (fun _ _ h=>h) (fun h=>by rw [show _=_ from h]; rfl) h (fun m cs d p _ h N hN g b=>int_mk m cs d p h N hN g b) N hN g b
 refine ⟨[sv],g1,b1,l,e1,t1,t2,sv,rfl,?_,tc⟩
 rcases t3 with ⟨rfl,h⟩ | ⟨a,off,r,q1,q2,q3,q4⟩
 ·exact .inl ⟨rfl,rfl,h⟩
 ·exact .inr ⟨a,off,q1,.inl q2,by rw [← ints_of q4]; exact q3⟩
theorem five_of {cs:List Value} (h:cs.length=5) : ∃ a b c d e,cs=[a,b,c,d,e]:=by
 match cs,h with
 | [a,b,c,d,e],_=>exact ⟨a,b,c,d,e,rfl⟩
theorem five_xs {α:Type} {xs:List α} (h:xs.length=5) : ∃ a b c d e,xs=[a,b,c,d,e]:=by
 match xs,h with
 | [a,b,c,d,e],_=>exact ⟨a,b,c,d,e,rfl⟩
def HalfR (_:Nat→Option Blk) (_:Nat) (x:Nat) (avs:List AV) : Prop:=x < 65536∧avs=[.lit (.int .u16 x)]
theorem wf8 {z:Int} (h:(Lit.int .u8 z).wf=true) : ∃ n:Nat,z=n∧n < 256:=by
 simp only [Lit.wf,Bool.and_eq_true,decide_eq_true_eq] at h
 have h' : 0≤z∧z≤255:=h
 exact ⟨z.toNat,by omega,by omega⟩
theorem wf16 {z:Int} (h:(Lit.int .u16 z).wf=true) : ∃ n:Nat,z=n∧n < 65536:=by
 simp only [Lit.wf,Bool.and_eq_true,decide_eq_true_eq] at h
 have h' : 0≤z∧z≤65535:=h
 exact ⟨z.toNat,by omega,by omega⟩
theorem half_mk (fuel:Nat) (cs:List Value) (d:DataW H) (p:List MemPlace) (h:DataW.trod enc Tryz.prog w 0 (fun _=>true) true fuel 104 cs=some (d,p)) (N:Nat) (hN:fuel≤N) (g:Nat→Option Blk) (b:Nat) :
  ∃ avs g' b' x,mkD Tryz.prog noTok N 104 d ⟨.fn g,b⟩=some (avs,⟨.fn g',b'⟩)∧b≤b'∧(∀ a,a < b→g' a=g a)∧HalfR g' b' x avs:=by
 obtain ⟨x,_,f0,hw⟩:=DataW.trod_int (x:=(d,p)) Tryz.underlying104 h
 obtain ⟨x,rfl,hx⟩:=wf16 hw
 have hd:d=.lit (.int .u16 x):=congrArg Prod.fst f0
 subst hd
 have hm0:fuel≠0:=by rintro rfl; simp [DataW.trod] at h
 obtain ⟨N,rfl⟩ : ∃ M,N=M+1:=⟨N - 1,by omega⟩
 exact ⟨[.lit (.int .u16 x)],g,b,x,by unfold mkD; rw [Tryz.underlying104],Nat.le_refl _,fun _ _=>rfl,hx,rfl⟩
theorem halves_of {g:Nat→Option Blk} {b:Nat} : ∀ {l:List Nat} {cs:List AV},RL HalfR g b l cs→cs=u16Cells l∧∀ c∈l,c < 65536
 | [],_,h=>⟨h,fun c hc=>by cases hc⟩
 | x :: l,_,⟨c,r,h1,⟨hx,h2⟩,h3⟩=>by
  obtain ⟨i1,i2⟩:=halves_of h3
  refine ⟨by rw [h1,h2,i1]; rfl,fun y hy=>?_⟩
  rcases List.mem_cons.1 hy with rfl | hy
  ·exact hx
  ·exact i2 y hy
theorem halfs_mk (fuel:Nat) (s:Value) (d:DataW H) (p:List MemPlace) (h:DataW.trod enc Tryz.prog w 0 (fun _=>true) true fuel 25 [s]=some (d,p)) (N:Nat) (hN:fuel≤N) (g:Nat→Option Blk) (b:Nat) :
  ∃ sv g' b' l,mkD Tryz.prog noTok N 25 d ⟨.fn g,b⟩=some ([sv],⟨.fn g',b'⟩)∧b≤b'∧(∀ a,a < b→g' a=g a)∧SliceA g' b' sv l.length (u16Cells l)∧∀ c∈l,c < 65536:=by
 obtain ⟨sv,g1,b1,l,e1,t1,t2,tc,t3⟩:=name_slice (R:=HalfR) Tryz.underlying25 c104 (by decide) (fun _ _ h=>h) (fun h=>by rw [h.2]; rfl) h (fun m cs d p _ h N hN g b=>half_mk m cs d p h N hN g b) N hN g b
 refine ⟨sv,g1,b1,l,e1,t1,t2,?_⟩
 rcases t3 with ⟨rfl,h⟩ | ⟨a,off,r,q1,⟨c,q2⟩,q3,q4⟩
 ·exact ⟨.inl ⟨rfl,h⟩,fun c hc=>by cases hc⟩
 ·obtain ⟨j1,j2⟩:=halves_of q4
  subst j1
  exact ⟨.inr ⟨a,off,c,q1,q2,q3⟩,j2⟩
theorem M_mk (fuel:Nat) (cs:List Value) (d:DataW H) (p:List MemPlace) (h:DataW.trod enc Tryz.prog w 0 (fun _=>true) true fuel 27 cs=some (d,p)) (N:Nat) (hN:fuel≤N) (g:Nat→Option Blk) (b:Nat) :
  ∃ (st inp out:Nat) (part:Bool) (es:List Nat) (ev:AV) (g' : Nat→Option Blk) (b' : Nat),mkD Tryz.prog noTok N 27 d ⟨.fn g,b⟩=some ([.lit (.int .u8 st),.lit (.int .u8 inp),.lit (.int .u8 out),.lit (.bool part),ev],⟨.fn g',b'⟩)∧b≤b'∧(∀ a,a < b→g' a=g a) ∧
   st < 256∧inp < 256∧out < 256∧SliceA g' b' ev es.length (u16Cells es)∧∀ c∈es,c < 65536:=by
 obtain ⟨xs,m,rfl,hd,hl,hn,he⟩:=DataW.trod_struct Tryz.underlying27 h
 rw [c27] at hl
 obtain ⟨v0,v1,v2,v3,v4,rfl⟩:=five_of hl
 have h0:DataW.trod enc Tryz.prog w 0 (fun _=>true) true m 5 (([v0,v1,v2,v3,v4].drop 0).take (Tryz.prog.cellsOf 5))=xs[0]?:=he 0 _ rfl
 have h1:DataW.trod enc Tryz.prog w 0 (fun _=>true) true m 5 (([v0,v1,v2,v3,v4].drop 1).take (Tryz.prog.cellsOf 5))=xs[1]?:=he 1 _ rfl
 have h2:DataW.trod enc Tryz.prog w 0 (fun _=>true) true m 5 (([v0,v1,v2,v3,v4].drop 2).take (Tryz.prog.cellsOf 5))=xs[2]?:=he 2 _ rfl
 have h3:DataW.trod enc Tryz.prog w 0 (fun _=>true) true m 4 (([v0,v1,v2,v3,v4].drop 3).take (Tryz.prog.cellsOf 4))=xs[3]?:=he 3 _ rfl
 have h4:DataW.trod enc Tryz.prog w 0 (fun _=>true) true m 25 (([v0,v1,v2,v3,v4].drop 4).take (Tryz.prog.cellsOf 25))=xs[4]?:=he 4 _ rfl
 rw [c5] at h0 h1 h2
 rw [c4] at h3
 rw [c25] at h4
 obtain ⟨x0,x1,x2,x3,x4,rfl⟩:=five_xs (show xs.length=5 from hn)
 obtain ⟨st,e0,f0,w0⟩:=DataW.trod_int (x:=x0) Tryz.underlying5 h0
 obtain ⟨inp,e1,f1,w1⟩:=DataW.trod_int (x:=x1) Tryz.underlying5 h1
 obtain ⟨out,e2,f2,w2⟩:=DataW.trod_int (x:=x2) Tryz.underlying5 h2
 obtain ⟨part,e3,f3⟩:=DataW.trod_bool (x:=x3) Tryz.underlying4 h3
 obtain ⟨st,rfl,b0⟩:=wf8 w0
 obtain ⟨inp,rfl,b1⟩:=wf8 w1
 obtain ⟨out,rfl,b2⟩:=wf8 w2
 subst f0
 subst f1
 subst f2
 subst f3
 have hx4:DataW.trod enc Tryz.prog w 0 (fun _=>true) true m 25 [v4]=some (x4.1,x4.2):=h4
 obtain ⟨sv,g1,b1',l,e4,k1,k2,k3,k4⟩:=halfs_mk m v4 _ _ hx4 (N - 1) (by omega) g b
 refine ⟨st,inp,out,part,l,sv,g1,b1',?_,k1,k2,b0,b1,b2,k3,k4⟩
 have hd' : d=.agg [.lit (.int .u8 st),.lit (.int .u8 inp),.lit (.int .u8 out),.lit (.bool part),x4.1]:=congrArg Prod.fst hd
 subst hd'
 have hm0:m≠0:=by rintro rfl; simp [DataW.trod] at h0
 obtain ⟨N,rfl⟩ : ∃ M,N=M+2:=⟨N - 2,by omega⟩
 have e4' : mkD Tryz.prog noTok (N+1) 25 x4.1 ⟨.fn g,b⟩=some ([sv],⟨.fn g1,b1'⟩):=e4
 have i1:∀ k:Int,mkD (Hh:=H) Tryz.prog noTok (N+1) 5 (.lit (.int .u8 k)) ⟨.fn g,b⟩=some ([.lit (.int .u8 k)],⟨.fn g,b⟩):=by
  intro k; unfold mkD; rw [Tryz.underlying5]
 have i2:∀ k:Bool,mkD (Hh:=H) Tryz.prog noTok (N+1) 4 (.lit (.bool k)) ⟨.fn g,b⟩=some ([.lit (.bool k)],⟨.fn g,b⟩):=by
  intro k; unfold mkD; rw [Tryz.underlying4]
 unfold mkD
 rw [Tryz.underlying27]
 dsimp only
 simp only [mkF,i1,i2,e4',c5,c4,c25,c27]
 rfl
end Go.Ai
end
section
namespace Go.Ai
open Go.Proofs
set_option maxRecDepth 10000
set_option maxHeartbeats 40000000
theorem sl57:sliceT Tryz.prog 57=true:=by kernel_rfl
theorem equal57nil:pureV Tryz.prog (Op.equal 57 (.slice none 0 0) (.slice none 0 0))=some true:=by kernel_rfl
theorem bin57nil {H:Mem} {ev:Ev} {d:Option Tmp} {ty rt:TypeId} {p:String} {af:Array Edge} {g:Option (Nat×Bool)} {x:Operand} (hx:ev x=some (.lit (.slice none 0 0))) (hy:ev (.const (.slice none 0 0))=some (.lit (.slice none 0 0))) :
  binS Tryz.prog H ev ⟨d,.binOp .eql 57 x (.const (.slice none 0 0)) rt,ty,p,af,g⟩ .eql 57 (some (.lit (.slice none 0 0))) (some (.lit (.slice none 0 0)))=.val (.lit (.bool true)) H:=by
 show oBin Tryz.prog H ev ⟨d,.binOp .eql 57 x (.const (.slice none 0 0)) rt,ty,p,af,g⟩ .eql 57 (some (.lit (.slice none 0 0))) (some (.lit (.slice none 0 0)))=_
 refine oBin_generic rfl ?_
 have h1:(Op.operands (.binOp .eql 57 x (.const (.slice none 0 0)) rt)).toList=[x,.const (.slice none 0 0)]:=rfl
 unfold generic
 dsimp only
 rw [h1]
 have l1:toLit (.lit (.slice none 0 0))=some (.slice none 0 0):=rfl
 simp only [List.all_cons,List.all_nil,hx,hy,l1,Bool.and_true,if_true]
 have h2:∀ ρ:Operand→Value,ρ x=.slice none 0 0→ρ (.const (.slice none 0 0))=.slice none 0 0→pureV Tryz.prog (execOp ρ ⟨d,.binOp .eql 57 x (.const (.slice none 0 0)) rt,ty,p,af,g⟩)=some (.value (.bool true)):=by
  intro ρ e1 e2
  refine execOp_bin e1 e2 ?_ ?_
  ·unfold eqGuard; kernel_rfl
  ·show pureV Tryz.prog (do pure (Value.bool (← Op.equal 57 _ _)))=_
   exact (pureV_then equal57nil).trans rfl
 rw [h2 _ (by simp only [hx,l1]) (by simp only [hy,l1])]
attribute [simp] sl57 bin57nil
def CloneV (g:Nat→Option Blk) (lo n:Nat) (w:List Int) (sv:AV) : Prop :=
 (w=[]∧(sv=.lit (.slice none 0 0)∨∃ m,lo≤m∧m < n∧sv=.sl m 0 0 0∧g m=some (.cells [] true 0)))∨(0 < w.length∧∃ m,lo≤m∧m < n∧sv=.slq m 0 w.length 0∧g m=some (.cells (wdC w) true 1))
theorem Clone_w (w:List Int) (hwl:w.length≤1000000) (g:Nat→Option Blk) (n:Nat) (sv:AV) (hv:RepW g n w sv) :
  WC 3 Tryz.prog 83 [sv] ⟨.fn g,n⟩ fun r=>∃ sv' g' n',r=.ret sv' ⟨.fn g',n'⟩∧n≤n'∧(∀ b,b < n→g' b=g b)∧CloneV g' n n' w sv':=by
 have hcase:(w=[]∧sv=.lit (.slice none 0 0))∨((∃ a o k c,sv=.sl a o k c)∨(∃ a o k c,sv=.slq a o k c)∨sv=.es):=by
  rcases hv with ⟨h1,_,rfl | rfl⟩ | ⟨a,off,_,⟨c,rfl⟩ | ⟨c,rfl⟩,_⟩
  ·exact .inl ⟨List.length_eq_zero_iff.1 h1,rfl⟩
  ·exact .inr (.inr (.inr rfl))
  ·exact .inr (.inl ⟨_,_,_,_,rfl⟩)
  ·exact .inr (.inr (.inl ⟨_,_,_,_,rfl⟩))
 rcases hcase with ⟨hw,rfl⟩ | hne
 ·subst hw
  clear hv
  refine WC.enterP (noO_ok _ _) hG [] Tryz.func83 rfl (by decide +kernel) (Nat.le_of_ble_eq_true (by kernel_rfl)) ?_
  iterate 8 (all_goals try (first | with_reducible refine splitI (fun h=>?_) (fun h=>?_) | with_reducible refine splitBI (fun h=>?_) (fun h=>?_) | simp (config:={ maxSteps:=1000000 }) (disch:=first | assumption | omega | (simp; done) | fail) [Tryz.results83, *]))
  refine ⟨_,_,_,⟨rfl,rfl,rfl⟩,Nat.le_refl _,fun b hb=>rfl,.inl ⟨rfl,.inl rfl⟩⟩
 ·by_cases hl:w.length=0
  ·have hw:w=[]:=List.length_eq_zero_iff.1 hl
   subst hw
   have hap:=fun {H:Mem} {ev:Ev} {d:Option Tmp} {ty:TypeId} {p:String} {af:Array Edge} {gd:Option (Nat×Bool)} {x y:Operand} {s t:TypeId} {a off:Nat} {hx:ev x=some (.sl a off 0 0)} {hy:ev y=some sv} (hp:(apI Tryz.prog s t).isSome=true)=>SliceV.ap00 (P:=Tryz.prog) hv (H:=H) (ev:=ev) (d:=d) (ty:=ty) (p:=p) (af:=af) (gd:=gd) (x:=x) (y:=y) (a:=a) (off:=off) (hx:=hx) (hy:=hy) hp
   clear hv
   rcases hne with ⟨a,o,k,c,rfl⟩ | ⟨a,o,k,c,rfl⟩ | rfl
   all_goals
    refine WC.enterP (noO_ok _ _) hG [] Tryz.func83 rfl (by decide +kernel) (Nat.le_of_ble_eq_true (by kernel_rfl)) ?_
    iterate 8 (all_goals try (first | with_reducible refine splitI (fun h=>?_) (fun h=>?_) | with_reducible refine splitBI (fun h=>?_) (fun h=>?_) | simp (config:={ maxSteps:=1000000 }) (disch:=first | assumption | omega | (simp; done) | fail) [Tryz.results83, *]))
    refine ⟨_,_,_,⟨rfl,rfl,rfl⟩,by omega,fun b hb=>?_,.inl ⟨rfl,.inr ⟨n,Nat.le_refl _,by omega,rfl,gput_eq⟩⟩⟩
    exact gput_lt hb
  ·obtain ⟨a2,blk,ha2,hga2,hap⟩:=SliceV.ap0 (P:=Tryz.prog) (sz:=1) hv (by omega) (by omega) (by rw [wdC_len]; omega)
   clear hv
   have hl0:0 < w.length:=by omega
   rcases hne with ⟨a,o,k,c,rfl⟩ | ⟨a,o,k,c,rfl⟩ | rfl
   all_goals
    refine WC.enterP (noO_ok _ _) hG [] Tryz.func83 rfl (by decide +kernel) (Nat.le_of_ble_eq_true (by kernel_rfl)) ?_
    iterate 8 (all_goals try (first | with_reducible refine splitI (fun h=>?_) (fun h=>?_) | with_reducible refine splitBI (fun h=>?_) (fun h=>?_) | simp (config:={ maxSteps:=1000000 }) (disch:=first | assumption | omega | (simp; done) | fail) [Tryz.results83, *]))
    refine ⟨_,_,_,⟨rfl,rfl,rfl⟩,by omega,fun b hb=>?_,.inr ⟨hl0,n+1,by omega,by omega,rfl,gput_eq⟩⟩
    simp (disch:=omega) only [gput_lt]
theorem Clip_w (w:List Int) (g:Nat→Option Blk) (lo n:Nat) (sv:AV) (hv:CloneV g lo n w sv) :
  WC 3 Tryz.prog 70 [sv] ⟨.fn g,n⟩ fun r=>∃ sv',r=.ret sv' ⟨.fn g,n⟩∧FreshW g lo n w sv':=by
 rcases hv with ⟨rfl,rfl | ⟨m,h1,h2,rfl,h3⟩⟩ | ⟨hl,m,h1,h2,rfl,h3⟩
 ·have HF:Hide (FreshW g lo n [] (.lit (.slice none 0 0))):=⟨fun _=>none,fun a z h=>(by cases h),.inl ⟨rfl,rfl,.inl rfl⟩⟩
  refine WC.enterP (noO_ok _ _) hG [] Tryz.func70 rfl (by decide +kernel) (Nat.le_of_ble_eq_true (by kernel_rfl)) ?_
  iterate 8 (all_goals try (first | with_reducible refine splitI (fun h=>?_) (fun h=>?_) | with_reducible refine splitBI (fun h=>?_) (fun h=>?_) | simp (config:={ maxSteps:=1000000 }) (disch:=first | assumption | omega | (simp; done) | fail) [Tryz.results70, *]))
  exact HF.out
 ·have HF:Hide (FreshW g lo n [] (.sl m 0 0 0)):=⟨fun a=>if a=m then g a else none,⟨fun a z hz=>(by
   have hz' : (if a=m then g a else none)=some z:=hz
   split at hz'
   ·rename_i h4; subst h4; exact ⟨hz',h1,h2⟩
   ·cases hz'),.inr ⟨m,0,h2,.inl ⟨0,rfl⟩,[],true,0,(if_pos rfl).trans h3,by simp [wdC],by simp [wdC]⟩⟩⟩
  refine WC.enterP (noO_ok _ _) hG [] Tryz.func70 rfl (by decide +kernel) (Nat.le_of_ble_eq_true (by kernel_rfl)) ?_
  iterate 8 (all_goals try (first | with_reducible refine splitI (fun h=>?_) (fun h=>?_) | with_reducible refine splitBI (fun h=>?_) (fun h=>?_) | simp (config:={ maxSteps:=1000000 }) (disch:=first | assumption | omega | (simp; done) | fail) [Tryz.results70, *]))
  exact HF.out
 ·have HF:Hide (FreshW g lo n w (.sl m 0 w.length w.length)):=⟨fun a=>if a=m then g a else none,⟨fun a z hz=>(by
   have hz' : (if a=m then g a else none)=some z:=hz
   split at hz'
   ·rename_i h4; subst h4; exact ⟨hz',h1,h2⟩
   ·cases hz'),.inr ⟨m,0,h2,.inl ⟨_,rfl⟩,wdC w,true,1,(if_pos rfl).trans h3,by simp,by simp⟩⟩⟩
  clear h3
  have hl2:¬w=[]:=fun h=>by rw [h] at hl; cases hl
  refine WC.enterP (noO_ok _ _) hG [] Tryz.func70 rfl (by decide +kernel) (Nat.le_of_ble_eq_true (by kernel_rfl)) ?_
  iterate 8 (all_goals try (first | with_reducible refine splitI (fun h=>?_) (fun h=>?_) | with_reducible refine splitBI (fun h=>?_) (fun h=>?_) | simp (config:={ maxSteps:=1000000 }) (disch:=first | assumption | omega | (simp; done) | fail) [Tryz.results70, *]))
  exact HF.out
theorem mk22 {H:Mem} {a b:Int} (h0:0≤a) (h1:a≤b) (h2:b≤1048576) : mksS Tryz.prog H 22 none (some (.lit (.int .i64 a))) (some (.lit (.int .i64 b)))=.val (.sl H.next 0 a.toNat b.toNat) (H.add (.cells (rep [.lit (.slice none 0 0),.lit (.slice none 0 0)] b.toNat) true 0)) :=
 oMakeSlice_ok (e:=59) (size:=2) (bytes:=48) (z:=[.lit (.slice none 0 0),.lit (.slice none 0 0)]) (by kernel_rfl) (by decide) (by decide) (by kernel_rfl) h0 h1 h2
theorem mkI22:mkI Tryz.prog 22=none:=by kernel_rfl
attribute [simp] mk22 mkI22
end Go.Ai
end
section
namespace Go.Ai
open Go.Proofs
set_option maxRecDepth 10000
set_option maxHeartbeats 40000000
def ListV (g:Nat→Option Blk) (n:Nat) (l:List (List Int)) (lv:AV) : Prop:=∃ svs,SliceV g n lv l.length svs∧RowsW g n l svs
theorem ListV.mono {g g' : Nat→Option Blk} {n n' : Nat} {l:List (List Int)} {lv:AV} (h:ListV g n l lv) (hn:n≤n') (hg:∀ a,a < n→g' a=g a) : ListV g' n' l lv :=
 let ⟨svs,h1,h2⟩:=h; ⟨svs,h1.mono hn hg,h2.ext hn fun a x ha hx=>(hg a ha).trans hx⟩
theorem ListV.at {g:Nat→Option Blk} {n:Nat} {l:List (List Int)} {lv:AV} (h:ListV g n l lv) {k:Nat} (hk:k < l.length) : ∃ a off q,a < n∧(∀ {H:Mem} {ev:Ev} {o:Oper} {t:TypeId},iaS Tryz.prog H ev o t (some (none,1)) (some lv) (some (.lit (.int .i64 (k:Int))))=.val (.ptr a (off+k)) H)∧loadB (some (false,1)) (g a) (off+k)=some q∧RepW g n l[k] q:=by
 obtain ⟨svs,h1,h2,h3⟩:=h
 obtain ⟨q,e1,e2⟩:=h3 k hk
 obtain ⟨a,off,ha,hrow,hia⟩:=h1.ia (P:=Tryz.prog) hk 1
 simp only [Nat.mul_one] at hia
 have hc:=hrow.one (k:=k) (s:=1) (by omega)
 rw [(List.getElem?_eq_some_iff.1 e1).2] at hc
 exact ⟨a,off,q,ha,hia,hc,e2⟩
theorem el93:(elSz Tryz.prog 93).map (·.1)=some none:=by kernel_rfl
theorem ListV.cut {g:Nat→Option Blk} {n:Nat} {l:List (List Int)} {lv:AV} (h:ListV g n l lv) (hc:CapV lv) :
  ∃ sv',(∀ {H:Mem} {ev:Ev} {d:Option Tmp} {ty:TypeId} {p:String} {af:Array Edge} {gd:Option (Nat×Bool)} {x hi:Operand} {hx:ev x=some lv} {hh:ev hi=some (.lit (.int .i64 (l.length:Int)))},
   ex2 Tryz.prog H ev ⟨d,.slice 93 x none (some hi) none,ty,p,af,gd⟩ x hi (some lv) (some (.lit (.int .i64 (l.length:Int)))) hx hh=.val sv' H)∧ListV g n l sv':=by
 obtain ⟨svs,h1,h2⟩:=h
 obtain ⟨sv',h3,h4,_⟩:=SliceV.cutP (P:=Tryz.prog) h1 hc el93 (k:=l.length) (sz:=1) (Nat.le_refl _)
 refine ⟨sv',h3,svs,?_,h2⟩
 rw [Nat.mul_one,← h2.1,List.take_length] at h4
 rw [h2.1] at h4
 exact h4
theorem RepW.safe {g g' : Nat→Option Blk} {n n' B:Nat} {w:List Int} {sv:AV} (h:RepW g n w sv) (hn:n≤n') (hB:n≤B) (hg:∀ a,a < n→g' a=g a) : SafeW g' 0 n' B w sv :=
 ⟨fun a=>if a < n then g a else none,⟨fun a z hz=>(by
  have hz' : (if a < n then g a else none)=some z:=hz
  split at hz'
  ·rename_i h4; exact ⟨(hg a h4).trans hz',Nat.zero_le _,by omega,by omega⟩
  ·cases hz'),SliceV.ext hn (fun a x ha hx=>(if_pos ha).trans hx) h⟩⟩
theorem SafeW.nil {g:Nat→Option Blk} {lo n B:Nat} : SafeW g lo n B [] (.lit (.slice none 0 0)):=⟨fun _=>none,fun a z h=>(by cases h),.inl ⟨rfl,rfl,.inl rfl⟩⟩
structure RoomT (g:Nat→Option Blk) (n B c k:Nat) (ts:List (List Int×List Int)) (R:List AV) : Prop where
 blk:g B=some (.cells R true 0)
 len:R.length=c * 2
 kl:k≤c
 rows:RowsF g 0 n B ts (R.take (k * 2))
 tl:ts.length=k
theorem RoomT.log {g:Nat→Option Blk} {n B len:Nat} {ts:List (List Int×List Int)} {R:List AV} (h:RoomT g n B len len ts R) (hB:B < n) : LogR g n ts (.sl B 0 len len):=by
 have h1:=h.rows
 rw [← h.len,List.take_length] at h1
 exact ⟨R,.inr ⟨B,0,hB,.inl ⟨len,by rw [h.tl]⟩,R,true,0,h.blk,by simp,by simp⟩,h1.rows⟩
def logOf (M:MachM) (l:List (List Int)) (k:Nat) : List (List Int×List Int):=(l.take k).map (fun w=>(w,runM M 0 w))++(l.drop k).map (fun w=>(w,[]))
theorem logOf_zero {M:MachM} {l:List (List Int)} : logOf M l 0=l.map fun w=>(w,[]):=by unfold logOf; simp
theorem logOf_len {M:MachM} {l:List (List Int)} {k:Nat} : (logOf M l k).length=l.length:=by unfold logOf; simp; omega
theorem logOf_all {M:MachM} {l:List (List Int)} {k:Nat} (h:l.length≤k) : logOf M l k=l.map fun w=>(w,runM M 0 w):=by unfold logOf; rw [List.take_of_length_le h,List.drop_eq_nil_of_le h]; simp
theorem logOf_at {M:MachM} {l:List (List Int)} {k:Nat} (h:k < l.length) : (logOf M l k)[k]'(by rw [logOf_len]; exact h)=(l[k],[]):=by
 unfold logOf
 rw [List.getElem_append_right (by simp; omega)]
 simp [Nat.min_eq_left (Nat.le_of_lt h)]
theorem logOf_step {M:MachM} {l:List (List Int)} {k:Nat} (h:k < l.length) : logOf M l (k+1)=(logOf M l k).set k (l[k],runM M 0 l[k]):=by
 unfold logOf
 rw [take_snoc h,List.map_append,List.set_append_right _ _ (by simp; omega)]
 have e:l.drop k=l[k] :: l.drop (k+1):=List.drop_eq_getElem_cons h
 rw [e,List.length_map,List.length_take,Nat.min_eq_left (Nat.le_of_lt h),Nat.sub_self,List.append_assoc]
 rfl
theorem RowsF.upd {g:Nat→Option Blk} {lo n B:Nat} {ts:List (List Int×List Int)} {cs cs' : List AV} (h:RowsF g lo n B ts cs) {i:Nat} {t:List Int×List Int} {s1 s2:AV} (hl:cs'.length=cs.length) (h1:cs'[i * 2]?=some s1) (h2:cs'[i * 2+1]?=some s2) (ho:∀ j,j≠i * 2→j≠i * 2+1→cs'[j]?=cs[j]?) (w1:SafeW g lo n B t.1 s1) (w2:SafeW g lo n B t.2 s2) : RowsF g lo n B (ts.set i t) cs':=by
 refine ⟨by rw [hl,List.length_set]; exact h.1,fun k hk=>?_⟩
 rw [List.length_set] at hk
 by_cases hki:i=k
 ·subst hki
  exact ⟨s1,s2,h1,h2,by simpa using w1,by simpa using w2⟩
 ·obtain ⟨r1,r2,e1,e2,e3,e4⟩:=h.2 k hk
  exact ⟨r1,r2,(ho _ (by omega) (by omega)).trans e1,(ho _ (by omega) (by omega)).trans e2,by rw [List.getElem_set_ne hki]; exact e3,by rw [List.getElem_set_ne hki]; exact e4⟩
theorem SafeW.sl {g:Nat→Option Blk} {lo n B m len c:Nat} {w:List Int} {own:Bool} {z:Nat} (h:g m=some (.cells (wdC w) own z)) (hl:len=w.length) (h1:lo≤m) (h2:m < n) (h3:m≠B) : SafeW g lo n B w (.sl m 0 len c):=by
 subst hl
 exact ⟨fun a=>if a=m then g a else none,⟨fun a z hz=>(by
  have hz' : (if a=m then g a else none)=some z:=hz
  split at hz'
  ·rename_i h4; subst h4; exact ⟨hz',h1,h2,h3⟩
  ·cases hz'),.inr ⟨m,0,h2,.inl ⟨c,rfl⟩,wdC w,own,z,(if_pos rfl).trans h,by simp,by simp⟩⟩⟩
theorem CloneV.keep {g g' : Nat→Option Blk} {lo n:Nat} {w:List Int} {sv:AV} (h:CloneV g lo n w sv) (hg:∀ a,lo≤a→a < n→g' a=g a) : CloneV g' lo n w sv:=by
 rcases h with ⟨rfl,rfl | ⟨m,h1,h2,rfl,h3⟩⟩ | ⟨hl,m,h1,h2,rfl,h3⟩
 ·exact .inl ⟨rfl,.inl rfl⟩
 ·exact .inl ⟨rfl,.inr ⟨m,h1,h2,rfl,(hg m h1 h2).trans h3⟩⟩
 ·exact .inr ⟨hl,m,h1,h2,rfl,(hg m h1 h2).trans h3⟩
theorem CloneV.one {g:Nat→Option Blk} {lo n:Nat} {w:List Int} {sv:AV} (h:CloneV g lo n w sv) : oneC sv=true∧cellsOf sv=[sv]:=by
 rcases h with ⟨rfl,rfl | ⟨m,h1,h2,rfl,h3⟩⟩ | ⟨hl,m,h1,h2,rfl,h3⟩ <;> exact ⟨rfl,rfl⟩
theorem RowsF.extG {g g' : Nat→Option Blk} {lo n B:Nat} {ts:List (List Int×List Int)} {cs:List AV} (h:RowsF g lo n B ts cs) (hg:∀ a x,g a=some x→g' a=some x) : RowsF g' lo n B ts cs :=
 have key:∀ {w:List Int} {sv:AV},SafeW g lo n B w sv→SafeW g' lo n B w sv:=fun ⟨gk,h1,h3⟩=>⟨gk,fun a z hz=>let ⟨e1,e2⟩:=h1 a z hz; ⟨hg a z e1,e2⟩,h3⟩
 ⟨h.1,fun k hk=>let ⟨s1,s2,e1,e2,e3,e4⟩:=h.2 k hk; ⟨s1,s2,e1,e2,key e3,key e4⟩⟩
def ofErr (I:Int) (l:List (List Int)) : Int:=if l.all (fun w=>decide (w.length≤256))=true then (if l.all (fun w=>inW w I)=true then 0 else 1) else 3
end Go.Ai
end
section
namespace Go.Ai
open Go.Proofs
set_option maxRecDepth 10000
set_option maxHeartbeats 40000000
theorem Of_w {M:MachM} (hM:M.ok) (l:List (List Int)) (hl:l.length≤20) (hw:∀ w∈l,w.length≤300) (g:Nat→Option Blk) (n:Nat) (ms:List AV) (lv:AV) (hr:RepM g n M ms) (hV:ListV g n l lv) (hcap:CapV lv) :
  WC 3 Tryz.prog 42 [.agg ms,lv] ⟨.fn g,n⟩ fun r=>∃ cs g' n',r=.ret (.tup [.agg cs,.lit (.int .i64 (ofErr M.inp l))]) ⟨.fn g',n'⟩∧n≤n'∧(∀ b,b < n→g' b=g b) ∧
   ((¬ofErr M.inp l=0∧cs=[.lit (.int .i64 0),.lit (.int .i64 0),.lit (.slice none 0 0)])∨(ofErr M.inp l=0∧∃ B,cs=[.lit (.int .i64 M.inp),.lit (.int .i64 M.out),.sl B 0 l.length l.length]∧LogR g' n' (l.map fun w=>(w,runM M 0 w)) (.sl B 0 l.length l.length))):=by
 have hlen:=@lenV Tryz.prog _ _ _ _ _ hV.choose_spec.1
 have hm0:mErr M=0:=mErr_ok.2 hM
 have HMC:=Hide.mk fun (gX:Nat→Option Blk) (n2:Nat) (hn:n≤n2) (hX:∀ b,b < n→gX b=g b)=>mCheck_w (M:=M) (fun r hr=>by have:=(hM.2.2.2.2.2.2 r hr).1; have:=hM.2.1; omega) gX n2 ms (hr.mono hn hX)
 rw [hm0] at HMC
 obtain ⟨rv,rfl,h1v⟩:=hr.one
 have honem:allOne [.lit (.int .i64 M.inp),.lit (.int .i64 M.out),rv]=true:=by simp [h1v]
 have HR:=Hide.mk hr
 have HV:=Hide.mk hV
 have HM:=Hide.mk hM
 have HW:=Hide.mk hw
 have hcapE:¬(1025:Int) < (l.length:Int):=by omega
 have hl2:(l.length:Int)≤1048576:=by omega
 obtain ⟨cut,hcut,hcv⟩:=hV.cut hcap
 have hlenC:=@lenV Tryz.prog _ _ _ _ _ hcv.choose_spec.1
 have HCV:=Hide.mk hcv
 clear hr hV hM hw hcv hm0
 refine WC.enterP (noO_ok _ _) hG pl42 Tryz.func42 rfl (by decide +kernel) (Nat.le_of_ble_eq_true (by kernel_rfl)) ?_
 iterate 8 (all_goals try (first | with_reducible refine splitI (fun h=>?_) (fun h=>?_) | with_reducible refine splitBI (fun h=>?_) (fun h=>?_) | simp (config:={ maxSteps:=1000000 }) (disch:=first | assumption | omega | (simp; done) | fail) [Tryz.results42, *]))
 refine WC.mono (HMC.out _ _ (by omega) fun b (hb:b < n)=>by simp (disch:=omega) only [gput_lt]) ?_
 rintro _ rfl
 iterate 8 (all_goals try (first | with_reducible refine splitI (fun h=>?_) (fun h=>?_) | with_reducible refine splitBI (fun h=>?_) (fun h=>?_) | simp (config:={ maxSteps:=1000000 }) (disch:=first | assumption | omega | (simp; done) | fail) [Tryz.results42, *]))
 have hwi:withinB M.inp M.out (l.map fun w=>(w,([] : List Int)))=l.all fun w=>decide (w.length≤256):=by
  unfold withinB
  rw [decide_eq_true HM.out.2.1,decide_eq_true HM.out.2.2.2.1,Bool.and_true,Bool.and_true,List.all_map]
  rfl
 refine LX.ind (fun m gf H'=>∃ (k n' : Nat) (gL:Nat→Option Blk) (R:List AV),k≤l.length∧m=l.length - k∧H'=⟨.fn gL,n'⟩∧n+1+1+1+1≤n'∧Hide (∀ b,b < n→gL b=g b)∧gL n=some (.cells [.lit (.int .i64 M.inp),.lit (.int .i64 M.out),rv] true 0)∧gL (n+1)=some (.cells [.lit (.int .i64 0),.lit (.int .i64 0),.lit (.slice none 0 0)] true 0) ∧
  gL (n+1+1+1)=some (.cells [.lit (.int .i64 M.inp),.lit (.int .i64 M.out),.sl (n+1+1) 0 k l.length] true 0)∧gL (n+1+1)=some (.cells R true 0)∧R.length=l.length * 2∧Hide (RowsF g 0 n (n+1+1) ((l.take k).map fun w=>(w,[])) (R.take (k * 2))) ∧
  gf 2=some (.ptr n 0)∧gf 4=some (.ptr (n+1) 0)∧gf 7=some (.ptr (n+1+1+1) 0)∧gf 33=some cut∧gf 34=some (.lit (.int .i64 l.length))∧gf 35=some (.lit (.int .i64 k))) (m0:=l.length) ?_ ?_
 ·refine ⟨0,_,_,rep [.lit (.slice none 0 0),.lit (.slice none 0 0)] l.length,Nat.zero_le _,rfl,rfl,Nat.le_refl _,⟨fun b hb=>?_⟩,?_,?_,?_,?_,?_,⟨?_⟩,by simp,by simp,by simp,by simp,by simp,by simp⟩
  ·simp (disch:=omega) only [gput_lt]
  ·simp (disch:=omega) only [gput_lt,gput_eq]
  ·simp (disch:=omega) only [gput_lt,gput_eq]
  ·simp (disch:=omega) only [gput_lt,gput_eq]
  ·simp (disch:=omega) only [gput_lt,gput_eq]
  ·simp [rep_len]
  ·simp; exact RowsF.nil
 rintro m gf H' ⟨k,n',gL,R,hk,rfl,rfl,hn',HG,hgn,hgz,hgo,hgR,hRl,HRF,w2,w4,w7,w33,w34,w35⟩ ih
 refine LX.roundP (noO_ok _ _) hG pl42 (by decide +kernel) ?_
 by_cases hlt:k < l.length
 ·have hltI:(k:Int) < (l.length:Int):=by omega
  obtain ⟨a2,off,q,ha2,hia,hcell0,hrw⟩:=HCV.out.at hlt
  have h1q:oneC q=true:=hrw.one
  have hcq:cellsOf q=[q]:=hrw.cell
  have hcell:loadB (some (false,1)) (gL a2) (off+k)=some q:=(congrArg (fun z=>loadB (some (false,1)) z (off+k)) (HG.out a2 ha2)).trans hcell0
  have HTK:Hide ((l.take (k+1)).map (fun w=>(w,([] : List Int)))=(l.take k).map (fun w=>(w,[]))++[(l[k],[])]):=⟨by rw [take_snoc hlt,List.map_append]; rfl⟩
  have HQ:=Hide.mk hrw
  have hone2:allOne [q,.lit (.slice none 0 0)]=true:=by simp [h1q]
  have HPT:Hide ((putR R (k * 2) [q,.lit (.slice none 0 0)]).take ((k+1) * 2)=R.take (k * 2)++[q,.lit (.slice none 0 0)]):=⟨by
   have h1:=putR_take (l:=R) (off:=k * 2) (new:=[q,.lit (.slice none 0 0)]) (by simp; omega)
   rw [← h1]; congr 1; simp; omega⟩
  have hpl:(putR R (k * 2) [q,.lit (.slice none 0 0)]).length=l.length * 2:=by rw [putR_len (by simp; omega)]; exact hRl
  clear hcell0 hrw
  iterate 8 (all_goals try (first | with_reducible refine splitI (fun h=>?_) (fun h=>?_) | with_reducible refine splitBI (fun h=>?_) (fun h=>?_) | simp (config:={ maxSteps:=1000000 }) (disch:=first | assumption | omega | (simp; done) | fail) [Tryz.results42, *]))
  refine ih.out (l.length - (k+1)) _ _ (by omega) ⟨k+1,_,_,putR R (k * 2) [q,.lit (.slice none 0 0)],by omega,rfl,rfl,?_,⟨fun b hb=>?_⟩,?_,?_,?_,?_,hpl,⟨?_⟩,by simp [*],by simp [*],by simp [*],by simp [*],by simp [*],by simp⟩
  ·omega
  ·simp (disch:=omega) only [gput_lt]; exact HG.out b hb
  ·simp (disch:=omega) only [gput_lt]; exact hgn
  ·simp (disch:=omega) only [gput_lt]; exact hgz
  ·simp (disch:=omega) only [gput_lt,gput_eq]
  ·simp (disch:=omega) only [gput_lt,gput_eq]
  ·rw [HPT.out,HTK.out]
   exact RowsF.snoc HRF.out (HQ.out.safe (Nat.le_refl _) (by omega) fun a ha=>rfl) SafeW.nil
 ·have hltI:¬(k:Int) < (l.length:Int):=by omega
  have hkl:k=l.length:=by omega
  subst hkl
  have HROOM:Hide (∀ (gX:Nat→Option Blk) (n2:Nat),n'≤n2→(∀ b,b < n'→gX b=gL b)→RoomT gX n2 (n+1+1) l.length l.length (logOf M l 0) R):=⟨fun gX n2 h1 h2=>by
   refine ⟨(h2 _ (by omega)).trans hgR,hRl,Nat.le_refl _,?_,logOf_len⟩
   rw [logOf_zero]
   have h3:=HRF.out
   rw [List.take_length] at h3
   exact h3.keep (Nat.le_refl _) (by omega) (.inr (.inl rfl)) fun a h4 h5 h6=>(h2 a (by omega)).trans (HG.out a h5)⟩
  have HWI:=Hide.mk fun (gX:Nat→Option Blk) (n2:Nat) (h1:n'≤n2) (h2:∀ b,b < n'→gX b=gL b)=>within_w M.inp M.out (l.map fun w=>(w,([] : List Int))) (by rw [List.length_map]; omega) (fun t ht=>by obtain ⟨w,hw,rfl⟩:=List.mem_map.1 ht; exact HW.out w hw) gX n2 (.sl (n+1+1) 0 l.length l.length) (by
   have:=(HROOM.out gX n2 h1 h2).log (by omega)
   rwa [logOf_zero] at this)
  rw [hwi] at HWI
  clear hwi ih
  obtain ⟨ER,hER⟩ : ∃ e,e=ofErr M.inp l:=⟨_,rfl⟩
  rw [← hER]
  have HER:=Hide.mk hER
  clear hER
  have hallb:l.all (fun w=>decide (w.length≤256))=true∨l.all (fun w=>decide (w.length≤256))=false:=by cases l.all fun w=>decide (w.length≤256) <;> simp
  rcases hallb with hb | hb
  ·rw [hb] at HWI
   have HB:=Hide.mk hb
   clear hb
   iterate 8 (all_goals try (first | with_reducible refine splitI (fun h=>?_) (fun h=>?_) | with_reducible refine splitBI (fun h=>?_) (fun h=>?_) | simp (config:={ maxSteps:=1000000 }) (disch:=first | assumption | omega | (simp; done) | fail) [Tryz.results42, *]))
   refine WC.mono (HWI.out _ _ (by omega) fun b hb=>by first | rfl | simp (disch:=omega) only [gput_lt]) ?_
   rintro _ rfl
   iterate 8 (all_goals try (first | with_reducible refine splitI (fun h=>?_) (fun h=>?_) | with_reducible refine splitBI (fun h=>?_) (fun h=>?_) | simp (config:={ maxSteps:=1000000 }) (disch:=first | assumption | omega | (simp; done) | fail) [Tryz.results42, *]))
   refine LX.ind (fun m gf H'=>∃ (i n2:Nat) (gM:Nat→Option Blk) (R:List AV),i≤l.length∧m=l.length - i∧H'=⟨.fn gM,n2⟩∧n'≤n2∧Hide (∀ b,b < n→gM b=g b)∧gM n=some (.cells [.lit (.int .i64 M.inp),.lit (.int .i64 M.out),rv] true 0)∧gM (n+1)=some (.cells [.lit (.int .i64 0),.lit (.int .i64 0),.lit (.slice none 0 0)] true 0) ∧
    gM (n+1+1+1)=some (.cells [.lit (.int .i64 M.inp),.lit (.int .i64 M.out),.sl (n+1+1) 0 l.length l.length] true 0)∧gM (n+1+1)=some (.cells R true 0)∧R.length=l.length * 2∧Hide (RowsF (mask (n+1) gM) 0 n2 (n+1+1) (logOf M l i) R)∧Hide (∀ w∈l.take i,inW w M.inp=true) ∧
    gf 2=some (.ptr n 0)∧gf 4=some (.ptr (n+1) 0)∧gf 7=some (.ptr (n+1+1+1) 0)∧gf 52=some (.sl (n+1+1) 0 l.length l.length)∧gf 53=some (.lit (.int .i64 l.length))∧gf 54=some (.lit (.int .i64 i))) (m0:=l.length) ?_ ?_
   ·refine ⟨0,_,_,R,Nat.zero_le _,rfl,rfl,Nat.le_refl _,HG,hgn,hgz,hgo,hgR,hRl,⟨?_⟩,⟨by simp⟩,by simp [*],by simp [*],by simp [*],by simp,by simp,by simp⟩
    rw [logOf_zero]
    have h3:=HRF.out
    rw [List.take_length,← hRl,List.take_length] at h3
    exact h3.keep (Nat.le_refl _) (by omega) (.inr (.inl rfl)) fun a h4 h5 h6=>(mask_ne (by omega)).trans (HG.out a h5)
   clear HROOM HWI HRF w2 w4 w7 w33 w34 w35 hgn hgz hgo hgR hRl
   clear R
   rintro m gf H' ⟨i,n2,gM,R,hi,rfl,rfl,hn2,HGM,hgn,hgz,hgo,hgR,hRl,HRF,HIN,w2,w4,w7,w52,w53,w54⟩ ih
   refine LX.roundP (noO_ok _ _) hG pl42 (by decide +kernel) ?_
   by_cases hlt:i < l.length
   ·have hltI2:(i:Int) < (l.length:Int):=by omega
    obtain ⟨s1,s2,e1,e2,r1,r2⟩:=HRF.out.2 i (by rw [logOf_len]; exact hlt)
    rw [logOf_at hlt] at r1 r2
    have h1s1:oneC s1=true:=r1.rep.one
    have h1s2:oneC s2=true:=r2.rep.one
    have hone2:allOne [s1,s2]=true:=by simp [h1s1,h1s2]
    have hd2:=drop2 e1 e2
    have HR1:Hide (RepW gM n2 l[i] s1):=⟨SliceV.ext (Nat.le_refl _) (fun a x _ h=>mask_some h) r1.rep⟩
    have hwl:=HW.out _ (List.getElem_mem hlt)
    have hwl2:=of_decide_eq_true (List.all_eq_true.1 HB.out _ (List.getElem_mem hlt))
    have HTK:Hide (l.take (i+1)=l.take i++[l[i]]):=⟨take_snoc hlt⟩
    have HSTEP:Hide (logOf M l (i+1)=(logOf M l i).set i (l[i],runM M 0 l[i])):=⟨logOf_step hlt⟩
    have HMEM:=Hide.mk (List.getElem_mem hlt)
    clear e1 e2 r1 r2
    generalize l[i]=w at *
    have HTI:=Hide.mk fun (gX:Nat→Option Blk) (n3:Nat) (h1:n2≤n3) (h2:∀ b,b < n2→gX b=gM b)=>tinputs_w w (by omega) M.inp s1 gX n3 (SliceV.mono h1 h2 HR1.out)
    have hin:inW w M.inp=true∨inW w M.inp=false:=by cases inW w M.inp <;> simp
    rcases hin with hq | hq
    ·have HRN:=Hide.mk fun (gX:Nat→Option Blk) (n3:Nat) (h1:n2≤n3) (h2:∀ b,b < n2→gX b=gM b)=>Run_w HM.out w hwl2 hq gX n3 [.lit (.int .i64 M.inp),.lit (.int .i64 M.out),rv] s1 (HR.out.mono (by omega) fun b hb=>(h2 b (by omega)).trans (HGM.out b hb)) (SliceV.mono h1 h2 HR1.out)
     have HCL:=Hide.mk fun (gX:Nat→Option Blk) (n3:Nat) (h1:n2≤n3) (h2:∀ b,b < n2→gX b=gM b)=>Clone_w w (by omega) gX n3 s1 (SliceV.mono h1 h2 HR1.out)
     rw [hq] at HTI
     have HQ:=Hide.mk hq
     clear hq
     iterate 8 (all_goals try (first | with_reducible refine splitI (fun h=>?_) (fun h=>?_) | with_reducible refine splitBI (fun h=>?_) (fun h=>?_) | simp (config:={ maxSteps:=1000000 }) (disch:=first | assumption | omega | (simp; done) | fail) [Tryz.results42, *]))
     refine WC.mono (HTI.out _ _ (by omega) fun b hb=>by simp (disch:=omega) only [gput_lt]) ?_
     rintro _ rfl
     iterate 8 (all_goals try (first | with_reducible refine splitI (fun h=>?_) (fun h=>?_) | with_reducible refine splitBI (fun h=>?_) (fun h=>?_) | simp (config:={ maxSteps:=1000000 }) (disch:=first | assumption | omega | (simp; done) | fail) [Tryz.results42, *]))
     refine WC.mono (HRN.out _ _ (by omega) fun b hb=>by simp (disch:=omega) only [gput_lt]) ?_
     rintro _ ⟨Bq,g3,n3,rfl,hBq1,hBq2,hg3,hgBq⟩
     have HG3:Hide (∀ b,b < n2→g3 b=gM b):=⟨fun b hb=>(hg3 b (by omega)).trans (gput_lt hb)⟩
     have HBQ:=Hide.mk hgBq
     have ht3:g3 n2=some (.cells [s1,s2] true 0):=(hg3 n2 (by omega)).trans gput_eq
     have hgn3:=(HG3.out n (by omega)).trans hgn
     have hgz3:=(HG3.out (n+1) (by omega)).trans hgz
     have hgR3:=(HG3.out (n+1+1) (by omega)).trans hgR
     have hgo3:=(HG3.out (n+1+1+1) (by omega)).trans hgo
     clear hg3 hgBq hgn hgz hgR hgo
     iterate 8 (all_goals try (first | with_reducible refine splitI (fun h=>?_) (fun h=>?_) | with_reducible refine splitBI (fun h=>?_) (fun h=>?_) | simp (config:={ maxSteps:=1000000 }) (disch:=first | assumption | omega | (simp; done) | fail) [Tryz.results42, *]))
     refine WC.mono (HCL.out _ _ (by omega) fun b hb=>by first | exact HG3.out b hb | (simp (disch:=omega) only [gput_lt]; exact HG3.out b hb)) ?_
     rintro _ ⟨cv,g4,n4,rfl,hn4,hg4,hcv⟩
     have HG4:=Hide.mk hg4
     have h1cv:=hcv.one.1
     have hccv:=hcv.one.2
     have HCVV:=Hide.mk hcv
     have ht4:=(hg4 n2 (by omega)).trans ht3
     have hgn4:=(hg4 n (by omega)).trans hgn3
     have hgz4:=(hg4 (n+1) (by omega)).trans hgz3
     have hgR4:=(hg4 (n+1+1) (by omega)).trans hgR3
     have hgo4:=(hg4 (n+1+1+1) (by omega)).trans hgo3
     clear hg4 hcv hgn3 hgz3 hgR3 hgo3 ht3
     have hR2:i * 2+2≤R.length:=by omega
     have hpl:(putR R (i * 2) [cv,.sl Bq 0 w.length w.length]).length=l.length * 2:=by rw [putR_len (by simp; omega)]; exact hRl
     have hpa:=putR_at0 (u:=cv) (v:=.sl Bq 0 w.length w.length) hR2
     have HPB:=Hide.mk (putR_at1 (u:=cv) (v:=.sl Bq 0 w.length w.length) hR2)
     have hpi:i * 2 < (putR R (i * 2) [cv,.sl Bq 0 w.length w.length]).length:=by omega
     have hpe:(putR R (i * 2) [cv,.sl Bq 0 w.length w.length])[i * 2]'hpi=cv:=(List.getElem?_eq_some_iff.1 hpa).2
     clear hpa
     iterate 8 (all_goals try (first | with_reducible refine splitI (fun h=>?_) (fun h=>?_) | with_reducible refine splitBI (fun h=>?_) (fun h=>?_) | simp (config:={ maxSteps:=1000000 }) (disch:=first | assumption | omega | (simp; done) | fail) [Tryz.results42, *]))
     refine WC.mono (Clip_w w _ n3 n4 cv (HCVV.out.keep fun a h1 h2=>gput_ne (by omega))) ?_
     rintro _ ⟨fv,rfl,hfw⟩
     have h1fv:oneC fv=true:=hfw.rep.one
     have hcfv:cellsOf fv=[fv]:=hfw.rep.cell
     have HFW:=Hide.mk hfw
     clear hfw
     iterate 8 (all_goals try (first | with_reducible refine splitI (fun h=>?_) (fun h=>?_) | with_reducible refine splitBI (fun h=>?_) (fun h=>?_) | simp (config:={ maxSteps:=1000000 }) (disch:=first | assumption | omega | (simp; done) | fail) [Tryz.results42, *]))
     have HCE:Hide (((putR R (i * 2) [cv,.sl Bq 0 w.length w.length]).set (i * 2) fv).length=l.length * 2):=⟨by rw [List.length_set]; exact hpl⟩
     refine ih.out (l.length - (i+1)) _ _ (by omega) ⟨i+1,_,_,(putR R (i * 2) [cv,.sl Bq 0 w.length w.length]).set (i * 2) fv,by omega,rfl,rfl,?_,⟨fun b hb=>?_⟩,?_,?_,?_,?_,HCE.out,⟨?_⟩,⟨?_⟩,by simp [*],by simp [*],by simp [*],by simp [*],by simp [*],by simp⟩
     ·omega
     ·simp (disch:=omega) only [gput_lt]; rw [HG4.out b (by omega),HG3.out b (by omega)]; exact HGM.out b hb
     ·simp (disch:=omega) only [gput_lt]; exact hgn4
     ·simp (disch:=omega) only [gput_lt]; exact hgz4
     ·simp (disch:=omega) only [gput_ne]; exact hgo4
     ·simp (disch:=omega) only [gput_eq]
     ·rw [HSTEP.out]
      have hR3:i * 2+([cv,.sl Bq 0 w.length w.length] : List AV).length≤R.length:=hR2
      refine RowsF.upd (cs:=R) (HRF.out.keep (Nat.le_refl _) (by omega) (.inr (.inl rfl)) fun a h1 h2 h3=>mask_congr fun h4=>?_) (s1:=fv) (s2:=.sl Bq 0 w.length w.length) (by rw [HCE.out,hRl]) ?_ ?_ (fun j h1 h2=>?_) (HFW.out.safe (Nat.zero_le _) (Nat.le_refl _) (.inr (by omega)) fun a h1 h2=>?_) (SafeW.sl (own:=true) (z:=0) ?_ (runM_len _ _).symm (Nat.zero_le _) (by omega) (by omega))
      ·simp (disch:=omega) only [gput_ne]; rw [HG4.out a (by omega),HG3.out a (by omega)]
      ·rw [List.getElem?_set_self hpi]
      ·rw [List.getElem?_set_ne (by omega)]; exact HPB.out
      ·rw [List.getElem?_set_ne (by omega)]
       exact putR_ne hR3 (by simp; omega)
      ·rw [mask_ne (by omega)]; simp (disch:=omega) only [gput_ne]
      ·rw [mask_ne (by omega)]; simp (disch:=omega) only [gput_ne]; rw [HG4.out Bq (by omega)]; exact HBQ.out
     ·intro v hv
      rw [HTK.out] at hv
      rcases List.mem_append.1 hv with h | h
      ·exact HIN.out v h
      ·rw [List.mem_singleton.1 h]; exact HQ.out
    ·rw [hq] at HTI
     have hE1:ER=1:=by
      rw [HER.out]; unfold ofErr
      rw [HB.out,if_pos rfl,if_neg]
      intro h
      have:=List.all_eq_true.1 h w HMEM.out
      rw [hq] at this; cases this
     clear hq HER
     subst hE1
     iterate 8 (all_goals try (first | with_reducible refine splitI (fun h=>?_) (fun h=>?_) | with_reducible refine splitBI (fun h=>?_) (fun h=>?_) | simp (config:={ maxSteps:=1000000 }) (disch:=first | assumption | omega | (simp; done) | fail) [Tryz.results42, *]))
     refine WC.mono (HTI.out _ _ (by omega) fun b hb=>by simp (disch:=omega) only [gput_lt]) ?_
     rintro _ rfl
     iterate 8 (all_goals try (first | with_reducible refine splitI (fun h=>?_) (fun h=>?_) | with_reducible refine splitBI (fun h=>?_) (fun h=>?_) | simp (config:={ maxSteps:=1000000 }) (disch:=first | assumption | omega | (simp; done) | fail) [Tryz.results42, *]))
     refine ⟨_,_,_,⟨rfl,rfl,rfl⟩,by omega,fun b hb=>?_,rfl⟩
     simp (disch:=omega) only [gput_lt]
     exact HGM.out b hb
   ·have hltI2:¬(i:Int) < (l.length:Int):=by omega
    have hil:i=l.length:=by omega
    subst hil
    have hE0:ER=0:=by
     rw [HER.out]; unfold ofErr
     rw [HB.out,if_pos rfl,if_pos]
     rw [List.all_eq_true]
     intro w hw
     exact HIN.out w (by rw [List.take_length]; exact hw)
    clear HER
    subst hE0
    iterate 8 (all_goals try (first | with_reducible refine splitI (fun h=>?_) (fun h=>?_) | with_reducible refine splitBI (fun h=>?_) (fun h=>?_) | simp (config:={ maxSteps:=1000000 }) (disch:=first | assumption | omega | (simp; done) | fail) [Tryz.results42, *]))
    refine ⟨_,_,_,⟨rfl,rfl,rfl⟩,by omega,fun b hb=>?_,n+1+1,rfl,?_⟩
    ·simp (disch:=omega) only [gput_lt]; exact HGM.out b hb
    ·have h3:=HRF.out
     rw [logOf_all (Nat.le_refl _)] at h3
     have h4:=h3.extG (g':=gput gM (n+1) (some (.cells [.lit (.int .i64 M.inp),.lit (.int .i64 M.out),.sl (n+1+1) 0 l.length l.length] true 0))) fun a x h=>mask_put h
     exact ⟨R,.inr ⟨n+1+1,0,by omega,.inl ⟨l.length,by rw [List.length_map]⟩,R,true,0,(gput_ne (by omega)).trans hgR,by simp,by simp⟩,h4.rows⟩
  ·rw [hb] at HWI
   have hE3:ER=3:=by rw [HER.out]; unfold ofErr; rw [hb]; rfl
   clear hb HER
   subst hE3
   iterate 8 (all_goals try (first | with_reducible refine splitI (fun h=>?_) (fun h=>?_) | with_reducible refine splitBI (fun h=>?_) (fun h=>?_) | simp (config:={ maxSteps:=1000000 }) (disch:=first | assumption | omega | (simp; done) | fail) [Tryz.results42, *]))
   refine WC.mono (HWI.out _ _ (by omega) fun b hb=>by first | rfl | simp (disch:=omega) only [gput_lt]) ?_
   rintro _ rfl
   iterate 8 (all_goals try (first | with_reducible refine splitI (fun h=>?_) (fun h=>?_) | with_reducible refine splitBI (fun h=>?_) (fun h=>?_) | simp (config:={ maxSteps:=1000000 }) (disch:=first | assumption | omega | (simp; done) | fail) [Tryz.results42, *]))
   refine ⟨_,_,_,⟨rfl,rfl,rfl⟩,by omega,fun b hb=>?_,rfl⟩
   simp (disch:=omega) only [gput_lt]
   exact HG.out b hb
end Go.Ai
end
section
namespace Go.Ai
open Go.Proofs
set_option maxRecDepth 10000
set_option maxHeartbeats 40000000
theorem rOf_w {M:MachM} (hM:M.ok) (l:List (List Int)) (hl:l.length≤20) (hw:∀ w∈l,w.length≤300) (g:Nat→Option Blk) (n:Nat) (ms:List AV) (lv:AV) (hr:RepM g n M ms) (hV:ListV g n l lv) :
  WC 3 Tryz.prog 43 [.agg ms,lv] ⟨.fn g,n⟩ fun r=>∃ cs g' n',r=.ret (.tup [.agg cs,.lit (.int .i64 (ofErr M.inp l))]) ⟨.fn g',n'⟩∧n≤n'∧(∀ b,b < n→g' b=g b) ∧
   ((¬ofErr M.inp l=0∧cs=[.lit (.int .i64 0),.lit (.int .i64 0),.lit (.slice none 0 0)])∨(ofErr M.inp l=0∧∃ sv,cs=[.lit (.int .i64 M.inp),.lit (.int .i64 M.out),sv]∧LogR g' n' (l.map fun w=>(w,runM M 0 w)) sv)):=by
 have hlen:=@lenV Tryz.prog _ _ _ _ _ hV.choose_spec.1
 obtain ⟨rv,rfl,h1v⟩:=hr.one
 have h1l:=hV.choose_spec.1.one
 have honem:allOne [.lit (.int .i64 M.inp),.lit (.int .i64 M.out),rv]=true:=by simp [h1v]
 have HR:=Hide.mk hr
 have HV:=Hide.mk hV
 have HM:=Hide.mk hM
 have HW:=Hide.mk hw
 clear hr hV hM hw
 refine WC.enterP (noO_ok _ _) hG pl43 Tryz.func43 rfl (by decide +kernel) (Nat.le_of_ble_eq_true (by kernel_rfl)) ?_
 iterate 8 (all_goals try (first | with_reducible refine splitI (fun h=>?_) (fun h=>?_) | with_reducible refine splitBI (fun h=>?_) (fun h=>?_) | simp (config:={ maxSteps:=1000000 }) (disch:=first | assumption | omega | (simp; done) | fail) [Tryz.results43, *]))
 have hwi:withinB M.inp M.out (l.map fun w=>(w,([] : List Int)))=l.all fun w=>decide (w.length≤256):=by
  unfold withinB
  rw [decide_eq_true HM.out.2.1,decide_eq_true HM.out.2.2.2.1,Bool.and_true,Bool.and_true,List.all_map]
  rfl
 refine LX.ind (fun m gf H'=>∃ (k n' : Nat) (gL:Nat→Option Blk) (B:Nat) (sv:AV) (cs:List AV),k≤l.length∧m=l.length - k∧H'=⟨.fn gL,n'⟩∧n+1+1+1≤n'∧Hide (∀ b,b < n→gL b=g b)∧gL n=some (.cells [.lit (.int .i64 M.inp),.lit (.int .i64 M.out),rv] true 0)∧gL (n+1)=some (.cells [.lit (.int .i64 0),.lit (.int .i64 0),.lit (.slice none 0 0)] true 0) ∧
  gL (n+1+1)=some (.cells [.lit (.int .i64 M.inp),.lit (.int .i64 M.out),sv] true 0)∧Hide (GrowV gL (n+1+1+1) n' B sv k 2 cs)∧Hide (RowsF g 0 n n ((l.take k).map fun w=>(w,[])) cs) ∧
  gf 1=some lv∧gf 2=some (.ptr n 0)∧gf 4=some (.ptr (n+1) 0)∧gf 6=some (.ptr (n+1+1) 0)∧gf 7=some (.lit (.int .i64 k))) (m0:=l.length) ?_ ?_
 ·refine ⟨0,_,_,0,.lit (.slice none 0 0),[],Nat.zero_le _,rfl,rfl,Nat.le_refl _,⟨fun b hb=>?_⟩,?_,?_,?_,⟨.inl ⟨rfl,rfl,rfl⟩⟩,⟨RowsF.nil⟩,by simp,by simp,by simp,by simp,by simp⟩
  ·simp (disch:=omega) only [gput_lt]
  ·simp (disch:=omega) only [gput_lt,gput_eq]
  ·simp (disch:=omega) only [gput_lt,gput_eq]
  ·simp (disch:=omega) only [gput_lt,gput_eq]
 rintro m gf H' ⟨k,n',gL,B,sv,cs,hk,rfl,rfl,hn',HG,hgn,hgz,hgo,HGR,HRF,w1,w2,w4,w6,w7⟩ ih
 have h1sv:oneC sv=true:=HGR.out.one
 have honeV:allOne [.lit (.int .i64 M.inp),.lit (.int .i64 M.out),sv]=true:=by simp [h1sv]
 refine LX.roundP (noO_ok _ _) hG pl43 (by decide +kernel) ?_
 by_cases hlt:k < l.length
 ·have hltI:(k:Int) < (l.length:Int):=by omega
  obtain ⟨a2,off,q,ha2,hia,hcell0,hrw⟩:=HV.out.at hlt
  have h1q:oneC q=true:=hrw.one
  have hcq:cellsOf q=[q]:=hrw.cell
  have hcell:loadB (some (false,1)) (gL a2) (off+k)=some q:=(congrArg (fun z=>loadB (some (false,1)) z (off+k)) (HG.out a2 ha2)).trans hcell0
  have HTK:Hide ((l.take (k+1)).map (fun w=>(w,([] : List Int)))=(l.take k).map (fun w=>(w,[]))++[(l[k],[])]):=⟨by rw [take_snoc hlt,List.map_append]; rfl⟩
  have HROW:Hide (RowsF g 0 n n ((l.take (k+1)).map fun w=>(w,[])) (cs++[q,.lit (.slice none 0 0)])):=⟨by
   rw [HTK.out]
   exact RowsF.snoc HRF.out (hrw.safe (Nat.le_refl _) (Nat.le_refl _) fun a ha=>rfl) SafeW.nil⟩
  have hcl:cs.length=k * 2:=by rw [HRF.out.1,List.length_map,List.length_take,Nat.min_eq_left hk]
  have hone2:allOne [q,.lit (.slice none 0 0)]=true:=by simp [h1q]
  clear hcell0 hrw
  rcases HGR.out with ⟨hk0,hc0,hs0⟩ | ⟨hk0,hs0,hB1,hB2,hB3,hB4⟩
  ·subst hs0
   have HZ:=Hide.mk (And.intro hk0 hc0)
   clear hk0 hc0
   iterate 8 (all_goals try (first | with_reducible refine splitI (fun h=>?_) (fun h=>?_) | with_reducible refine splitBI (fun h=>?_) (fun h=>?_) | simp (config:={ maxSteps:=1000000 }) (disch:=first | assumption | omega | (simp; done) | fail) [Tryz.results43, *]))
   refine ih.out (l.length - (k+1)) _ _ (by omega) ⟨k+1,n'+1+1,_,n'+1,.slq (n'+1) 0 (k+1) 0,cs++[q,.lit (.slice none 0 0)],by omega,rfl,rfl,by omega,⟨fun b hb=>?_⟩,?_,?_,?_,⟨.mk ?_ (by omega) (by omega) (by rw [List.length_append,hcl]; simp; omega)⟩,HROW,by simp [*],by simp [*],by simp [*],by simp [*],by simp⟩
   ·simp (disch:=omega) only [gput_lt,gput_ne]; exact HG.out b hb
   ·simp (disch:=omega) only [gput_lt,gput_ne]; exact hgn
   ·simp (disch:=omega) only [gput_lt,gput_ne]; exact hgz
   ·rw [HZ.out.1]; simp (disch:=omega) only [gput_lt,gput_ne,gput_eq]
   ·rw [HZ.out.2]; simp (disch:=omega) only [gput_lt,gput_ne,gput_eq]; rfl
  ·subst hs0
   have hXB:∀ (G:Nat→Option Blk) (x:Option Blk),gput G B x (n+1+1)=G (n+1+1):=fun G x=>gput_ne (by omega)
   iterate 8 (all_goals try (first | with_reducible refine splitI (fun h=>?_) (fun h=>?_) | with_reducible refine splitBI (fun h=>?_) (fun h=>?_) | simp (config:={ maxSteps:=1000000 }) (disch:=first | assumption | omega | (simp; done) | fail) [Tryz.results43, *]))
   refine ih.out (l.length - (k+1)) _ _ (by omega) ⟨k+1,n'+1+1,_,n'+1,.slq (n'+1) 0 (k+1) 0,cs++[q,.lit (.slice none 0 0)],by omega,rfl,rfl,by omega,⟨fun b hb=>?_⟩,?_,?_,?_,⟨.mk ?_ (by omega) (by omega) (by rw [List.length_append,hcl]; simp; omega)⟩,HROW,by simp [*],by simp [*],by simp [*],by simp [*],by simp⟩
   ·simp (disch:=omega) only [gput_lt,gput_ne]; exact HG.out b hb
   ·simp (disch:=omega) only [gput_lt,gput_ne]; exact hgn
   ·simp (disch:=omega) only [gput_lt,gput_ne]; exact hgz
   ·simp (disch:=omega) only [gput_lt,gput_ne,gput_eq]
   ·simp (disch:=omega) only [gput_lt,gput_ne,gput_eq]
 ·have hltI:¬(k:Int) < (l.length:Int):=by omega
  have hkl:k=l.length:=by omega
  subst hkl
  have hlog:∀ (gX:Nat→Option Blk) (n2:Nat),n'≤n2→(∀ b,b < n'→gX b=gL b)→LogR gX n2 (l.map fun w=>(w,([] : List Int))) sv:=fun gX n2 h1 h2=>by
   have h3:=HRF.out
   rw [List.take_length] at h3
   have h4:RowsF gX 0 n2 n (l.map fun w=>(w,[])) cs:=h3.keep (Nat.le_refl _) (by omega) (.inr (.inl rfl)) fun a h4 h5 h6=>(h2 a (by omega)).trans (HG.out a h5)
   refine ⟨cs,?_,h4.rows⟩
   rw [List.length_map]
   refine SliceV.ext (b:=n') h1 (fun a x ha hx=>?_) HGR.out.slice
   split at hx
   ·rename_i h5; exact (h2 a (by omega)).trans hx
   ·cases hx
  have HWI:=Hide.mk fun (gX:Nat→Option Blk) (n2:Nat) (h1:n'≤n2) (h2:∀ b,b < n'→gX b=gL b)=>rwithin_w M.inp M.out (l.map fun w=>(w,([] : List Int))) (by rw [List.length_map]; omega) (fun t ht=>by obtain ⟨w,hw,rfl⟩:=List.mem_map.1 ht; exact HW.out w hw) gX n2 sv (hlog gX n2 h1 h2)
  rw [hwi] at HWI
  clear hwi ih hlog
  obtain ⟨ER,hER⟩ : ∃ e,e=ofErr M.inp l:=⟨_,rfl⟩
  rw [← hER]
  have HER:=Hide.mk hER
  clear hER
  have hallb:l.all (fun w=>decide (w.length≤256))=true∨l.all (fun w=>decide (w.length≤256))=false:=by cases l.all fun w=>decide (w.length≤256) <;> simp
  rcases hallb with hb | hb
  ·rw [hb] at HWI
   have HB:=Hide.mk hb
   clear hb
   iterate 8 (all_goals try (first | with_reducible refine splitI (fun h=>?_) (fun h=>?_) | with_reducible refine splitBI (fun h=>?_) (fun h=>?_) | simp (config:={ maxSteps:=1000000 }) (disch:=first | assumption | omega | (simp; done) | fail) [Tryz.results43, *]))
   refine WC.mono (HWI.out _ _ (by omega) fun b hb=>by first | rfl | simp (disch:=omega) only [gput_lt]) ?_
   rintro _ rfl
   iterate 8 (all_goals try (first | with_reducible refine splitI (fun h=>?_) (fun h=>?_) | with_reducible refine splitBI (fun h=>?_) (fun h=>?_) | simp (config:={ maxSteps:=1000000 }) (disch:=first | assumption | omega | (simp; done) | fail) [Tryz.results43, *]))
   by_cases h0:l.length=0
   ·have hl0:l=[]:=List.length_eq_zero_iff.1 h0
    have hE0:ER=0:=by rw [HER.out,hl0]; rfl
    have hs0:sv=.lit (.slice none 0 0):=by
     rcases HGR.out with ⟨_,_,h⟩ | ⟨h,_⟩
     ·exact h
     ·omega
    clear HER
    subst hE0 hs0
    have h0I:(l.length:Int)=0:=by omega
    refine LX.roundP (noO_ok _ _) hG pl43 (by decide +kernel) ?_
    iterate 8 (all_goals try (first | with_reducible refine splitI (fun h=>?_) (fun h=>?_) | with_reducible refine splitBI (fun h=>?_) (fun h=>?_) | simp (config:={ maxSteps:=1000000 }) (disch:=first | assumption | omega | (simp; done) | fail) [Tryz.results43, *]))
    refine ⟨_,_,_,⟨rfl,rfl,rfl⟩,by omega,fun b hb=>?_,_,rfl,?_⟩
    ·simp (disch:=omega) only [gput_lt]; exact HG.out b hb
    ·first | (rw [hl0]; exact ⟨[],.inl ⟨rfl,rfl,.inl rfl⟩,rfl,fun k hk=>by cases hk⟩) | exact ⟨[],.inl ⟨rfl,rfl,.inl rfl⟩,rfl,fun k hk=>by cases hk⟩
   ·obtain ⟨hsv,hB1,hB2,hB3,hB4⟩ : sv=.slq B 0 l.length 0∧n+1+1+1≤B∧B < n'∧gL B=some (.cells cs true 2)∧cs.length=l.length * 2:=by
     rcases HGR.out with ⟨h,_⟩ | ⟨_,h1,h2,h3,h4,h5⟩
     ·omega
     ·exact ⟨h1,h2,h3,h4,h5⟩
    subst hsv
    have hpos:0 < l.length:=by omega
    refine LX.ind (fun m gf H'=>∃ (i n2:Nat) (gM:Nat→Option Blk) (R:List AV),i≤l.length∧m=l.length - i∧H'=⟨.fn gM,n2⟩∧n'≤n2∧Hide (∀ b,b < n→gM b=g b)∧gM n=some (.cells [.lit (.int .i64 M.inp),.lit (.int .i64 M.out),rv] true 0)∧gM (n+1)=some (.cells [.lit (.int .i64 0),.lit (.int .i64 0),.lit (.slice none 0 0)] true 0) ∧
     gM (n+1+1)=some (.cells [.lit (.int .i64 M.inp),.lit (.int .i64 M.out),.slq B 0 l.length 0] true 0)∧gM B=some (.cells R true 2)∧R.length=l.length * 2∧Hide (RowsF (mask (n+1) gM) 0 n2 B (logOf M l i) R)∧Hide (∀ w∈l.take i,inW w M.inp=true) ∧
     gf 1=some lv∧gf 2=some (.ptr n 0)∧gf 4=some (.ptr (n+1) 0)∧gf 6=some (.ptr (n+1+1) 0)∧gf 8=some (.lit (.int .i64 i))) (m0:=l.length) ?_ ?_
    ·refine ⟨0,_,_,cs,Nat.zero_le _,rfl,rfl,Nat.le_refl _,HG,hgn,hgz,hgo,hB3,hB4,⟨?_⟩,⟨by simp⟩,by simp [*],by simp [*],by simp [*],by simp [*],by simp⟩
     rw [logOf_zero]
     have h3:=HRF.out
     rw [List.take_length] at h3
     exact h3.keep (Nat.le_refl _) (by omega) (.inl (by omega)) fun a h4 h5 h6=>(mask_ne (by omega)).trans (HG.out a h5)
    clear HWI HRF w1 w2 w4 w6 w7 hgn hgz hgo hB3 hB4 HGR
    rintro m gf H' ⟨i,n2,gM,R,hi,rfl,rfl,hn2,HGM,hgn,hgz,hgo,hgR,hRl,HRF,HIN,w1,w2,w4,w6,w8⟩ ih
    refine LX.roundP (noO_ok _ _) hG pl43 (by decide +kernel) ?_
    by_cases hlt:i < l.length
    ·have hltI2:(i:Int) < (l.length:Int):=by omega
     obtain ⟨s1,s2,e1,e2,r1,r2⟩:=HRF.out.2 i (by rw [logOf_len]; exact hlt)
     rw [logOf_at hlt] at r1 r2
     have HE1:=Hide.mk e1
     have HS1:=Hide.mk r1
     obtain ⟨a2,off,q,ha2,hia,hcell0,hrw⟩:=HV.out.at hlt
     have h1q:oneC q=true:=hrw.one
     have hcell:loadB (some (false,1)) (gM a2) (off+i)=some q:=(congrArg (fun z=>loadB (some (false,1)) z (off+i)) (HGM.out a2 ha2)).trans hcell0
     have hwl:=HW.out _ (List.getElem_mem hlt)
     have HTK:Hide (l.take (i+1)=l.take i++[l[i]]):=⟨take_snoc hlt⟩
     have HSTEP:Hide (logOf M l (i+1)=(logOf M l i).set i (l[i],runM M 0 l[i])):=⟨logOf_step hlt⟩
     have HMEM:=Hide.mk (List.getElem_mem hlt)
     have HRW:=Hide.mk hrw
     clear e1 e2 r1 r2 hcell0 hrw
     generalize l[i]=w at *
     have HTI:=Hide.mk fun (gX:Nat→Option Blk) (n3:Nat) (h1:n2≤n3) (h2:∀ b,b < n2→gX b=gM b)=>rinputs_w w (by omega) M.inp gX n3 q (SliceV.mono (by omega) (fun b hb=>(h2 b (by omega)).trans (HGM.out b hb)) HRW.out)
     have hall:(w.all fun i=>decide (0≤i∧i < M.inp))=inW w M.inp:=rfl
     rw [hall] at HTI
     clear hall
     have hin:inW w M.inp=true∨inW w M.inp=false:=by cases inW w M.inp <;> simp
     rcases hin with hq | hq
     ·have HRN:=Hide.mk fun (gX:Nat→Option Blk) (n3:Nat) (h1:n2≤n3) (h2:∀ b,b < n2→gX b=gM b)=>rRun_w HM.out w (by omega) hq gX n3 [.lit (.int .i64 M.inp),.lit (.int .i64 M.out),rv] q (HR.out.mono (by omega) fun b hb=>(h2 b (by omega)).trans (HGM.out b hb)) (SliceV.mono (by omega) (fun b hb=>(h2 b (by omega)).trans (HGM.out b hb)) HRW.out)
      rw [hq] at HTI
      have HQ:=Hide.mk hq
      clear hq
      iterate 8 (all_goals try (first | with_reducible refine splitI (fun h=>?_) (fun h=>?_) | with_reducible refine splitBI (fun h=>?_) (fun h=>?_) | simp (config:={ maxSteps:=1000000 }) (disch:=first | assumption | omega | (simp; done) | fail) [Tryz.results43, *]))
      refine WC.mono (HTI.out _ _ (by omega) fun b hb=>by first | rfl | simp (disch:=omega) only [gput_lt]) ?_
      rintro _ rfl
      iterate 8 (all_goals try (first | with_reducible refine splitI (fun h=>?_) (fun h=>?_) | with_reducible refine splitBI (fun h=>?_) (fun h=>?_) | simp (config:={ maxSteps:=1000000 }) (disch:=first | assumption | omega | (simp; done) | fail) [Tryz.results43, *]))
      refine WC.mono (HRN.out _ _ (by omega) fun b hb=>by first | rfl | simp (disch:=omega) only [gput_lt]) ?_
      rintro _ ⟨zv,g3,n3,rfl,hn3,hg3,hfz⟩
      have HG3:=Hide.mk hg3
      have HFZ:=Hide.mk hfz
      have h1z:oneC zv=true:=hfz.rep.one
      have hcz:cellsOf zv=[zv]:=hfz.rep.cell
      have hgn3:=(hg3 n (by omega)).trans hgn
      have hgz3:=(hg3 (n+1) (by omega)).trans hgz
      have hgR3:=(hg3 B (by omega)).trans hgR
      have hgo3:=(hg3 (n+1+1) (by omega)).trans hgo
      have hil:i * 2+1 < R.length:=by omega
      clear hg3 hfz hgn hgz hgR hgo
      iterate 8 (all_goals try (first | with_reducible refine splitI (fun h=>?_) (fun h=>?_) | with_reducible refine splitBI (fun h=>?_) (fun h=>?_) | simp (config:={ maxSteps:=1000000 }) (disch:=first | assumption | omega | (simp; done) | fail) [Tryz.results43, *]))
      have HCE:Hide ((R.set (i * 2+1) zv).length=l.length * 2):=⟨by rw [List.length_set]; exact hRl⟩
      refine ih.out (l.length - (i+1)) _ _ (by omega) ⟨i+1,_,_,R.set (i * 2+1) zv,by omega,rfl,rfl,?_,⟨fun b hb=>?_⟩,?_,?_,?_,?_,HCE.out,⟨?_⟩,⟨?_⟩,by simp [*],by simp [*],by simp [*],by simp [*],by simp⟩
      ·omega
      ·simp (disch:=omega) only [gput_lt]; rw [HG3.out b (by omega)]; exact HGM.out b hb
      ·simp (disch:=omega) only [gput_lt]; exact hgn3
      ·simp (disch:=omega) only [gput_lt]; exact hgz3
      ·simp (disch:=omega) only [gput_lt]; exact hgo3
      ·simp (disch:=omega) only [gput_eq]
      ·rw [HSTEP.out]
       refine RowsF.upd (cs:=R) (HRF.out.keep (Nat.le_refl _) (by omega) (.inr (.inl rfl)) fun a h1 h2 h3=>mask_congr fun h4=>?_) (s1:=s1) (s2:=zv) (by rw [HCE.out,hRl]) ?_ ?_ (fun j h1 h2=>?_) (HS1.out.keep (Nat.zero_le _) (by omega) (.inr (.inl rfl)) fun a h1 h2 h3=>mask_congr fun h4=>?_) (HFZ.out.safe (Nat.zero_le _) (Nat.le_refl _) (.inr (by omega)) fun a h1 h2=>?_)
       ·simp (disch:=omega) only [gput_ne]; exact HG3.out a h2
       ·rw [List.getElem?_set_ne (by omega)]; exact HE1.out
       ·rw [List.getElem?_set_self hil]
       ·rw [List.getElem?_set_ne (by omega)]
       ·simp (disch:=omega) only [gput_ne]; exact HG3.out a h2
       ·rw [mask_ne (by omega)]; simp (disch:=omega) only [gput_ne]
      ·intro v hv
       rw [HTK.out] at hv
       rcases List.mem_append.1 hv with h | h
       ·exact HIN.out v h
       ·rw [List.mem_singleton.1 h]; exact HQ.out
     ·rw [hq] at HTI
      have hE1:ER=1:=by
       rw [HER.out]; unfold ofErr
       rw [HB.out,if_pos rfl,if_neg]
       intro h
       have:=List.all_eq_true.1 h w HMEM.out
       rw [hq] at this; cases this
      clear hq HER
      subst hE1
      iterate 8 (all_goals try (first | with_reducible refine splitI (fun h=>?_) (fun h=>?_) | with_reducible refine splitBI (fun h=>?_) (fun h=>?_) | simp (config:={ maxSteps:=1000000 }) (disch:=first | assumption | omega | (simp; done) | fail) [Tryz.results43, *]))
      refine WC.mono (HTI.out _ _ (by omega) fun b hb=>by first | rfl | simp (disch:=omega) only [gput_lt]) ?_
      rintro _ rfl
      iterate 8 (all_goals try (first | with_reducible refine splitI (fun h=>?_) (fun h=>?_) | with_reducible refine splitBI (fun h=>?_) (fun h=>?_) | simp (config:={ maxSteps:=1000000 }) (disch:=first | assumption | omega | (simp; done) | fail) [Tryz.results43, *]))
      refine ⟨_,_,_,⟨rfl,rfl,rfl⟩,by omega,fun b hb=>?_,rfl⟩
      simp (disch:=omega) only [gput_lt]
      exact HGM.out b hb
    ·have hltI2:¬(i:Int) < (l.length:Int):=by omega
     have hil:i=l.length:=by omega
     subst hil
     have hE0:ER=0:=by
      rw [HER.out]; unfold ofErr
      rw [HB.out,if_pos rfl,if_pos]
      rw [List.all_eq_true]
      intro w hw
      exact HIN.out w (by rw [List.take_length]; exact hw)
     clear HER
     subst hE0
     iterate 8 (all_goals try (first | with_reducible refine splitI (fun h=>?_) (fun h=>?_) | with_reducible refine splitBI (fun h=>?_) (fun h=>?_) | simp (config:={ maxSteps:=1000000 }) (disch:=first | assumption | omega | (simp; done) | fail) [Tryz.results43, *]))
     refine ⟨_,_,_,⟨rfl,rfl,rfl⟩,by omega,fun b hb=>?_,_,rfl,?_⟩
     ·simp (disch:=omega) only [gput_lt]; exact HGM.out b hb
     ·have h3:=HRF.out
      rw [logOf_all (Nat.le_refl _)] at h3
      have h4:=h3.extG (g':=gput gM (n+1) (some (.cells [.lit (.int .i64 M.inp),.lit (.int .i64 M.out),.slq B 0 l.length 0] true 0))) fun a x h=>mask_put h
      exact ⟨R,.inr ⟨B,0,by omega,.inr ⟨0,by rw [List.length_map]⟩,R,true,2,(gput_ne (by omega)).trans hgR,by simp,by simp⟩,h4.rows⟩
  ·rw [hb] at HWI
   have hE3:ER=3:=by rw [HER.out]; unfold ofErr; rw [hb]; rfl
   clear hb HER
   subst hE3
   iterate 8 (all_goals try (first | with_reducible refine splitI (fun h=>?_) (fun h=>?_) | with_reducible refine splitBI (fun h=>?_) (fun h=>?_) | simp (config:={ maxSteps:=1000000 }) (disch:=first | assumption | omega | (simp; done) | fail) [Tryz.results43, *]))
   refine WC.mono (HWI.out _ _ (by omega) fun b hb=>by first | rfl | simp (disch:=omega) only [gput_lt]) ?_
   rintro _ rfl
   iterate 8 (all_goals try (first | with_reducible refine splitI (fun h=>?_) (fun h=>?_) | with_reducible refine splitBI (fun h=>?_) (fun h=>?_) | simp (config:={ maxSteps:=1000000 }) (disch:=first | assumption | omega | (simp; done) | fail) [Tryz.results43, *]))
   refine ⟨_,_,_,⟨rfl,rfl,rfl⟩,by omega,fun b hb=>?_,rfl⟩
   simp (disch:=omega) only [gput_lt]
   exact HG.out b hb
end Go.Ai
end
