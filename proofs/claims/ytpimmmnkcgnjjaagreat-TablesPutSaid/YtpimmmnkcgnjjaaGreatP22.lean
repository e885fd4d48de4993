/- A small verified interpreter over names, its proofs, and what was proved with it. No condition. -/
import Derived.Test.YtpimmmnkcgnjjaaGreatP11
import Derived.Test.YtpimmmnkcgnjjaaGreatP21
import Derived.Test.YtpimmmnkcgnjjaaGreatP05
set_option linter.all false
set_option linter.deprecated false
section
namespace Go.Ai
set_option maxRecDepth 10000
def growP (q:Nat) (S E:List (List Int)) (w:List Int) : Int :=
 if ∃ h:0 < w.length,(0≤w[w.length - 1]∧w[w.length - 1] < (q:Int))∧w.take (w.length - 1)∈S then (if w∈S then 8 else limErr (S++[w]) E) else 1
theorem grow_eq {M:MachM} {S E:List (List Int)} {L:List (List Int×List Int)} (h:QOK M S E L) (h3:M.inp≤3) (w:List Int) : growP M.inp.toNat S E w=growErr M.inp.toNat S w:=by
 unfold growP growErr
 by_cases hk:w∈kidsM M.inp.toNat S
 ·rw [if_pos (kids_iff.1 hk),if_pos hk]
  by_cases hs:w∈S
  ·rw [if_pos hs,if_pos hs]
  ·rw [if_neg hs,if_neg hs]
   have h1:=h.s.len
   have h2:=h.e.len
   have h4:longM E≤4:=longM_leT fun x hx=>(h.e.wl x hx).2.1
   have h5:w.length≤6:=(words_ok h.s w (List.mem_append_right _ hk)).1
   have h6:longM (S++[w])≤6:=longM_leT fun x hx=>by
    rcases List.mem_append.1 hx with h7 | h7
    ·have:=(h.s.wl x h7).1; omega
    ·rw [List.mem_singleton.1 h7]; exact h5
   unfold limErr
   rw [if_neg (by rw [List.length_append,List.length_singleton]; omega)]
 ·rw [if_neg (fun hh=>hk (kids_iff.2 hh)),if_neg hk]
def widenP (q:Nat) (S E:List (List Int)) (w:List Int) : Int :=
 if wErr w q≠0 then wErr w q else if w.length=0 then 1 else if w∈E then 8 else limErr S (E++[w])
def widenL (q:Nat) (S E:List (List Int)) (w:List Int) : Int :=
 if w.length=0 then 1 else if w.length≤256∧inW w q=false then 1 else if w∈E then 8 else if w.length+1+longM S > 256 then 3 else 0
theorem widen_eq {M:MachM} (hM:M.ok) {S E:List (List Int)} {L:List (List Int×List Int)} (h:QOK M S E L) (h3:M.inp≤3) (w:List Int) : widenP M.inp.toNat S E w=widenL M.inp.toNat S E w:=by
 have h0:=hM.1
 have h1:=h.s.len
 have h2:=h.e.len
 have h4:longM E≤4:=longM_leT fun x hx=>(h.e.wl x hx).2.1
 have h5:longM S≤5:=longM_leT fun x hx=>(h.s.wl x hx).1
 have h6:=longM_snoc E w
 have h7:w∈E→w.length≤4:=fun hx=>(h.e.wl w hx).2.1
 unfold widenP widenL wErr
 by_cases hl:w.length > 256
 ·rw [if_pos (show (M.inp.toNat:Int) > 16∨w.length > 256 from .inr hl),if_pos (by decide),if_neg (by omega),if_neg (by omega),if_neg (fun hx=>by have:=h7 hx; omega),if_pos (by omega)]
 ·rw [if_neg (show ¬((M.inp.toNat:Int) > 16∨w.length > 256) by omega)]
  by_cases hin:inW w M.inp.toNat=false
  ·rw [if_pos (show (M.inp.toNat:Int) < 1∨inW w M.inp.toNat=false from .inr hin),if_pos (by decide)]
   by_cases hz:w.length=0
   ·rw [if_pos hz]
   ·rw [if_neg hz,if_pos ⟨by omega,hin⟩]
  ·rw [if_neg (show ¬((M.inp.toNat:Int) < 1∨inW w M.inp.toNat=false) by rintro (h8 | h8); omega; exact hin h8),if_neg (show ¬(0:Int)≠0 by omega)]
   have hnn:¬(w.length≤256∧inW w M.inp.toNat=false):=fun hh=>hin hh.2
   by_cases hz:w.length=0
   ·rw [if_pos hz,if_pos hz]
   ·rw [if_neg hz,if_neg hz,if_neg hnn]
    by_cases he:w∈E
    ·rw [if_pos he,if_pos he]
    ·rw [if_neg he,if_neg he]
     unfold limErr
     rw [List.length_append,List.length_singleton,h6]
     by_cases hb:w.length+1+longM S > 256
     ·rw [if_pos hb,if_pos (by omega)]
     ·rw [if_neg hb,if_neg (by omega)]
end Go.Ai
end
section
namespace Go.Ai
open Go.Proofs
set_option maxRecDepth 10000
set_option maxHeartbeats 40000000
def zeroTab:AV:=.agg [.lit (.int .i64 0),.lit (.int .i64 0),.lit (.slice none 0 0),.lit (.slice none 0 0),.lit (.int .i64 0),.lit (.int .i64 0),.lit (.slice none 0 0)]
def TabRes (I:Nat) (O:Int) (er:Int) (S E:List (List Int)) (T:List (List (Int×Int))) (g:Nat→Option Blk) (n:Nat) (rv:AV) : Prop :=
 (er≠0∧rv=zeroTab)∨(er=0∧∃ sv ev tv,rv=.agg [.lit (.int .i64 I),.lit (.int .i64 O),sv,ev,.lit (.int .i64 I),.lit (.int .i64 O),tv]∧TabV g n S E T sv ev tv∧TightV S.length sv∧TightV E.length ev)
theorem ListC.snocF {g:Nat→Option Blk} {n B c:Nat} {l:List (List Int)} {svs:List AV} {w:List Int} {q:AV} (hr:RowsW g n l svs) (hc:∀ v∈svs,CapV v) (hq:RepW g n w q) (hcq:CapV q) {z:Nat} (hb:g B=some (.cells (svs++[q]) true z)) (hB:B < n) {k:Nat} (hk:k=l.length+1) : ListC g n (l++[w]) (.sl B 0 k c):=by
 subst hk
 refine ⟨svs++[q],?_,hr.snoc hq,fun v hv=>?_⟩
 ·have h:=sliceV_all (g:=g) (n:=n) (len:=l.length+1) (c:=c) hb hB
  rw [show (l++[w]).length=l.length+1 by simp]
  exact h
 ·rcases List.mem_append.1 hv with h | h
  ·exact hc v h
  ·rw [List.mem_singleton.1 h]; exact hcq
theorem Grow36_w {I:Nat} {O:Int} {S E:List (List Int)} {T:List (List (Int×Int))} (hp:TabP I O S E T) {w:List Int} (hwl:w.length≤300) (g:Nat→Option Blk) (n:Nat) (sv ev tv wv:AV) (hT:TabV g n S E T sv ev tv) (hw:RepW g n w wv) (hcw:CapV wv) :
  WC 0 Tryz.prog 38 [.agg [.lit (.int .i64 I),.lit (.int .i64 O),sv,ev,.lit (.int .i64 I),.lit (.int .i64 O),tv],wv] ⟨.fn g,n⟩ fun r=>∃ rv g' n',r=.ret (.tup [rv,.lit (.int .i64 (growP I S E w))]) ⟨.fn g',n'⟩∧n≤n'∧(∀ b,b < n→g' b=g b)∧TabRes I O (growP I S E w) (S++[w]) E T g' n' rv:=by
 have h1s:=hT.s.one
 have h1e:=hT.e.one
 have h1t:=hT.t.choose_spec.1.one
 have hone:allOne [.lit (.int .i64 I),.lit (.int .i64 O),sv,ev,.lit (.int .i64 I),.lit (.int .i64 O),tv]=true:=by simp [h1s,h1e,h1t]
 have hlen:=@lenV Tryz.prog _ _ _ _ _ hw
 have hi1:=hp.i1
 have hi2:=hp.i2
 have HCK:=Hide.mk fun (gX:Nat→Option Blk) (n2:Nat) (hn:n≤n2) (hX:∀ b,b < n→gX b=g b)=>hp.check (hT.mono hn hX)
 have HHS:=Hide.mk fun (x:List Int) (hx:x.length≤300) (xv:AV) (hxr:RepW g n x xv) (gX:Nat→Option Blk) (n2:Nat) (hn:n≤n2) (hX:∀ b,b < n→gX b=g b)=>thas_w (l:=S) (by have:=hp.sl; omega) (w:=x) (by omega) (fun y hy=>by have:=(hp.sw y hy).1; omega) gX n2 sv xv (hT.mono hn hX).s.listV (SliceV.mono hn hX hxr)
 have HCO:=Hide.mk fun (gX:Nat→Option Blk) (n2:Nat) (hn:n≤n2) (hX:∀ b,b < n→gX b=g b)=>copied_w (I:=I) hi1 (by omega) hp.s0 (by have:=hp.sl; omega) (fun y hy=>by have:=(hp.sw y hy).1; omega) (E:=E) (T:=T) hp.e0 (by have:=hp.el; omega) (fun y hy=>by have:=(hp.ew y hy).2.1; omega) hp.t0 (by have:=hp.tl; omega) (fun r hr=>(hp.ok r hr).1) (.lit (.int .i64 I)) (.lit (.int .i64 O)) (.lit (.int .i64 I)) (.lit (.int .i64 O)) (by simp) gX n2 sv ev tv (hT.mono hn hX)
 have HW:=Hide.mk hw
 have HP:=Hide.mk hp
 obtain ⟨er,her⟩ : ∃ x,x=growP I S E w:=⟨_,rfl⟩
 rw [← her]
 have HER:=Hide.mk her
 clear her
 by_cases hw0:w.length=0
 ·have he:er=1:=by rw [HER.out]; unfold growP; rw [if_neg (by rintro ⟨h,_⟩; omega)]
  subst he
  clear hT hw hp
  refine WC.enterP (noO_ok _ _) hG pl38 Tryz.func38 rfl (by decide +kernel) (Nat.le_of_ble_eq_true (by kernel_rfl)) ?_
  iterate 8 (all_goals try (first | with_reducible refine splitI (fun h=>?_) (fun h=>?_) | with_reducible refine splitBI (fun h=>?_) (fun h=>?_) | simp (config:={ maxSteps:=1000000 }) (disch:=first | assumption | omega | (simp; done) | fail) [Tryz.results38, *]))
  refine WC.mono (HCK.out _ _ (by omega) fun b hb=>?_) ?_
  ·simp (disch:=omega) only [gput_lt]
  rintro _ rfl
  iterate 8 (all_goals try (first | with_reducible refine splitI (fun h=>?_) (fun h=>?_) | with_reducible refine splitBI (fun h=>?_) (fun h=>?_) | simp (config:={ maxSteps:=1000000 }) (disch:=first | assumption | omega | (simp; done) | fail) [Tryz.results38, *]))
  exact ⟨_,_,_,⟨rfl,rfl,rfl⟩,by omega,fun b hb=>by simp (disch:=omega) only [gput_lt],.inl ⟨by decide,rfl⟩⟩
 obtain ⟨m,hm⟩ : ∃ m,w.length=m+1:=⟨w.length - 1,by omega⟩
 obtain ⟨a2,o2,ha2,hia2,hc2⟩:=RepW.at hw (k:=m) (by omega)
 obtain ⟨pv,hcut,hpr,hpc⟩:=SliceV.cutP (P:=Tryz.prog) hw hcw (t:=65) (by kernel_rfl) (k:=m) (sz:=1) (by omega)
 have hpw:RepW g n (w.take m) pv:=by
  have h:SliceV g n pv m ((wdC w).take (m * 1)):=hpr
  have e:(wdC w).take (m * 1)=wdC (w.take m):=by simp [wdC,List.map_take]
  have e2:(w.take m).length=m:=by rw [List.length_take]; omega
  rw [e] at h
  unfold RepW
  rw [e2]; exact h
 have hwm:w[m]'(by omega)=w[w.length - 1]'(by omega):=by congr 1; omega
 have HHP:=Hide.mk (HHS.out (w.take m) (by rw [List.length_take]; omega) pv hpw)
 have HHW:=Hide.mk (HHS.out w hwl wv hw)
 have HLS:Hide (w.take m=w.take (w.length - 1)):=⟨by congr 1; omega⟩
 have HE1:Hide ((0≤w[m]'(by omega)∧w[m]'(by omega) < (I:Int))∧w.take m∈S→er=if w∈S then 8 else limErr (S++[w]) E):=⟨fun h=>by
  rw [HER.out]; unfold growP
  rw [if_pos ⟨by omega,by rw [← hwm,← HLS.out]; exact h⟩]⟩
 have HE2:Hide (¬((0≤w[m]'(by omega)∧w[m]'(by omega) < (I:Int))∧w.take m∈S)→er=1):=⟨fun h=>by
  rw [HER.out]; unfold growP
  rw [if_neg]
  rintro ⟨h1,h2⟩
  rw [← hwm,← HLS.out] at h2
  exact h h2⟩
 clear hpr hpc hwm HER HLS hw0 hw hcw hp HHS hpw
 have HM:=Hide.mk hm
 have hm0:¬((m:Int)+1=0):=by omega
 have hmI:(m:Int)≤300:=by omega
 generalize hx:w[m]'(by omega)=x at *
 clear hx
 generalize w.take m=w0 at *
 by_cases hx0:x < 0
 ·have he:er=1:=HE2.out (by omega)
  subst he
  clear hT
  refine WC.enterP (noO_ok _ _) hG pl38 Tryz.func38 rfl (by decide +kernel) (Nat.le_of_ble_eq_true (by kernel_rfl)) ?_
  iterate 8 (all_goals try (first | with_reducible refine splitI (fun h=>?_) (fun h=>?_) | with_reducible refine splitBI (fun h=>?_) (fun h=>?_) | simp (config:={ maxSteps:=1000000 }) (disch:=first | assumption | omega | (simp; done) | fail) [Tryz.results38, *]))
  refine WC.mono (HCK.out _ _ (by omega) fun b hb=>?_) ?_
  ·simp (disch:=omega) only [gput_lt]
  rintro _ rfl
  iterate 8 (all_goals try (first | with_reducible refine splitI (fun h=>?_) (fun h=>?_) | with_reducible refine splitBI (fun h=>?_) (fun h=>?_) | simp (config:={ maxSteps:=1000000 }) (disch:=first | assumption | omega | (simp; done) | fail) [Tryz.results38, *]))
  exact ⟨_,_,_,⟨rfl,rfl,rfl⟩,by omega,fun b hb=>by simp (disch:=omega) only [gput_lt],.inl ⟨by decide,rfl⟩⟩
 by_cases hx1:(I:Int)≤x
 ·have he:er=1:=HE2.out (by omega)
  subst he
  clear hT
  refine WC.enterP (noO_ok _ _) hG pl38 Tryz.func38 rfl (by decide +kernel) (Nat.le_of_ble_eq_true (by kernel_rfl)) ?_
  iterate 8 (all_goals try (first | with_reducible refine splitI (fun h=>?_) (fun h=>?_) | with_reducible refine splitBI (fun h=>?_) (fun h=>?_) | simp (config:={ maxSteps:=1000000 }) (disch:=first | assumption | omega | (simp; done) | fail) [Tryz.results38, *]))
  refine WC.mono (HCK.out _ _ (by omega) fun b hb=>?_) ?_
  ·simp (disch:=omega) only [gput_lt]
  rintro _ rfl
  iterate 8 (all_goals try (first | with_reducible refine splitI (fun h=>?_) (fun h=>?_) | with_reducible refine splitBI (fun h=>?_) (fun h=>?_) | simp (config:={ maxSteps:=1000000 }) (disch:=first | assumption | omega | (simp; done) | fail) [Tryz.results38, *]))
  exact ⟨_,_,_,⟨rfl,rfl,rfl⟩,by omega,fun b hb=>by simp (disch:=omega) only [gput_lt],.inl ⟨by decide,rfl⟩⟩
 by_cases hin:w0∈S
 rotate_left
 ·have he:er=1:=HE2.out fun h=>hin h.2
  subst he
  clear hT
  simp only [hin,decide_false] at HHP
  refine WC.enterP (noO_ok _ _) hG pl38 Tryz.func38 rfl (by decide +kernel) (Nat.le_of_ble_eq_true (by kernel_rfl)) ?_
  iterate 8 (all_goals try (first | with_reducible refine splitI (fun h=>?_) (fun h=>?_) | with_reducible refine splitBI (fun h=>?_) (fun h=>?_) | simp (config:={ maxSteps:=1000000 }) (disch:=first | assumption | omega | (simp; done) | fail) [Tryz.results38, *]))
  refine WC.mono (HCK.out _ _ (by omega) fun b hb=>?_) ?_
  ·simp (disch:=omega) only [gput_lt]
  rintro _ rfl
  iterate 8 (all_goals try (first | with_reducible refine splitI (fun h=>?_) (fun h=>?_) | with_reducible refine splitBI (fun h=>?_) (fun h=>?_) | simp (config:={ maxSteps:=1000000 }) (disch:=first | assumption | omega | (simp; done) | fail) [Tryz.results38, *]))
  refine WC.mono (HHP.out _ _ (by omega) fun b hb=>?_) ?_
  ·simp (disch:=omega) only [gput_lt]
  rintro _ rfl
  iterate 8 (all_goals try (first | with_reducible refine splitI (fun h=>?_) (fun h=>?_) | with_reducible refine splitBI (fun h=>?_) (fun h=>?_) | simp (config:={ maxSteps:=1000000 }) (disch:=first | assumption | omega | (simp; done) | fail) [Tryz.results38, *]))
  exact ⟨_,_,_,⟨rfl,rfl,rfl⟩,by omega,fun b hb=>by simp (disch:=omega) only [gput_lt],.inl ⟨by decide,rfl⟩⟩
 replace HE1:=Hide.mk (HE1.out ⟨by omega,hin⟩)
 simp only [hin,decide_true] at HHP
 clear hin HE2
 by_cases his:w∈S
 ·have he:er=8:=by rw [HE1.out,if_pos his]
  subst he
  clear hT
  simp only [his,decide_true] at HHW
  refine WC.enterP (noO_ok _ _) hG pl38 Tryz.func38 rfl (by decide +kernel) (Nat.le_of_ble_eq_true (by kernel_rfl)) ?_
  iterate 8 (all_goals try (first | with_reducible refine splitI (fun h=>?_) (fun h=>?_) | with_reducible refine splitBI (fun h=>?_) (fun h=>?_) | simp (config:={ maxSteps:=1000000 }) (disch:=first | assumption | omega | (simp; done) | fail) [Tryz.results38, *]))
  refine WC.mono (HCK.out _ _ (by omega) fun b hb=>?_) ?_
  ·simp (disch:=omega) only [gput_lt]
  rintro _ rfl
  iterate 8 (all_goals try (first | with_reducible refine splitI (fun h=>?_) (fun h=>?_) | with_reducible refine splitBI (fun h=>?_) (fun h=>?_) | simp (config:={ maxSteps:=1000000 }) (disch:=first | assumption | omega | (simp; done) | fail) [Tryz.results38, *]))
  refine WC.mono (HHP.out _ _ (by omega) fun b hb=>?_) ?_
  ·simp (disch:=omega) only [gput_lt]
  rintro _ rfl
  iterate 8 (all_goals try (first | with_reducible refine splitI (fun h=>?_) (fun h=>?_) | with_reducible refine splitBI (fun h=>?_) (fun h=>?_) | simp (config:={ maxSteps:=1000000 }) (disch:=first | assumption | omega | (simp; done) | fail) [Tryz.results38, *]))
  refine WC.mono (HHW.out _ _ (by omega) fun b hb=>?_) ?_
  ·simp (disch:=omega) only [gput_lt]
  rintro _ rfl
  iterate 8 (all_goals try (first | with_reducible refine splitI (fun h=>?_) (fun h=>?_) | with_reducible refine splitBI (fun h=>?_) (fun h=>?_) | simp (config:={ maxSteps:=1000000 }) (disch:=first | assumption | omega | (simp; done) | fail) [Tryz.results38, *]))
  exact ⟨_,_,_,⟨rfl,rfl,rfl⟩,by omega,fun b hb=>by simp (disch:=omega) only [gput_lt],.inl ⟨by decide,rfl⟩⟩
 rw [if_neg his] at HE1
 simp only [his,decide_false] at HHW
 clear his
 refine WC.enterP (noO_ok _ _) hG pl38 Tryz.func38 rfl (by decide +kernel) (Nat.le_of_ble_eq_true (by kernel_rfl)) ?_
 iterate 8 (all_goals try (first | with_reducible refine splitI (fun h=>?_) (fun h=>?_) | with_reducible refine splitBI (fun h=>?_) (fun h=>?_) | simp (config:={ maxSteps:=1000000 }) (disch:=first | assumption | omega | (simp; done) | fail) [Tryz.results38, *]))
 refine WC.mono (HCK.out _ _ (by omega) fun b hb=>?_) ?_
 ·simp (disch:=omega) only [gput_lt]
 rintro _ rfl
 iterate 8 (all_goals try (first | with_reducible refine splitI (fun h=>?_) (fun h=>?_) | with_reducible refine splitBI (fun h=>?_) (fun h=>?_) | simp (config:={ maxSteps:=1000000 }) (disch:=first | assumption | omega | (simp; done) | fail) [Tryz.results38, *]))
 refine WC.mono (HHP.out _ _ (by omega) fun b hb=>?_) ?_
 ·simp (disch:=omega) only [gput_lt]
 rintro _ rfl
 iterate 8 (all_goals try (first | with_reducible refine splitI (fun h=>?_) (fun h=>?_) | with_reducible refine splitBI (fun h=>?_) (fun h=>?_) | simp (config:={ maxSteps:=1000000 }) (disch:=first | assumption | omega | (simp; done) | fail) [Tryz.results38, *]))
 refine WC.mono (HHW.out _ _ (by omega) fun b hb=>?_) ?_
 ·simp (disch:=omega) only [gput_lt]
 rintro _ rfl
 iterate 8 (all_goals try (first | with_reducible refine splitI (fun h=>?_) (fun h=>?_) | with_reducible refine splitBI (fun h=>?_) (fun h=>?_) | simp (config:={ maxSteps:=1000000 }) (disch:=first | assumption | omega | (simp; done) | fail) [Tryz.results38, *]))
 refine WC.mono (HCO.out _ _ (by omega) fun b hb=>?_) ?_
 ·simp (disch:=omega) only [gput_lt]
 rintro _ ⟨b1,b2,b3,g5,n5,rfl,hn5,hg5,htv⟩
 obtain ⟨svs,hs1,hs2,hs3⟩:=htv.s
 have HE5:=Hide.mk htv.e
 have HT5:=Hide.mk htv.t
 have HS2:=Hide.mk hs2
 have HS3:=Hide.mk hs3
 have hsl:svs.length=S.length:=hs2.1
 obtain ⟨l0,ow,z0,hb1,hle1,htk1⟩ : ∃ l0 ow z0,g5 b1=some (.cells l0 ow z0)∧S.length≤l0.length∧l0.take S.length=svs:=by
  rcases hs1 with ⟨h1,_⟩ | ⟨a,off,ha,⟨c,e⟩ | ⟨c,e⟩,l0,ow,z0,h1,h2,h3⟩
  ·have:=HP.out.s0; omega
  ·cases e
   refine ⟨l0,ow,z0,(fromG_in h1).2,by omega,?_⟩
   rw [hsl] at h3; simpa using h3
  ·cases e
 have hb1n:n+1+1≤b1∧b1 < n5:=by
  rcases hs1 with ⟨h1,_⟩ | ⟨a,off,ha,⟨c,e⟩ | ⟨c,e⟩,l0,ow,z0,h1,h2,h3⟩
  ·have:=HP.out.s0; omega
  ·cases e
   exact ⟨(fromG_in h1).1,ha⟩
  ·cases e
 have HTK:=Hide.mk htk1
 have HG5:=Hide.mk hg5
 have HZ5:Hide (g5 (n+1)=some (.cells [.lit (.int .i64 0),.lit (.int .i64 0),.lit (.slice none 0 0),.lit (.slice none 0 0),.lit (.int .i64 0),.lit (.int .i64 0),.lit (.slice none 0 0)] true 0)):=⟨(hg5 (n+1) (by omega)).trans gput_eq⟩
 have HGN:Hide (∀ b,b < n→g5 b=g b):=⟨fun b hb=>(hg5 b (by omega)).trans (by simp (disch:=omega) only [gput_lt])⟩
 have hone7:allOne [.lit (.int .i64 I),.lit (.int .i64 O),.sl b1 0 S.length S.length,.sl b2 0 E.length E.length,.lit (.int .i64 I),.lit (.int .i64 O),.sl b3 0 T.length T.length]=true:=by simp
 obtain ⟨ks,hks⟩ : ∃ ks,S.length=ks+1:=⟨S.length - 1,by have:=HP.out.s0; omega⟩
 have HKS:=Hide.mk hks
 have hks2:ks≤300:=by have:=HP.out.sl; omega
 have hle2:0+(ks+1) * 1≤l0.length:=by omega
 clear hs1 hs2 hs3 htk1 hg5 htv hsl hT hle1
 iterate 8 (all_goals try (first | with_reducible refine splitI (fun h=>?_) (fun h=>?_) | with_reducible refine splitBI (fun h=>?_) (fun h=>?_) | simp (config:={ maxSteps:=1000000 }) (disch:=first | assumption | omega | (simp; done) | fail) [Tryz.results38, *]))
 refine WC.mono (Clone_w w (by omega) _ _ wv (SliceV.mono (by omega) (fun b hb=>?_) HW.out)) ?_
 ·simp (disch:=omega) only [gput_lt]; exact HGN.out b hb
 rintro _ ⟨sv1,g6,n6,rfl,hn6,hg6,hcl⟩
 have hb16:=(hg6 b1 (by omega)).trans ((gput_lt hb1n.2).trans hb1)
 have HG6:Hide (∀ b,b < n5→g6 b=g5 b):=⟨fun b hb=>(hg6 b (by omega)).trans (by simp (disch:=omega) only [gput_lt])⟩
 have h76:=hg6 n5 (by omega)
 simp (disch:=omega) only [gput_eq] at h76
 have HC6:=Hide.mk hcl
 clear hg6 hcl
 iterate 8 (all_goals try (first | with_reducible refine splitI (fun h=>?_) (fun h=>?_) | with_reducible refine splitBI (fun h=>?_) (fun h=>?_) | simp (config:={ maxSteps:=1000000 }) (disch:=first | assumption | omega | (simp; done) | fail) [Tryz.results38, *]))
 refine WC.mono (Clip_t w g6 _ n6 sv1 HC6.out) ?_
 rintro _ ⟨sv3,rfl,hf3,ht3⟩
 have h1z:=hf3.rep.one
 have h2z:allOne [sv3]=true:=by simp [h1z]
 have hcz:=hf3.rep.cell
 have HF3:=Hide.mk hf3
 have HT3:=Hide.mk ht3
 clear hf3 ht3
 iterate 8 (all_goals try (first | with_reducible refine splitI (fun h=>?_) (fun h=>?_) | with_reducible refine splitBI (fun h=>?_) (fun h=>?_) | simp (config:={ maxSteps:=1000000 }) (disch:=first | assumption | omega | (simp; done) | fail) [Tryz.results38, *]))
 refine WC.mono (WsClip_w (by omega) _) ?_
 rintro _ rfl
 obtain ⟨gF,hgF⟩ : ∃ gF,gF=gput (gput (gput g6 n6 (some (.cells [sv3] true 0))) (n6+1) (some (.cells (l0.take (ks+1)++[sv3]) true 1))) n5 (some (.cells [.lit (.int .i64 I),.lit (.int .i64 O),.sl (n6+1) 0 (ks+1+1) (ks+1+1),.sl b2 0 E.length E.length,.lit (.int .i64 I),.lit (.int .i64 O),.sl b3 0 T.length T.length] true 0)):=⟨_,rfl⟩
 have HK5:Hide (∀ a z,a < n5→fromG (n+1+1) g5 a=some z→fromG (n+1+1) gF a=some z):=⟨fun a z ha hz=>by
  obtain ⟨e1,e2⟩:=fromG_in hz
  rw [fromG_ne e1,hgF,gput_ne (by omega),gput_lt (by omega),gput_lt (by omega),HG6.out a ha]; exact e2⟩
 have HLC:Hide (ListC (fromG (n+1+1) gF) (n6+1+1) (S++[w]) (.sl (n6+1) 0 (ks+1+1) (ks+1+1))):=⟨by
  refine ListC.snocF (z:=1) (HS2.out.ext (by omega) fun a z ha hz=>HK5.out a z ha hz) HS3.out (w:=w) (q:=sv3) ?_ HT3.out.cap ?_ (by omega) (by rw [HKS.out])
  ·obtain ⟨gk,q1,q2⟩:=HF3.out
   refine SliceV.ext (by omega) (fun a z _ hz=>?_) q2
   obtain ⟨e1,e2,e3⟩:=q1 a z hz
   rw [fromG_ne (by omega),hgF,gput_ne (by omega),gput_lt (by omega),gput_lt (by omega)]; exact e1
  ·rw [fromG_ne (by omega),hgF,gput_ne (by omega),gput_eq,← HKS.out,HTK.out]⟩
 have HEC:Hide (ListC (fromG (n+1+1) gF) (n6+1+1) E (.sl b2 0 E.length E.length)):=⟨HE5.out.ext (by omega) fun a z ha hz=>HK5.out a z ha hz⟩
 have HTC:Hide (TreeV (fromG (n+1+1) gF) (n6+1+1) T (.sl b3 0 T.length T.length)):=⟨by
  obtain ⟨ts,q1,q2⟩:=HT5.out
  exact ⟨ts,SliceV.ext (by omega) (fun a z ha hz=>HK5.out a z ha hz) q1,q2.ext (by omega) fun a z ha hz=>HK5.out a z ha hz⟩⟩
 have HZF:Hide (gF (n+1)=some (.cells [.lit (.int .i64 0),.lit (.int .i64 0),.lit (.slice none 0 0),.lit (.slice none 0 0),.lit (.int .i64 0),.lit (.int .i64 0),.lit (.slice none 0 0)] true 0)):=⟨by
  rw [hgF,gput_ne (by omega),gput_lt (by omega),gput_lt (by omega),HG6.out _ (by omega)]; exact HZ5.out⟩
 have HNF:Hide (∀ b,b < n→gF b=g b):=⟨fun b hb=>by
  rw [hgF,gput_ne (by omega),gput_lt (by omega),gput_lt (by omega),HG6.out _ (by omega)]; exact HGN.out b hb⟩
 have HLM:=Hide.mk (limits_w I O I O (.sl b3 0 T.length T.length) rfl (S++[w]) E (by rw [List.length_append,HKS.out,List.length_singleton]; omega) (fun x hx=>by
   rcases List.mem_append.1 hx with h | h
   ·have:=(HP.out.sw x h).1; omega
   ·rw [List.mem_singleton.1 h]; omega) (by have:=HP.out.el; omega) (fun x hx=>by have:=(HP.out.ew x hx).2.1; omega) gF (n6+1+1) (.sl (n6+1) 0 (ks+1+1) (ks+1+1)) (.sl b2 0 E.length E.length) _ _ (SliceV.ext (Nat.le_refl _) (fun a z _ hz=>(fromG_in hz).2) HLC.out.choose_spec.1) (HLC.out.choose_spec.2.1.ext (Nat.le_refl _) fun a z _ hz=>(fromG_in hz).2) (SliceV.ext (Nat.le_refl _) (fun a z _ hz=>(fromG_in hz).2) HEC.out.choose_spec.1) (HEC.out.choose_spec.2.1.ext (Nat.le_refl _) fun a z _ hz=>(fromG_in hz).2))
 rw [← HE1.out] at HLM
 have hone8:allOne [.lit (.int .i64 I),.lit (.int .i64 O),.sl (n6+1) 0 (ks+1+1) (ks+1+1),.sl b2 0 E.length E.length,.lit (.int .i64 I),.lit (.int .i64 O),.sl b3 0 T.length T.length]=true:=by simp
 have hF5:gF n5=some (.cells [.lit (.int .i64 I),.lit (.int .i64 O),.sl (n6+1) 0 (ks+1+1) (ks+1+1),.sl b2 0 E.length E.length,.lit (.int .i64 I),.lit (.int .i64 O),.sl b3 0 T.length T.length] true 0):=by rw [hgF,gput_eq]
 have HGF:=Hide.mk hgF
 clear hgF
 iterate 8 (all_goals try (first | with_reducible refine splitI (fun h=>?_) (fun h=>?_) | with_reducible refine splitBI (fun h=>?_) (fun h=>?_) | simp (config:={ maxSteps:=1000000 }) (disch:=first | assumption | omega | (simp; done) | fail) [Tryz.results38, *]))
 rw [← HGF.out]
 refine WC.mono HLM.out ?_
 rintro _ rfl
 have hz:=HZF.out
 clear HZF
 by_cases he:er=0
 ·subst he
  have HK6:Hide (∀ (B:Option Blk) (a:Nat) (z:Blk),fromG (n+1+1) gF a=some z→gput gF (n+1) B a=some z):=⟨fun B a z hz=>by
   obtain ⟨e1,e2⟩:=fromG_in hz
   rw [gput_ne (by omega)]; exact e2⟩
  iterate 8 (all_goals try (first | with_reducible refine splitI (fun h=>?_) (fun h=>?_) | with_reducible refine splitBI (fun h=>?_) (fun h=>?_) | simp (config:={ maxSteps:=1000000 }) (disch:=first | assumption | omega | (simp; done) | fail) [Tryz.results38, *]))
  refine ⟨_,_,_,⟨rfl,rfl,rfl⟩,by omega,fun b hb=>?_,.inr ⟨rfl,_,_,_,rfl,⟨HLC.out.ext (Nat.le_refl _) fun a z _ hz=>HK6.out _ a z hz,HEC.out.ext (Nat.le_refl _) fun a z _ hz=>HK6.out _ a z hz,?_⟩,?_,.inr ⟨_,_,rfl⟩⟩⟩
  ·rw [gput_ne (by omega)]; exact HNF.out b hb
  ·obtain ⟨ts,q1,q2⟩:=HTC.out
   exact ⟨ts,SliceV.ext (Nat.le_refl _) (fun a z _ hz=>HK6.out _ a z hz) q1,q2.ext (Nat.le_refl _) fun a z _ hz=>HK6.out _ a z hz⟩
  ·refine .inr ⟨n6+1,0,?_⟩
   rw [List.length_append,HKS.out]; rfl
 ·have HEZ:=Hide.mk he
  iterate 8 (all_goals try (first | with_reducible refine splitI (fun h=>?_) (fun h=>?_) | with_reducible refine splitBI (fun h=>?_) (fun h=>?_) | simp (config:={ maxSteps:=1000000 }) (disch:=first | assumption | omega | (simp; done) | fail) [Tryz.results38, *]))
  refine ⟨_,_,_,⟨rfl,rfl,rfl⟩,by omega,fun b hb=>?_,.inl ⟨HEZ.out,rfl⟩⟩
  first | exact HNF.out b hb | (rw [gput_ne (by omega)]; exact HNF.out b hb)
end Go.Ai
end
