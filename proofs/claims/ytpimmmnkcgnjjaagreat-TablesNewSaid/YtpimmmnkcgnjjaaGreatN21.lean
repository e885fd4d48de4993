/- A small verified interpreter over names, its proofs, and what was proved with it. No condition. -/
import Derived.Test.YtpimmmnkcgnjjaaGreatN11
import Derived.Test.YtpimmmnkcgnjjaaGreatN20
set_option linter.all false
set_option linter.deprecated false
section
namespace Go.Ai
open Go.Proofs
set_option maxRecDepth 10000
set_option maxHeartbeats 40000000
theorem SliceV.cutY {g:Nat→Option Blk} {b len:Nat} {sv:AV} {cs:List AV} (h:SliceV g b sv len cs) (hc:CapV sv) {t:TypeId} (he:(elSz Tryz.prog t).map (·.1)=some none) {k:Nat} (hk:k≤len) (h0:0 < len) :
  ∃ sv',(∀ {H:Mem} {ev:Ev} {d:Option Tmp} {ty:TypeId} {p:String} {af:Array Edge} {gd:Option (Nat×Bool)} {x hi:Operand} {hx:ev x=some sv} {hh:ev hi=some (.lit (.int .i64 (k:Int)))},
   ex2 Tryz.prog H ev ⟨d,.slice t x none (some hi) none,ty,p,af,gd⟩ x hi (some sv) (some (.lit (.int .i64 (k:Int)))) hx hh=.val sv' H)∧SliceV g b sv' k (cs.take k):=by
 rcases h with ⟨h1,_⟩ | ⟨a,off,ha,⟨c,rfl⟩ | ⟨c,rfl⟩,hrow⟩
 ·omega
 ·have hcc:=hc _ _ _ _ rfl
  refine ⟨.sl a off k c,?_,.inr ⟨a,off,ha,.inl ⟨c,rfl⟩,hrow.takes k⟩⟩
  intro H ev d ty p af gd x hi hx hh
  rw [slice_sl_hi he (by omega) (by omega) (by omega)]
  simp
 ·refine ⟨.slq a off k c,?_,.inr ⟨a,off,ha,.inr ⟨c,rfl⟩,hrow.takes k⟩⟩
  intro H ev d ty p af gd x hi hx hh
  rw [slice_slq_hi he (by omega) (by omega) (by omega)]
  simp
theorem RowsW.take {g:Nat→Option Blk} {n:Nat} {l:List (List Int)} {svs:List AV} (h:RowsW g n l svs) (m:Nat) : RowsW g n (l.take m) (svs.take m):=by
 refine ⟨by rw [List.length_take,List.length_take,h.1],fun k hk=>?_⟩
 have hk2:k < m∧k < l.length:=by rw [List.length_take] at hk; omega
 obtain ⟨sv,h1,h2⟩:=h.2 k hk2.2
 exact ⟨sv,by rw [List.getElem?_take,if_pos hk2.1]; exact h1,by rw [List.getElem_take]; exact h2⟩
theorem elY22:(elSz Tryz.prog 22).map (·.1)=some none:=by kernel_rfl
theorem elY65:(elSz Tryz.prog 65).map (·.1)=some none:=by kernel_rfl
structure AtW (g:Nat→Option Blk) (n:Nat) (l:List (List Int)) (sv:AV) (k:Nat) (w:List Int) (q1:AV) (a off:Nat) (cut:AV) : Prop where
 rep:∀ gX n2,n≤n2→(∀ b,b < n→gX b=g b)→RepW gX n2 w q1
 cell:∀ gX:Nat→Option Blk,(∀ b,b < n→gX b=g b)→loadB (some (false,1)) (gX a) (off+k)=some q1
 ia:∀ {H:Mem} {ev:Ev} {o:Oper} {t:TypeId},iaS Tryz.prog H ev o t (some (none,1)) (some sv) (some (.lit (.int .i64 (k:Int))))=.val (.ptr a (off+k)) H
 an:a < n
 cap:CapV q1
 cuts:∀ {H:Mem} {ev:Ev} {d:Option Tmp} {ty:TypeId} {p:String} {af:Array Edge} {gd:Option (Nat×Bool)} {x hi:Operand} {hx:ev x=some sv} {hh:ev hi=some (.lit (.int .i64 (k:Int)))},
   ex2 Tryz.prog H ev ⟨d,.slice 22 x none (some hi) none,ty,p,af,gd⟩ x hi (some sv) (some (.lit (.int .i64 (k:Int)))) hx hh=.val cut H
 find:∀ (x:List Int) (sx:AV) gX n2,n≤n2→(∀ b,b < n→gX b=g b)→x.length≤1000000→RepW gX n2 x sx→WC 0 Tryz.prog 57 [cut,sx] ⟨.fn gX,n2⟩ fun r=>∃ z:Int,r=.ret (.lit (.int .i64 z)) ⟨.fn gX,n2⟩∧decide (0≤z)=decide (x∈l.take k)
theorem ListW.at {g:Nat→Option Blk} {n:Nat} {l:List (List Int)} {sv:AV} (h:ListW g n l sv) (hcap:CapV sv) {k:Nat} (hk:k < l.length) : ∃ q1 a off cut,AtW g n l sv k l[k] q1 a off cut:=by
 obtain ⟨svs,hsv,hr,hc⟩:=h.ex
 obtain ⟨q1,hw1,hrep⟩:=hr.2 k hk
 obtain ⟨a2,off,ha2,hrow,hia⟩:=hsv.ia (P:=Tryz.prog) hk 1
 obtain ⟨cut,hcut,hcv⟩:=hsv.cutY hcap elY22 (Nat.le_of_lt hk) (by omega)
 have hkl:k < svs.length:=(List.getElem?_eq_some_iff.1 hw1).1
 refine ⟨q1,a2,off,cut,fun gX n2 hn hX=>SliceV.mono hn hX hrep,fun gX hX=>?_,?_,ha2,hc q1 (List.mem_of_getElem? hw1),hcut,fun x sx gX n2 hn hX hx hs=>?_⟩
 ·have hcell:=(hrow.mono (hX a2 ha2)).one (k:=k) (s:=1) hkl
  rwa [(List.getElem?_eq_some_iff.1 hw1).2] at hcell
 ·simp only [Nat.mul_one] at hia
  exact hia
 ·have hlk:(l.take k).length=k:=by rw [List.length_take]; omega
  refine rfind_w (l.take k) (by have:=h.len; omega) (fun w hw=>h.words w (List.mem_of_mem_take hw)) x hx gX n2 cut sx (svs.take k) ?_ ((hr.take k).ext hn fun a x ha hx=>(hX a ha).trans hx) hs
  rw [hlk]
  exact hcv.mono hn hX
theorem rCheck_w (q O I2 O2:Int) (S E:List (List Int)) (T:List (List (Int×Int))) (g:Nat→Option Blk) (n:Nat) (sv se st:AV) (hS:ListW g n S sv) (hE:ListW g n E se) (hT:TreeW g n T st) (hcS:CapV sv) (hcE:CapV se) :
    WC 0 Tryz.prog 15 [.agg [.lit (.int .i64 q),.lit (.int .i64 O),sv,se,.lit (.int .i64 I2),.lit (.int .i64 O2),st]] ⟨.fn g,n⟩ fun r=>r=.ret (.lit (.int .i64 (tabErr q O S E I2 O2 T))) ⟨.fn g,n⟩:=by
  refine WC.drop1 rfl ?_
  obtain ⟨svs,hsv,hrs,hcs⟩:=hS.ex
  obtain ⟨ses,hse,hre,hce⟩:=hE.ex
  obtain ⟨sts,hst,hrt⟩:=hT.ex
  have hlen:=@lenV Tryz.prog _ _ _ _ _ hsv
  have hlen2:=@lenV Tryz.prog _ _ _ _ _ hse
  have h1s:=hsv.one
  have h1e:=hse.one
  have h1t:=hst.one
  have hone:allOne [.lit (.int .i64 q),.lit (.int .i64 O),sv,se,.lit (.int .i64 I2),.lit (.int .i64 O2),st]=true:=by simp [h1s,h1e,h1t]
  have HG:=fun (g' : Nat→Option Blk) (hg' : ∀ b,b < n→g' b=g b) (a:Nat) (x:Blk) (ha:a < n) (hx:g a=some x)=>(hg' a ha).trans hx
  have HA:=Hide.mk fun g' n2 (hn:n≤n2) (hg' : ∀ b,b < n→g' b=g b)=>rlong_w S hS.len hS.words g' n2 sv svs (hsv.mono hn hg') (hrs.ext hn (HG g' hg'))
  have HB:=Hide.mk fun g' n2 (hn:n≤n2) (hg' : ∀ b,b < n→g' b=g b)=>rlong_w E hE.len hE.words g' n2 se ses (hse.mono hn hg') (hre.ext hn (HG g' hg'))
  have HF:=Hide.mk fun g' n2 (hn:n≤n2) (hg' : ∀ b,b < n→g' b=g b)=>rCheckTree_w I2 O2 T g' n2 st (hT.mono hn hg')
  have hmx:longM S≤1000000:=longM_le hS.words
  have hmx2:longM E≤1000000:=longM_le hE.words
  have HLS:=Hide.mk hS
  have HLE:=Hide.mk hE
  have HCS:=Hide.mk hcS
  have HCE:=Hide.mk hcE
  clear hsv hrs hcs hse hre hce hst hrt hS hE hT HG hcS hcE
  obtain ⟨ret,hret⟩ : ∃ b,b=tabErr q O S E I2 O2 T:=⟨_,rfl⟩
  rw [← hret]
  unfold tabErr at hret
  generalize treeErr I2 O2 T=te at *
  by_cases t1:q > 16
  · have hr:ret=3:=by rw [hret,if_pos (.inl t1)]
    clear hret
    refine WC.enterP (noO_ok _ _) hG pl15 Tryz.func15 rfl (by decide +kernel) (Nat.le_of_ble_eq_true (by kernel_rfl)) ?_
    iterate 8 all_goals try first|with_reducible refine splitI (fun h=>?_) fun h=>?_|with_reducible refine splitBI (fun h=>?_) fun h=>?_|simp (maxSteps:=999999) (disch:=first|assumption|omega|(simp;done)|fail) [Tryz.results15, *]
    all_goals exact ⟨Nat.le_succ n,fun b hb=>gput_lt hb⟩
  by_cases t2:O > 16
  · have hr:ret=3:=by rw [hret,if_pos (.inr (.inl t2))]
    clear hret
    refine WC.enterP (noO_ok _ _) hG pl15 Tryz.func15 rfl (by decide +kernel) (Nat.le_of_ble_eq_true (by kernel_rfl)) ?_
    iterate 8 all_goals try first|with_reducible refine splitI (fun h=>?_) fun h=>?_|with_reducible refine splitBI (fun h=>?_) fun h=>?_|simp (maxSteps:=999999) (disch:=first|assumption|omega|(simp;done)|fail) [Tryz.results15, *]
    all_goals exact ⟨Nat.le_succ n,fun b hb=>gput_lt hb⟩
  by_cases t3:S.length > 64
  · have hr:ret=3:=by rw [hret,if_pos (.inr (.inr (.inl t3)))]
    clear hret
    have t3I:64 < (S.length:Int):=by omega
    refine WC.enterP (noO_ok _ _) hG pl15 Tryz.func15 rfl (by decide +kernel) (Nat.le_of_ble_eq_true (by kernel_rfl)) ?_
    iterate 8 all_goals try first|with_reducible refine splitI (fun h=>?_) fun h=>?_|with_reducible refine splitBI (fun h=>?_) fun h=>?_|simp (maxSteps:=999999) (disch:=first|assumption|omega|(simp;done)|fail) [Tryz.results15, *]
    all_goals exact ⟨Nat.le_succ n,fun b hb=>gput_lt hb⟩
  have t3I:¬64 < (S.length:Int):=by omega
  by_cases t4:E.length > 256
  · have hr:ret=3:=by rw [hret,if_pos (.inr (.inr (.inr (.inl t4))))]
    clear hret
    have t4I:256 < (E.length:Int):=by omega
    refine WC.enterP (noO_ok _ _) hG pl15 Tryz.func15 rfl (by decide +kernel) (Nat.le_of_ble_eq_true (by kernel_rfl)) ?_
    iterate 8 all_goals try first|with_reducible refine splitI (fun h=>?_) fun h=>?_|with_reducible refine splitBI (fun h=>?_) fun h=>?_|simp (maxSteps:=999999) (disch:=first|assumption|omega|(simp;done)|fail) [Tryz.results15, *]
    all_goals exact ⟨Nat.le_succ n,fun b hb=>gput_lt hb⟩
  have t4I:¬256 < (E.length:Int):=by omega
  by_cases t5:longM S > 256
  · have hr:ret=3:=by rw [hret,if_pos (.inr (.inr (.inr (.inr (.inl t5)))))]
    clear hret
    have t5I:256 < (longM S:Int):=by omega
    generalize longM S=ls at *
    generalize longM E=le at *
    refine WC.enterP (noO_ok _ _) hG pl15 Tryz.func15 rfl (by decide +kernel) (Nat.le_of_ble_eq_true (by kernel_rfl)) ?_
    iterate 8 all_goals try first|with_reducible refine splitI (fun h=>?_) fun h=>?_|with_reducible refine splitBI (fun h=>?_) fun h=>?_|simp (maxSteps:=999999) (disch:=first|assumption|omega|(simp;done)|fail) [Tryz.results15, *]
    refine WC.mono (HA.out _ _ (Nat.le_succ n) fun b hb=>gput_lt hb) ?_
    rintro _ rfl
    iterate 8 all_goals try first|with_reducible refine splitI (fun h=>?_) fun h=>?_|with_reducible refine splitBI (fun h=>?_) fun h=>?_|simp (maxSteps:=999999) (disch:=first|assumption|omega|(simp;done)|fail) [Tryz.results15, *]
    all_goals exact ⟨Nat.le_succ n,fun b hb=>gput_lt hb⟩
  have t5I:¬256 < (longM S:Int):=by omega
  by_cases t6:longM E > 256
  · have hr:ret=3:=by rw [hret,if_pos (.inr (.inr (.inr (.inr (.inr t6)))))]
    clear hret
    have t6I:256 < (longM E:Int):=by omega
    generalize longM S=ls at *
    generalize longM E=le at *
    refine WC.enterP (noO_ok _ _) hG pl15 Tryz.func15 rfl (by decide +kernel) (Nat.le_of_ble_eq_true (by kernel_rfl)) ?_
    iterate 8 all_goals try first|with_reducible refine splitI (fun h=>?_) fun h=>?_|with_reducible refine splitBI (fun h=>?_) fun h=>?_|simp (maxSteps:=999999) (disch:=first|assumption|omega|(simp;done)|fail) [Tryz.results15, *]
    refine WC.mono (HA.out _ _ (Nat.le_succ n) fun b hb=>gput_lt hb) ?_
    rintro _ rfl
    iterate 8 all_goals try first|with_reducible refine splitI (fun h=>?_) fun h=>?_|with_reducible refine splitBI (fun h=>?_) fun h=>?_|simp (maxSteps:=999999) (disch:=first|assumption|omega|(simp;done)|fail) [Tryz.results15, *]
    refine WC.mono (HB.out _ _ (Nat.le_succ n) fun b hb=>gput_lt hb) ?_
    rintro _ rfl
    iterate 8 all_goals try first|with_reducible refine splitI (fun h=>?_) fun h=>?_|with_reducible refine splitBI (fun h=>?_) fun h=>?_|simp (maxSteps:=999999) (disch:=first|assumption|omega|(simp;done)|fail) [Tryz.results15, *]
    all_goals exact ⟨Nat.le_succ n,fun b hb=>gput_lt hb⟩
  have t6I:¬256 < (longM E:Int):=by omega
  rw [if_neg (by omega)] at hret
  by_cases t7:q < 1
  · have hr:ret=1:=by rw [hret,if_pos (.inl t7)]
    clear hret
    generalize longM S=ls at *
    generalize longM E=le at *
    refine WC.enterP (noO_ok _ _) hG pl15 Tryz.func15 rfl (by decide +kernel) (Nat.le_of_ble_eq_true (by kernel_rfl)) ?_
    iterate 8 all_goals try first|with_reducible refine splitI (fun h=>?_) fun h=>?_|with_reducible refine splitBI (fun h=>?_) fun h=>?_|simp (maxSteps:=999999) (disch:=first|assumption|omega|(simp;done)|fail) [Tryz.results15, *]
    refine WC.mono (HA.out _ _ (Nat.le_succ n) fun b hb=>gput_lt hb) ?_
    rintro _ rfl
    iterate 8 all_goals try first|with_reducible refine splitI (fun h=>?_) fun h=>?_|with_reducible refine splitBI (fun h=>?_) fun h=>?_|simp (maxSteps:=999999) (disch:=first|assumption|omega|(simp;done)|fail) [Tryz.results15, *]
    refine WC.mono (HB.out _ _ (Nat.le_succ n) fun b hb=>gput_lt hb) ?_
    rintro _ rfl
    iterate 8 all_goals try first|with_reducible refine splitI (fun h=>?_) fun h=>?_|with_reducible refine splitBI (fun h=>?_) fun h=>?_|simp (maxSteps:=999999) (disch:=first|assumption|omega|(simp;done)|fail) [Tryz.results15, *]
    all_goals exact ⟨Nat.le_succ n,fun b hb=>gput_lt hb⟩
  by_cases t8:O < 1
  · have hr:ret=1:=by rw [hret,if_pos (.inr (.inl t8))]
    clear hret
    generalize longM S=ls at *
    generalize longM E=le at *
    refine WC.enterP (noO_ok _ _) hG pl15 Tryz.func15 rfl (by decide +kernel) (Nat.le_of_ble_eq_true (by kernel_rfl)) ?_
    iterate 8 all_goals try first|with_reducible refine splitI (fun h=>?_) fun h=>?_|with_reducible refine splitBI (fun h=>?_) fun h=>?_|simp (maxSteps:=999999) (disch:=first|assumption|omega|(simp;done)|fail) [Tryz.results15, *]
    refine WC.mono (HA.out _ _ (Nat.le_succ n) fun b hb=>gput_lt hb) ?_
    rintro _ rfl
    iterate 8 all_goals try first|with_reducible refine splitI (fun h=>?_) fun h=>?_|with_reducible refine splitBI (fun h=>?_) fun h=>?_|simp (maxSteps:=999999) (disch:=first|assumption|omega|(simp;done)|fail) [Tryz.results15, *]
    refine WC.mono (HB.out _ _ (Nat.le_succ n) fun b hb=>gput_lt hb) ?_
    rintro _ rfl
    iterate 8 all_goals try first|with_reducible refine splitI (fun h=>?_) fun h=>?_|with_reducible refine splitBI (fun h=>?_) fun h=>?_|simp (maxSteps:=999999) (disch:=first|assumption|omega|(simp;done)|fail) [Tryz.results15, *]
    all_goals exact ⟨Nat.le_succ n,fun b hb=>gput_lt hb⟩
  rw [accB_eq t1 t7 t5,sufB_eq t1 t7 t6,show limErr S E=if longM S+1+longM E > 256 then 3 else 0 from by unfold limErr; congr 1; exact propext ⟨fun h=>by omega,fun h=>.inr (.inr h)⟩] at hret
  have HRET:=Hide.mk hret
  clear hret
  have hw6:∀ w∈S,w.length≤256:=fun w hw=>by have:=le_longM hw; omega
  have hw7:∀ w∈E,w.length≤256:=fun w hw=>by have:=le_longM hw; omega
  have HW6:=Hide.mk hw6
  have HW7:=Hide.mk hw7
  have hbadS:accR q S=false→ret=1:=fun h=>by rw [HRET.out,if_pos (.inr (.inr (.inl h)))]
  have hbadE:sufR q E=false→ret=1:=fun h=>by rw [HRET.out,if_pos (.inr (.inr (.inr h)))]
  have HBS:=Hide.mk hbadS
  have HBE:=Hide.mk hbadE
  clear hw6 hw7 hbadS hbadE t5 t6
  generalize hls:longM S=ls at *
  generalize hle:longM E=le at *
  clear hls hle
  by_cases t9:S.length < 1
  · have hr:ret=1:=HBS.out (by unfold accR; rw [decide_eq_false (by omega),Bool.false_and,Bool.false_and])
    have t9I:(S.length:Int) < 1:=by omega
    refine WC.enterP (noO_ok _ _) hG pl15 Tryz.func15 rfl (by decide +kernel) (Nat.le_of_ble_eq_true (by kernel_rfl)) ?_
    iterate 8 all_goals try first|with_reducible refine splitI (fun h=>?_) fun h=>?_|with_reducible refine splitBI (fun h=>?_) fun h=>?_|simp (maxSteps:=999999) (disch:=first|assumption|omega|(simp;done)|fail) [Tryz.results15, *]
    refine WC.mono (HA.out _ _ (Nat.le_succ n) fun b hb=>gput_lt hb) ?_
    rintro _ rfl
    iterate 8 all_goals try first|with_reducible refine splitI (fun h=>?_) fun h=>?_|with_reducible refine splitBI (fun h=>?_) fun h=>?_|simp (maxSteps:=999999) (disch:=first|assumption|omega|(simp;done)|fail) [Tryz.results15, *]
    refine WC.mono (HB.out _ _ (Nat.le_succ n) fun b hb=>gput_lt hb) ?_
    rintro _ rfl
    iterate 8 all_goals try first|with_reducible refine splitI (fun h=>?_) fun h=>?_|with_reducible refine splitBI (fun h=>?_) fun h=>?_|simp (maxSteps:=999999) (disch:=first|assumption|omega|(simp;done)|fail) [Tryz.results15, *]
    all_goals exact ⟨Nat.le_succ n,fun b hb=>gput_lt hb⟩
  have t9I:¬(S.length:Int) < 1:=by omega
  have hS0:0 < S.length:=by omega
  obtain ⟨p1,pa,po,pc,HAT0⟩:=HLS.out.at HCS.out hS0
  have hgd0:S.getD 0 []=S[0]:=by rw [List.getD_eq_getElem?_getD,List.getElem?_eq_getElem hS0]; rfl
  have HAT:=Hide.mk HAT0
  clear HAT0
  have hia0:∀ {H:Mem} {ev:Ev} {o:Oper} {t:TypeId},iaS Tryz.prog H ev o t (some (none,1)) (some sv) (some (.lit (.int .i64 0)))=.val (.ptr pa po) H:=fun {H ev o t}=>HAT.out.ia
  have hlp:=@lenV Tryz.prog _ _ _ _ _ (HAT.out.rep g n (Nat.le_refl n) fun _ _=>rfl)
  have hpn:pa < n:=HAT.out.an
  have hc0:loadB (some (false,1)) (g pa) po=some p1:=HAT.out.cell g fun _ _=>rfl
  have HGD:=Hide.mk hgd0
  clear hgd0
  generalize S[0]=w0 at *
  clear HAT
  have HBS0:Hide (¬w0.length=0→ret=1):=⟨fun h=>HBS.out (by unfold accR; rw [HGD.out,decide_eq_false h,Bool.and_false,Bool.false_and])⟩
  generalize hlw0:w0.length=lw0 at *
  by_cases t10:lw0=0
  · subst t10
    by_cases t11:(E.length:Int) < q
    · have hr:ret=1:=HBE.out (by unfold sufR; rw [decide_eq_false (by omega),Bool.false_and])
      refine WC.enterP (noO_ok _ _) hG pl15 Tryz.func15 rfl (by decide +kernel) (Nat.le_of_ble_eq_true (by kernel_rfl)) ?_
      iterate 8 all_goals try first|with_reducible refine splitI (fun h=>?_) fun h=>?_|with_reducible refine splitBI (fun h=>?_) fun h=>?_|simp (maxSteps:=999999) (disch:=first|assumption|omega|(simp;done)|fail) [Tryz.results15, *]
      refine WC.mono (HA.out _ _ (Nat.le_succ n) fun b hb=>gput_lt hb) ?_
      rintro _ rfl
      iterate 8 all_goals try first|with_reducible refine splitI (fun h=>?_) fun h=>?_|with_reducible refine splitBI (fun h=>?_) fun h=>?_|simp (maxSteps:=999999) (disch:=first|assumption|omega|(simp;done)|fail) [Tryz.results15, *]
      refine WC.mono (HB.out _ _ (Nat.le_succ n) fun b hb=>gput_lt hb) ?_
      rintro _ rfl
      iterate 8 all_goals try first|with_reducible refine splitI (fun h=>?_) fun h=>?_|with_reducible refine splitBI (fun h=>?_) fun h=>?_|simp (maxSteps:=999999) (disch:=first|assumption|omega|(simp;done)|fail) [Tryz.results15, *]
      all_goals exact ⟨Nat.le_succ n,fun b hb=>gput_lt hb⟩
    refine WC.enterP (noO_ok _ _) hG pl15 Tryz.func15 rfl (by decide +kernel) (Nat.le_of_ble_eq_true (by kernel_rfl)) ?_
    iterate 8 all_goals try first|with_reducible refine splitI (fun h=>?_) fun h=>?_|with_reducible refine splitBI (fun h=>?_) fun h=>?_|simp (maxSteps:=999999) (disch:=first|assumption|omega|(simp;done)|fail) [Tryz.results15, *]
    refine WC.mono (HA.out _ _ (Nat.le_succ n) fun b hb=>gput_lt hb) ?_
    rintro _ rfl
    iterate 8 all_goals try first|with_reducible refine splitI (fun h=>?_) fun h=>?_|with_reducible refine splitBI (fun h=>?_) fun h=>?_|simp (maxSteps:=999999) (disch:=first|assumption|omega|(simp;done)|fail) [Tryz.results15, *]
    refine WC.mono (HB.out _ _ (Nat.le_succ n) fun b hb=>gput_lt hb) ?_
    rintro _ rfl
    iterate 8 all_goals try first|with_reducible refine splitI (fun h=>?_) fun h=>?_|with_reducible refine splitBI (fun h=>?_) fun h=>?_|simp (maxSteps:=999999) (disch:=first|assumption|omega|(simp;done)|fail) [Tryz.results15, *]
    refine LX.ind (fun m gf H'=>∃ (k n2:Nat) (gL:Nat→Option Blk),k+1≤S.length∧m=S.length - k∧H'=⟨.fn gL,n2⟩∧n < n2∧Hide (∀ b,b < n→gL b=g b)∧gL n=some (.cells [.lit (.int .i64 q),.lit (.int .i64 O),sv,se,.lit (.int .i64 I2),.lit (.int .i64 O2),st] true 0) ∧
      Hide (∀ j,j < k+1→(decide (j=0) || refS q S j (S.getD j []))=true)∧gf 1=some (.ptr n 0)∧gf 3=some (.lit (.int .i64 ((k:Int)+1)))) (m0:=S.length) ?_ ?_
    · exact ⟨0,_,_,by omega,rfl,rfl,Nat.lt_succ_self n,⟨fun b hb=>gput_lt hb⟩,gput_eq,⟨fun j hj=>by rw [decide_eq_true (by omega),Bool.true_or]⟩,by simp,by simp⟩
    clear hia0 hlp hpn hc0
    rintro m gf H' ⟨k,n2,gL,hk,rfl,rfl,hn2,HG,hgn,HP,w1,w3⟩ ih
    refine LX.roundP (noO_ok _ _) hG pl15 (by decide +kernel) ?_
    by_cases hlt:k+1 < S.length
    · have hltI:(k:Int)+1 < (S.length:Int):=by omega
      obtain ⟨q1,a2,off,cut,HAT0⟩:=HLS.out.at HCS.out hlt
      have HAT:=Hide.mk HAT0
      clear HAT0
      have hia:∀ {H:Mem} {ev:Ev} {o:Oper} {t:TypeId},iaS Tryz.prog H ev o t (some (none,1)) (some sv) (some (.lit (.int .i64 ((k:Int)+1))))=.val (.ptr a2 (off+(k+1))) H:=fun {H ev o t}=>HAT.out.ia
      have hcell:=HAT.out.cell gL HG.out
      have hrep:=HAT.out.rep gL n2 (Nat.le_of_lt hn2) HG.out
      have hlw:=@lenV Tryz.prog _ _ _ _ _ hrep
      have hcut:∀ {H:Mem} {ev:Ev} {d:Option Tmp} {ty:TypeId} {p:String} {af:Array Edge} {gd:Option (Nat×Bool)} {x hi:Operand} {hx:ev x=some sv} {hh:ev hi=some (.lit (.int .i64 ((k:Int)+1)))},
        ex2 Tryz.prog H ev ⟨d,.slice 22 x none (some hi) none,ty,p,af,gd⟩ x hi (some sv) (some (.lit (.int .i64 ((k:Int)+1)))) hx hh=.val cut H:=fun {H ev d ty p af gd x hi hx hh}=>HAT.out.cuts
      have hgd:S.getD (k+1) []=S[k+1]:=by rw [List.getD_eq_getElem?_getD,List.getElem?_eq_getElem hlt]; rfl
      have HBAD:Hide (refS q S (k+1) S[k+1]=false→ret=1):=⟨fun h=>HBS.out (by
        unfold accR
        rw [Bool.and_eq_false_iff]
        right
        rw [List.all_eq_false]
        exact ⟨k+1,by simp [hlt],by rw [hgd,h]; simp⟩)⟩
      have HNEXT:Hide (refS q S (k+1) S[k+1]=true→∀ j,j < k+1+1→(decide (j=0) || refS q S j (S.getD j []))=true):=⟨fun h j hj=>by
        by_cases e:j=k+1
        · subst e; rw [hgd,h,Bool.or_true]
        · exact HP.out j (by omega)⟩
      have hwl:=HW6.out _ (List.getElem_mem hlt)
      have HREP:=Hide.mk hrep
      clear hrep hgd
      generalize S[k+1]=w at *
      by_cases hw0:w.length=0
      · have hr:ret=1:=HBAD.out (by unfold refS; rw [decide_eq_false (by omega:¬w.length≠0),Bool.false_and,Bool.false_and,Bool.false_and])
        rw [hw0] at hlw
        clear hw0
        iterate 8 all_goals try first|with_reducible refine splitI (fun h=>?_) fun h=>?_|with_reducible refine splitBI (fun h=>?_) fun h=>?_|simp (maxSteps:=999999) (disch:=first|assumption|omega|(simp;done)|fail) [Tryz.results15, *]
        exact ⟨Nat.le_of_lt hn2,fun b hb=>HG.out b hb⟩
      obtain ⟨m,hm⟩ : ∃ m,w.length=m+1:=⟨w.length - 1,by omega⟩
      rw [hm] at hlw
      have HIN:=Hide.mk (rinputs_w w (by omega) q gL n2 q1 HREP.out)
      have hinW:(w.all fun i=>decide (0≤i∧i < q))=inW w q:=rfl
      rw [hinW] at HIN
      have HFD:=Hide.mk (HAT.out.find w q1 gL n2 (Nat.le_of_lt hn2) HG.out (by omega) HREP.out)
      obtain ⟨cw,hcw,hcwr⟩:=SliceV.cutY HREP.out HAT.out.cap elY65 (k:=m) (by omega) (by omega)
      have hcwr2:RepW gL n2 (w.take m) cw:=by
        unfold RepW
        rw [wdC_take,List.length_take,Nat.min_eq_left (by omega)]
        exact hcwr
      have HFD2:=Hide.mk (HAT.out.find (w.take m) cw gL n2 (Nat.le_of_lt hn2) HG.out (by rw [List.length_take]; omega) hcwr2)
      have HREF:Hide (refS q S (k+1) w=(inW w q && !(decide (w∈S.take (k+1))) && decide (w.take m∈S.take (k+1)))):=⟨by unfold refS; rw [decide_eq_true hw0,Bool.true_and,show w.length - 1=m by omega]⟩
      clear hcwr hcwr2 hinW hw0
      generalize inW w q=b1 at *
      generalize decide (w∈S.take (k+1))=b2 at *
      generalize decide (w.take m∈S.take (k+1))=b3 at *
      have HM:=Hide.mk hm
      have hm0:¬(m:Int)+1=0:=by omega
      have hm2:m≤256:=by omega
      clear hm hwl
      iterate 8 all_goals try first|with_reducible refine splitI (fun h=>?_) fun h=>?_|with_reducible refine splitBI (fun h=>?_) fun h=>?_|simp (maxSteps:=999999) (disch:=first|assumption|omega|(simp;done)|fail) [Tryz.results15, *]
      refine WC.mono HIN.out ?_
      rintro _ rfl
      cases b1 with
      | false =>
        have hr:ret=1:=HBAD.out (by rw [HREF.out]; rfl)
        iterate 8 all_goals try first|with_reducible refine splitI (fun h=>?_) fun h=>?_|with_reducible refine splitBI (fun h=>?_) fun h=>?_|simp (maxSteps:=999999) (disch:=first|assumption|omega|(simp;done)|fail) [Tryz.results15, *]
        exact ⟨Nat.le_of_lt hn2,fun b hb=>HG.out b hb⟩
      | true =>
        iterate 8 all_goals try first|with_reducible refine splitI (fun h=>?_) fun h=>?_|with_reducible refine splitBI (fun h=>?_) fun h=>?_|simp (maxSteps:=999999) (disch:=first|assumption|omega|(simp;done)|fail) [Tryz.results15, *]
        refine WC.mono HFD.out ?_
        rintro _ ⟨z,rfl,hz⟩
        cases b2 with
        | true =>
          have hz1:0≤z:=of_decide_eq_true hz
          clear hz
          have hr:ret=1:=HBAD.out (by rw [HREF.out]; rfl)
          iterate 8 all_goals try first|with_reducible refine splitI (fun h=>?_) fun h=>?_|with_reducible refine splitBI (fun h=>?_) fun h=>?_|simp (maxSteps:=999999) (disch:=first|assumption|omega|(simp;done)|fail) [Tryz.results15, *]
          exact ⟨Nat.le_of_lt hn2,fun b hb=>HG.out b hb⟩
        | false =>
          have hz1:¬0≤z:=of_decide_eq_false hz
          clear hz
          iterate 8 all_goals try first|with_reducible refine splitI (fun h=>?_) fun h=>?_|with_reducible refine splitBI (fun h=>?_) fun h=>?_|simp (maxSteps:=999999) (disch:=first|assumption|omega|(simp;done)|fail) [Tryz.results15, *]
          refine WC.mono HFD2.out ?_
          rintro _ ⟨z2,rfl,hz2⟩
          cases b3 with
          | true =>
            have hz3:¬z2 < 0:=by have:=of_decide_eq_true hz2; omega
            clear hz2
            have HP2:=Hide.mk (HNEXT.out (by rw [HREF.out]; rfl))
            iterate 8 all_goals try first|with_reducible refine splitI (fun h=>?_) fun h=>?_|with_reducible refine splitBI (fun h=>?_) fun h=>?_|simp (maxSteps:=999999) (disch:=first|assumption|omega|(simp;done)|fail) [Tryz.results15, *]
            exact ih.out (S.length - (k+1)) _ _ (by omega) ⟨k+1,n2,gL,by omega,rfl,rfl,hn2,HG,hgn,HP2,by simp [*],by simp⟩
          | false =>
            have hz3:z2 < 0:=by have:=of_decide_eq_false hz2; omega
            clear hz2
            have hr:ret=1:=HBAD.out (by rw [HREF.out]; rfl)
            iterate 8 all_goals try first|with_reducible refine splitI (fun h=>?_) fun h=>?_|with_reducible refine splitBI (fun h=>?_) fun h=>?_|simp (maxSteps:=999999) (disch:=first|assumption|omega|(simp;done)|fail) [Tryz.results15, *]
            exact ⟨Nat.le_of_lt hn2,fun b hb=>HG.out b hb⟩
    · have hltI:¬(k:Int)+1 < (S.length:Int):=by omega
      have HACC:Hide (accR q S=true):=⟨by
        unfold accR
        rw [decide_eq_true hS0,HGD.out,hlw0,decide_eq_true rfl,Bool.true_and,Bool.true_and,List.all_eq_true]
        intro j hj
        exact HP.out j (by have : j < S.length := by simpa using hj
                           omega)⟩
      clear HP
      iterate 8 all_goals try first|with_reducible refine splitI (fun h=>?_) fun h=>?_|with_reducible refine splitBI (fun h=>?_) fun h=>?_|simp (maxSteps:=999999) (disch:=first|assumption|omega|(simp;done)|fail) [Tryz.results15, *]
      refine LX.ind (fun m gf H'=>∃ (k n3:Nat) (gM:Nat→Option Blk),k≤E.length∧m=E.length - k∧H'=⟨.fn gM,n3⟩∧n < n3∧Hide (∀ b,b < n→gM b=g b)∧gM n=some (.cells [.lit (.int .i64 q),.lit (.int .i64 O),sv,se,.lit (.int .i64 I2),.lit (.int .i64 O2),st] true 0) ∧
        Hide (∀ j,j < k→refE q E j (E.getD j [])=true)∧gf 1=some (.ptr n 0)∧gf 5=some (.lit (.int .i64 k))) (m0:=E.length) ?_ ?_
      · exact ⟨0,n2,gL,Nat.zero_le _,rfl,rfl,hn2,HG,hgn,⟨fun j hj=>by omega⟩,by simp [*],by simp⟩
      clear w1 w3 hgn
      rintro m gf H' ⟨k,n3,gM,hk,rfl,rfl,hn3,HGM,hgn,HP,w1,w5⟩ ihE
      refine LX.roundP (noO_ok _ _) hG pl15 (by decide +kernel) ?_
      by_cases hlt:k < E.length
      · have hltI:(k:Int) < (E.length:Int):=by omega
        obtain ⟨q1,a2,off,cut,HAT0⟩:=HLE.out.at HCE.out hlt
        have HAT:=Hide.mk HAT0
        clear HAT0
        have hia:∀ {H:Mem} {ev:Ev} {o:Oper} {t:TypeId},iaS Tryz.prog H ev o t (some (none,1)) (some se) (some (.lit (.int .i64 (k:Int))))=.val (.ptr a2 (off+k)) H:=fun {H ev o t}=>HAT.out.ia
        have hcell:=HAT.out.cell gM HGM.out
        have hrep:=HAT.out.rep gM n3 (Nat.le_of_lt hn3) HGM.out
        have hlw:=@lenV Tryz.prog _ _ _ _ _ hrep
        have hcut:∀ {H:Mem} {ev:Ev} {d:Option Tmp} {ty:TypeId} {p:String} {af:Array Edge} {gd:Option (Nat×Bool)} {x hi:Operand} {hx:ev x=some se} {hh:ev hi=some (.lit (.int .i64 (k:Int)))},
          ex2 Tryz.prog H ev ⟨d,.slice 22 x none (some hi) none,ty,p,af,gd⟩ x hi (some se) (some (.lit (.int .i64 (k:Int)))) hx hh=.val cut H:=fun {H ev d ty p af gd x hi hx hh}=>HAT.out.cuts
        have hgd:E.getD k []=E[k]:=by rw [List.getD_eq_getElem?_getD,List.getElem?_eq_getElem hlt]; rfl
        have HBAD:Hide (refE q E k E[k]=false→ret=1):=⟨fun h=>HBE.out (by
          unfold sufR
          rw [Bool.and_eq_false_iff]
          right
          rw [List.all_eq_false]
          exact ⟨k,by simp [hlt],by rw [hgd,h]; simp⟩)⟩
        have HNEXT:Hide (refE q E k E[k]=true→∀ j,j < k+1→refE q E j (E.getD j [])=true):=⟨fun h j hj=>by
          by_cases e:j=k
          · subst e; rw [hgd]; exact h
          · exact HP.out j (by omega)⟩
        have hwl:=HW7.out _ (List.getElem_mem hlt)
        have HREP:=Hide.mk hrep
        clear hrep hgd
        generalize E[k]=w at *
        by_cases hw0:w.length=0
        · have hr:ret=1:=HBAD.out (by unfold refE; rw [decide_eq_false (by omega:¬w.length≠0),Bool.false_and,Bool.false_and,Bool.false_and])
          rw [hw0] at hlw
          clear hw0
          iterate 8 all_goals try first|with_reducible refine splitI (fun h=>?_) fun h=>?_|with_reducible refine splitBI (fun h=>?_) fun h=>?_|simp (maxSteps:=999999) (disch:=first|assumption|omega|(simp;done)|fail) [Tryz.results15, *]
          exact ⟨Nat.le_of_lt hn3,fun b hb=>HGM.out b hb⟩
        have hw0I:¬(w.length:Int)=0:=by omega
        have HIN:=Hide.mk (rinputs_w w (by omega) q gM n3 q1 HREP.out)
        have hinW:(w.all fun i=>decide (0≤i∧i < q))=inW w q:=rfl
        rw [hinW] at HIN
        have HFD:=Hide.mk (HAT.out.find w q1 gM n3 (Nat.le_of_lt hn3) HGM.out (by omega) HREP.out)
        have HREF:Hide (refE q E k w=(inW w q && !(decide (w∈E.take k)) && (decide (q≤(k:Int)) || decide (w=[(k:Int)])))):=⟨by unfold refE; rw [decide_eq_true hw0,Bool.true_and]⟩
        clear hinW
        generalize inW w q=b1 at *
        generalize decide (w∈E.take k)=b2 at *
        generalize hlwn:w.length=lw at *
        iterate 8 all_goals try first|with_reducible refine splitI (fun h=>?_) fun h=>?_|with_reducible refine splitBI (fun h=>?_) fun h=>?_|simp (maxSteps:=999999) (disch:=first|assumption|omega|(simp;done)|fail) [Tryz.results15, *]
        refine WC.mono HIN.out ?_
        rintro _ rfl
        cases b1 with
        | false =>
          have hr:ret=1:=HBAD.out (by rw [HREF.out]; rfl)
          iterate 8 all_goals try first|with_reducible refine splitI (fun h=>?_) fun h=>?_|with_reducible refine splitBI (fun h=>?_) fun h=>?_|simp (maxSteps:=999999) (disch:=first|assumption|omega|(simp;done)|fail) [Tryz.results15, *]
          exact ⟨Nat.le_of_lt hn3,fun b hb=>HGM.out b hb⟩
        | true =>
          iterate 8 all_goals try first|with_reducible refine splitI (fun h=>?_) fun h=>?_|with_reducible refine splitBI (fun h=>?_) fun h=>?_|simp (maxSteps:=999999) (disch:=first|assumption|omega|(simp;done)|fail) [Tryz.results15, *]
          refine WC.mono HFD.out ?_
          rintro _ ⟨z,rfl,hz⟩
          cases b2 with
          | true =>
            have hz1:0≤z:=of_decide_eq_true hz
            clear hz
            have hr:ret=1:=HBAD.out (by rw [HREF.out]; rfl)
            iterate 8 all_goals try first|with_reducible refine splitI (fun h=>?_) fun h=>?_|with_reducible refine splitBI (fun h=>?_) fun h=>?_|simp (maxSteps:=999999) (disch:=first|assumption|omega|(simp;done)|fail) [Tryz.results15, *]
            exact ⟨Nat.le_of_lt hn3,fun b hb=>HGM.out b hb⟩
          | false =>
            have hz1:¬0≤z:=of_decide_eq_false hz
            clear hz
            by_cases hqk:q≤(k:Int)
            · have hqk2:¬(k:Int) < q:=by omega
              have HP2:=Hide.mk (HNEXT.out (by rw [HREF.out,decide_eq_true hqk]; rfl))
              iterate 8 all_goals try first|with_reducible refine splitI (fun h=>?_) fun h=>?_|with_reducible refine splitBI (fun h=>?_) fun h=>?_|simp (maxSteps:=999999) (disch:=first|assumption|omega|(simp;done)|fail) [Tryz.results15, *]
              exact ihE.out (E.length - (k+1)) _ _ (by omega) ⟨k+1,n3,gM,by omega,rfl,rfl,hn3,HGM,hgn,HP2,by simp [*],by simp⟩
            · have hqk2:(k:Int) < q:=by omega
              have HSM:=Hide.mk (rsame_w w [(k:Int)] (by rw [hlwn]; omega) (by simp) (gput gM n3 (some (.cells [.lit (.int .i64 (k:Int))] true 0))) (n3+1) q1 (.sl n3 0 1 1) (SliceV.mono (by omega) (fun a ha=>gput_lt ha) HREP.out) (.inr ⟨n3,0,by omega,.inl ⟨1,rfl⟩,⟨_,_,_,gput_eq,by simp [wdC],by simp [wdC]⟩⟩))
              have HREF2:Hide (refE q E k w=decide (w=[(k:Int)])):=⟨by rw [HREF.out,decide_eq_false hqk]; rfl⟩
              generalize decide (w=[(k:Int)])=b3 at *
              iterate 8 all_goals try first|with_reducible refine splitI (fun h=>?_) fun h=>?_|with_reducible refine splitBI (fun h=>?_) fun h=>?_|simp (maxSteps:=999999) (disch:=first|assumption|omega|(simp;done)|fail) [Tryz.results15, *]
              refine WC.mono HSM.out ?_
              rintro _ rfl
              cases b3 with
              | true =>
                have HP2:=Hide.mk (HNEXT.out HREF2.out)
                iterate 8 all_goals try first|with_reducible refine splitI (fun h=>?_) fun h=>?_|with_reducible refine splitBI (fun h=>?_) fun h=>?_|simp (maxSteps:=999999) (disch:=first|assumption|omega|(simp;done)|fail) [Tryz.results15, *]
                exact ihE.out (E.length - (k+1)) _ _ (by omega) ⟨k+1,n3+1,_,by omega,rfl,rfl,by omega,⟨fun b hb=>(gput_lt (by omega)).trans (HGM.out b hb)⟩,(gput_lt (by omega)).trans hgn,HP2,by simp [*],by simp⟩
              | false =>
                have hr:ret=1:=HBAD.out HREF2.out
                iterate 8 all_goals try first|with_reducible refine splitI (fun h=>?_) fun h=>?_|with_reducible refine splitBI (fun h=>?_) fun h=>?_|simp (maxSteps:=999999) (disch:=first|assumption|omega|(simp;done)|fail) [Tryz.results15, *]
                exact ⟨Nat.le_of_lt (Nat.lt_succ_of_lt hn3),fun b (hb:b < n)=>(gput_lt (by omega)).trans (HGM.out b hb)⟩
      · have hltI:¬(k:Int) < (E.length:Int):=by omega
        have HSUF:Hide (sufR q E=true):=⟨by
          unfold sufR
          rw [decide_eq_true (by omega:q≤(E.length:Int)),Bool.true_and,List.all_eq_true]
          intro j hj
          exact HP.out j (by have : j < E.length := by simpa using hj
                             omega)⟩
        have hret:ret=if (if ls+1+le > 256 then (3:Int) else 0)≠0 then if ls+1+le > 256 then 3 else 0 else if te≠0 then te else if I2≠q∨O2≠O then 5 else 0:=by
          rw [HRET.out,HACC.out,HSUF.out,if_neg (by simp; omega)]
        clear HP HSUF HACC
        by_cases t12:ls+1+le > 256
        · have t12I:256 < (ls:Int)+1+(le:Int):=by omega
          have hr:ret=3:=by rw [hret,if_pos t12]; simp
          clear hret
          iterate 8 all_goals try first|with_reducible refine splitI (fun h=>?_) fun h=>?_|with_reducible refine splitBI (fun h=>?_) fun h=>?_|simp (maxSteps:=999999) (disch:=first|assumption|omega|(simp;done)|fail) [Tryz.results15, *]
          refine WC.mono (HA.out _ _ (Nat.le_of_lt hn3) HGM.out) ?_
          rintro _ rfl
          iterate 8 all_goals try first|with_reducible refine splitI (fun h=>?_) fun h=>?_|with_reducible refine splitBI (fun h=>?_) fun h=>?_|simp (maxSteps:=999999) (disch:=first|assumption|omega|(simp;done)|fail) [Tryz.results15, *]
          refine WC.mono (HB.out _ _ (Nat.le_of_lt hn3) HGM.out) ?_
          rintro _ rfl
          iterate 8 all_goals try first|with_reducible refine splitI (fun h=>?_) fun h=>?_|with_reducible refine splitBI (fun h=>?_) fun h=>?_|simp (maxSteps:=999999) (disch:=first|assumption|omega|(simp;done)|fail) [Tryz.results15, *]
          exact ⟨Nat.le_of_lt hn3,fun b hb=>HGM.out b hb⟩
        have t12I:¬256 < (ls:Int)+1+(le:Int):=by omega
        rw [if_neg t12,if_neg (by simp)] at hret
        by_cases t13:te=0
        · subst t13
          rw [if_neg (by simp)] at hret
          by_cases t14:I2=q
          · subst t14
            by_cases t15:O2=O
            · subst t15
              have hr:ret=0:=by rw [hret,if_neg (by simp)]
              clear hret
              iterate 8 all_goals try first|with_reducible refine splitI (fun h=>?_) fun h=>?_|with_reducible refine splitBI (fun h=>?_) fun h=>?_|simp (maxSteps:=999999) (disch:=first|assumption|omega|(simp;done)|fail) [Tryz.results15, *]
              refine WC.mono (HA.out _ _ (Nat.le_of_lt hn3) HGM.out) ?_
              rintro _ rfl
              iterate 8 all_goals try first|with_reducible refine splitI (fun h=>?_) fun h=>?_|with_reducible refine splitBI (fun h=>?_) fun h=>?_|simp (maxSteps:=999999) (disch:=first|assumption|omega|(simp;done)|fail) [Tryz.results15, *]
              refine WC.mono (HB.out _ _ (Nat.le_of_lt hn3) HGM.out) ?_
              rintro _ rfl
              iterate 8 all_goals try first|with_reducible refine splitI (fun h=>?_) fun h=>?_|with_reducible refine splitBI (fun h=>?_) fun h=>?_|simp (maxSteps:=999999) (disch:=first|assumption|omega|(simp;done)|fail) [Tryz.results15, *]
              refine WC.mono (HF.out _ _ (Nat.le_of_lt hn3) HGM.out) ?_
              rintro _ rfl
              iterate 8 all_goals try first|with_reducible refine splitI (fun h=>?_) fun h=>?_|with_reducible refine splitBI (fun h=>?_) fun h=>?_|simp (maxSteps:=999999) (disch:=first|assumption|omega|(simp;done)|fail) [Tryz.results15, *]
              exact ⟨Nat.le_of_lt hn3,fun b hb=>HGM.out b hb⟩
            · have hr:ret=5:=by rw [hret,if_pos (.inr t15)]
              clear hret
              iterate 8 all_goals try first|with_reducible refine splitI (fun h=>?_) fun h=>?_|with_reducible refine splitBI (fun h=>?_) fun h=>?_|simp (maxSteps:=999999) (disch:=first|assumption|omega|(simp;done)|fail) [Tryz.results15, *]
              refine WC.mono (HA.out _ _ (Nat.le_of_lt hn3) HGM.out) ?_
              rintro _ rfl
              iterate 8 all_goals try first|with_reducible refine splitI (fun h=>?_) fun h=>?_|with_reducible refine splitBI (fun h=>?_) fun h=>?_|simp (maxSteps:=999999) (disch:=first|assumption|omega|(simp;done)|fail) [Tryz.results15, *]
              refine WC.mono (HB.out _ _ (Nat.le_of_lt hn3) HGM.out) ?_
              rintro _ rfl
              iterate 8 all_goals try first|with_reducible refine splitI (fun h=>?_) fun h=>?_|with_reducible refine splitBI (fun h=>?_) fun h=>?_|simp (maxSteps:=999999) (disch:=first|assumption|omega|(simp;done)|fail) [Tryz.results15, *]
              refine WC.mono (HF.out _ _ (Nat.le_of_lt hn3) HGM.out) ?_
              rintro _ rfl
              iterate 8 all_goals try first|with_reducible refine splitI (fun h=>?_) fun h=>?_|with_reducible refine splitBI (fun h=>?_) fun h=>?_|simp (maxSteps:=999999) (disch:=first|assumption|omega|(simp;done)|fail) [Tryz.results15, *]
              exact ⟨Nat.le_of_lt hn3,fun b hb=>HGM.out b hb⟩
          · have hr:ret=5:=by rw [hret,if_pos (.inl t14)]
            clear hret
            iterate 8 all_goals try first|with_reducible refine splitI (fun h=>?_) fun h=>?_|with_reducible refine splitBI (fun h=>?_) fun h=>?_|simp (maxSteps:=999999) (disch:=first|assumption|omega|(simp;done)|fail) [Tryz.results15, *]
            refine WC.mono (HA.out _ _ (Nat.le_of_lt hn3) HGM.out) ?_
            rintro _ rfl
            iterate 8 all_goals try first|with_reducible refine splitI (fun h=>?_) fun h=>?_|with_reducible refine splitBI (fun h=>?_) fun h=>?_|simp (maxSteps:=999999) (disch:=first|assumption|omega|(simp;done)|fail) [Tryz.results15, *]
            refine WC.mono (HB.out _ _ (Nat.le_of_lt hn3) HGM.out) ?_
            rintro _ rfl
            iterate 8 all_goals try first|with_reducible refine splitI (fun h=>?_) fun h=>?_|with_reducible refine splitBI (fun h=>?_) fun h=>?_|simp (maxSteps:=999999) (disch:=first|assumption|omega|(simp;done)|fail) [Tryz.results15, *]
            refine WC.mono (HF.out _ _ (Nat.le_of_lt hn3) HGM.out) ?_
            rintro _ rfl
            iterate 8 all_goals try first|with_reducible refine splitI (fun h=>?_) fun h=>?_|with_reducible refine splitBI (fun h=>?_) fun h=>?_|simp (maxSteps:=999999) (disch:=first|assumption|omega|(simp;done)|fail) [Tryz.results15, *]
            exact ⟨Nat.le_of_lt hn3,fun b hb=>HGM.out b hb⟩
        · have hr:ret=te:=by rw [hret,if_pos t13]
          clear hret
          iterate 8 all_goals try first|with_reducible refine splitI (fun h=>?_) fun h=>?_|with_reducible refine splitBI (fun h=>?_) fun h=>?_|simp (maxSteps:=999999) (disch:=first|assumption|omega|(simp;done)|fail) [Tryz.results15, *]
          refine WC.mono (HA.out _ _ (Nat.le_of_lt hn3) HGM.out) ?_
          rintro _ rfl
          iterate 8 all_goals try first|with_reducible refine splitI (fun h=>?_) fun h=>?_|with_reducible refine splitBI (fun h=>?_) fun h=>?_|simp (maxSteps:=999999) (disch:=first|assumption|omega|(simp;done)|fail) [Tryz.results15, *]
          refine WC.mono (HB.out _ _ (Nat.le_of_lt hn3) HGM.out) ?_
          rintro _ rfl
          iterate 8 all_goals try first|with_reducible refine splitI (fun h=>?_) fun h=>?_|with_reducible refine splitBI (fun h=>?_) fun h=>?_|simp (maxSteps:=999999) (disch:=first|assumption|omega|(simp;done)|fail) [Tryz.results15, *]
          refine WC.mono (HF.out _ _ (Nat.le_of_lt hn3) HGM.out) ?_
          rintro _ rfl
          iterate 8 all_goals try first|with_reducible refine splitI (fun h=>?_) fun h=>?_|with_reducible refine splitBI (fun h=>?_) fun h=>?_|simp (maxSteps:=999999) (disch:=first|assumption|omega|(simp;done)|fail) [Tryz.results15, *]
          exact ⟨Nat.le_of_lt hn3,fun b hb=>HGM.out b hb⟩
  · have hr:ret=1:=HBS0.out t10
    have t10I:0 < (lw0:Int):=by omega
    have t10N:0 < lw0:=by omega
    refine WC.enterP (noO_ok _ _) hG pl15 Tryz.func15 rfl (by decide +kernel) (Nat.le_of_ble_eq_true (by kernel_rfl)) ?_
    iterate 8 all_goals try first|with_reducible refine splitI (fun h=>?_) fun h=>?_|with_reducible refine splitBI (fun h=>?_) fun h=>?_|simp (maxSteps:=999999) (disch:=first|assumption|omega|(simp;done)|fail) [Tryz.results15, *]
    refine WC.mono (HA.out _ _ (Nat.le_succ n) fun b hb=>gput_lt hb) ?_
    rintro _ rfl
    iterate 8 all_goals try first|with_reducible refine splitI (fun h=>?_) fun h=>?_|with_reducible refine splitBI (fun h=>?_) fun h=>?_|simp (maxSteps:=999999) (disch:=first|assumption|omega|(simp;done)|fail) [Tryz.results15, *]
    refine WC.mono (HB.out _ _ (Nat.le_succ n) fun b hb=>gput_lt hb) ?_
    rintro _ rfl
    iterate 8 all_goals try first|with_reducible refine splitI (fun h=>?_) fun h=>?_|with_reducible refine splitBI (fun h=>?_) fun h=>?_|simp (maxSteps:=999999) (disch:=first|assumption|omega|(simp;done)|fail) [Tryz.results15, *]
    all_goals exact ⟨Nat.le_succ n,fun b hb=>gput_lt hb⟩
end Go.Ai
end
