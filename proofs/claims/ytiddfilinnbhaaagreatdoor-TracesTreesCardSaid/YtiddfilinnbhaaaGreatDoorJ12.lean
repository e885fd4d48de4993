/- A small verified interpreter over names, its proofs, and what was proved with it. No condition. -/
import Derived.Shelf.Vars
import Derived.Shelf.SlSortCmp.WholeK
import Derived.Test.YtiddfilinnbhaaaGreatDoorProg
import Derived.Test.YtiddfilinnbhaaaGreatDoorJ11
import Derived.Test.YtiddfilinnbhaaaGreatDoorJ05
import Derived.Test.YtiddfilinnbhaaaGreatDoorJ10
import Derived.Test.YtiddfilinnbhaaaGreatDoorJ06
import Derived.Test.YtiddfilinnbhaaaGreatDoorJ08
set_option linter.all false
set_option linter.deprecated false
section
namespace Go.Ai
open Go.Proofs
theorem H0m_get {m:Int} {a:Nat} {x:Blk} (h:(H0m m).get a=some x) : a=0∧x=.cells [.lit (.int .i64 m)] false 0:=by
 have h1:get4 (u4 e4 0 (.v 0 (.cells [.lit (.int .i64 m)] false 0))) a=some x:=h
 rcases get4_v _ _ _ _ _ h1 with ⟨rfl,rfl⟩ | ⟨_,h2⟩
 ·exact ⟨rfl,rfl⟩
 ·rw [get4_e4] at h2; cases h2
theorem lives_w (H:Mem) (m:Int) (hM:H.get 0=some (.cells [.lit (.int .i64 m)] false 0)) : WC 3 Tryz.prog 16 [] H fun r=>r=.ret (.lit (.bool true)) H:=by
 refine WC.local (H0:=H0m m) (O:=callB Tryz.prog bl34 O34 10000) (callB_ok O34_ok hG 10000) (top_run m) rfl rfl (Nat.le_refl 3) (fun a=>?_) (fun a x hx=>?_) fun a x hx=>?_
 ·cases hx:(H0m m).get a with
  | none=>rfl
  | some x =>
   obtain ⟨rfl,rfl⟩:=H0m_get hx
   rfl
 ·obtain ⟨rfl,rfl⟩:=H0m_get hx
  exact hM
 ·obtain ⟨rfl,rfl⟩:=H0m_get hx
  show 0 < 3
  omega
end Go.Ai
end
section
namespace Go.Ai
open Go.Proofs
set_option maxRecDepth 10000
set_option maxHeartbeats 40000000
end Go.Ai
end
section
namespace Go.Ai
open Go.Proofs
set_option maxRecDepth 10000
set_option maxHeartbeats 40000000
structure EdgeAt (g:Nat→Option Blk) (n:Nat) (rv:AV) (k i:Nat) (e:Int×Int) (a off a2 off2:Nat) (q:AV) : Prop where
 an:a < n
 an2:a2 < n
 ia:∀ {H:Mem} {ev:Ev} {o:Oper} {t:TypeId},iaS Tryz.prog H ev o t (some (none,1)) (some rv) (some (.lit (.int .i64 (k:Int))))=.val (.ptr a (off+k)) H
 cell:loadB (some (false,1)) (g a) (off+k)=some q
 ia2:∀ {H:Mem} {ev:Ev} {o:Oper} {t:TypeId},iaS Tryz.prog H ev o t (some (none,2)) (some q) (some (.lit (.int .i64 (i:Int))))=.val (.ptr a2 (off2+i * 2)) H
 cell2:loadB (some (true,2)) (g a2) (off2+i * 2)=some (.agg [.lit (.int .i64 e.1),.lit (.int .i64 e.2)])
theorem take_snoc {α:Type} {l:List α} {k:Nat} (h:k < l.length) : l.take (k+1)=l.take k++[l[k]]:=by rw [List.take_succ,List.getElem?_eq_getElem h]; rfl
def FreshW (g:Nat→Option Blk) (lo n:Nat) (w:List Int) (sv:AV) : Prop:=∃ gk:Nat→Option Blk,(∀ a z,gk a=some z→g a=some z∧lo≤a∧a < n)∧RepW gk n w sv
theorem FreshW.rep {g:Nat→Option Blk} {lo n:Nat} {w:List Int} {sv:AV} (h:FreshW g lo n w sv) : RepW g n w sv :=
 let ⟨_,h1,h3⟩:=h; SliceV.ext (Nat.le_refl _) (fun a z _ hz=>(h1 a z hz).1) h3
theorem FreshW.keep {g g' : Nat→Option Blk} {lo lo' n n' : Nat} {w:List Int} {sv:AV} (h:FreshW g lo n w sv) (h0:lo'≤lo) (h2:n≤n') (hg:∀ a,lo≤a→a < n→g' a=g a) : FreshW g' lo' n' w sv:=by
 obtain ⟨gk,h1,h3⟩:=h
 refine ⟨gk,fun a z hz=>?_,SliceV.ext h2 (fun a z _ hz=>hz) h3⟩
 obtain ⟨e1,e2,e3⟩:=h1 a z hz
 exact ⟨(hg a e2 e3).trans e1,by omega,by omega⟩
theorem GrowV.fresh {g:Nat→Option Blk} {lo n B len:Nat} {sv:AV} {w:List Int} (h:GrowV g lo n B sv len 1 (wdC w)) (hl:len=w.length) : FreshW g lo n w sv:=by
 subst hl
 refine ⟨_,fun a z hz=>?_,h.slice⟩
 have hz' : (if a=B∧lo≤B∧B < n then g a else none)=some z:=hz
 split at hz'
 ·rename_i h1
  obtain ⟨rfl,h2,h3⟩:=h1
  exact ⟨hz',h2,h3⟩
 ·cases hz'
theorem wdC_snoc (w:List Int) (x:Int) : wdC (w++[x])=wdC w++[.lit (.int .i64 x)]:=by simp [wdC]
end Go.Ai
end
section
namespace Go.Ai
open Go.Proofs
set_option maxRecDepth 10000
set_option maxHeartbeats 40000000
theorem wC2_w (x q:Int) (p:Nat) (g:Nat→Option Blk) (n:Nat) (hp:g p=some (.cells [.lit (.int .i64 q)] true 0)) (hpn:p < n) :
  WC 3 Tryz.prog 94 [.lit (.int .i64 x),.ptr p 0] ⟨.fn g,n⟩ fun r=>r=.ret (.lit (.bool (decide (¬(0≤x∧x < q))))) ⟨.fn g,n⟩:=by
 by_cases t1:x < 0
 ·have hd:decide (¬(0≤x∧x < q))=true:=decide_eq_true (by omega)
  rw [hd]
  refine WC.enterP (noO_ok _ _) hG [] Tryz.func94 rfl (by decide +kernel) (Nat.le_of_ble_eq_true (by kernel_rfl)) ?_
  iterate 6 (all_goals try (first | with_reducible refine splitI (fun h=>?_) (fun h=>?_) | with_reducible refine splitBI (fun h=>?_) (fun h=>?_) | simp (config:={ maxSteps:=1000000 }) (disch:=first | assumption | omega | (simp; done) | fail) [Tryz.results94, *]))
 by_cases t2:q≤x
 ·have hd:decide (¬(0≤x∧x < q))=true:=decide_eq_true (by omega)
  rw [hd]
  refine WC.enterP (noO_ok _ _) hG [] Tryz.func94 rfl (by decide +kernel) (Nat.le_of_ble_eq_true (by kernel_rfl)) ?_
  iterate 6 (all_goals try (first | with_reducible refine splitI (fun h=>?_) (fun h=>?_) | with_reducible refine splitBI (fun h=>?_) (fun h=>?_) | simp (config:={ maxSteps:=1000000 }) (disch:=first | assumption | omega | (simp; done) | fail) [Tryz.results94, *]))
 ·have hd:decide (¬(0≤x∧x < q))=false:=decide_eq_false (by omega)
  rw [hd]
  refine WC.enterP (noO_ok _ _) hG [] Tryz.func94 rfl (by decide +kernel) (Nat.le_of_ble_eq_true (by kernel_rfl)) ?_
  iterate 6 (all_goals try (first | with_reducible refine splitI (fun h=>?_) (fun h=>?_) | with_reducible refine splitBI (fun h=>?_) (fun h=>?_) | simp (config:={ maxSteps:=1000000 }) (disch:=first | assumption | omega | (simp; done) | fail) [Tryz.results94, *]))
theorem iFunc2_w (w:List Int) (hwl:w.length≤1000000) (q:Int) (sv:AV) (p:Nat) (g:Nat→Option Blk) (n:Nat) (hp:g p=some (.cells [.lit (.int .i64 q)] true 0)) (hpn:p < n) (hsv:RepW g n w sv) :
  WC 3 Tryz.prog 110 [sv,.func (.func 94) [] [.ptr p 0]] ⟨.fn g,n⟩ fun r=>∃ z:Int,r=.ret (.lit (.int .i64 z)) ⟨.fn g,n⟩∧decide (0≤z) = !(w.all fun i=>decide (0≤i∧i < q)):=by
 have hlen:=@lenV Tryz.prog _ _ _ _ _ hsv
 have HS:=Hide.mk hsv
 have HP:=Hide.mk hp
 clear hsv hp
 obtain ⟨ret,hret⟩ : ∃ b,b = !(w.all fun i=>decide (0≤i∧i < q)):=⟨_,rfl⟩
 rw [← hret]
 have HRET:=Hide.mk hret
 clear hret
 refine WC.enterP (noO_ok _ _) hG [] Tryz.func110 rfl (by decide +kernel) (Nat.le_of_ble_eq_true (by kernel_rfl)) ?_
 iterate 6 (all_goals try (first | with_reducible refine splitI (fun h=>?_) (fun h=>?_) | with_reducible refine splitBI (fun h=>?_) (fun h=>?_) | simp (config:={ maxSteps:=1000000 }) (disch:=first | assumption | omega | (simp; done) | fail) [Tryz.results110, *]))
 refine LX.ind (fun m gf H'=>∃ (k:Nat),k≤w.length∧m=w.length - k∧H'=⟨.fn g,n⟩∧Hide (∀ i∈w.take k,0≤i∧i < q) ∧
  gf 0=some sv∧gf 1=some (.func (.func 94) [] [.ptr p 0])∧gf 7=some (.lit (.int .i64 w.length))∧gf 8=some (.lit (.int .i64 k))) (m0:=w.length) ?_ ?_
 ·exact ⟨0,Nat.zero_le _,rfl,rfl,⟨by simp⟩,by simp,by simp,by simp,by simp⟩
 rintro m gf H' ⟨k,hk,rfl,rfl,HPRE,w0,w1,w7,w8⟩ ih
 refine LX.roundP (noO_ok _ _) hG [] (by decide +kernel) ?_
 by_cases hlt:k < w.length
 ·have hltI:(k:Int) < (w.length:Int):=by omega
  obtain ⟨a2,off,ha2,hrow,hia⟩:=SliceV.ia (P:=Tryz.prog) HS.out hlt 1
  simp only [Nat.mul_one] at hia
  have hcell:=hrow.one (k:=k) (s:=1) (by rw [wdC_len]; exact hlt)
  rw [(List.getElem?_eq_some_iff.1 (wdC_at w k hlt)).2] at hcell
  have htk:w.take (k+1)=w.take k++[w[k]]:=by rw [List.take_succ,List.getElem?_eq_getElem hlt]; rfl
  have HT:=Hide.mk htk
  have HM:=Hide.mk (List.getElem_mem hlt)
  clear htk hrow ha2
  generalize w[k]=x at *
  have HC:=Hide.mk (wC2_w x q p g n HP.out hpn)
  iterate 6 (all_goals try (first | with_reducible refine splitI (fun h=>?_) (fun h=>?_) | with_reducible refine splitBI (fun h=>?_) (fun h=>?_) | simp (config:={ maxSteps:=1000000 }) (disch:=first | assumption | omega | (simp; done) | fail) [Tryz.results110, *]))
  refine WC.mono HC.out ?_
  rintro _ rfl
  by_cases hb:0≤x∧x < q
  ·have hd:decide (¬(0≤x∧x < q))=false:=decide_eq_false (by omega)
   rw [hd]
   have HB:=Hide.mk hb
   clear hb
   iterate 6 (all_goals try (first | with_reducible refine splitI (fun h=>?_) (fun h=>?_) | with_reducible refine splitBI (fun h=>?_) (fun h=>?_) | simp (config:={ maxSteps:=1000000 }) (disch:=first | assumption | omega | (simp; done) | fail) [Tryz.results110, *]))
   refine ih.out (w.length - (k+1)) _ _ (by omega) ⟨k+1,by omega,rfl,rfl,⟨fun i hi=>?_⟩,by simp [*],by simp [*],by simp [*],by simp⟩
   rw [HT.out] at hi
   rcases List.mem_append.1 hi with h | h
   ·exact HPRE.out i h
   ·rw [List.mem_singleton.1 h]; exact HB.out
  ·have hd:decide (¬(0≤x∧x < q))=true:=decide_eq_true hb
   rw [hd]
   have hr:ret=true:=by
    rw [HRET.out,Bool.not_eq_true',List.all_eq_false]
    exact ⟨x,HM.out,by simpa using hb⟩
   clear hb
   iterate 6 (all_goals try (first | with_reducible refine splitI (fun h=>?_) (fun h=>?_) | with_reducible refine splitBI (fun h=>?_) (fun h=>?_) | simp (config:={ maxSteps:=1000000 }) (disch:=first | assumption | omega | (simp; done) | fail) [Tryz.results110, *]))
 ·have hltI:¬(k:Int) < (w.length:Int):=by omega
  have hk2:k=w.length:=by omega
  have hr:ret=false:=by
   rw [HRET.out,Bool.not_eq_false',List.all_eq_true]
   intro i hi
   have:=HPRE.out i (by rw [hk2,List.take_length]; exact hi)
   simpa using this
  clear hk2
  iterate 6 (all_goals try (first | with_reducible refine splitI (fun h=>?_) (fun h=>?_) | with_reducible refine splitBI (fun h=>?_) (fun h=>?_) | simp (config:={ maxSteps:=1000000 }) (disch:=first | assumption | omega | (simp; done) | fail) [Tryz.results110, *]))
theorem cFunc2_w (w:List Int) (hwl:w.length≤1000000) (q:Int) (sv:AV) (p:Nat) (g:Nat→Option Blk) (n:Nat) (hp:g p=some (.cells [.lit (.int .i64 q)] true 0)) (hpn:p < n) (hsv:RepW g n w sv) :
  WC 3 Tryz.prog 93 [sv,.func (.func 94) [] [.ptr p 0]] ⟨.fn g,n⟩ fun r=>r=.ret (.lit (.bool (!(w.all fun i=>decide (0≤i∧i < q))))) ⟨.fn g,n⟩:=by
 have HI:=Hide.mk (iFunc2_w w hwl q sv p g n hp hpn hsv)
 clear hp hsv
 generalize (!(w.all fun i=>decide (0≤i∧i < q)))=bb at *
 refine WC.enterP (noO_ok _ _) hG [] Tryz.func93 rfl (by decide +kernel) (Nat.le_of_ble_eq_true (by kernel_rfl)) ?_
 iterate 6 (all_goals try (first | with_reducible refine splitI (fun h=>?_) (fun h=>?_) | with_reducible refine splitBI (fun h=>?_) (fun h=>?_) | simp (config:={ maxSteps:=1000000 }) (disch:=first | assumption | omega | (simp; done) | fail) [Tryz.results93, *]))
 refine WC.mono HI.out ?_
 rintro _ ⟨z,rfl,hz⟩
 cases bb with
 | true =>
  have hz1:0≤z:=of_decide_eq_true hz
  clear hz
  iterate 6 (all_goals try (first | with_reducible refine splitI (fun h=>?_) (fun h=>?_) | with_reducible refine splitBI (fun h=>?_) (fun h=>?_) | simp (config:={ maxSteps:=1000000 }) (disch:=first | assumption | omega | (simp; done) | fail) [Tryz.results93, *]))
 | false =>
  have hz1:¬0≤z:=of_decide_eq_false hz
  clear hz
  iterate 6 (all_goals try (first | with_reducible refine splitI (fun h=>?_) (fun h=>?_) | with_reducible refine splitBI (fun h=>?_) (fun h=>?_) | simp (config:={ maxSteps:=1000000 }) (disch:=first | assumption | omega | (simp; done) | fail) [Tryz.results93, *]))
def wErr (w:List Int) (q:Int) : Int:=if q > 16∨w.length > 256 then 3 else if q < 1∨inW w q=false then 1 else 0
theorem wCheck_w (w:List Int) (hwl:w.length≤1000000) (q:Int) (g:Nat→Option Blk) (n:Nat) (sv:AV) (hsv:RepW g n w sv) :
  WC 3 Tryz.prog 66 [sv,.lit (.int .i64 q)] ⟨.fn g,n⟩ fun r=>r=.ret (.lit (.int .i64 (wErr w q))) ⟨.fn g,n⟩:=by
 refine WC.drop1 rfl ?_
 have hlen:=@lenV Tryz.prog _ _ _ _ _ hsv
 have HS:=Hide.mk hsv
 clear hsv
 by_cases t1:q > 16
 ·have he:wErr w q=3:=by unfold wErr; rw [if_pos (.inl t1)]
  rw [he]
  refine WC.enterP (noO_ok _ _) hG [] Tryz.func66 rfl (by decide +kernel) (Nat.le_of_ble_eq_true (by kernel_rfl)) ?_
  iterate 6 (all_goals try (first | with_reducible refine splitI (fun h=>?_) (fun h=>?_) | with_reducible refine splitBI (fun h=>?_) (fun h=>?_) | simp (config:={ maxSteps:=1000000 }) (disch:=first | assumption | omega | (simp; done) | fail) [Tryz.results66, *]))
  all_goals exact ⟨Nat.le_succ n,fun b hb=>gput_lt hb⟩
 by_cases t2:w.length > 256
 ·have he:wErr w q=3:=by unfold wErr; rw [if_pos (.inr t2)]
  rw [he]
  have t2I:256 < (w.length:Int):=by omega
  refine WC.enterP (noO_ok _ _) hG [] Tryz.func66 rfl (by decide +kernel) (Nat.le_of_ble_eq_true (by kernel_rfl)) ?_
  iterate 6 (all_goals try (first | with_reducible refine splitI (fun h=>?_) (fun h=>?_) | with_reducible refine splitBI (fun h=>?_) (fun h=>?_) | simp (config:={ maxSteps:=1000000 }) (disch:=first | assumption | omega | (simp; done) | fail) [Tryz.results66, *]))
  all_goals exact ⟨Nat.le_succ n,fun b hb=>gput_lt hb⟩
 have t2I:¬256 < (w.length:Int):=by omega
 by_cases t3:q < 1
 ·have he:wErr w q=1:=by unfold wErr; rw [if_neg (by omega),if_pos (.inl t3)]
  rw [he]
  refine WC.enterP (noO_ok _ _) hG [] Tryz.func66 rfl (by decide +kernel) (Nat.le_of_ble_eq_true (by kernel_rfl)) ?_
  iterate 6 (all_goals try (first | with_reducible refine splitI (fun h=>?_) (fun h=>?_) | with_reducible refine splitBI (fun h=>?_) (fun h=>?_) | simp (config:={ maxSteps:=1000000 }) (disch:=first | assumption | omega | (simp; done) | fail) [Tryz.results66, *]))
  all_goals exact ⟨Nat.le_succ n,fun b hb=>gput_lt hb⟩
 have HC:=Hide.mk (cFunc2_w w hwl q sv n (gput g n (some (.cells [.lit (.int .i64 q)] true 0))) (n+1) gput_eq (by omega) (HS.out.mono (by omega) fun a ha=>gput_lt ha))
 have he:wErr w q=if inW w q=false then 1 else 0:=by
  unfold wErr; rw [if_neg (by omega)]
  by_cases h:inW w q=false
  ·rw [if_pos (.inr h),if_pos h]
  ·rw [if_neg (fun h2=>h2.elim t3 h),if_neg h]
 rw [he]
 clear he
 have hin:(w.all fun i=>decide (0≤i∧i < q))=inW w q:=rfl
 rw [hin] at HC
 clear hin
 generalize inW w q=bb at *
 refine WC.enterP (noO_ok _ _) hG [] Tryz.func66 rfl (by decide +kernel) (Nat.le_of_ble_eq_true (by kernel_rfl)) ?_
 iterate 6 (all_goals try (first | with_reducible refine splitI (fun h=>?_) (fun h=>?_) | with_reducible refine splitBI (fun h=>?_) (fun h=>?_) | simp (config:={ maxSteps:=1000000 }) (disch:=first | assumption | omega | (simp; done) | fail) [Tryz.results66, *]))
 refine WC.mono HC.out ?_
 rintro _ rfl
 cases bb
 all_goals
  iterate 6 (all_goals try (first | with_reducible refine splitI (fun h=>?_) (fun h=>?_) | with_reducible refine splitBI (fun h=>?_) (fun h=>?_) | simp (config:={ maxSteps:=1000000 }) (disch:=first | assumption | omega | (simp; done) | fail) [Tryz.results66, *]))
  all_goals exact ⟨Nat.le_succ n,fun b hb=>gput_lt hb⟩
theorem wErr_ok {w:List Int} {q:Int} (h0:1≤q) (h1:q≤16) (h2:w.length≤256) (h3:inW w q=true) : wErr w q=0:=by
 unfold wErr
 rw [if_neg (by omega),if_neg]
 rintro (h | h)
 ·omega
 ·rw [h3] at h; cases h
theorem mkI57:mkI Tryz.prog 57=some (.lit (.int .i64 0)):=by kernel_rfl
attribute [simp] mkI57
end Go.Ai
end
section
namespace Go.Ai
open Go.Proofs
set_option maxRecDepth 10000
set_option maxHeartbeats 40000000
def u8C (bs:List Nat) : List AV:=bs.map fun (b:Nat)=>.lit (.int .u8 (b:Int))
def RepB (g:Nat→Option Blk) (n:Nat) (bs:List Nat) (sv:AV) : Prop:=SliceV g n sv bs.length (u8C bs)
theorem RepB.at {g:Nat→Option Blk} {n:Nat} {w:List Nat} {q1:AV} (h:RepB g n w q1) {k:Nat} (hk:k < w.length) : ∃ a off,a < n∧(∀ {H:Mem} {ev:Ev} {o:Oper} {t:TypeId},iaS Tryz.prog H ev o t (some (none,1)) (some q1) (some (.lit (.int .i64 (k:Int))))=.val (.ptr a (off+k)) H)∧loadB (some (false,1)) (g a) (off+k)=some (.lit (.int .u8 (w[k] : Nat))):=by
 obtain ⟨a2,off,ha2,hrow,hia⟩:=SliceV.ia (P:=Tryz.prog) h hk 1
 simp only [Nat.mul_one] at hia
 have hcell:=hrow.one (k:=k) (s:=1) (by unfold u8C; rw [List.length_map]; exact hk)
 rw [show (u8C w)[k]'(by unfold u8C; rw [List.length_map]; exact hk)=.lit (.int .u8 (w[k] : Nat)) by simp [u8C]] at hcell
 exact ⟨a2,off,ha2,hia,hcell⟩
end Go.Ai
end
section
namespace Go.Ai
open Go.Proofs
set_option maxRecDepth 10000
set_option maxHeartbeats 40000000
def SafeW (g:Nat→Option Blk) (lo n B:Nat) (w:List Int) (sv:AV) : Prop:=∃ gk:Nat→Option Blk,(∀ a z,gk a=some z→g a=some z∧lo≤a∧a < n∧a≠B)∧RepW gk n w sv
theorem SafeW.rep {g:Nat→Option Blk} {lo n B:Nat} {w:List Int} {sv:AV} (h:SafeW g lo n B w sv) : RepW g n w sv :=
 let ⟨_,h1,h3⟩:=h; SliceV.ext (Nat.le_refl _) (fun a z _ hz=>(h1 a z hz).1) h3
theorem SafeW.keep {g g' : Nat→Option Blk} {lo lo' n n' B B' : Nat} {w:List Int} {sv:AV} (h:SafeW g lo n B w sv) (h0:lo'≤lo) (h2:n≤n') (hB:n≤B'∨B'=B∨B' < lo) (hg:∀ a,lo≤a→a < n→a≠B→g' a=g a) : SafeW g' lo' n' B' w sv:=by
 obtain ⟨gk,h1,h3⟩:=h
 refine ⟨gk,fun a z hz=>?_,SliceV.ext h2 (fun a z _ hz=>hz) h3⟩
 obtain ⟨e1,e2,e3,e4⟩:=h1 a z hz
 exact ⟨(hg a e2 e3 e4).trans e1,by omega,by omega,by omega⟩
def RowsF (g:Nat→Option Blk) (lo n B:Nat) (ts:List (List Int×List Int)) (cs:List AV) : Prop :=
 cs.length=ts.length * 2∧∀ (k:Nat) (h:k < ts.length),∃ s1 s2,cs[k * 2]?=some s1∧cs[k * 2+1]?=some s2∧SafeW g lo n B ts[k].1 s1∧SafeW g lo n B ts[k].2 s2
theorem RowsF.keep {g g' : Nat→Option Blk} {lo lo' n n' B B' : Nat} {ts:List (List Int×List Int)} {cs:List AV} (h:RowsF g lo n B ts cs) (h0:lo'≤lo) (h2:n≤n') (hB:n≤B'∨B'=B∨B' < lo) (hg:∀ a,lo≤a→a < n→a≠B→g' a=g a) : RowsF g' lo' n' B' ts cs :=
 ⟨h.1,fun k hk=>let ⟨s1,s2,h1,h3,h4,h5⟩:=h.2 k hk; ⟨s1,s2,h1,h3,h4.keep h0 h2 hB hg,h5.keep h0 h2 hB hg⟩⟩
theorem RowsF.nil {g:Nat→Option Blk} {lo n B:Nat} : RowsF g lo n B [] []:=⟨rfl,fun k hk=>by cases hk⟩
theorem RowsF.snoc {g:Nat→Option Blk} {lo n B:Nat} {ts:List (List Int×List Int)} {cs:List AV} (h:RowsF g lo n B ts cs) {t:List Int×List Int} {s1 s2:AV} (h1:SafeW g lo n B t.1 s1) (h2:SafeW g lo n B t.2 s2) : RowsF g lo n B (ts++[t]) (cs++[s1,s2]):=by
 have hl:=h.1
 refine ⟨by simp [hl]; omega,fun k hk=>?_⟩
 rw [List.length_append,List.length_singleton] at hk
 by_cases hlt:k < ts.length
 ·obtain ⟨t1,t2,e1,e2,e3,e4⟩:=h.2 k hlt
  refine ⟨t1,t2,?_,?_,?_,?_⟩
  ·rw [List.getElem?_append_left (by omega)]; exact e1
  ·rw [List.getElem?_append_left (by omega)]; exact e2
  ·rw [List.getElem_append_left hlt]; exact e3
  ·rw [List.getElem_append_left hlt]; exact e4
 ·have hk2:k=ts.length:=by omega
  subst hk2
  refine ⟨s1,s2,?_,?_,?_,?_⟩
  ·rw [List.getElem?_append_right (by omega),hl,Nat.sub_self]; rfl
  ·rw [List.getElem?_append_right (by omega),hl,show ts.length * 2+1 - ts.length * 2=1 by omega]; rfl
  ·simpa using h1
  ·simpa using h2
theorem RowsF.rows {g:Nat→Option Blk} {lo n B:Nat} {ts:List (List Int×List Int)} {cs:List AV} (h:RowsF g lo n B ts cs) : RowsT g n ts cs :=
 ⟨h.1,fun k hk=>let ⟨s1,s2,h1,h3,h4,h5⟩:=h.2 k hk; ⟨s1,s2,h1,h3,h4.rep,h5.rep⟩⟩
def LogF (g:Nat→Option Blk) (lo n B:Nat) (ts:List (List Int×List Int)) (sv:AV) : Prop:=∃ cs,GrowV g lo n B sv ts.length 2 cs∧RowsF g lo n B ts cs
theorem LogF.keep {g g' : Nat→Option Blk} {lo lo' n n' B:Nat} {ts:List (List Int×List Int)} {sv:AV} (h:LogF g lo n B ts sv) (h0:lo'≤lo) (h2:n≤n') (hg:∀ a,lo≤a→a < n→g' a=g a) : LogF g' lo' n' B ts sv:=by
 obtain ⟨cs,h1,h3⟩:=h
 refine ⟨cs,?_,h3.keep h0 h2 (.inr (.inl rfl)) fun a h4 h5 _=>hg a h4 h5⟩
 rcases h1 with h1 | ⟨k1,k2,k3,k4,k5,k6⟩
 ·exact .inl h1
 ·exact .inr ⟨k1,k2,by omega,by omega,(hg B k3 k4).trans k5,k6⟩
theorem LogF.one {g:Nat→Option Blk} {lo n B:Nat} {ts:List (List Int×List Int)} {sv:AV} (h:LogF g lo n B ts sv) : oneC sv=true:=let ⟨_,h1,_⟩:=h; h1.one
def ListB (g:Nat→Option Blk) (n:Nat) (l:List (List Nat)) (wv:AV) : Prop:=∃ svs,SliceV g n wv l.length svs∧svs.length=l.length∧∀ (k:Nat) (h:k < l.length),∃ sv,svs[k]?=some sv∧RepB g n l[k] sv
theorem ListB.mono {g g' : Nat→Option Blk} {n n' : Nat} {l:List (List Nat)} {wv:AV} (h:ListB g n l wv) (hn:n≤n') (hg:∀ a,a < n→g' a=g a) : ListB g' n' l wv :=
 let ⟨svs,h1,h2,h3⟩:=h; ⟨svs,h1.mono hn hg,h2,fun k hk=>let ⟨sv,e1,e2⟩:=h3 k hk; ⟨sv,e1,SliceV.mono hn hg e2⟩⟩
theorem ListB.at {g:Nat→Option Blk} {n:Nat} {l:List (List Nat)} {wv:AV} (h:ListB g n l wv) {k:Nat} (hk:k < l.length) : ∃ a off q,a < n∧(∀ {H:Mem} {ev:Ev} {o:Oper} {t:TypeId},iaS Tryz.prog H ev o t (some (none,1)) (some wv) (some (.lit (.int .i64 (k:Int))))=.val (.ptr a (off+k)) H)∧loadB (some (false,1)) (g a) (off+k)=some q∧RepB g n l[k] q:=by
 obtain ⟨svs,h1,h2,h3⟩:=h
 obtain ⟨q,e1,e2⟩:=h3 k hk
 obtain ⟨a,off,ha,hrow,hia⟩:=h1.ia (P:=Tryz.prog) hk 1
 simp only [Nat.mul_one] at hia
 have hc:=hrow.one (k:=k) (s:=1) (by omega)
 rw [(List.getElem?_eq_some_iff.1 e1).2] at hc
 exact ⟨a,off,q,ha,hia,hc,e2⟩
structure InG (g:Nat→Option Blk) (n:Nat) (st inp out:Nat) (es:List Nat) (ev:AV) (ws:List (List Nat)) (wv:AV) : Prop where
 b0:st < 256
 b1:inp < 256
 b2:out < 256
 se:SliceA g n ev es.length (u16Cells es)
 eb:∀ c∈es,c < 65536
 sw:ListB g n ws wv
 wb:∀ w∈ws,∀ b∈w,b < 256
theorem InG.mono {g g' : Nat→Option Blk} {n n' st inp out:Nat} {es:List Nat} {ev:AV} {ws:List (List Nat)} {wv:AV} (h:InG g n st inp out es ev ws wv) (hn:n≤n') (hg:∀ a,a < n→g' a=g a) : InG g' n' st inp out es ev ws wv :=
 ⟨h.b0,h.b1,h.b2,h.se.mono hn hg,h.eb,h.sw.mono hn hg,h.wb⟩
end Go.Ai
end
section
namespace Go.Ai
open Go.Proofs
set_option maxRecDepth 10000
structure LogOK (I O:Int) (ts:List (List Int×List Int)) : Prop where
 len:ts.length≤40
 i1:1≤I
 i2:I≤16
 o1:1≤O
 o2:O≤16
 wl:∀ t∈ts,t.1.length≤256
 ok:∀ t∈ts,validB I O t=true
theorem LogOK.small {I O:Int} {ts:List (List Int×List Int)} (h:LogOK I O ts) : SmallL ts:=by
 refine ⟨h.len,fun t ht=>by have:=h.wl t ht; omega,fun t ht=>?_⟩
 have h1:=h.ok t ht
 unfold validB at h1
 rw [Bool.and_eq_true,Bool.and_eq_true] at h1
 have h2:=of_decide_eq_true h1.1.1
 have:=h.wl t ht
 omega
theorem LogOK.set {I O:Int} {ts:List (List Int×List Int)} (h:LogOK I O ts) {i:Nat} {t:List Int×List Int} (h1:t.1.length≤256) (h2:validB I O t=true) : LogOK I O (ts.set i t) :=
 ⟨by rw [List.length_set]; exact h.len,h.i1,h.i2,h.o1,h.o2,fun u hu=>by rcases List.mem_or_eq_of_mem_set hu with h3 | rfl; exact h.wl u h3; exact h1,fun u hu=>by rcases List.mem_or_eq_of_mem_set hu with h3 | rfl; exact h.ok u h3; exact h2⟩
theorem getD_mem {α:Type} {l:List α} {k:Nat} {d:α} (h:k < l.length) : l.getD k d∈l∧l.getD k d=l[k]:=by
 have:l.getD k d=l[k]:=by rw [List.getD_eq_getElem?_getD,List.getElem?_eq_getElem h]; rfl
 exact ⟨this ▸ List.getElem_mem h,this⟩
end Go.Ai
end
section
namespace Go.Ai
open Go.Proofs
set_option maxRecDepth 10000
set_option maxHeartbeats 40000000
end Go.Ai
end
section
namespace Go.Ai
open Go.Proofs
set_option maxRecDepth 10000
set_option maxHeartbeats 40000000
end Go.Ai
end
section
namespace Go.Ai
open Go.Proofs
set_option maxRecDepth 10000
set_option maxHeartbeats 40000000
theorem SliceV.cut {g:Nat→Option Blk} {b len:Nat} {sv:AV} {cs:List AV} (h:SliceV g b sv len cs) (hc:CapV sv) {t:TypeId} (he:(elSz Tryz.prog t).map (·.1)=some none) {k sz:Nat} (hk:k≤len) (h0:0 < len) :
  ∃ sv',(∀ {H:Mem} {ev:Ev} {d:Option Tmp} {ty:TypeId} {p:String} {af:Array Edge} {gd:Option (Nat×Bool)} {x hi:Operand} {hx:ev x=some sv} {hh:ev hi=some (.lit (.int .i64 (k:Int)))},
   ex2 Tryz.prog H ev ⟨d,.slice t x none (some hi) none,ty,p,af,gd⟩ x hi (some sv) (some (.lit (.int .i64 (k:Int)))) hx hh=.val sv' H)∧SliceV g b sv' k (cs.take (k * sz)):=by
 rcases h with ⟨h1,_⟩ | ⟨a,off,ha,⟨c,rfl⟩ | ⟨c,rfl⟩,hrow⟩
 ·omega
 ·have hcc:=hc _ _ _ _ rfl
  refine ⟨.sl a off k c,?_,.inr ⟨a,off,ha,.inl ⟨c,rfl⟩,hrow.takes _⟩⟩
  intro H ev d ty p af gd x hi hx hh
  rw [slice_sl_hi he (by omega) (by omega) (by omega)]
  simp
 ·refine ⟨.slq a off k c,?_,.inr ⟨a,off,ha,.inr ⟨c,rfl⟩,hrow.takes _⟩⟩
  intro H ev d ty p af gd x hi hx hh
  rw [slice_slq_hi he (by omega) (by omega) (by omega)]
  simp
theorem el22:(elSz Tryz.prog 22).map (·.1)=some none:=by kernel_rfl
theorem LogR.cut {g:Nat→Option Blk} {n:Nat} {ts:List (List Int×List Int)} {sv:AV} (h:LogR g n ts sv) (hc:CapV sv) {k:Nat} (hk:k≤ts.length) (h0:0 < ts.length) :
  ∃ sv',(∀ {H:Mem} {ev:Ev} {d:Option Tmp} {ty:TypeId} {p:String} {af:Array Edge} {gd:Option (Nat×Bool)} {x hi:Operand} {hx:ev x=some sv} {hh:ev hi=some (.lit (.int .i64 (k:Int)))},
   ex2 Tryz.prog H ev ⟨d,.slice 22 x none (some hi) none,ty,p,af,gd⟩ x hi (some sv) (some (.lit (.int .i64 (k:Int)))) hx hh=.val sv' H)∧LogR g n (ts.take k) sv':=by
 obtain ⟨cs,h1,h2⟩:=h
 obtain ⟨sv',h3,h4⟩:=h1.cut hc el22 (sz:=2) hk h0
 refine ⟨sv',h3,cs.take (k * 2),by rw [List.length_take,Nat.min_eq_left hk]; exact h4,?_,fun j hj=>?_⟩
 ·rw [List.length_take,List.length_take,h2.1]; omega
 ·have hj2:j < k∧j < ts.length:=by rw [List.length_take] at hj; omega
  obtain ⟨s1,s2,e1,e2,e3,e4⟩:=h2.2 j hj2.2
  exact ⟨s1,s2,by rw [List.getElem?_take,if_pos (by omega)]; exact e1,by rw [List.getElem?_take,if_pos (by omega)]; exact e2,by rw [List.getElem_take]; exact e3,by rw [List.getElem_take]; exact e4⟩
end Go.Ai
end
section
namespace Go.Ai
open Go.Proofs
set_option maxRecDepth 10000
theorem start34 {W:World} (h:W.ShapedOpen Tryz.prog) : ∃ (m:Int) (g:Nat→Option Blk) (ρ:Rn),g 0=some (.cells [.lit (.int .i64 m)] false 0)∧Sim W.heap.size 3 ρ ⟨.fn g,3⟩ W∧NoOwn ⟨.fn g,3⟩:=by
 obtain ⟨m,hm⟩:=cell_of_shapedOpen_int (g:=0) (t:=3) (zero:=#[.int .i64 0]) (k:=.i64) h (by rw [gsize]; decide) (by kernel_rfl) rfl (by kernel_rfl) (by kernel_rfl) Tryz.underlying3
 have hx:∃ c e fz,W.heap[0]?=some (.cells c e fz)∧c[0]?=some (.int .i64 m):=by
  unfold World.cell? at hm
  split at hm
  ·rename_i c e fz hh
   exact ⟨c,e,fz,hh,hm⟩
  ·cases hm
 obtain ⟨c,e,fz,hh,hc⟩:=hx
 refine ⟨m,fun a=>if a=0 then some (.cells [.lit (.int .i64 m)] false 0) else none,fun a=>if a < 3 then some (a,0,0) else none,if_pos rfl,⟨fun a x hx=>?_,fun a a' x x' b o k o' k' hx hx' hne=>?_,fun a ha=>if_neg (Nat.not_lt.2 ha),fun a x ha hx=>if_pos ha,Nat.le_refl _,Nat.le_refl _⟩,fun a x hx=>?_⟩
 ·have hx' : (if a=0 then some (Blk.cells [.lit (.int .i64 m)] false 0) else none)=some x:=hx
  split at hx'
  ·rename_i h0
   subst h0
   cases hx'
   refine .inr ⟨0,0,0,rfl,c,e,fz,hh,fun i v hi=>?_,fun h=>by cases h⟩
   cases i with
   | zero=>cases hi; exact ⟨_,hc,rfl⟩
   | succ i=>cases hi
  ·cases hx'
 ·have h1:(if a=0 then some (Blk.cells [.lit (.int .i64 m)] false 0) else none)=some x:=hx
  have h2:(if a'=0 then some (Blk.cells [.lit (.int .i64 m)] false 0) else none)=some x':=hx'
  split at h1
  ·split at h2
   ·rename_i h3 h4; exact absurd (h3.trans h4.symm) hne
   ·cases h2
  ·cases h1
 ·have hx' : (if a=0 then some (Blk.cells [.lit (.int .i64 m)] false 0) else none)=some x:=hx
  split at hx'
  ·cases hx'; rfl
  ·cases hx'
end Go.Ai
end
section
namespace Go.Ai
open Go.Proofs Go.ChangeShapes Go.WideShapes Go.ChangeAt Go.RowKit
set_option maxRecDepth 10000
variable {H:Type} {enc:TypeId×Value→H} {w:World}
theorem c3:Tryz.prog.cellsOf 3=1:=by kernel_rfl
theorem c4:Tryz.prog.cellsOf 4=1:=by kernel_rfl
theorem c5:Tryz.prog.cellsOf 5=1:=by kernel_rfl
theorem two_of {cs:List Value} (h:cs.length=2) : ∃ a b,cs=[a,b]:=by
 match cs,h with
 | [a,b],_=>exact ⟨a,b,rfl⟩
theorem three_of {cs:List Value} (h:cs.length=3) : ∃ a b c,cs=[a,b,c]:=by
 match cs,h with
 | [a,b,c],_=>exact ⟨a,b,c,rfl⟩
theorem slice_one {t e:TypeId} {fuel:Nat} {cs:List Value} {x:DataW H×List MemPlace} (ht:Tryz.prog.underlying t=some (.slice e)) (h:DataW.trod enc Tryz.prog w 0 (fun _=>true) true fuel t cs=some x) : ∃ s,cs=[s]:=by
 rcases DataW.trod_slice ht h with ⟨h1,_⟩ | ⟨a,len,cap,elems,rest,m,_,h1,_⟩
 ·exact ⟨_,h1⟩
 ·exact ⟨_,h1⟩
def RL {β:Type} (R:(Nat→Option Blk)→Nat→β→List AV→Prop) (g:Nat→Option Blk) (b:Nat) : List β→List AV→Prop
 | [],cs=>cs=[]
 | x :: l,cs=>∃ c r,cs=c++r∧R g b x c∧RL R g b l r
theorem RL_len {β:Type} {R:(Nat→Option Blk)→Nat→β→List AV→Prop} {g:Nat→Option Blk} {b sz:Nat} (hl:∀ {x cs},R g b x cs→cs.length=sz) : ∀ {l:List β} {cs:List AV},RL R g b l cs→cs.length=l.length * sz
 | [],cs,h=>by have h' : cs=[]:=h; rw [h']; simp
 | x :: l,cs,⟨c,r,h1,h2,h3⟩=>by rw [h1,List.length_append,hl h2,RL_len hl h3,List.length_cons,Nat.succ_mul]; omega
theorem RL_take {β:Type} {R:(Nat→Option Blk)→Nat→β→List AV→Prop} {g:Nat→Option Blk} {b:Nat} : ∀ (n:Nat) {l:List β} {cs:List AV},RL R g b l cs→∃ c r,cs=c++r∧RL R g b (l.take n) c
 | 0,l,cs,_=>⟨[],cs,rfl,rfl⟩
 | n+1,[],cs,h=>⟨cs,[],by simp,h⟩
 | n+1,x :: l,cs,⟨c,r,h1,h2,h3⟩=>by
  obtain ⟨c',r',h4,h5⟩:=RL_take n h3
  exact ⟨c++c',r',by rw [h1,h4,List.append_assoc],c,c',rfl,h2,h5⟩
theorem mkL_rep {α β:Type} {f:α→Mem→Option (List AV×Mem)} {R:(Nat→Option Blk)→Nat→β→List AV→Prop} {sz:Nat} (hm:∀ {g g' : Nat→Option Blk} {b b' : Nat} {x:β} {cs:List AV},b≤b'→(∀ a,a < b→g' a=g a)→R g b x cs→R g' b' x cs)
  (hl:∀ {g:Nat→Option Blk} {b:Nat} {x:β} {cs:List AV},R g b x cs→cs.length=sz) :
  ∀ (ds:List α),(∀ d∈ds,∀ g b,∃ avs g' b' x,f d ⟨.fn g,b⟩=some (avs,⟨.fn g',b'⟩)∧b≤b'∧(∀ a,a < b→g' a=g a)∧R g' b' x avs) →
  ∀ g b,∃ avs g' b' l,mkL f sz ds ⟨.fn g,b⟩=some (avs,⟨.fn g',b'⟩)∧b≤b'∧(∀ a,a < b→g' a=g a)∧l.length=ds.length∧RL R g' b' l avs
 | [],_,g,b=>⟨[],g,b,[],rfl,Nat.le_refl _,fun _ _=>rfl,rfl,rfl⟩
 | d :: ds,h,g,b=>by
  obtain ⟨a1,g1,b1,x,e1,h1,h2,h3⟩:=h d (by simp) g b
  obtain ⟨a2,g2,b2,l,e2,k1,k2,k3,k4⟩:=mkL_rep (f:=f) (R:=R) (sz:=sz) hm hl ds (fun d hd=>h d (by simp [hd])) g1 b1
  refine ⟨a1++a2,g2,b2,x :: l,?_,by omega,fun a ha=>(k2 a (by omega)).trans (h2 a ha),by simp [k3],a1,a2,rfl,hm k1 k2 h3,k4⟩
  unfold mkL
  rw [e1]
  dsimp only
  rw [e2]
  dsimp only
  rw [show Nat.beq a1.length sz=true from Nat.beq_eq.mpr (hl h3)]
theorem name_slice {β:Type} {R:(Nat→Option Blk)→Nat→β→List AV→Prop} {t e:TypeId} {sz:Nat} (ht:Tryz.prog.underlying t=some (.slice e)) (hsz:Tryz.prog.cellsOf e=sz) (hs0:0 < sz)
  (hm:∀ {g g' : Nat→Option Blk} {b b' : Nat} {x:β} {cs:List AV},b≤b'→(∀ a,a < b→g' a=g a)→R g b x cs→R g' b' x cs)
  (hl:∀ {g:Nat→Option Blk} {b:Nat} {x:β} {cs:List AV},R g b x cs→cs.length=sz) {fuel:Nat} {s:Value} {d:DataW H} {p:List MemPlace}
  (h:DataW.trod enc Tryz.prog w 0 (fun _=>true) true fuel t [s]=some (d,p))
  (he:∀ m cs d p,m < fuel→DataW.trod enc Tryz.prog w 0 (fun _=>true) true m e cs=some (d,p)→∀ N,m≤N→∀ g b,∃ avs g' b' x,mkD Tryz.prog noTok N e d ⟨.fn g,b⟩=some (avs,⟨.fn g',b'⟩)∧b≤b'∧(∀ a,a < b→g' a=g a)∧R g' b' x avs)
  (N:Nat) (hN:fuel≤N) (g:Nat→Option Blk) (b:Nat) :
  ∃ sv g' b' l,mkD Tryz.prog noTok N t d ⟨.fn g,b⟩=some ([sv],⟨.fn g',b'⟩)∧b≤b'∧(∀ a,a < b→g' a=g a) ∧
   CapV sv∧((l=[]∧(sv=.lit (.slice none 0 0)∨sv=.es))∨∃ a off r,a < b'∧(∃ c,sv=.sl a off l.length c)∧Row g' a off r∧RL R g' b' l r):=by
 rcases DataW.trod_slice ht h with ⟨_,hx⟩ | ⟨a,len,cap,elems,rest,m,rfl,_,hx,_,hlc,_,hlen,hel,hrs,_⟩
 ·cases hx
  have hf:fuel≠0:=by
   rintro rfl
   simp [DataW.trod] at h
  obtain ⟨N,rfl⟩ : ∃ M,N=M+1:=⟨N - 1,by omega⟩
  refine ⟨.lit (.slice none 0 0),g,b,[],?_,Nat.le_refl _,fun _ _=>rfl,fun _ _ _ _ e=>(by cases e),.inl ⟨rfl,.inl rfl⟩⟩
  unfold mkD
  rw [ht]
 ·obtain ⟨hrl,hre⟩:=hrs rfl
  simp only [Prod.mk.injEq] at hx
  obtain ⟨rfl,_⟩:=hx
  obtain ⟨N,rfl⟩ : ∃ M,N=M+1:=⟨N - 1,by omega⟩
  have all:∀ x∈elems++rest,∃ ci,DataW.trod enc Tryz.prog w 0 (fun _=>true) true m e ci=some x:=by
   intro x hx
   rcases List.mem_append.1 hx with hx | hx
   ·obtain ⟨i,hi,rfl⟩:=List.mem_iff_getElem.1 hx
    have:=hel i (by omega)
    rw [List.getElem?_eq_getElem hi] at this
    obtain ⟨ci,_,h3⟩:=Option.bind_eq_some_iff.1 this
    exact ⟨ci,h3⟩
   ·obtain ⟨i,hi,rfl⟩:=List.mem_iff_getElem.1 hx
    have:=hre i (by omega)
    rw [List.getElem?_eq_getElem hi] at this
    obtain ⟨ci,_,h3⟩:=Option.bind_eq_some_iff.1 this
    exact ⟨ci,h3⟩
  obtain ⟨avs,g1,b1,l,e1,k1,k2,k3,k4⟩:=mkL_rep (f:=mkD Tryz.prog noTok N e) (R:=R) (sz:=sz) hm hl ((elems++rest).map (·.1)) (by
   intro d hd g b
   obtain ⟨x,hx,rfl⟩:=List.mem_map.1 hd
   obtain ⟨ci,h3⟩:=all x hx
   exact he m ci x.1 x.2 (by omega) h3 N (by omega) g b) g b
  rw [List.map_append] at e1
  have hla:=RL_len (fun h=>hl h) k4
  rw [List.length_map,List.length_append] at k3
  cases hcs:elems.map (·.1)++rest.map (·.1) with
  | nil =>
   have h0:elems.length=0:=by
    have:=congrArg List.length hcs
    rw [List.length_append,List.length_map,List.length_nil] at this
    omega
   refine ⟨.es,g,b,[],?_,Nat.le_refl _,fun _ _=>rfl,fun _ _ _ _ e=>(by cases e),.inl ⟨rfl,.inr rfl⟩⟩
   unfold mkD
   rw [ht]
   dsimp only
   rw [hcs]
  | cons y ys =>
   have hpos:0 < elems.length+rest.length:=by
    have:=congrArg List.length hcs
    rw [List.length_append,List.length_map,List.length_map,List.length_cons] at this
    omega
   obtain ⟨z,zs,rfl⟩ : ∃ z zs,avs=z :: zs:=by
    cases avs with
    | nil =>
     rw [k3] at hla
     have:0 < (elems.length+rest.length) * sz:=Nat.mul_pos hpos hs0
     rw [List.length_nil] at hla
     omega
    | cons z zs=>exact ⟨z,zs,rfl⟩
   obtain ⟨c,r,q1,q2⟩:=RL_take elems.length k4
   have hcl:=RL_len (fun h=>hl h) q2
   have hfr:∀ a,a < b1→gput g1 b1 (some (.cells (z :: zs) false 0)) a=g1 a:=fun a ha=>gput_lt ha
   refine ⟨.sl b1 0 elems.length (elems.length+rest.length),gput g1 b1 (some (.cells (z :: zs) false 0)),b1+1,l.take elems.length,?_,by omega,fun a ha=>(hfr a (by omega)).trans (k2 a ha),fun _ _ _ _ e=>(by cases e; omega),.inr ⟨b1,0,c,Nat.lt_succ_self _,⟨elems.length+rest.length,?_⟩,?_,?_⟩⟩
   ·unfold mkD
    rw [ht]
    dsimp only
    rw [hcs] at e1
    rw [hsz,hcs]
    dsimp only
    rw [e1]
    simp only [List.length_map]
    rfl
   ·rw [List.length_take,Nat.min_eq_left (by omega)]
   ·refine ⟨z :: zs,false,0,if_pos rfl,?_,?_⟩
    ·rw [q1,List.length_append]; omega
    ·rw [q1,List.drop_zero,List.take_left]
   ·have key:∀ (l:List β) (cs:List AV),RL R g1 b1 l cs→RL R (gput g1 b1 (some (.cells (z :: zs) false 0))) (b1+1) l cs:=by
     intro l
     induction l with
     | nil=>intro cs h; exact h
     | cons x l ih=>rintro cs ⟨c,r,h1,h2,h3⟩; exact ⟨c,r,h1,hm (by omega) hfr h2,ih r h3⟩
    exact key _ _ q2
def IntR (_:Nat→Option Blk) (_:Nat) (x:Int) (avs:List AV) : Prop:=avs=[.lit (.int .i64 x)]
theorem int_mk (fuel:Nat) (cs:List Value) (d:DataW H) (p:List MemPlace) (h:DataW.trod enc Tryz.prog w 0 (fun _=>true) true fuel 3 cs=some (d,p)) (N:Nat) (hN:fuel≤N) (g:Nat→Option Blk) (b:Nat) :
  ∃ avs g' b' x,mkD Tryz.prog noTok N 3 d ⟨.fn g,b⟩=some (avs,⟨.fn g',b'⟩)∧b≤b'∧(∀ a,a < b→g' a=g a)∧IntR g' b' x avs:=by
 obtain ⟨x,_,f0,_⟩:=DataW.trod_int (x:=(d,p)) Tryz.underlying3 h
 have hd:d=.lit (.int .i64 x):=congrArg Prod.fst f0
 subst hd
 have hm0:fuel≠0:=by rintro rfl; simp [DataW.trod] at h
 obtain ⟨N,rfl⟩ : ∃ M,N=M+1:=⟨N - 1,by omega⟩
 exact ⟨[.lit (.int .i64 x)],g,b,x,by unfold mkD; rw [Tryz.underlying3],Nat.le_refl _,fun _ _=>rfl,rfl⟩
theorem ints_of {g:Nat→Option Blk} {b:Nat} : ∀ {l:List Int} {cs:List AV},RL IntR g b l cs→cs=wdC l
 | [],_,h=>h
 | x :: l,_,⟨c,r,h1,h2,h3⟩=>by
  have h2:c=[.lit (.int .i64 x)]:=h2
  rw [h1,h2,ints_of h3]; rfl
def WordR (g:Nat→Option Blk) (b:Nat) (x:List Int) (avs:List AV) : Prop:=∃ sv,avs=[sv]∧RepW g b x sv∧CapV sv
theorem word_mk (fuel:Nat) (cs:List Value) (d:DataW H) (p:List MemPlace) (h:DataW.trod enc Tryz.prog w 0 (fun _=>true) true fuel 57 cs=some (d,p)) (N:Nat) (hN:fuel≤N) (g:Nat→Option Blk) (b:Nat) :
  ∃ avs g' b' x,mkD Tryz.prog noTok N 57 d ⟨.fn g,b⟩=some (avs,⟨.fn g',b'⟩)∧b≤b'∧(∀ a,a < b→g' a=g a)∧WordR g' b' x avs:=by
 obtain ⟨s,rfl⟩:=slice_one Tryz.underlying57 h
 obtain ⟨sv,g1,b1,l,e1,t1,t2,tc,t3⟩:=name_slice (R:=IntR) Tryz.underlying57 c3 (by decide) (fun _ _ h=>h) (fun h=>by rw [show _=_ from h]; rfl) h (fun m cs d p _ h N hN g b=>int_mk m cs d p h N hN g b) N hN g b
 refine ⟨[sv],g1,b1,l,e1,t1,t2,sv,rfl,?_,tc⟩
 rcases t3 with ⟨rfl,h⟩ | ⟨a,off,r,q1,q2,q3,q4⟩
 ·exact .inl ⟨rfl,rfl,h⟩
 ·exact .inr ⟨a,off,q1,.inl q2,by rw [← ints_of q4]; exact q3⟩
theorem three_xs {α:Type} {xs:List α} (h:xs.length=3) : ∃ a b c,xs=[a,b,c]:=by
 match xs,h with
 | [a,b,c],_=>exact ⟨a,b,c,rfl⟩
end Go.Ai
end
section
namespace Go.Ai
open Go.Proofs
set_option maxRecDepth 10000
set_option maxHeartbeats 40000000
def CloneV (g:Nat→Option Blk) (lo n:Nat) (w:List Int) (sv:AV) : Prop :=
 (w=[]∧(sv=.lit (.slice none 0 0)∨∃ m,lo≤m∧m < n∧sv=.sl m 0 0 0∧g m=some (.cells [] true 0)))∨(0 < w.length∧∃ m,lo≤m∧m < n∧sv=.slq m 0 w.length 0∧g m=some (.cells (wdC w) true 1))
theorem mk57 {H:Mem} {a b:Int} (h0:0≤a) (h1:a≤b) (h2:b≤1048576) : mksS Tryz.prog H 57 (mkI Tryz.prog 57) (some (.lit (.int .i64 a))) (some (.lit (.int .i64 b)))=.val (.sl H.next 0 a.toNat b.toNat) (H.add (.cells (rep [.lit (.int .i64 0)] b.toNat) true 0)):=by
 have hx:oMakeSlice Tryz.prog H 57 (some (.lit (.int .i64 a))) (some (.lit (.int .i64 b)))=_:=oMakeSlice_ok (e:=3) (size:=1) (bytes:=8) (z:=[.lit (.int .i64 0)]) (by kernel_rfl) (by decide) (by decide) (by kernel_rfl) h0 h1 h2
 unfold mksS
 split
 ·rename_i v a' b' hq e1 e2
  cases e1; cases e2
  split
  ·rename_i h
   obtain ⟨rfl,h3,h4⟩:=h
   have hv:mkI Tryz.prog 57=some (.lit (.int .i64 0)):=by kernel_rfl
   rw [hv] at hq
   cases hq
   rw [rep_one]
  ·exact hx
 ·exact hx
theorem mk22 {H:Mem} {a b:Int} (h0:0≤a) (h1:a≤b) (h2:b≤1048576) : mksS Tryz.prog H 22 none (some (.lit (.int .i64 a))) (some (.lit (.int .i64 b)))=.val (.sl H.next 0 a.toNat b.toNat) (H.add (.cells (rep [.lit (.slice none 0 0),.lit (.slice none 0 0)] b.toNat) true 0)) :=
 oMakeSlice_ok (e:=59) (size:=2) (bytes:=48) (z:=[.lit (.slice none 0 0),.lit (.slice none 0 0)]) (by kernel_rfl) (by decide) (by decide) (by kernel_rfl) h0 h1 h2
theorem mk57' {H:Mem} {a b:Int} (h0:0≤a) (h1:a≤b) (h2:b≤1048576) : mksS Tryz.prog H 57 (some (.lit (.int .i64 0))) (some (.lit (.int .i64 a))) (some (.lit (.int .i64 b)))=.val (.sl H.next 0 a.toNat b.toNat) (H.add (.cells (rep [.lit (.int .i64 0)] b.toNat) true 0)):=by
 have h:=mk57 (H:=H) h0 h1 h2
 rwa [mkI57] at h
theorem mkI22:mkI Tryz.prog 22=none:=by kernel_rfl
attribute [simp] mk22 mkI22 mk57'
end Go.Ai
end
section
namespace Go.Ai
open Go.Proofs
set_option maxRecDepth 10000
set_option maxHeartbeats 40000000
def ListV (g:Nat→Option Blk) (n:Nat) (l:List (List Int)) (lv:AV) : Prop:=∃ svs,SliceV g n lv l.length svs∧RowsW g n l svs
theorem ListV.mono {g g' : Nat→Option Blk} {n n' : Nat} {l:List (List Int)} {lv:AV} (h:ListV g n l lv) (hn:n≤n') (hg:∀ a,a < n→g' a=g a) : ListV g' n' l lv :=
 let ⟨svs,h1,h2⟩:=h; ⟨svs,h1.mono hn hg,h2.ext hn fun a x ha hx=>(hg a ha).trans hx⟩
theorem ListV.at {g:Nat→Option Blk} {n:Nat} {l:List (List Int)} {lv:AV} (h:ListV g n l lv) {k:Nat} (hk:k < l.length) : ∃ a off q,a < n∧(∀ {H:Mem} {ev:Ev} {o:Oper} {t:TypeId},iaS Tryz.prog H ev o t (some (none,1)) (some lv) (some (.lit (.int .i64 (k:Int))))=.val (.ptr a (off+k)) H)∧loadB (some (false,1)) (g a) (off+k)=some q∧RepW g n l[k] q:=by
 obtain ⟨svs,h1,h2,h3⟩:=h
 obtain ⟨q,e1,e2⟩:=h3 k hk
 obtain ⟨a,off,ha,hrow,hia⟩:=h1.ia (P:=Tryz.prog) hk 1
 simp only [Nat.mul_one] at hia
 have hc:=hrow.one (k:=k) (s:=1) (by omega)
 rw [(List.getElem?_eq_some_iff.1 e1).2] at hc
 exact ⟨a,off,q,ha,hia,hc,e2⟩
theorem el93:(elSz Tryz.prog 93).map (·.1)=some none:=by kernel_rfl
theorem ListV.cut {g:Nat→Option Blk} {n:Nat} {l:List (List Int)} {lv:AV} (h:ListV g n l lv) (hc:CapV lv) :
  ∃ sv',(∀ {H:Mem} {ev:Ev} {d:Option Tmp} {ty:TypeId} {p:String} {af:Array Edge} {gd:Option (Nat×Bool)} {x hi:Operand} {hx:ev x=some lv} {hh:ev hi=some (.lit (.int .i64 (l.length:Int)))},
   ex2 Tryz.prog H ev ⟨d,.slice 93 x none (some hi) none,ty,p,af,gd⟩ x hi (some lv) (some (.lit (.int .i64 (l.length:Int)))) hx hh=.val sv' H)∧ListV g n l sv':=by
 obtain ⟨svs,h1,h2⟩:=h
 obtain ⟨sv',h3,h4,_⟩:=SliceV.cutP (P:=Tryz.prog) h1 hc el93 (k:=l.length) (sz:=1) (Nat.le_refl _)
 refine ⟨sv',h3,svs,?_,h2⟩
 rw [Nat.mul_one,← h2.1,List.take_length] at h4
 rw [h2.1] at h4
 exact h4
theorem SafeW.nil {g:Nat→Option Blk} {lo n B:Nat} : SafeW g lo n B [] (.lit (.slice none 0 0)):=⟨fun _=>none,fun a z h=>(by cases h),.inl ⟨rfl,rfl,.inl rfl⟩⟩
structure RoomT (g:Nat→Option Blk) (n B c k:Nat) (ts:List (List Int×List Int)) (R:List AV) : Prop where
 blk:g B=some (.cells R true 0)
 len:R.length=c * 2
 kl:k≤c
 rows:RowsF g 0 n B ts (R.take (k * 2))
 tl:ts.length=k
theorem RowsF.upd {g:Nat→Option Blk} {lo n B:Nat} {ts:List (List Int×List Int)} {cs cs' : List AV} (h:RowsF g lo n B ts cs) {i:Nat} {t:List Int×List Int} {s1 s2:AV} (hl:cs'.length=cs.length) (h1:cs'[i * 2]?=some s1) (h2:cs'[i * 2+1]?=some s2) (ho:∀ j,j≠i * 2→j≠i * 2+1→cs'[j]?=cs[j]?) (w1:SafeW g lo n B t.1 s1) (w2:SafeW g lo n B t.2 s2) : RowsF g lo n B (ts.set i t) cs':=by
 refine ⟨by rw [hl,List.length_set]; exact h.1,fun k hk=>?_⟩
 rw [List.length_set] at hk
 by_cases hki:i=k
 ·subst hki
  exact ⟨s1,s2,h1,h2,by simpa using w1,by simpa using w2⟩
 ·obtain ⟨r1,r2,e1,e2,e3,e4⟩:=h.2 k hk
  exact ⟨r1,r2,(ho _ (by omega) (by omega)).trans e1,(ho _ (by omega) (by omega)).trans e2,by rw [List.getElem_set_ne hki]; exact e3,by rw [List.getElem_set_ne hki]; exact e4⟩
theorem CloneV.keep {g g' : Nat→Option Blk} {lo n:Nat} {w:List Int} {sv:AV} (h:CloneV g lo n w sv) (hg:∀ a,lo≤a→a < n→g' a=g a) : CloneV g' lo n w sv:=by
 rcases h with ⟨rfl,rfl | ⟨m,h1,h2,rfl,h3⟩⟩ | ⟨hl,m,h1,h2,rfl,h3⟩
 ·exact .inl ⟨rfl,.inl rfl⟩
 ·exact .inl ⟨rfl,.inr ⟨m,h1,h2,rfl,(hg m h1 h2).trans h3⟩⟩
 ·exact .inr ⟨hl,m,h1,h2,rfl,(hg m h1 h2).trans h3⟩
theorem CloneV.one {g:Nat→Option Blk} {lo n:Nat} {w:List Int} {sv:AV} (h:CloneV g lo n w sv) : oneC sv=true∧cellsOf sv=[sv]:=by
 rcases h with ⟨rfl,rfl | ⟨m,h1,h2,rfl,h3⟩⟩ | ⟨hl,m,h1,h2,rfl,h3⟩ <;> exact ⟨rfl,rfl⟩
end Go.Ai
end
section
namespace Go.Ai
open Go.Proofs
set_option maxRecDepth 10000
set_option maxHeartbeats 40000000
end Go.Ai
end
section
namespace Go.Ai
set_option maxRecDepth 10000
def entT (V:List Int→Option Int) (ws:List (List Int)) (w:List Int) (i:Nat) : Int×Int:=match V (w++[(i:Int)]) with
 | none=>(-1,-1)
 | some o=>if o = -1 then (-1,-2) else (((ws.idxOf (w++[(i:Int)]) : Nat) : Int),o)
def rowW (V:List Int→Option Int) (ws:List (List Int)) (I:Nat) (w:List Int) : List (Int×Int):=(List.range I).map (entT V ws w)
structure Nod (V:List Int→Option Int) (ws:List (List Int)) : Prop where
 nd:ws.Nodup
 mem:∀ w,w∈ws↔w=[]∨∃ o,V w=some o∧o ≠ -1
 clo:∀ x j o,V (x++[j])=some o→x=[]∨∃ o',V x=some o'∧(o ≠ -1→o' ≠ -1)
theorem rowW_len {V:List Int→Option Int} {ws:List (List Int)} {I:Nat} {w:List Int} : (rowW V ws I w).length=I:=by simp [rowW]
theorem idx_app {ws us:List (List Int)} {w:List Int} (h:w∈ws) : (ws++us).idxOf w=ws.idxOf w:=by
 rw [List.idxOf_append,if_pos h]
theorem snoc_inj {a b:List Int} {i j:Int} (h:a++[i]=b++[j]) : a=b∧i=j:=by
 have h1:=List.append_inj' h rfl
 exact ⟨h1.1,by have:=h1.2; simpa using this⟩
end Go.Ai
end
section
namespace Go.Ai
set_option maxRecDepth 10000
theorem Nod.up {V:List Int→Option Int} {ws:List (List Int)} (hN:Nod V ws) {x:List Int} {j:Int} (h:x++[j]∈ws) : x∈ws:=by
 rcases (hN.mem _).1 h with h1 | ⟨o,h1,h2⟩
 ·simp at h1
 ·rcases hN.clo x j o h1 with h3 | ⟨o',h3,h4⟩
  ·exact (hN.mem x).2 (.inl h3)
  ·exact (hN.mem x).2 (.inr ⟨o',h3,h4 h2⟩)
end Go.Ai
end
section
namespace Go.Ai
set_option maxRecDepth 10000
def Cons (ts:List (List Int×List Int)) : Prop:=∀ u∈ts,∀ t∈ts,∀ k,k < u.1.length→k < t.1.length→u.1.take (k+1)=t.1.take (k+1)→u.2.getD k 0=t.2.getD k 0
theorem Cons.sub {ts us:List (List Int×List Int)} (h:Cons us) (hs:∀ t∈ts,t∈us) : Cons ts:=fun u hu t ht=>h u (hs u hu) t (hs t ht)
end Go.Ai
end
section
namespace Go.Ai
set_option maxRecDepth 10000
def Srt2 (ws:List (List Int)) : Prop:=∀ (a b:Nat) (ha:a < ws.length) (hb:b < ws.length),a < b→SL ws[a] ws[b]
theorem Srt2.nodup {ws:List (List Int)} (h:Srt2 ws) : ws.Nodup :=
 List.pairwise_iff_getElem.2 fun i j hi hj hij e=>by
  have h1:=h i j hi hj hij
  rw [e] at h1
  exact SL.irrefl h1
theorem Srt2.snoc {ws:List (List Int)} (h:Srt2 ws) {x:List Int} (hx:∀ w∈ws,SL w x) : Srt2 (ws++[x]):=by
 intro a b ha hb hab
 rw [List.length_append,List.length_singleton] at ha hb
 by_cases hb2:b < ws.length
 ·rw [List.getElem_append_left (by omega),List.getElem_append_left hb2]
  exact h a b (by omega) hb2 hab
 ·have e:b=ws.length:=by omega
  subst e
  rw [List.getElem_append_left (by omega),List.getElem_append_right (Nat.le_refl _)]
  simp
  exact hx _ (List.getElem_mem _)
def chL (V:List Int→Option Int) (w:List Int) : List Nat→List (List Int)
 | []=>[]
 | i :: l=>match V (w++[(i:Int)]) with
  | none=>chL V w l
  | some o=>if o = -1 then chL V w l else (w++[(i:Int)]) :: chL V w l
theorem chL_mem {V:List Int→Option Int} {w x:List Int} : ∀ {l:List Nat},x∈chL V w l↔∃ i∈l,x=w++[(i:Int)]∧∃ o,V x=some o∧o ≠ -1
 | []=>by simp [chL]
 | i :: l=>by
  have ih:=@chL_mem V w x l
  unfold chL
  cases h:V (w++[(i:Int)]) with
  | none =>
   dsimp only
   rw [ih]
   constructor
   ·rintro ⟨j,h1,h2⟩; exact ⟨j,by simp [h1],h2⟩
   ·rintro ⟨j,h1,h2,o,h3,h4⟩
    rcases List.mem_cons.1 h1 with rfl | h1
    ·rw [h2,h] at h3; cases h3
    ·exact ⟨j,h1,h2,o,h3,h4⟩
  | some o =>
   dsimp only
   by_cases ho:o = -1
   ·rw [if_pos ho,ih]
    constructor
    ·rintro ⟨j,h1,h2⟩; exact ⟨j,by simp [h1],h2⟩
    ·rintro ⟨j,h1,h2,o',h3,h4⟩
     rcases List.mem_cons.1 h1 with rfl | h1
     ·rw [h2,h] at h3; cases h3; exact absurd ho h4
     ·exact ⟨j,h1,h2,o',h3,h4⟩
   ·rw [if_neg ho,List.mem_cons,ih]
    constructor
    ·rintro (rfl | ⟨j,h1,h2⟩)
     ·exact ⟨i,by simp,rfl,o,h,ho⟩
     ·exact ⟨j,by simp [h1],h2⟩
    ·rintro ⟨j,h1,h2,h3⟩
     rcases List.mem_cons.1 h1 with rfl | h1
     ·exact .inl h2
     ·exact .inr ⟨j,h1,h2,h3⟩
def numE:Nat→List (Int×Int)→List (Int×Int)
 | _,[]=>[]
 | k,e :: es=>if e.1 = -1 then e :: numE k es else ((k:Int),e.2) :: numE (k+1) es
theorem numE_row {V:List Int→Option Int} {ws:List (List Int)} {w:List Int} : ∀ (l:List Nat) (os:List (List Int)),l.Nodup→(∀ i∈l,w++[(i:Int)] ∉ os)→numE os.length (l.map (entT V ws w))=l.map (entT V (os++chL V w l) w)
 | [],_,_,_=>rfl
 | i :: l,os,hn,hos=>by
  have hn':=List.nodup_cons.1 hn
  rw [List.map_cons,List.map_cons]
  unfold chL
  cases h:V (w++[(i:Int)]) with
  | none =>
   have e1:∀ us,entT V us w i=(-1,-1):=fun us=>by unfold entT; rw [h]
   rw [e1,e1]
   show (-1,-1) :: numE os.length (l.map (entT V ws w))=_
   rw [numE_row l os hn'.2 fun j hj=>hos j (by simp [hj])]
  | some o =>
   dsimp only
   by_cases ho:o = -1
   ·rw [if_pos ho]
    have e1:∀ us,entT V us w i=(-1,-2):=fun us=>by unfold entT; rw [h]; exact if_pos ho
    rw [e1,e1]
    show (-1,-2) :: numE os.length (l.map (entT V ws w))=_
    rw [numE_row l os hn'.2 fun j hj=>hos j (by simp [hj])]
   ·rw [if_neg ho]
    have e1:∀ us,entT V us w i=(((us.idxOf (w++[(i:Int)]) : Nat) : Int),o):=fun us=>by unfold entT; rw [h]; exact if_neg ho
    rw [e1,e1]
    have e2:(os++(w++[(i:Int)]) :: chL V w l).idxOf (w++[(i:Int)])=os.length:=by
     rw [List.idxOf_append,if_neg (hos i (by simp))]; simp
    rw [e2]
    have e3:numE os.length ((((ws.idxOf (w++[(i:Int)]) : Nat) : Int),o) :: l.map (entT V ws w))=((os.length:Int),o) :: numE (os.length+1) (l.map (entT V ws w)):=by
     rw [numE,if_neg (by show ¬((ws.idxOf _:Nat) : Int) = -1; omega)]
    rw [e3]
    have ih:=numE_row (V:=V) (ws:=ws) (w:=w) l (os++[w++[(i:Int)]]) hn'.2 fun j hj hm=>by
     rcases List.mem_append.1 hm with h1 | h1
     ·exact hos j (by simp [hj]) h1
     ·have:=(snoc_inj (List.mem_singleton.1 h1)).2
      have e:j=i:=by omega
      exact hn'.1 (e ▸ hj)
    rw [List.length_append,List.length_singleton] at ih
    rw [ih,List.append_assoc]
    rfl
theorem goE_num {O:Int} {V:List Int→Option Int} {ws:List (List Int)} {w:List Int} (hV:∀ x o,V x=some o→o ≠ -1→0≤o∧o < O) : ∀ (l:List Nat) (k:Nat),goE O (numE k (l.map (entT V ws w))) k=some (k+(chL V w l).length)
 | [],_=>rfl
 | i :: l,k=>by
  rw [List.map_cons]
  unfold chL
  cases h:V (w++[(i:Int)]) with
  | none =>
   have e1:entT V ws w i=(-1,-1):=by unfold entT; rw [h]
   rw [e1]
   show goE O ((-1,-1) :: numE k (l.map (entT V ws w))) k=_
   exact goE_num hV l k
  | some o =>
   dsimp only
   by_cases ho:o = -1
   ·rw [if_pos ho]
    have e1:entT V ws w i=(-1,-2):=by unfold entT; rw [h]; exact if_pos ho
    rw [e1]
    show goE O ((-1,-2) :: numE k (l.map (entT V ws w))) k=_
    exact goE_num hV l k
   ·rw [if_neg ho]
    have e1:entT V ws w i=(((ws.idxOf (w++[(i:Int)]) : Nat) : Int),o):=by unfold entT; rw [h]; exact if_neg ho
    rw [e1]
    have e3:numE k ((((ws.idxOf (w++[(i:Int)]) : Nat) : Int),o) :: l.map (entT V ws w))=((k:Int),o) :: numE (k+1) (l.map (entT V ws w)):=by
     rw [numE,if_neg (by show ¬((ws.idxOf _:Nat) : Int) = -1; omega)]
    rw [e3]
    have hb:=hV _ _ h ho
    have e4:edOK O k ((k:Int),o)=some (k+1):=by
     unfold edOK
     rw [if_neg (fun h=>by have:=h.1; dsimp only at this; omega),if_pos ⟨rfl,hb⟩]
    show (match edOK O k ((k:Int),o) with | none=>none | some nx=>goE O (numE (k+1) (l.map (entT V ws w))) nx)=_
    rw [e4]
    dsimp only
    rw [goE_num hV l (k+1),List.length_cons]
    congr 1; omega
theorem goT_snoc {I O:Int} {r:List (Int×Int)} : ∀ (l:List (List (Int×Int))) (n nx k k' : Nat),goT I O l n nx=some k→(r.length:Int)=I→n+l.length < k→goE O r k=some k'→goT I O (l++[r]) n nx=some k'
 | [],n,nx,k,k',h,h1,h2,h3=>by
  have e:nx=k:=Option.some.inj h
  subst e
  show (if (r.length:Int)=I∧n < nx then (match goE O r nx with | none=>none | some q=>goT I O [] (n+1) q) else none)=_
  rw [if_pos ⟨h1,by simpa using h2⟩,h3]
  rfl
 | a :: l,n,nx,k,k',h,h1,h2,h3=>by
  have h' : (if (a.length:Int)=I∧n < nx then (match goE O a nx with | none=>none | some q=>goT I O l (n+1) q) else none)=some k:=h
  show (if (a.length:Int)=I∧n < nx then (match goE O a nx with | none=>none | some q=>goT I O (l++[r]) (n+1) q) else none)=_
  split at h'
  ·rename_i hc
   rw [if_pos hc]
   cases hq:goE O a nx with
   | none=>rw [hq] at h'; cases h'
   | some q =>
    rw [hq] at h'
    exact goT_snoc l (n+1) q k k' h' h1 (by rw [List.length_cons] at h2; omega) h3
  ·cases h'
structure Bfs (V:List Int→Option Int) (ws:List (List Int)) (I:Nat) (O:Int) (n:Nat) (os:List (List Int)) : Prop where
 srt:Srt2 os
 sub:∀ x∈os,x∈ws
 le:n≤os.length
 hd:os[0]?=some []
 ch:∀ (m:Nat) (h:m < os.length),m < n→∀ x∈chL V os[m] (List.range I),x∈os
 par:∀ x∈os,x=[]∨∃ (m:Nat) (h:m < os.length),m < n∧∃ i:Int,x=os[m]++[i]
 go:goT I O ((os.take n).map (rowW V os I)) 0 1=some os.length
theorem Bfs.zero {V:List Int→Option Int} {ws:List (List Int)} {I:Nat} {O:Int} (h:[]∈ws) : Bfs V ws I O 0 [[]] :=
 ⟨fun a b ha hb hab=>by simp at ha hb; omega,fun x hx=>by rw [List.mem_singleton] at hx; rw [hx]; exact h,by simp,rfl,fun m h hm=>by omega,fun x hx=>.inl (List.mem_singleton.1 hx),rfl⟩
theorem chL_asc {V:List Int→Option Int} {w:List Int} : ∀ (l:List Nat) (os:List (List Int)),Srt2 os→l.Pairwise (· < ·)→(∀ x∈os,∀ i∈l,SL x (w++[(i:Int)]))→Srt2 (os++chL V w l)
 | [],os,h,_,_=>by unfold chL; rw [List.append_nil]; exact h
 | i :: l,os,h,hp,hx=>by
  have hp':=List.pairwise_cons.1 hp
  unfold chL
  cases hv:V (w++[(i:Int)]) with
  | none=>exact chL_asc l os h hp'.2 fun x hx' j hj=>hx x hx' j (by simp [hj])
  | some o =>
   dsimp only
   split
   ·exact chL_asc l os h hp'.2 fun x hx' j hj=>hx x hx' j (by simp [hj])
   ·have h1:=chL_asc (V:=V) (w:=w) l (os++[w++[(i:Int)]]) (h.snoc fun x hx'=>hx x hx' i (by simp)) hp'.2 fun x hx' j hj=>by
     rcases List.mem_append.1 hx' with h2 | h2
     ·exact hx x h2 j (by simp [hj])
     ·rw [List.mem_singleton.1 h2]
      exact SL.last w (by have:=hp'.1 j hj; omega)
    rwa [List.append_assoc] at h1
theorem row_sub {V:List Int→Option Int} {os us:List (List Int)} {I:Nat} {w:List Int} (h:∀ x∈chL V w (List.range I),x∈os) : rowW V (os++us) I w=rowW V os I w:=by
 unfold rowW
 apply List.map_congr_left
 intro i hi
 unfold entT
 cases hv:V (w++[(i:Int)]) with
 | none=>rfl
 | some o =>
  dsimp only
  split
  ·rfl
  ·rename_i ho
   rw [idx_app (h _ (chL_mem.2 ⟨i,hi,rfl,o,hv,ho⟩))]
theorem Bfs.step {V:List Int→Option Int} {ws:List (List Int)} {I:Nat} {O:Int} {n:Nat} {os:List (List Int)} (h:Bfs V ws I O n os) (hN:Nod V ws) (hV:∀ x o,V x=some o→o ≠ -1→0≤o∧o < O) (hn:n < os.length) :
  Bfs V ws I O (n+1) (os++chL V os[n] (List.range I))∧numE os.length (rowW V ws I os[n])=rowW V (os++chL V os[n] (List.range I)) I os[n]:=by
 have hgt:∀ x∈os,∀ i∈List.range I,SL x (os[n]++[(i:Int)]):=fun x hx i _=>by
  rcases h.par x hx with rfl | ⟨m,hm,hmn,j,rfl⟩
  ·exact SL.nil _ _
  ·exact (h.srt m n hm hn hmn).app j i
 have hnot:∀ i∈List.range I,os[n]++[(i:Int)] ∉ os:=fun i hi hm=>SL.irrefl (hgt _ hm i hi)
 have hnum:=numE_row (V:=V) (ws:=ws) (w:=os[n]) (List.range I) os List.nodup_range hnot
 have hnum' : numE os.length (rowW V ws I os[n])=rowW V (os++chL V os[n] (List.range I)) I os[n]:=hnum
 refine ⟨⟨chL_asc _ _ h.srt List.pairwise_lt_range hgt,fun x hx=>?_,?_,?_,fun m hm hmn x hx=>?_,fun x hx=>?_,?_⟩,hnum⟩
 ·rcases List.mem_append.1 hx with h1 | h1
  ·exact h.sub x h1
  ·obtain ⟨i,_,_,o,h2,h3⟩:=chL_mem.1 h1
   exact (hN.mem x).2 (.inr ⟨o,h2,h3⟩)
 ·rw [List.length_append]; omega
 ·rw [List.getElem?_append_left (by omega)]; exact h.hd
 ·rw [List.mem_append]
  by_cases hmn2:m < n
  ·rw [List.getElem_append_left (by omega)] at hx
   exact .inl (h.ch m (by omega) hmn2 x hx)
  ·have e:m=n:=by omega
   subst e
   rw [List.getElem_append_left hn] at hx
   exact .inr hx
 ·rcases List.mem_append.1 hx with h1 | h1
  ·rcases h.par x h1 with h2 | ⟨m,hm,hmn,j,h2⟩
   ·exact .inl h2
   ·exact .inr ⟨m,by rw [List.length_append]; omega,by omega,j,by rw [List.getElem_append_left hm]; exact h2⟩
  ·obtain ⟨i,_,h2,_⟩:=chL_mem.1 h1
   exact .inr ⟨n,by rw [List.length_append]; omega,by omega,i,by rw [List.getElem_append_left hn]; exact h2⟩
 ·have e1:(os++chL V os[n] (List.range I)).take (n+1)=os.take n++[os[n]]:=by
   rw [List.take_append_of_le_length (by omega)]; exact take_snoc hn
  have e2:(os.take n).map (rowW V (os++chL V os[n] (List.range I)) I)=(os.take n).map (rowW V os I):=by
   apply List.map_congr_left
   intro w hw
   obtain ⟨m,hm,rfl⟩:=List.mem_iff_getElem.1 hw
   rw [List.length_take] at hm
   rw [List.getElem_take]
   exact row_sub fun x hx=>h.ch m (by omega) (by omega) x hx
  rw [e1,List.map_append,e2,List.map_singleton,← hnum']
  refine goT_snoc _ 0 1 os.length _ h.go ?_ ?_ ?_
  ·rw [hnum',rowW_len]
  ·rw [List.length_map,List.length_take]; omega
  ·rw [List.length_append]; exact goE_num hV _ _
theorem Bfs.rows {V:List Int→Option Int} {ws:List (List Int)} {I:Nat} {O:Int} {n:Nat} {os:List (List Int)} (h:Bfs V ws I O n os) (us:List (List Int)) : (os.take n).map (rowW V (os++us) I)=(os.take n).map (rowW V os I):=by
 apply List.map_congr_left
 intro w hw
 obtain ⟨m,hm,rfl⟩:=List.mem_iff_getElem.1 hw
 rw [List.length_take] at hm
 rw [List.getElem_take]
 exact row_sub fun x hx=>h.ch m (by omega) (by omega) x hx
theorem nodup_len:∀ {a b:List (List Int)},a.Nodup→(∀ x∈a,x∈b)→a.length≤b.length
 | [],b,_,_=>Nat.zero_le _
 | x :: a,b,hn,hs=>by
  have hn':=List.nodup_cons.1 hn
  have hx:=hs x (by simp)
  have h1:=@nodup_len a (b.erase x) hn'.2 fun y hy=>(List.mem_erase_of_ne (fun e=>hn'.1 (by rw [← e]; exact hy))).2 (hs y (by simp [hy]))
  rw [List.length_erase_of_mem hx] at h1
  have:0 < b.length:=List.length_pos_of_mem hx
  rw [List.length_cons]; omega
theorem Bfs.len {V:List Int→Option Int} {ws:List (List Int)} {I:Nat} {O:Int} {n:Nat} {os:List (List Int)} (h:Bfs V ws I O n os) : os.length≤ws.length:=nodup_len h.srt.nodup h.sub
end Go.Ai
end
section
namespace Go.Ai
set_option maxRecDepth 10000
theorem lexC_zero:∀ {a b:List Int},a.length=b.length→lexC a b=0→a=b
 | [],[],_,_=>rfl
 | [],_ :: _,h,_=>by simp at h
 | _ :: _,[],h,_=>by simp at h
 | x :: a,y :: b,hl,h=>by
  unfold lexC at h
  by_cases h1:x < y
  ·rw [if_pos h1] at h; omega
  ·rw [if_neg h1] at h
   by_cases h2:y < x
   ·rw [if_pos h2] at h; omega
   ·rw [if_neg h2] at h
    rw [lexC_zero (by simpa using hl) h,show x=y by omega]
theorem lexC_pos:∀ {a b:List Int},a.length=b.length→0 < lexC a b→LL b a
 | [],[],_,h=>by unfold lexC at h; omega
 | [],_ :: _,h,_=>by simp at h
 | _ :: _,[],h,_=>by simp at h
 | x :: a,y :: b,hl,h=>by
  unfold lexC at h
  by_cases h1:x < y
  ·rw [if_pos h1] at h; omega
  ·rw [if_neg h1] at h
   by_cases h2:y < x
   ·exact .inl h2
   ·rw [if_neg h2] at h
    exact .inr ⟨by omega,lexC_pos (by simpa using hl) h⟩
theorem cmpM_zero {a b:List Int} (h:cmpM a b=0) : a=b:=by
 unfold cmpM at h
 split at h
 ·omega
 ·split at h
  ·omega
  ·exact lexC_zero (by omega) h
theorem cmpM_pos {a b:List Int} (h:0 < cmpM a b) : SL b a:=by
 unfold cmpM at h
 split at h
 ·omega
 ·split at h
  ·rename_i h2; exact .inl h2
  ·exact .inr ⟨by omega,lexC_pos (by omega) h⟩
end Go.Ai
end
section
namespace Go.Ai
open Go.Proofs
set_option maxRecDepth 10000
set_option maxHeartbeats 40000000
end Go.Ai
end
section
namespace Go.Ai
open Go.Proofs
set_option maxRecDepth 10000
set_option maxHeartbeats 40000000
def rowS (I:Nat) (bs:List Nat) : List AV:=bs.map fun b=>.sl b 0 I I
structure RowsB (g:Nat→Option Blk) (lo n I:Nat) (rows:List (List (Int×Int))) (bs:List Nat) : Prop where
 len:bs.length=rows.length
 nd:bs.Nodup
 at' : ∀ (k:Nat) (h:k < bs.length) (h' : k < rows.length),lo≤bs[k]∧bs[k] < n∧g bs[k]=some (.cells (rowC rows[k]) true 0)∧rows[k].length=I
structure TreeMem (g:Nat→Option Blk) (lo n T I:Nat) (rows:List (List (Int×Int))) (bs:List Nat) (B:Nat) (sv:AV) : Prop where
 rb:RowsB g lo n I rows bs
 pos:0 < rows.length
 bl:lo≤B∧B < n
 tl:lo≤T∧T < n
 tb:T≠B
 tn:T ∉ bs
 bn:B ∉ bs
 gt:g T=some (.cells [sv] true 0)
 gb:(rows.length=1∧sv=.sl B 0 1 1∧g B=some (.cells (rowS I bs) true 0))∨(sv=.slq B 0 rows.length 0∧g B=some (.cells (rowS I bs) true 1))
def okRows (I:Nat) (rows:List (List (Int×Int))) : Prop:=∀ row∈rows,row.length=I∧∀ e∈row,e.1 = -1∨(0≤e.1∧e.1 < rows.length)
theorem okRows.set {I:Nat} {rows:List (List (Int×Int))} (h:okRows I rows) {a i:Nat} (ha:a < rows.length) {e:Int×Int} (he:e.1 = -1∨(0≤e.1∧e.1 < rows.length)) : okRows I (rows.set a ((rows.getD a []).set i e)):=by
 intro row hr
 rcases List.mem_or_eq_of_mem_set hr with h1 | rfl
 ·obtain ⟨h2,h3⟩:=h row h1
  exact ⟨h2,fun e he=>by rw [List.length_set]; exact h3 e he⟩
 ·have hm:=(getD_mem (d:=[]) ha).1
  obtain ⟨h2,h3⟩:=h _ hm
  refine ⟨by rw [List.length_set]; exact h2,fun e' he'=>?_⟩
  rw [List.length_set]
  rcases List.mem_or_eq_of_mem_set he' with h4 | rfl
  ·exact h3 e' h4
  ·exact he
theorem okRows.new {I:Nat} {rows:List (List (Int×Int))} (h:okRows I rows) {a i:Nat} (ha:a < rows.length) {o:Int} : okRows I (rows.set a ((rows.getD a []).set i ((rows.length:Int),o))++[List.replicate I (-1,-1)]):=by
 intro row hr
 rw [List.length_append,List.length_set,List.length_singleton]
 rcases List.mem_append.1 hr with hr | hr
 ·rcases List.mem_or_eq_of_mem_set hr with h1 | rfl
  ·obtain ⟨h2,h3⟩:=h row h1
   exact ⟨h2,fun e he=>by rcases h3 e he with h4 | h4; exact .inl h4; exact .inr ⟨h4.1,by omega⟩⟩
  ·have hm:=(getD_mem (d:=[]) ha).1
   obtain ⟨h2,h3⟩:=h _ hm
   refine ⟨by rw [List.length_set]; exact h2,fun e' he'=>?_⟩
   rcases List.mem_or_eq_of_mem_set he' with h4 | rfl
   ·rcases h3 e' h4 with h5 | h5
    ·exact .inl h5
    ·exact .inr ⟨h5.1,by omega⟩
   ·exact .inr ⟨by show (0:Int)≤rows.length; omega,by show (rows.length:Int) < _; omega⟩
 ·rw [List.mem_singleton.1 hr]
  exact ⟨by simp,fun e he=>.inl (by rw [(List.mem_replicate.1 he).2])⟩
theorem TreeMem.keep {g g' : Nat→Option Blk} {lo n n' T I:Nat} {rows:List (List (Int×Int))} {bs:List Nat} {B:Nat} {sv:AV} (h:TreeMem g lo n T I rows bs B sv) (hn:n≤n') (hg:∀ a,lo≤a→a < n→g' a=g a) : TreeMem g' lo n' T I rows bs B sv :=
 ⟨⟨h.rb.len,h.rb.nd,fun k h1 h2=>let ⟨e1,e2,e3,e4⟩:=h.rb.at' k h1 h2; ⟨e1,by omega,(hg _ e1 e2).trans e3,e4⟩⟩,h.pos,⟨h.bl.1,by have:=h.bl.2; omega⟩,⟨h.tl.1,by have:=h.tl.2; omega⟩,h.tb,h.tn,h.bn,(hg _ h.tl.1 h.tl.2).trans h.gt,h.gb.imp (fun ⟨e1,e2,e3⟩=>⟨e1,e2,(hg _ h.bl.1 h.bl.2).trans e3⟩) fun ⟨e1,e2⟩=>⟨e1,(hg _ h.bl.1 h.bl.2).trans e2⟩⟩
theorem TreeMem.push {g g' : Nat→Option Blk} {lo n n' T I:Nat} {rows:List (List (Int×Int))} {bs:List Nat} {B B' b:Nat} {sv:AV} (h:TreeMem g lo n T I rows bs B sv) {row:List (Int×Int)} (hl:row.length=I) (hb:n≤b) (hb' : b < n') (hB:n≤B') (hB' : B' < n') (hne:b≠B') (h1:g' b=some (.cells (rowC row) true 0)) (h2:g' B'=some (.cells (rowS I (bs++[b])) true 1)) (h3:g' T=some (.cells [.slq B' 0 (rows.length+1) 0] true 0)) (hg:∀ x∈bs,g' x=g x) : TreeMem g' lo n' T I (rows++[row]) (bs++[b]) B' (.slq B' 0 (rows.length+1) 0):=by
 have hlt:∀ x∈bs,lo≤x∧x < n:=fun x hx=>by
  obtain ⟨k,hk,rfl⟩:=List.mem_iff_getElem.1 hx
  obtain ⟨e1,e2,_⟩:=h.rb.at' k hk (by have:=h.rb.len; omega)
  exact ⟨e1,e2⟩
 have htl:=h.tl
 have hbl:=h.bl
 refine ⟨⟨by rw [List.length_append,List.length_append,h.rb.len]; rfl,?_,fun k k1 k2=>?_⟩,by simp,⟨by omega,hB'⟩,⟨htl.1,by omega⟩,by omega,?_,?_,h3,.inr ⟨by rw [List.length_append]; rfl,h2⟩⟩
 ·rw [List.nodup_append]
  refine ⟨h.rb.nd,by simp,fun x hx y hy e=>?_⟩
  rw [List.mem_singleton] at hy
  have:=hlt x hx
  omega
 ·rw [List.length_append,List.length_singleton] at k1
  by_cases hk:k < bs.length
  ·have hk2:k < rows.length:=by have:=h.rb.len; omega
   obtain ⟨e1,e2,e3,e4⟩:=h.rb.at' k hk hk2
   rw [List.getElem_append_left hk,List.getElem_append_left hk2]
   exact ⟨e1,by omega,(hg _ (List.getElem_mem hk)).trans e3,e4⟩
  ·have e:k=bs.length:=by omega
   have e2:k=rows.length:=by have:=h.rb.len; omega
   rw [List.getElem_append_right (by omega),List.getElem_append_right (by omega)]
   simp
   exact ⟨by omega,hb',h1,hl⟩
 ·rw [List.mem_append,List.mem_singleton]
  rintro (hx | hx)
  ·exact h.tn hx
  ·omega
 ·rw [List.mem_append,List.mem_singleton]
  rintro (hx | hx)
  ·have:=hlt _ hx; omega
  ·exact hne hx.symm
end Go.Ai
end
section
namespace Go.Ai
open Go.Proofs
set_option maxRecDepth 10000
set_option maxHeartbeats 40000000
end Go.Ai
end
section
namespace Go.Ai
open Go.Proofs
set_option maxRecDepth 10000
set_option maxHeartbeats 40000000
structure RowsC (g:Nat→Option Blk) (lo n I:Nat) (rows:List (List (Int×Int))) (bs:List Nat) : Prop where
 len:bs.length=rows.length
 at' : ∀ (k:Nat) (h:k < bs.length) (h' : k < rows.length),lo≤bs[k]∧bs[k] < n∧g bs[k]=some (.cells (rowC rows[k]) true 2)∧rows[k].length=I
theorem RowsC.snoc {g g' : Nat→Option Blk} {lo n n' I:Nat} {rows:List (List (Int×Int))} {bs:List Nat} (h:RowsC g lo n I rows bs) (hn:n≤n') (hg:∀ a,lo≤a→a < n→g' a=g a) {b:Nat} {row:List (Int×Int)} (h1:lo≤b) (h2:b < n') (h3:g' b=some (.cells (rowC row) true 2)) (h4:row.length=I) : RowsC g' lo n' I (rows++[row]) (bs++[b]):=by
 have hl:=h.len
 refine ⟨by simp [hl],fun k k1 k2=>?_⟩
 rw [List.length_append,List.length_singleton] at k1
 by_cases hk:k < bs.length
 ·obtain ⟨e1,e2,e3,e4⟩:=h.at' k hk (by omega)
  rw [List.getElem_append_left hk,List.getElem_append_left (by omega)]
  exact ⟨e1,by omega,(hg _ e1 e2).trans e3,e4⟩
 ·rw [List.getElem_append_right (by omega),List.getElem_append_right (by omega)]
  simp
  exact ⟨h1,h2,h3,h4⟩
end Go.Ai
end
section
namespace Go.Ai
open Go.Proofs
set_option maxRecDepth 10000
set_option maxHeartbeats 40000000
end Go.Ai
end
section
namespace Go.Ai
open Go.Proofs
set_option maxRecDepth 10000
set_option maxHeartbeats 40000000
end Go.Ai
end
section
namespace Go.Ai
open Go.Proofs
set_option maxRecDepth 10000
set_option maxHeartbeats 40000000
end Go.Ai
end
section
namespace Go.Ai
open Go.Proofs
set_option maxRecDepth 10000
set_option maxHeartbeats 40000000
theorem rcmp2_w (a b:List Int) (hal:a.length≤1000000) (hbl:b.length≤1000000) (g:Nat→Option Blk) (n:Nat) (sa sb:AV) (ha:RepW g n a sa) (hb:RepW g n b sb) :
  WC 3 Tryz.prog 37 [sa,sb] ⟨.fn g,n⟩ fun r=>r=.ret (.lit (.int .i64 (cmpM a b))) ⟨.fn g,n⟩:=by
 have hla:=@lenV Tryz.prog _ _ _ _ _ ha
 have hlb:=@lenV Tryz.prog _ _ _ _ _ hb
 have HA:=Hide.mk ha
 have HB:=Hide.mk hb
 clear ha hb
 obtain ⟨ret,hret⟩ : ∃ c,c=cmpM a b:=⟨_,rfl⟩
 rw [← hret]
 unfold cmpM at hret
 by_cases t1:a.length < b.length
 ·have t1I:(a.length:Int) < (b.length:Int):=by omega
  have hr:ret = -1:=by rw [hret,if_pos t1]
  clear hret
  refine WC.enterP (noO_ok _ _) hG pl37 Tryz.func37 rfl (by decide +kernel) (Nat.le_of_ble_eq_true (by kernel_rfl)) ?_
  iterate 6 (all_goals try (first | with_reducible refine splitI (fun h=>?_) (fun h=>?_) | with_reducible refine splitBI (fun h=>?_) (fun h=>?_) | simp (config:={ maxSteps:=1000000 }) (disch:=first | assumption | omega | (simp; done) | fail) [Tryz.results37, *]))
 rw [if_neg t1] at hret
 by_cases t2:b.length < a.length
 ·have t2I:(b.length:Int) < (a.length:Int):=by omega
  have t1I:¬(a.length:Int) < (b.length:Int):=by omega
  have hr:ret=1:=by rw [hret,if_pos t2]
  clear hret
  refine WC.enterP (noO_ok _ _) hG pl37 Tryz.func37 rfl (by decide +kernel) (Nat.le_of_ble_eq_true (by kernel_rfl)) ?_
  iterate 6 (all_goals try (first | with_reducible refine splitI (fun h=>?_) (fun h=>?_) | with_reducible refine splitBI (fun h=>?_) (fun h=>?_) | simp (config:={ maxSteps:=1000000 }) (disch:=first | assumption | omega | (simp; done) | fail) [Tryz.results37, *]))
 rw [if_neg t2] at hret
 have hL:b.length=a.length:=by omega
 have HL:=Hide.mk hL
 have HRET:=Hide.mk hret
 rw [hL] at hlb
 clear t1 t2 hL hbl hret
 refine WC.enterP (noO_ok _ _) hG pl37 Tryz.func37 rfl (by decide +kernel) (Nat.le_of_ble_eq_true (by kernel_rfl)) ?_
 iterate 6 (all_goals try (first | with_reducible refine splitI (fun h=>?_) (fun h=>?_) | with_reducible refine splitBI (fun h=>?_) (fun h=>?_) | simp (config:={ maxSteps:=1000000 }) (disch:=first | assumption | omega | (simp; done) | fail) [Tryz.results37, *]))
 refine LX.ind (fun m gf H'=>∃ (k:Nat),k≤a.length∧m=a.length - k∧H'=⟨.fn g,n⟩∧Hide (ret=lexC (a.drop k) (b.drop k))∧gf 0=some sa∧gf 1=some sb∧gf 5=some (.lit (.int .i64 k))) (m0:=a.length) ?_ ?_
 ·exact ⟨0,Nat.zero_le _,rfl,rfl,HRET,by simp,by simp,by simp⟩
 rintro m gf H' ⟨k,hk,rfl,rfl,HPRE,w0,w1,w5⟩ ih
 refine LX.roundP (noO_ok _ _) hG pl37 (by decide +kernel) ?_
 by_cases hlt:k < a.length
 ·have hltI:(k:Int) < (a.length:Int):=by omega
  have hltb:k < b.length:=by rw [HL.out]; exact hlt
  obtain ⟨a2,off,ha2,hrow,hia⟩:=SliceV.ia (P:=Tryz.prog) HA.out hlt 1
  obtain ⟨b2,ofb,hb2,hrob,hib⟩:=SliceV.ia (P:=Tryz.prog) HB.out hltb 1
  simp only [Nat.mul_one] at hia hib
  have hca:=hrow.one (k:=k) (s:=1) (by rw [wdC_len]; exact hlt)
  have hcb:=hrob.one (k:=k) (s:=1) (by rw [wdC_len]; exact hltb)
  rw [(List.getElem?_eq_some_iff.1 (wdC_at a k hlt)).2] at hca
  rw [(List.getElem?_eq_some_iff.1 (wdC_at b k hltb)).2] at hcb
  have hp:=HPRE.out
  rw [List.drop_eq_getElem_cons hlt,List.drop_eq_getElem_cons hltb] at hp
  have HP:=Hide.mk hp
  clear hp HPRE hrow hrob ha2 hb2
  generalize a[k]=u at *
  generalize b[k]=v at *
  clear hltb
  by_cases t1:u < v
  ·have hr:ret = -1:=by rw [HP.out]; unfold lexC; rw [if_pos t1]
   iterate 6 (all_goals try (first | with_reducible refine splitI (fun h=>?_) (fun h=>?_) | with_reducible refine splitBI (fun h=>?_) (fun h=>?_) | simp (config:={ maxSteps:=1000000 }) (disch:=first | assumption | omega | (simp; done) | fail) [Tryz.results37, *]))
  by_cases t2:v < u
  ·have hr:ret=1:=by rw [HP.out]; unfold lexC; rw [if_neg t1,if_pos t2]
   iterate 6 (all_goals try (first | with_reducible refine splitI (fun h=>?_) (fun h=>?_) | with_reducible refine splitBI (fun h=>?_) (fun h=>?_) | simp (config:={ maxSteps:=1000000 }) (disch:=first | assumption | omega | (simp; done) | fail) [Tryz.results37, *]))
  ·have HUV:Hide (ret=lexC (a.drop (k+1)) (b.drop (k+1))):=⟨by rw [HP.out]; show (if u < v then -1 else if v < u then 1 else lexC (a.drop (k+1)) (b.drop (k+1)))=_; rw [if_neg t1,if_neg t2]⟩
   iterate 6 (all_goals try (first | with_reducible refine splitI (fun h=>?_) (fun h=>?_) | with_reducible refine splitBI (fun h=>?_) (fun h=>?_) | simp (config:={ maxSteps:=1000000 }) (disch:=first | assumption | omega | (simp; done) | fail) [Tryz.results37, *]))
   exact ih.out (a.length - (k+1)) _ _ (by omega) ⟨k+1,by omega,rfl,rfl,HUV,by simp [*],by simp [*],by simp⟩
 ·have hltI:¬(k:Int) < (a.length:Int):=by omega
  have hk2:k=a.length:=by omega
  have hr:ret=0:=by
   rw [HPRE.out,hk2,List.drop_length,← HL.out,List.drop_length]; rfl
  clear hk2
  iterate 6 (all_goals try (first | with_reducible refine splitI (fun h=>?_) (fun h=>?_) | with_reducible refine splitBI (fun h=>?_) (fun h=>?_) | simp (config:={ maxSteps:=1000000 }) (disch:=first | assumption | omega | (simp; done) | fail) [Tryz.results37, *]))
end Go.Ai
end
section
namespace Go.Ai
open Go.Proofs
set_option maxRecDepth 10000
set_option maxHeartbeats 40000000
def cI (x y:Int) : Int:=if x < y then -1 else if y < x then 1 else 0
theorem isNaN_w (x:Int) (g:Nat→Option Blk) (n:Nat) : WC 3 Tryz.prog 121 [.lit (.int .i64 x)] ⟨.fn g,n⟩ fun r=>r=.ret (.lit (.bool false)) ⟨.fn g,n⟩:=by
 refine WC.enterP (noO_ok _ _) hG [] Tryz.func121 rfl (by decide +kernel) (Nat.le_of_ble_eq_true (by kernel_rfl)) ?_
 iterate 8 (all_goals try (first | with_reducible refine splitI (fun h=>?_) (fun h=>?_) | with_reducible refine splitBI (fun h=>?_) (fun h=>?_) | simp (config:={ maxSteps:=1000000 }) (disch:=first | assumption | omega | (simp; done) | fail) [Tryz.results121, *]))
theorem cCmp_w (x y:Int) (g:Nat→Option Blk) (n:Nat) : WC 3 Tryz.prog 98 [.lit (.int .i64 x),.lit (.int .i64 y)] ⟨.fn g,n⟩ fun r=>r=.ret (.lit (.int .i64 (cI x y))) ⟨.fn g,n⟩:=by
 obtain ⟨ret,hret⟩ : ∃ c,c=cI x y:=⟨_,rfl⟩
 rw [← hret]
 unfold cI at hret
 have H1:=Hide.mk (isNaN_w x g n)
 have H2:=Hide.mk (isNaN_w y g n)
 rcases Int.lt_trichotomy x y with h | h | h
 ·rw [if_pos h] at hret
  refine WC.enterP (noO_ok _ _) hG [] Tryz.func98 rfl (by decide +kernel) (Nat.le_of_ble_eq_true (by kernel_rfl)) ?_
  iterate 8 (all_goals try (first | with_reducible refine splitI (fun h=>?_) (fun h=>?_) | with_reducible refine splitBI (fun h=>?_) (fun h=>?_) | simp (config:={ maxSteps:=1000000 }) (disch:=first | assumption | omega | (simp; done) | fail) [Tryz.results98, *]))
  refine WC.mono H1.out ?_
  rintro _ rfl
  iterate 8 (all_goals try (first | with_reducible refine splitI (fun h=>?_) (fun h=>?_) | with_reducible refine splitBI (fun h=>?_) (fun h=>?_) | simp (config:={ maxSteps:=1000000 }) (disch:=first | assumption | omega | (simp; done) | fail) [Tryz.results98, *]))
  refine WC.mono H2.out ?_
  rintro _ rfl
  iterate 8 (all_goals try (first | with_reducible refine splitI (fun h=>?_) (fun h=>?_) | with_reducible refine splitBI (fun h=>?_) (fun h=>?_) | simp (config:={ maxSteps:=1000000 }) (disch:=first | assumption | omega | (simp; done) | fail) [Tryz.results98, *]))
 ·subst h
  rw [if_neg (by omega),if_neg (by omega)] at hret
  refine WC.enterP (noO_ok _ _) hG [] Tryz.func98 rfl (by decide +kernel) (Nat.le_of_ble_eq_true (by kernel_rfl)) ?_
  iterate 8 (all_goals try (first | with_reducible refine splitI (fun h=>?_) (fun h=>?_) | with_reducible refine splitBI (fun h=>?_) (fun h=>?_) | simp (config:={ maxSteps:=1000000 }) (disch:=first | assumption | omega | (simp; done) | fail) [Tryz.results98, *]))
  refine WC.mono H1.out ?_
  rintro _ rfl
  iterate 8 (all_goals try (first | with_reducible refine splitI (fun h=>?_) (fun h=>?_) | with_reducible refine splitBI (fun h=>?_) (fun h=>?_) | simp (config:={ maxSteps:=1000000 }) (disch:=first | assumption | omega | (simp; done) | fail) [Tryz.results98, *]))
  refine WC.mono H2.out ?_
  rintro _ rfl
  iterate 8 (all_goals try (first | with_reducible refine splitI (fun h=>?_) (fun h=>?_) | with_reducible refine splitBI (fun h=>?_) (fun h=>?_) | simp (config:={ maxSteps:=1000000 }) (disch:=first | assumption | omega | (simp; done) | fail) [Tryz.results98, *]))
 ·have h3:¬x < y:=by omega
  rw [if_neg h3,if_pos h] at hret
  refine WC.enterP (noO_ok _ _) hG [] Tryz.func98 rfl (by decide +kernel) (Nat.le_of_ble_eq_true (by kernel_rfl)) ?_
  iterate 8 (all_goals try (first | with_reducible refine splitI (fun h=>?_) (fun h=>?_) | with_reducible refine splitBI (fun h=>?_) (fun h=>?_) | simp (config:={ maxSteps:=1000000 }) (disch:=first | assumption | omega | (simp; done) | fail) [Tryz.results98, *]))
  refine WC.mono H1.out ?_
  rintro _ rfl
  iterate 8 (all_goals try (first | with_reducible refine splitI (fun h=>?_) (fun h=>?_) | with_reducible refine splitBI (fun h=>?_) (fun h=>?_) | simp (config:={ maxSteps:=1000000 }) (disch:=first | assumption | omega | (simp; done) | fail) [Tryz.results98, *]))
  refine WC.mono H2.out ?_
  rintro _ rfl
  iterate 8 (all_goals try (first | with_reducible refine splitI (fun h=>?_) (fun h=>?_) | with_reducible refine splitBI (fun h=>?_) (fun h=>?_) | simp (config:={ maxSteps:=1000000 }) (disch:=first | assumption | omega | (simp; done) | fail) [Tryz.results98, *]))
theorem cOr_w (x y:Int) (g:Nat→Option Blk) (n B:Nat) (hB:g B=some (.cells [.lit (.int .i64 x),.lit (.int .i64 y)] true 0)) (hBn:B < n) : WC 3 Tryz.prog 97 [.sl B 0 2 2] ⟨.fn g,n⟩ fun r=>r=.ret (.lit (.int .i64 (if x=0 then y else x))) ⟨.fn g,n⟩:=by
 obtain ⟨ret,hret⟩ : ∃ c,c=if x=0 then y else x:=⟨_,rfl⟩
 rw [← hret]
 have HRT:=Hide.mk hret
 clear hret
 refine WC.enterP (noO_ok _ _) hG [] Tryz.func97 rfl (by decide +kernel) (Nat.le_of_ble_eq_true (by kernel_rfl)) ?_
 iterate 8 (all_goals try (first | with_reducible refine splitI (fun h=>?_) (fun h=>?_) | with_reducible refine splitBI (fun h=>?_) (fun h=>?_) | simp (config:={ maxSteps:=1000000 }) (disch:=first | assumption | omega | (simp; done) | fail) [Tryz.results97, *]))
 refine LX.ind (fun m gf H'=>∃ k:Nat,k≤2∧m=2 - k∧H'=⟨.fn g,n⟩∧(k=1→x=0)∧(k=2→x=0∧y=0)∧gf 3=some (.lit (.int .i64 0))∧gf 6=some (.sl B 0 2 2)∧gf 7=some (.lit (.int .i64 2))∧gf 8=some (.lit (.int .i64 k))) (m0:=2) ?_ ?_
 ·exact ⟨0,by omega,rfl,rfl,fun h=>by omega,fun h=>by omega,by simp,by simp,by simp,by simp⟩
 rintro m gf H' ⟨k,hk,rfl,rfl,h1,h2,w3,w6,w7,w8⟩ ih
 have HX:=Hide.mk (And.intro h1 h2)
 clear h1 h2
 refine LX.roundP (noO_ok _ _) hG [] (by decide +kernel) ?_
 rcases (by omega:k=0∨k=1∨k=2) with rfl | rfl | rfl
 ·have w8' : gf 8=some (.lit (.int .i64 0)):=w8
  clear w8 hk
  by_cases hx:x=0
  ·have HX0:=Hide.mk hx
   subst hx
   iterate 8 (all_goals try (first | with_reducible refine splitI (fun h=>?_) (fun h=>?_) | with_reducible refine splitBI (fun h=>?_) (fun h=>?_) | simp (config:={ maxSteps:=1000000 }) (disch:=first | assumption | omega | (simp; done) | fail) [Tryz.results97, *]))
   exact ih.out 1 _ _ (by omega) ⟨1,by omega,rfl,rfl,fun _=>rfl,fun h=>by omega,by simp [*],by simp [*],by simp [*],by simp⟩
  ·have hr:ret=x:=by rw [HRT.out,if_neg hx]
   subst hr
   iterate 8 (all_goals try (first | with_reducible refine splitI (fun h=>?_) (fun h=>?_) | with_reducible refine splitBI (fun h=>?_) (fun h=>?_) | simp (config:={ maxSteps:=1000000 }) (disch:=first | assumption | omega | (simp; done) | fail) [Tryz.results97, *]))
 ·have w8' : gf 8=some (.lit (.int .i64 1)):=w8
  have hx:=HX.out.1 rfl
  clear w8 hk
  subst hx
  have hr:ret=y:=by rw [HRT.out,if_pos rfl]
  clear HRT HX
  by_cases hy:y=0
  ·subst hy
   iterate 8 (all_goals try (first | with_reducible refine splitI (fun h=>?_) (fun h=>?_) | with_reducible refine splitBI (fun h=>?_) (fun h=>?_) | simp (config:={ maxSteps:=1000000 }) (disch:=first | assumption | omega | (simp; done) | fail) [Tryz.results97, *]))
   exact ih.out 0 _ _ (by omega) ⟨2,by omega,rfl,rfl,fun h=>by omega,fun _=>⟨rfl,rfl⟩,by simp [*],by simp [*],by simp [*],by simp⟩
  ·subst hr
   iterate 8 (all_goals try (first | with_reducible refine splitI (fun h=>?_) (fun h=>?_) | with_reducible refine splitBI (fun h=>?_) (fun h=>?_) | simp (config:={ maxSteps:=1000000 }) (disch:=first | assumption | omega | (simp; done) | fail) [Tryz.results97, *]))
 ·have w8' : gf 8=some (.lit (.int .i64 2)):=w8
  obtain ⟨hx,hy⟩:=HX.out.2 rfl
  clear w8 hk
  have hr:ret=0:=by rw [HRT.out,hx,hy]; rfl
  subst hr
  iterate 8 (all_goals try (first | with_reducible refine splitI (fun h=>?_) (fun h=>?_) | with_reducible refine splitBI (fun h=>?_) (fun h=>?_) | simp (config:={ maxSteps:=1000000 }) (disch:=first | assumption | omega | (simp; done) | fail) [Tryz.results97, *]))
def slcM:List Int→List Int→Int
 | [],[]=>0
 | [],_ :: _=>-1
 | _ :: _,[]=>1
 | x :: a,y :: b=>if cI x y=0 then slcM a b else cI x y
theorem slcM_lex:∀ (a b:List Int),a.length=b.length→slcM a b=lexC a b
 | [],[],_=>rfl
 | [],_ :: _,h=>by cases h
 | _ :: _,[],h=>by cases h
 | x :: a,y :: b,h=>by
  show (if cI x y=0 then slcM a b else cI x y)=if x < y then -1 else if y < x then 1 else lexC a b
  rw [slcM_lex a b (by simpa using h)]
  unfold cI
  by_cases h1:x < y
  ·simp [h1]
  ·by_cases h2:y < x
   ·simp [h1,h2]
   ·simp [h1,h2]
theorem sCmp_w (a b:List Int) (hal:a.length≤1000000) (hbl:b.length≤1000000) (g:Nat→Option Blk) (n:Nat) (sa sb:AV) (ha:RepW g n a sa) (hb:RepW g n b sb) :
  WC 3 Tryz.prog 99 [sa,sb] ⟨.fn g,n⟩ fun r=>r=.ret (.lit (.int .i64 (slcM a b))) ⟨.fn g,n⟩:=by
 have hla:=@lenV Tryz.prog _ _ _ _ _ ha
 have hlb:=@lenV Tryz.prog _ _ _ _ _ hb
 have HA:=Hide.mk ha
 have HB:=Hide.mk hb
 clear ha hb
 obtain ⟨ret,hret⟩ : ∃ c,c=slcM a b:=⟨_,rfl⟩
 rw [← hret]
 have HRET:=Hide.mk hret
 clear hret
 refine WC.enterP (noO_ok _ _) hG [] Tryz.func99 rfl (by decide +kernel) (Nat.le_of_ble_eq_true (by kernel_rfl)) ?_
 iterate 8 (all_goals try (first | with_reducible refine splitI (fun h=>?_) (fun h=>?_) | with_reducible refine splitBI (fun h=>?_) (fun h=>?_) | simp (config:={ maxSteps:=1000000 }) (disch:=first | assumption | omega | (simp; done) | fail) [Tryz.results99, *]))
 refine LX.ind (fun m gf H'=>∃ k:Nat,k≤a.length∧k≤b.length∧m=a.length - k∧H'=⟨.fn g,n⟩∧Hide (ret=slcM (a.drop k) (b.drop k))∧gf 0=some sa∧gf 1=some sb∧gf 9=some sa∧gf 10=some (.lit (.int .i64 a.length))∧gf 11=some (.lit (.int .i64 k))) (m0:=a.length) ?_ ?_
 ·exact ⟨0,Nat.zero_le _,Nat.zero_le _,rfl,rfl,⟨HRET.out⟩,by simp,by simp,by simp,by simp,by simp⟩
 clear HRET
 rintro m gf H' ⟨k,hk,hk2,rfl,rfl,HR,w0,w1,w9,w10,w11⟩ ih
 refine LX.roundP (noO_ok _ _) hG [] (by decide +kernel) ?_
 by_cases hlt:k < a.length
 ·have hltI:(k:Int) < (a.length:Int):=by omega
  obtain ⟨a1,o1,ha1,hia1,hc1⟩:=RepW.at HA.out hlt
  have HDA:Hide (a.drop k=a[k] :: a.drop (k+1)):=⟨List.drop_eq_getElem_cons hlt⟩
  by_cases hlt2:k < b.length
  ·have hlt2I:¬(b.length:Int)≤(k:Int):=by omega
   obtain ⟨a2,o2,ha2,hia2,hc2⟩:=RepW.at HB.out hlt2
   have HST:Hide (ret=if cI a[k] b[k]=0 then slcM (a.drop (k+1)) (b.drop (k+1)) else cI a[k] b[k]):=⟨by
    rw [HR.out,HDA.out,List.drop_eq_getElem_cons hlt2]; rfl⟩
   have HC:=Hide.mk (cCmp_w a[k] b[k] g n)
   clear HR HDA
   generalize cI a[k] b[k]=c at *
   generalize a[k]=x at *
   generalize b[k]=y at *
   iterate 8 (all_goals try (first | with_reducible refine splitI (fun h=>?_) (fun h=>?_) | with_reducible refine splitBI (fun h=>?_) (fun h=>?_) | simp (config:={ maxSteps:=1000000 }) (disch:=first | assumption | omega | (simp; done) | fail) [Tryz.results99, *]))
   refine WC.mono HC.out ?_
   rintro _ rfl
   by_cases hc:c=0
   ·rw [if_pos hc] at HST
    subst hc
    iterate 8 (all_goals try (first | with_reducible refine splitI (fun h=>?_) (fun h=>?_) | with_reducible refine splitBI (fun h=>?_) (fun h=>?_) | simp (config:={ maxSteps:=1000000 }) (disch:=first | assumption | omega | (simp; done) | fail) [Tryz.results99, *]))
    exact ih.out (a.length - (k+1)) _ _ (by omega) ⟨k+1,by omega,by omega,rfl,rfl,HST,by simp [*],by simp [*],by simp [*],by simp [*],by simp⟩
   ·rw [if_neg hc] at HST
    have hr:=HST.out
    subst hr
    iterate 8 (all_goals try (first | with_reducible refine splitI (fun h=>?_) (fun h=>?_) | with_reducible refine splitBI (fun h=>?_) (fun h=>?_) | simp (config:={ maxSteps:=1000000 }) (disch:=first | assumption | omega | (simp; done) | fail) [Tryz.results99, *]))
  ·have hlt2I:(b.length:Int)≤(k:Int):=by omega
   have hr:ret=1:=by rw [HR.out,HDA.out,List.drop_eq_nil_of_le (by omega:b.length≤k)]; rfl
   subst hr
   iterate 8 (all_goals try (first | with_reducible refine splitI (fun h=>?_) (fun h=>?_) | with_reducible refine splitBI (fun h=>?_) (fun h=>?_) | simp (config:={ maxSteps:=1000000 }) (disch:=first | assumption | omega | (simp; done) | fail) [Tryz.results99, *]))
 ·have hltI:¬(k:Int) < (a.length:Int):=by omega
  have hka:k=a.length:=by omega
  by_cases hlt2:k < b.length
  ·have hlt2I:(a.length:Int) < (b.length:Int):=by omega
   have hr:ret = -1:=by rw [HR.out,List.drop_eq_nil_of_le (by omega:a.length≤k),List.drop_eq_getElem_cons hlt2]; rfl
   subst hr
   iterate 8 (all_goals try (first | with_reducible refine splitI (fun h=>?_) (fun h=>?_) | with_reducible refine splitBI (fun h=>?_) (fun h=>?_) | simp (config:={ maxSteps:=1000000 }) (disch:=first | assumption | omega | (simp; done) | fail) [Tryz.results99, *]))
  ·have hlt2I:¬(a.length:Int) < (b.length:Int):=by omega
   have hr:ret=0:=by rw [HR.out,List.drop_eq_nil_of_le (by omega:a.length≤k),List.drop_eq_nil_of_le (by omega:b.length≤k)]; rfl
   subst hr
   iterate 8 (all_goals try (first | with_reducible refine splitI (fun h=>?_) (fun h=>?_) | with_reducible refine splitBI (fun h=>?_) (fun h=>?_) | simp (config:={ maxSteps:=1000000 }) (disch:=first | assumption | omega | (simp; done) | fail) [Tryz.results99, *]))
theorem cmpM_or (a b:List Int) : (if cI (a.length:Int) (b.length:Int)=0 then slcM a b else cI (a.length:Int) (b.length:Int))=cmpM a b:=by
 unfold cmpM
 rcases Nat.lt_trichotomy a.length b.length with h | h | h
 ·have:cI (a.length:Int) (b.length:Int) = -1:=by unfold cI; rw [if_pos (by omega)]
  rw [this,if_neg (by decide),if_pos h]
 ·have:cI (a.length:Int) (b.length:Int)=0:=by unfold cI; rw [if_neg (by omega),if_neg (by omega)]
  rw [this,if_pos rfl,slcM_lex a b h,if_neg (by omega),if_neg (by omega)]
 ·have:cI (a.length:Int) (b.length:Int)=1:=by unfold cI; rw [if_neg (by omega),if_pos (by omega)]
  rw [this,if_neg (by decide),if_neg (by omega),if_pos h]
theorem wCompare_w (a b:List Int) (hal:a.length≤1000000) (hbl:b.length≤1000000) (g:Nat→Option Blk) (n:Nat) (sa sb:AV) (ha:RepW g n a sa) (hb:RepW g n b sb) :
  WC 3 Tryz.prog 73 [sa,sb] ⟨.fn g,n⟩ fun r=>r=.ret (.lit (.int .i64 (cmpM a b))) ⟨.fn g,n⟩:=by
 refine WC.drop1 rfl ?_
 have hla:=@lenV Tryz.prog _ _ _ _ _ ha
 have hlb:=@lenV Tryz.prog _ _ _ _ _ hb
 have HC:=Hide.mk (sCmp_w a b hal hbl g n sa sb ha hb)
 have HL:=Hide.mk (cCmp_w a.length b.length g n)
 have HOR:=Hide.mk (cmpM_or a b)
 clear ha hb
 generalize cmpM a b=ret at *
 generalize slcM a b=c2 at *
 generalize cI (a.length:Int) (b.length:Int)=c1 at *
 refine WC.enterP (noO_ok _ _) hG [] Tryz.func73 rfl (by decide +kernel) (Nat.le_of_ble_eq_true (by kernel_rfl)) ?_
 iterate 8 (all_goals try (first | with_reducible refine splitI (fun h=>?_) (fun h=>?_) | with_reducible refine splitBI (fun h=>?_) (fun h=>?_) | simp (config:={ maxSteps:=1000000 }) (disch:=first | assumption | omega | (simp; done) | fail) [Tryz.results73, *]))
 refine WC.mono HL.out ?_
 rintro _ rfl
 iterate 8 (all_goals try (first | with_reducible refine splitI (fun h=>?_) (fun h=>?_) | with_reducible refine splitBI (fun h=>?_) (fun h=>?_) | simp (config:={ maxSteps:=1000000 }) (disch:=first | assumption | omega | (simp; done) | fail) [Tryz.results73, *]))
 refine WC.mono HC.out ?_
 rintro _ rfl
 iterate 8 (all_goals try (first | with_reducible refine splitI (fun h=>?_) (fun h=>?_) | with_reducible refine splitBI (fun h=>?_) (fun h=>?_) | simp (config:={ maxSteps:=1000000 }) (disch:=first | assumption | omega | (simp; done) | fail) [Tryz.results73, *]))
 refine WC.mono (cOr_w c1 c2 _ _ n gput_eq (by omega)) ?_
 rintro _ rfl
 rw [HOR.out]
 iterate 8 (all_goals try (first | with_reducible refine splitI (fun h=>?_) (fun h=>?_) | with_reducible refine splitBI (fun h=>?_) (fun h=>?_) | simp (config:={ maxSteps:=1000000 }) (disch:=first | assumption | omega | (simp; done) | fail) [Tryz.results73, *]))
 exact ⟨Nat.le_succ n,fun b hb=>gput_lt hb⟩
end Go.Ai
end
section
namespace Go.Ai
open Go.Proofs
set_option maxRecDepth 10000
set_option maxHeartbeats 40000000
theorem wdC_get (l:List Int) (i:Nat) : (wdC l)[i]?=l[i]?.map fun (x:Int)=>AV.lit (.int .i64 x):=by unfold wdC; simp
def revK (l:List Int) (k:Nat) : List Int:=(List.range l.length).map fun p=>if p < k∨l.length - k≤p then l.getD (l.length - 1 - p) 0 else l.getD p 0
theorem revK_len (l:List Int) (k:Nat) : (revK l k).length=l.length:=by unfold revK; simp
theorem revK_at (l:List Int) (k i:Nat) (h:i < l.length) : (revK l k)[i]?=some (if i < k∨l.length - k≤i then l.getD (l.length - 1 - i) 0 else l.getD i 0):=by
 unfold revK; simp [h]
theorem revK_zero (l:List Int) : revK l 0=l:=by
 refine List.ext_getElem? fun i=>?_
 by_cases h:i < l.length
 ·rw [revK_at l 0 i h]
  have:¬(i < 0∨l.length - 0≤i):=by omega
  rw [if_neg this,List.getD_eq_getElem?_getD,List.getElem?_eq_getElem h]; rfl
 ·rw [List.getElem?_eq_none (by rw [revK_len]; omega),List.getElem?_eq_none (by omega)]
theorem revK_end (l:List Int) (k:Nat) (h:l.length≤2 * k+1) : revK l k=l.reverse:=by
 refine List.ext_getElem? fun i=>?_
 by_cases hi:i < l.length
 ·rw [revK_at l k i hi,List.getElem?_reverse hi]
  have hg:l.getD (l.length - 1 - i) 0=l[l.length - 1 - i]'(by omega):=by
   rw [List.getD_eq_getElem?_getD,List.getElem?_eq_getElem (by omega)]; rfl
  rw [List.getElem?_eq_getElem (by omega),← hg]
  split
  ·rfl
  ·rename_i hc
   have:i=l.length - 1 - i:=by omega
   rw [← this]
 ·rw [List.getElem?_eq_none (by rw [revK_len]; omega),List.getElem?_eq_none (by rw [List.length_reverse]; omega)]
theorem revK_swap (l:List Int) (k:Nat) (h:2 * k+1 < l.length) : ((wdC (revK l k)).set k (.lit (.int .i64 (l.getD (l.length - 1 - k) 0)))).set (l.length - 1 - k) (.lit (.int .i64 (l.getD k 0)))=wdC (revK l (k+1)):=by
 refine List.ext_getElem? fun i=>?_
 by_cases hi:i < l.length
 ·rw [wdC_get,revK_at l (k+1) i hi]
  by_cases h1:l.length - 1 - k=i
  ·subst h1
   rw [List.getElem?_set_self (by rw [List.length_set,wdC_len,revK_len]; exact hi)]
   have:l.length - 1 - k < k+1∨l.length - (k+1)≤l.length - 1 - k:=by omega
   rw [if_pos this,show l.length - 1 - (l.length - 1 - k)=k by omega]; rfl
  ·rw [List.getElem?_set_ne h1]
   by_cases h2:k=i
   ·subst h2
    rw [List.getElem?_set_self (by rw [wdC_len,revK_len]; exact hi)]
    have:k < k+1∨l.length - (k+1)≤k:=by omega
    rw [if_pos this]; rfl
   ·rw [List.getElem?_set_ne h2,wdC_get,revK_at l k i hi]
    by_cases h3:i < k∨l.length - k≤i
    ·have:i < k+1∨l.length - (k+1)≤i:=by omega
     rw [if_pos h3,if_pos this]
    ·have:¬(i < k+1∨l.length - (k+1)≤i):=by omega
     rw [if_neg h3,if_neg this]
 ·rw [List.getElem?_eq_none (by simp [wdC_len,revK_len]; omega),List.getElem?_eq_none (by simp [wdC_len,revK_len]; omega)]
theorem rev_slq (a d z m:Nat) (l:List Int) (hl:l.length≤1000000) (g:Nat→Option Blk) (hg:g a=some (.cells (wdC l) true z)) (ha:a < m) :
  WC 3 Tryz.prog 69 [.slq a 0 l.length d] ⟨.fn g,m⟩ fun r=>∃ u g',r=.ret u ⟨.fn g',m⟩∧g' a=some (.cells (wdC l.reverse) true z)∧∀ b,b≠a→g' b=g b:=by
 refine WC.enterP (noO_ok _ _) hG pl69 Tryz.func69 rfl (by decide +kernel) (Nat.le_of_ble_eq_true (by kernel_rfl)) ?_
 iterate 6 (all_goals try (first | with_reducible refine splitI (fun h=>?_) (fun h=>?_) | with_reducible refine splitBI (fun h=>?_) (fun h=>?_) | simp (config:={ maxSteps:=1000000 }) (disch:=first | assumption | omega | (simp; done) | fail) [Tryz.results69, *]))
 refine LX.ind (fun q gf H'=>∃ (k:Nat) (gL:Nat→Option Blk),2 * k≤l.length+1∧q=l.length - k∧H'=⟨.fn gL,m⟩∧gL a=some (.cells (wdC (revK l k)) true z)∧(∀ b,b≠a→gL b=g b) ∧
  gf 0=some (.slq a 0 l.length d)∧gf 2=some (.lit (.int .i64 (k:Int)))∧gf 3=some (.lit (.int .i64 ((l.length:Int) - 1 - k)))) (m0:=l.length) ?_ ?_
 ·exact ⟨0,g,by omega,by omega,rfl,by rw [revK_zero]; exact hg,fun _ _=>rfl,by simp,by simp,by simp⟩
 rintro q gf H' ⟨k,gL,hk,rfl,rfl,hgL,hot,w0,w2,w3⟩ ih
 have HO:=Hide.mk hot
 have HL:=Hide.mk hgL
 clear hot hgL
 refine LX.roundP (noO_ok _ _) hG pl69 (by decide +kernel) ?_
 by_cases hlt:2 * k+1 < l.length
 ·have hltI:(k:Int) < (l.length:Int) - 1 - k:=by omega
  have e1:((l.length:Int) - 1 - k).toNat=l.length - 1 - k:=by omega
  have hgL:=HL.out
  have c1:(wdC (revK l k))[k]?=some (.lit (.int .i64 (l.getD k 0))):=by
   rw [wdC_get,revK_at l k k (by omega),if_neg (by omega)]; rfl
  have c2:(wdC (revK l k))[l.length - 1 - k]?=some (.lit (.int .i64 (l.getD (l.length - 1 - k) 0))):=by
   rw [wdC_get,revK_at l k _ (by omega),if_neg (by omega)]; rfl
  have h5:(wdC (revK l k)).length=l.length:=by rw [wdC_len,revK_len]
  have h6:k < (wdC (revK l k)).length:=by omega
  have h7:l.length - 1 - k < (wdC (revK l k)).length:=by omega
  have hsw:=revK_swap l k hlt
  rw [List.getElem?_eq_getElem h6,Option.some.injEq] at c1
  rw [List.getElem?_eq_getElem h7,Option.some.injEq] at c2
  generalize wdC (revK l k)=L at *
  generalize l.getD k 0=v1 at *
  generalize l.getD (l.length - 1 - k) 0=v2 at *
  have h8:l.length - 1 - k < (L.set k (.lit (.int .i64 v2))).length:=by rw [List.length_set]; exact h7
  have HS:=Hide.mk hsw
  clear hsw
  iterate 6 (all_goals try (first | with_reducible refine splitI (fun h=>?_) (fun h=>?_) | with_reducible refine splitBI (fun h=>?_) (fun h=>?_) | simp (config:={ maxSteps:=1000000 }) (disch:=first | assumption | omega | (simp; done) | fail) [Tryz.results69, *]))
  refine ih.out (l.length - (k+1)) _ _ (by omega) ⟨k+1,_,by omega,rfl,rfl,?_,?_,?_,?_,?_⟩
  ·rw [← HS.out]; simp
  ·intro b hb
   rw [← HO.out b hb]
   exact if_neg hb
  ·simp [*]
  ·simp
  ·simp; omega
 ·have hltI:¬(k:Int) < (l.length:Int) - 1 - k:=by omega
  iterate 6 (all_goals try (first | with_reducible refine splitI (fun h=>?_) (fun h=>?_) | with_reducible refine splitBI (fun h=>?_) (fun h=>?_) | simp (config:={ maxSteps:=1000000 }) (disch:=first | assumption | omega | (simp; done) | fail) [Tryz.results69, *]))
  exact ⟨_,gL,⟨rfl,rfl⟩,by rw [HL.out,revK_end l k (by omega)],fun b hb=>HO.out b hb⟩
theorem rev_sl (a d z m:Nat) (l:List Int) (hl:l.length≤1000000) (g:Nat→Option Blk) (hg:g a=some (.cells (wdC l) true z)) (ha:a < m) :
  WC 3 Tryz.prog 69 [.sl a 0 l.length d] ⟨.fn g,m⟩ fun r=>∃ u g',r=.ret u ⟨.fn g',m⟩∧g' a=some (.cells (wdC l.reverse) true z)∧∀ b,b≠a→g' b=g b:=by
 refine WC.enterP (noO_ok _ _) hG pl69 Tryz.func69 rfl (by decide +kernel) (Nat.le_of_ble_eq_true (by kernel_rfl)) ?_
 iterate 6 (all_goals try (first | with_reducible refine splitI (fun h=>?_) (fun h=>?_) | with_reducible refine splitBI (fun h=>?_) (fun h=>?_) | simp (config:={ maxSteps:=1000000 }) (disch:=first | assumption | omega | (simp; done) | fail) [Tryz.results69, *]))
 refine LX.ind (fun q gf H'=>∃ (k:Nat) (gL:Nat→Option Blk),2 * k≤l.length+1∧q=l.length - k∧H'=⟨.fn gL,m⟩∧gL a=some (.cells (wdC (revK l k)) true z)∧(∀ b,b≠a→gL b=g b) ∧
  gf 0=some (.sl a 0 l.length d)∧gf 2=some (.lit (.int .i64 (k:Int)))∧gf 3=some (.lit (.int .i64 ((l.length:Int) - 1 - k)))) (m0:=l.length) ?_ ?_
 ·exact ⟨0,g,by omega,by omega,rfl,by rw [revK_zero]; exact hg,fun _ _=>rfl,by simp,by simp,by simp⟩
 rintro q gf H' ⟨k,gL,hk,rfl,rfl,hgL,hot,w0,w2,w3⟩ ih
 have HO:=Hide.mk hot
 have HL:=Hide.mk hgL
 clear hot hgL
 refine LX.roundP (noO_ok _ _) hG pl69 (by decide +kernel) ?_
 by_cases hlt:2 * k+1 < l.length
 ·have hltI:(k:Int) < (l.length:Int) - 1 - k:=by omega
  have e1:((l.length:Int) - 1 - k).toNat=l.length - 1 - k:=by omega
  have hgL:=HL.out
  have c1:(wdC (revK l k))[k]?=some (.lit (.int .i64 (l.getD k 0))):=by
   rw [wdC_get,revK_at l k k (by omega),if_neg (by omega)]; rfl
  have c2:(wdC (revK l k))[l.length - 1 - k]?=some (.lit (.int .i64 (l.getD (l.length - 1 - k) 0))):=by
   rw [wdC_get,revK_at l k _ (by omega),if_neg (by omega)]; rfl
  have h5:(wdC (revK l k)).length=l.length:=by rw [wdC_len,revK_len]
  have h6:k < (wdC (revK l k)).length:=by omega
  have h7:l.length - 1 - k < (wdC (revK l k)).length:=by omega
  have hsw:=revK_swap l k hlt
  rw [List.getElem?_eq_getElem h6,Option.some.injEq] at c1
  rw [List.getElem?_eq_getElem h7,Option.some.injEq] at c2
  generalize wdC (revK l k)=L at *
  generalize l.getD k 0=v1 at *
  generalize l.getD (l.length - 1 - k) 0=v2 at *
  have h8:l.length - 1 - k < (L.set k (.lit (.int .i64 v2))).length:=by rw [List.length_set]; exact h7
  have HS:=Hide.mk hsw
  clear hsw
  iterate 6 (all_goals try (first | with_reducible refine splitI (fun h=>?_) (fun h=>?_) | with_reducible refine splitBI (fun h=>?_) (fun h=>?_) | simp (config:={ maxSteps:=1000000 }) (disch:=first | assumption | omega | (simp; done) | fail) [Tryz.results69, *]))
  refine ih.out (l.length - (k+1)) _ _ (by omega) ⟨k+1,_,by omega,rfl,rfl,?_,?_,?_,?_,?_⟩
  ·rw [← HS.out]; simp
  ·intro b hb
   rw [← HO.out b hb]
   exact if_neg hb
  ·simp [*]
  ·simp
  ·simp; omega
 ·have hltI:¬(k:Int) < (l.length:Int) - 1 - k:=by omega
  iterate 6 (all_goals try (first | with_reducible refine splitI (fun h=>?_) (fun h=>?_) | with_reducible refine splitBI (fun h=>?_) (fun h=>?_) | simp (config:={ maxSteps:=1000000 }) (disch:=first | assumption | omega | (simp; done) | fail) [Tryz.results69, *]))
  exact ⟨_,gL,⟨rfl,rfl⟩,by rw [HL.out,revK_end l k (by omega)],fun b hb=>HO.out b hb⟩
theorem rev_nil (m:Nat) (g:Nat→Option Blk) : WC 3 Tryz.prog 69 [.lit (.slice none 0 0)] ⟨.fn g,m⟩ fun r=>∃ u,r=.ret u ⟨.fn g,m⟩:=by
 refine WC.enterP (noO_ok _ _) hG pl69 Tryz.func69 rfl (by decide +kernel) (Nat.le_of_ble_eq_true (by kernel_rfl)) ?_
 iterate 6 (all_goals try (first | with_reducible refine splitI (fun h=>?_) (fun h=>?_) | with_reducible refine splitBI (fun h=>?_) (fun h=>?_) | simp (config:={ maxSteps:=1000000 }) (disch:=first | assumption | omega | (simp; done) | fail) [Tryz.results69, *]))
 refine LX.ind (fun q gf H'=>H'=⟨.fn g,m⟩∧gf 2=some (.lit (.int .i64 0))∧gf 3=some (.lit (.int .i64 (-1)))) (m0:=0) ?_ ?_
 ·exact ⟨rfl,by simp,by simp⟩
 rintro q gf H' ⟨rfl,w2,w3⟩ ih
 refine LX.roundP (noO_ok _ _) hG pl69 (by decide +kernel) ?_
 iterate 6 (all_goals try (first | with_reducible refine splitI (fun h=>?_) (fun h=>?_) | with_reducible refine splitBI (fun h=>?_) (fun h=>?_) | simp (config:={ maxSteps:=1000000 }) (disch:=first | assumption | omega | (simp; done) | fail) [Tryz.results69, *]))
end Go.Ai
end
section
namespace Go.Proofs
open Go.Shelf
def Tryz.sortT_ren:Go.Shelf.Ren:=⟨fun | 6=>71 | 15=>96 | 14=>95 | 28=>119 | 29=>120 | 20=>111 | 21=>112 | 22=>113 | 23=>114 | 24=>115 | 25=>116 | 26=>117 | 27=>118 | 46=>124 | 47=>125 | 48=>126 | 49=>127 | 50=>128 | 57=>133 | n=>n,fun | 22=>22 | 24=>59 | 25=>105 | 3=>3 | 39=>160 | 0=>0 | 53=>182 | 55=>184 | 4=>4 | 46=>176 | 45=>175 | 50=>123 | 5=>5 | 9=>9 | 66=>186 | 70=>190 | 76=>194 | 77=>195 | n=>n,fun | n=>n⟩
theorem Tryz.sortT:Go.Proofs.SlLaysF0.n6 Tryz.prog Tryz.sortT_ren:={
 mixed:=by kernel_rfl
 f6:=⟨Tryz.f71.name,by decide,Tryz.func71.trans (congrArg some (by kernel_rfl))⟩
 f14:=⟨Tryz.f95.name,by decide,Tryz.func95.trans (congrArg some (by kernel_rfl))⟩
 f15:=Tryz.func96.trans (congrArg some (by kernel_rfl))
 f20:=⟨Tryz.f111.name,by decide,Tryz.func111.trans (congrArg some (by kernel_rfl))⟩
 f21:=⟨Tryz.f112.name,by decide,Tryz.func112.trans (congrArg some (by kernel_rfl))⟩
 f22:=⟨Tryz.f113.name,by decide,Tryz.func113.trans (congrArg some (by kernel_rfl))⟩
 f23:=⟨Tryz.f114.name,by decide,Tryz.func114.trans (congrArg some (by kernel_rfl))⟩
 f24:=⟨Tryz.f115.name,by decide,Tryz.func115.trans (congrArg some (by kernel_rfl))⟩
 f25:=⟨Tryz.f116.name,by decide,Tryz.func116.trans (congrArg some (by kernel_rfl))⟩
 f26:=⟨Tryz.f117.name,by decide,Tryz.func117.trans (congrArg some (by kernel_rfl))⟩
 f27:=⟨Tryz.f118.name,by decide,Tryz.func118.trans (congrArg some (by kernel_rfl))⟩
 f28:=Tryz.func119.trans (congrArg some (by kernel_rfl))
 f29:=Tryz.func120.trans (congrArg some (by kernel_rfl))
 f46:=⟨Tryz.f124.name,by decide,Tryz.func124.trans (congrArg some (by kernel_rfl))⟩
 f47:=Tryz.func125.trans (congrArg some (by kernel_rfl))
 f48:=Tryz.func126.trans (congrArg some (by kernel_rfl))
 f49:=⟨Tryz.f127.name,by decide,Tryz.func127.trans (congrArg some (by kernel_rfl))⟩
 f50:=⟨Tryz.f128.name,by decide,Tryz.func128.trans (congrArg some (by kernel_rfl))⟩
 f57:=⟨Tryz.f133.name,by decide,Tryz.func133.trans (congrArg some (by kernel_rfl))⟩
 t0:=Tryz.underlying0
 a0:=Tryz.isAgg0
 z0:=Tryz.sizeOf0
 v0:=Tryz.zeroValue0
 t3:=Tryz.underlying3
 a3:=Tryz.isAgg3
 z3:=Tryz.sizeOf3
 v3:=Tryz.zeroValue3
 t4:=Tryz.underlying4
 a4:=Tryz.isAgg4
 z4:=Tryz.sizeOf4
 v4:=Tryz.zeroValue4
 t5:=Tryz.underlying5
 a5:=Tryz.isAgg5
 z5:=Tryz.sizeOf5
 v5:=Tryz.zeroValue5
 t9:=Tryz.underlying9
 a9:=Tryz.isAgg9
 z9:=Tryz.sizeOf9
 v9:=Tryz.zeroValue9
 t22:=Tryz.underlying22
 a22:=Tryz.isAgg22
 z22:=Tryz.sizeOf22
 v22:=Tryz.zeroValue22
 t25:=Tryz.underlying105
 a25:=Tryz.isAgg105
 z25:=Tryz.sizeOf105
 v25:=Tryz.zeroValue105
 t39:=Tryz.underlying160
 a39:=Tryz.isAgg160
 z39:=Tryz.sizeOf160
 v39:=Tryz.zeroValue160
 t45:=Tryz.underlying175
 a45:=Tryz.isAgg175
 z45:=Tryz.sizeOf175
 v45:=Tryz.zeroValue175
 t46:=Tryz.underlying176
 a46:=Tryz.isAgg176
 z46:=Tryz.sizeOf176
 v46:=Tryz.zeroValue176
 t50:=Tryz.underlying123
 a50:=Tryz.isAgg123
 z50:=Tryz.sizeOf123
 v50:=Tryz.zeroValue123
 t53:=Tryz.underlying182
 a53:=Tryz.isAgg182
 z53:=Tryz.sizeOf182
 v53:=Tryz.zeroValue182
 t55:=Tryz.underlying184
 a55:=Tryz.isAgg184
 z55:=Tryz.sizeOf184
 v55:=Tryz.zeroValue184
 t66:=Tryz.underlying186
 a66:=Tryz.isAgg186
 z66:=Tryz.sizeOf186
 v66:=Tryz.zeroValue186
 t70:=Tryz.underlying190
 a70:=Tryz.isAgg190
 z70:=Tryz.sizeOf190
 v70:=Tryz.zeroValue190
 t76:=Tryz.underlying194
 a76:=Tryz.isAgg194
 z76:=Tryz.sizeOf194
 v76:=Tryz.zeroValue194
 t77:=Tryz.underlying195
 a77:=Tryz.isAgg195
 z77:=Tryz.sizeOf195
 v77:=Tryz.zeroValue195 }
end Go.Proofs
end
section
namespace Go.Ai
open Go.Proofs Go.RowKit Go.Shelf
set_option maxRecDepth 10000
set_option maxHeartbeats 40000000
theorem BackF_w (a b:List Int) (hal:a.length≤1000000) (hbl:b.length≤1000000) (g:Nat→Option Blk) (n:Nat) (sa ra sb rb:AV) (ha:RepW g n a sa) (hb:RepW g n b sb) (h1:oneC ra=true) (h2:oneC rb=true) :
  WC 3 Tryz.prog 72 [.agg [sa,ra],.agg [sb,rb]] ⟨.fn g,n⟩ fun r=>∃ g' n',r=.ret (.lit (.int .i64 (cmpM a b))) ⟨.fn g',n'⟩:=by
 have h3:=ha.one
 have h4:=hb.one
 have hone:allOne [sa,ra]=true:=by simp [h3,h1]
 have hone2:allOne [sb,rb]=true:=by simp [h4,h2]
 have HC:=Hide.mk fun (gX:Nat→Option Blk) (hX:∀ b,b < n→gX b=g b)=>wCompare_w a b hal hbl gX (n+1+1) sa sb (SliceV.mono (by omega) hX ha) (SliceV.mono (by omega) hX hb)
 clear ha hb
 refine WC.enterP (noO_ok _ _) hG [] Tryz.func72 rfl (by decide +kernel) (Nat.le_of_ble_eq_true (by kernel_rfl)) ?_
 iterate 8 (all_goals try (first | with_reducible refine splitI (fun h=>?_) (fun h=>?_) | with_reducible refine splitBI (fun h=>?_) (fun h=>?_) | simp (config:={ maxSteps:=1000000 }) (disch:=first | assumption | omega | (simp; done) | fail) [Tryz.results72, *]))
 refine WC.mono (HC.out _ fun b hb=>by simp (disch:=omega) only [gput_lt]) ?_
 rintro _ rfl
 iterate 8 (all_goals try (first | with_reducible refine splitI (fun h=>?_) (fun h=>?_) | with_reducible refine splitBI (fun h=>?_) (fun h=>?_) | simp (config:={ maxSteps:=1000000 }) (disch:=first | assumption | omega | (simp; done) | fail) [Tryz.results72, *]))
theorem SafeW.froz {g:Nat→Option Blk} {lo n B:Nat} {w:List Int} {sv:AV} (h:SafeW g lo n B w sv) : RepW (froz B g) n w sv:=by
 obtain ⟨gk,h1,h2⟩:=h
 rcases h2 with h2 | ⟨a,off,h3,h4,l,own,z,e1,e2,e3⟩
 ·exact .inl h2
 ·obtain ⟨q1,_,_,q2⟩:=h1 a _ e1
  exact .inr ⟨a,off,h3,h4,l,false,z,froz_at q2 q1,e2,e3⟩
theorem swo_cmp (key:Nat→List Int) : Go.Sort.SWO (ltOf fun i j=>cmpM (key i) (key j)):=by
 have hl:∀ i j,ltOf (fun i j=>cmpM (key i) (key j)) i j=decide (cmpM (key i) (key j) < 0):=fun i j=>rfl
 refine ⟨fun x=>?_,fun x y z h1 h2=>?_,fun x y z h1 h2=>?_⟩
 ·rw [hl,decide_eq_false]
  intro h
  exact SL.irrefl (cmpM_SL.1 h)
 ·rw [hl,decide_eq_true_eq] at h1 h2 ⊢
  exact cmpM_SL.2 ((cmpM_SL.1 h1).trans (cmpM_SL.1 h2))
 ·rw [hl,decide_eq_false_iff_not] at h1 h2 ⊢
  intro h3
  have h3:=cmpM_SL.1 h3
  rcases Int.lt_trichotomy (cmpM (key x) (key y)) 0 with h | h | h
  ·exact h1 h
  ·rw [cmpM_zero h] at h3; exact h2 (cmpM_SL.2 h3)
  ·exact h2 (cmpM_SL.2 ((cmpM_pos h).trans h3))
theorem pairs_of:∀ (m:Nat) (cs:List AV),cs.length=m * 2→∃ its:List (List AV),its.length=m∧its.flatten=cs∧∀ k (h:k < its.length),∃ s1 s2,its[k]=[s1,s2]∧cs[k * 2]?=some s1∧cs[k * 2+1]?=some s2
  | 0, cs, h => ⟨[], rfl, by have : cs = [] := List.eq_nil_of_length_eq_zero (by omega)
                             rw [this]; rfl,fun k h=>by cases h⟩
  | m+1,[],h=>by simp at h
  | m+1,[_],h=>by simp at h; omega
  | m+1,a :: b :: cs,h=>by
    obtain ⟨its,h1,h2,h3⟩:=pairs_of m cs (by simp at h; omega)
    refine ⟨[a,b] :: its,by simp [h1],by simp [h2],fun k hk=>?_⟩
    cases k with
    | zero=>exact ⟨a,b,rfl,rfl,rfl⟩
    | succ k =>
      obtain ⟨s1,s2,e1,e2,e3⟩:=h3 k (by simpa using hk)
      refine ⟨s1,s2,by simpa using e1,?_,?_⟩
      · rw [show (k+1) * 2=k * 2+2 by omega]; simpa using e2
      · rw [show (k+1) * 2+1=(k * 2+1)+2 by omega]; simpa using e3
theorem sortT_w {us:List (List Int×List Int)} {cs:List AV} {g:Nat→Option Blk} {lo n B z c:Nat} (hrf:RowsF g lo n B us cs) (hgB:g B=some (.cells cs true z)) (hpos:0 < us.length) (hlen:us.length≤100000) (hw:∀ u∈us,u.1.length≤1000000) :
  WC 3 Tryz.prog 71 [.sl B 0 us.length c,.lit (.func (.func 72) #[] #[])] ⟨.fn g,n⟩ fun r=>∃ (us' : List (List Int×List Int)) (cs' : List AV),us'.Perm us∧(∀ (i j:Nat) (_:i < j) (hj:j < us'.length),¬ cmpM us'[j].1 (us'[i]'(by omega)).1 < 0)∧r=.ret (.tup []) ⟨.fn (gput g B (some (.cells cs' true z))),n⟩∧RowsF (gput g B (some (.cells cs' true z))) lo n B us' cs'∧∀ v∈cs',v∈cs:=by
 obtain ⟨its,p1,p2,p3⟩:=pairs_of us.length cs hrf.1
 have hit:∀ (k:Nat) (h:k < its.length),∃ s1 s2,its[k]=[s1,s2]∧SafeW g lo n B (us[k]'(by omega)).1 s1∧SafeW g lo n B (us[k]'(by omega)).2 s2:=by
  intro k h
  obtain ⟨s1,s2,e1,e2,e3⟩:=p3 k h
  obtain ⟨t1,t2,f1,f2,f3,f4⟩:=hrf.2 k (by omega)
  rw [e2] at f1; rw [e3] at f2
  cases f1; cases f2
  exact ⟨s1,s2,e1,f3,f4⟩
 have h:=WC.sortK (G:=3) Tryz.sortT 2 (by decide) Tryz.isAgg59 Tryz.sizeOf59 72 (enters_of Tryz.func72 (by kernel_rfl) rfl) (its:=its) (fun x hx=>by
   obtain ⟨k,hk,rfl⟩:=List.getElem_of_mem hx
   obtain ⟨s1,s2,e1,e2,e3⟩:=hit k hk
   rw [e1]
   exact ⟨rfl,by simp [e2.rep.one,e3.rep.one]⟩) (fun i j=>cmpM (us.getD i ([],[])).1 (us.getD j ([],[])).1) (swo_cmp fun i=>(us.getD i ([],[])).1) (g:=g) (n:=n) (Bn:=B) (z:=z) (by rw [p2]; exact hgB) (sv:=.sl B 0 us.length c) (.inl ⟨c,by rw [p1]⟩) (by omega) (by omega) (fun i j hi hj=>by
   obtain ⟨s1,s2,e1,e2,e3⟩:=hit i hi
   obtain ⟨t1,t2,f1,f2,f3⟩:=hit j hj
   rw [e1,f1,(getD_mem (d:=([],[])) (show i < us.length by omega)).2,(getD_mem (d:=([],[])) (show j < us.length by omega)).2]
   exact BackF_w _ _ (hw _ (List.getElem_mem _)) (hw _ (List.getElem_mem _)) _ n s1 s2 t1 t2 e2.froz f2.froz e3.rep.one f3.rep.one)
 refine WC.mono h ?_
 rintro _ ⟨is,hp,hs,rfl⟩
 rw [p1] at hp
 have hil:is.length=us.length:=by rw [hp.length_eq,List.length_range]
 have hlt:∀ i∈is,i < us.length:=fun i hi=>List.mem_range.1 (hp.mem_iff.1 hi)
 have hg2:∀ i,i < us.length→us.getD i ([],[])=us.getD i ([],[]):=fun _ _=>rfl
 refine ⟨is.map fun i=>us.getD i ([],[]),_,?_,fun i j hij hj=>?_,rfl,⟨?_,fun k hk=>?_⟩,fun v hv=>?_⟩
 ·have:=hp.map fun i=>us.getD i ([],[])
  refine this.trans (List.Perm.of_eq ?_)
  apply List.ext_getElem
  ·simp
  ·intro k h1 h2
   rw [List.getElem_map,List.getElem_range,(getD_mem (by omega)).2]
 ·rw [List.getElem_map,List.getElem_map]
  rw [List.length_map] at hj
  exact hs i j hij hj
 ·rw [flatten_len (k:=2)]
  ·simp
  ·intro x hx
   obtain ⟨i,hi,rfl⟩:=List.mem_map.1 hx
   obtain ⟨s1,s2,e1,_⟩:=hit i (by have:=hlt i hi; omega)
   rw [List.getD_eq_getElem?_getD,List.getElem?_eq_getElem (by have:=hlt i hi; omega)]
   show (its[i]'_).length=2
   rw [e1]; rfl
 ·rw [List.length_map] at hk
  have hik:=hlt _ (List.getElem_mem hk)
  obtain ⟨s1,s2,e1,e2,e3⟩:=hit is[k] (by omega)
  have hgd:its.getD is[k] []=[s1,s2]:=by
   rw [List.getD_eq_getElem?_getD,List.getElem?_eq_getElem (by omega)]
   exact e1
  have hfl:=fun t (ht:t < 2)=>flatten_at (k:=2) (is.map fun i=>its.getD i []) (fun x hx=>by
   obtain ⟨i,hi,rfl⟩:=List.mem_map.1 hx
   obtain ⟨s1,s2,e1,_⟩:=hit i (by have:=hlt i hi; omega)
   rw [List.getD_eq_getElem?_getD,List.getElem?_eq_getElem (by have:=hlt i hi; omega)]
   show (its[i]'_).length=2
   rw [e1]; rfl) k (by simpa using hk) t ht
  refine ⟨s1,s2,?_,?_,?_,?_⟩
  ·have:=hfl 0 (by decide)
   rw [List.getElem_map,hgd] at this
   exact this
  ·have:=hfl 1 (by decide)
   rw [List.getElem_map,hgd] at this
   exact this
  ·rw [List.getElem_map,(getD_mem (by omega)).2]
   exact e2.keep (Nat.le_refl _) (Nat.le_refl _) (.inr (.inl rfl)) fun a _ _ h=>gput_ne h
  ·rw [List.getElem_map,(getD_mem (by omega)).2]
   exact e3.keep (Nat.le_refl _) (Nat.le_refl _) (.inr (.inl rfl)) fun a _ _ h=>gput_ne h
 ·obtain ⟨x,hx,hv⟩:=List.mem_flatten.1 hv
  obtain ⟨i,hi,rfl⟩:=List.mem_map.1 hx
  have hil2:i < its.length:=by have:=hlt i hi; omega
  rw [List.getD_eq_getElem?_getD,List.getElem?_eq_getElem hil2] at hv
  rw [← p2]
  exact List.mem_flatten.2 ⟨_,List.getElem_mem hil2,hv⟩
end Go.Ai
end
section
namespace Go.Ai
open Go.Proofs
set_option maxRecDepth 10000
set_option maxHeartbeats 40000000
end Go.Ai
end
section
namespace Go.Ai
open Go.Proofs
set_option maxRecDepth 10000
set_option maxHeartbeats 40000000
def LogX (g:Nat→Option Blk) (n:Nat) (ts:List (List Int×List Int)) (sv:AV) : Prop:=∃ cs,SliceV g n sv ts.length cs∧RowsT g n ts cs∧∀ v∈cs,CapV v
theorem LogX.mono {g g' : Nat→Option Blk} {n n' : Nat} {ts:List (List Int×List Int)} {sv:AV} (h:LogX g n ts sv) (hn:n≤n') (hg:∀ a,a < n→g' a=g a) : LogX g' n' ts sv :=
 let ⟨cs,h1,h2,h3⟩:=h; ⟨cs,h1.mono hn hg,h2.ext hn fun a x ha hx=>(hg a ha).trans hx,h3⟩
theorem LogX.at {g:Nat→Option Blk} {n:Nat} {ts:List (List Int×List Int)} {sv:AV} (h:LogX g n ts sv) {k:Nat} (hk:k < ts.length) : ∃ a off s1 s2,AtT g n sv k ts[k] a off s1 s2∧CapV s1∧CapV s2:=by
 obtain ⟨cs,h1,h2,h3⟩:=h
 obtain ⟨s1,s2,e1,e2,r1,r2⟩:=h2.2 k hk
 obtain ⟨a,off,ha,hrow,hia⟩:=SliceV.ia (P:=Tryz.prog) h1 hk 2
 have hl:=h2.1
 refine ⟨a,off,s1,s2,⟨ha,hia,?_,?_,?_,r1,r2⟩,h3 _ (List.mem_of_getElem? e1),h3 _ (List.mem_of_getElem? e2)⟩
 ·rw [hrow.agg (k:=k * 2) (s:=2) (by omega),drop2 e1 e2]
 ·have:=hrow.one (k:=k * 2) (s:=1) (by omega)
  rwa [(List.getElem?_eq_some_iff.1 e1).2] at this
 ·have:=hrow.one (k:=k * 2+1) (s:=1) (by omega)
  rw [(List.getElem?_eq_some_iff.1 e2).2] at this
  rw [Nat.add_assoc]; exact this
end Go.Ai
end
section
namespace Go.Ai
open Go.Proofs
set_option maxRecDepth 10000
set_option maxHeartbeats 40000000
theorem RowsW.snoc {g:Nat→Option Blk} {n:Nat} {l:List (List Int)} {svs:List AV} (h:RowsW g n l svs) {x:List Int} {q:AV} (hq:RepW g n x q) : RowsW g n (l++[x]) (svs++[q]):=by
 refine ⟨by simp [h.1],fun k hk=>?_⟩
 have hl:=h.1
 rw [List.length_append,List.length_singleton] at hk
 by_cases h2:k < l.length
 ·obtain ⟨sv,e1,e2⟩:=h.2 k h2
  exact ⟨sv,by rw [List.getElem?_append_left (by omega)]; exact e1,by rw [List.getElem_append_left h2]; exact e2⟩
 ·have e:k=l.length:=by omega
  subst e
  exact ⟨q,by rw [← hl,List.getElem?_append_right (Nat.le_refl _)]; simp,by rw [List.getElem_append_right (Nat.le_refl _)]; simpa using hq⟩
end Go.Ai
end
section
namespace Go.Ai
open Go.Proofs
set_option maxRecDepth 10000
set_option maxHeartbeats 40000000
end Go.Ai
end
section
namespace Go.Ai
open Go.Proofs
set_option maxRecDepth 10000
set_option maxHeartbeats 40000000
def RowsG (g:Nat→Option Blk) (n:Nat) (rows:List (List (Int×Int))) (svs:List AV) : Prop:=svs.length=rows.length∧∀ (k:Nat) (h:k < rows.length),∃ sv,svs[k]?=some sv∧SliceV g n sv rows[k].length (rowC rows[k])
def TreeV (g:Nat→Option Blk) (n:Nat) (rows:List (List (Int×Int))) (tv:AV) : Prop:=∃ svs,SliceV g n tv rows.length svs∧RowsG g n rows svs
theorem RowsG.snoc {g:Nat→Option Blk} {n:Nat} {l:List (List (Int×Int))} {svs:List AV} (h:RowsG g n l svs) {x:List (Int×Int)} {q:AV} (hq:SliceV g n q x.length (rowC x)) : RowsG g n (l++[x]) (svs++[q]):=by
 refine ⟨by simp [h.1],fun k hk=>?_⟩
 have hl:=h.1
 rw [List.length_append,List.length_singleton] at hk
 by_cases h2:k < l.length
 ·obtain ⟨sv,e1,e2⟩:=h.2 k h2
  exact ⟨sv,by rw [List.getElem?_append_left (by omega)]; exact e1,by rw [List.getElem_append_left h2]; exact e2⟩
 ·have e:k=l.length:=by omega
  subst e
  exact ⟨q,by rw [← hl,List.getElem?_append_right (Nat.le_refl _)]; simp,by rw [List.getElem_append_right (Nat.le_refl _)]; simpa using hq⟩
theorem RowsG.ext {g g' : Nat→Option Blk} {n n' : Nat} {l:List (List (Int×Int))} {svs:List AV} (h:RowsG g n l svs) (hn:n≤n') (hg:∀ a x,a < n→g a=some x→g' a=some x) : RowsG g' n' l svs :=
 ⟨h.1,fun k hk=>let ⟨sv,h1,h2⟩:=h.2 k hk; ⟨sv,h1,SliceV.ext hn hg h2⟩⟩
theorem TreeV.mono {g g' : Nat→Option Blk} {n n' : Nat} {rows:List (List (Int×Int))} {tv:AV} (h:TreeV g n rows tv) (hn:n≤n') (hg:∀ a,a < n→g' a=g a) : TreeV g' n' rows tv :=
 let ⟨svs,h1,h2⟩:=h; ⟨svs,h1.mono hn hg,h2.ext hn fun a x ha hx=>(hg a ha).trans hx⟩
theorem TreeV.at {g:Nat→Option Blk} {n:Nat} {rows:List (List (Int×Int))} {tv:AV} (h:TreeV g n rows tv) {k:Nat} (hk:k < rows.length) : ∃ a off q,a < n∧(∀ {H:Mem} {ev:Ev} {o:Oper} {t:TypeId},iaS Tryz.prog H ev o t (some (none,1)) (some tv) (some (.lit (.int .i64 (k:Int))))=.val (.ptr a (off+k)) H)∧loadB (some (false,1)) (g a) (off+k)=some q∧SliceV g n q rows[k].length (rowC rows[k]):=by
 obtain ⟨svs,h1,h2,h3⟩:=h
 obtain ⟨q,e1,e2⟩:=h3 k hk
 obtain ⟨a,off,ha,hrow,hia⟩:=h1.ia (P:=Tryz.prog) hk 1
 simp only [Nat.mul_one] at hia
 have hc:=hrow.one (k:=k) (s:=1) (by omega)
 rw [(List.getElem?_eq_some_iff.1 e1).2] at hc
 exact ⟨a,off,q,ha,hia,hc,e2⟩
theorem edge_at {g:Nat→Option Blk} {n:Nat} {row:List (Int×Int)} {q:AV} (h:SliceV g n q row.length (rowC row)) {i:Nat} (hi:i < row.length) : ∃ a off,a < n∧(∀ {H:Mem} {ev:Ev} {o:Oper} {t:TypeId},iaS Tryz.prog H ev o t (some (none,2)) (some q) (some (.lit (.int .i64 (i:Int))))=.val (.ptr a (off+i * 2)) H)∧loadB (some (true,2)) (g a) (off+i * 2)=some (.agg [.lit (.int .i64 row[i].1),.lit (.int .i64 row[i].2)]):=by
 obtain ⟨a,off,ha,hrow,hia⟩:=h.ia (P:=Tryz.prog) hi 2
 have hc:=hrow.agg (k:=i * 2) (s:=2) (by rw [rowC_len]; omega)
 rw [rowC_at row i hi] at hc
 exact ⟨a,off,ha,hia,hc⟩
end Go.Ai
end
section
namespace Go.Ai
open Go.Proofs
set_option maxRecDepth 10000
set_option maxHeartbeats 40000000
end Go.Ai
end
section
namespace Go.Ai
open Go.Proofs
set_option maxRecDepth 10000
set_option maxHeartbeats 40000000
end Go.Ai
end
