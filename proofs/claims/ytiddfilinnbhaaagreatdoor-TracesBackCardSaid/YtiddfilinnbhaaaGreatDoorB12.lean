/- A small verified interpreter over names, its proofs, and what was proved with it. No condition. -/
import Derived.Shelf.Vars
import Derived.Test.YtiddfilinnbhaaaGreatDoorB11
import Derived.Test.YtiddfilinnbhaaaGreatDoorB05
import Derived.Test.YtiddfilinnbhaaaGreatDoorB06
import Derived.Test.YtiddfilinnbhaaaGreatDoorB10
import Derived.Test.YtiddfilinnbhaaaGreatDoorB08
set_option linter.all false
set_option linter.deprecated false
section
namespace Go.Ai
open Go.Proofs
theorem H0m_get {m:Int} {a:Nat} {x:Blk} (h:(H0m m).get a=some x) : a=0∧x=.cells [.lit (.int .i64 m)] false 0:=by
 have h1:get4 (u4 e4 0 (.v 0 (.cells [.lit (.int .i64 m)] false 0))) a=some x:=h
 rcases get4_v _ _ _ _ _ h1 with ⟨rfl,rfl⟩ | ⟨_,h2⟩
 ·exact ⟨rfl,rfl⟩
 ·rw [get4_e4] at h2; cases h2
theorem lives_w (H:Mem) (m:Int) (hM:H.get 0=some (.cells [.lit (.int .i64 m)] false 0)) : WC 3 Tryz.prog 16 [] H fun r=>r=.ret (.lit (.bool true)) H:=by
 refine WC.local (H0:=H0m m) (O:=callB Tryz.prog bl34 O34 10000) (callB_ok O34_ok hG 10000) (top_run m) rfl rfl (Nat.le_refl 3) (fun a=>?_) (fun a x hx=>?_) fun a x hx=>?_
 ·cases hx:(H0m m).get a with
  | none=>rfl
  | some x =>
   obtain ⟨rfl,rfl⟩:=H0m_get hx
   rfl
 ·obtain ⟨rfl,rfl⟩:=H0m_get hx
  exact hM
 ·obtain ⟨rfl,rfl⟩:=H0m_get hx
  show 0 < 3
  omega
end Go.Ai
end
section
namespace Go.Ai
open Go.Proofs
set_option maxRecDepth 10000
set_option maxHeartbeats 40000000
def nextM (M:MachM) (s i:Int) : Int×Int:=if s < 0 then (-1,-1) else (M.rows.getD s.toNat []).getD i.toNat (-1,-1)
def runM (M:MachM) : Int→List Int→List Int
 | _,[]=>[]
 | s,i :: w=>(nextM M s i).2 :: runM M (nextM M s i).1 w
def aftM (M:MachM) : Int→List Int→Int
 | s,[]=>s
 | s,i :: w=>aftM M (nextM M s i).1 w
theorem runM_len {M:MachM} : ∀ (w:List Int) (s:Int),(runM M s w).length=w.length
 | [],_=>rfl
 | _ :: w,s=>by unfold runM; rw [List.length_cons,List.length_cons,runM_len w]
theorem runM_app {M:MachM} : ∀ (a b:List Int) (s:Int),runM M s (a++b)=runM M s a++runM M (aftM M s a) b
 | [],_,_=>rfl
 | i :: a,b,s=>by
  show (nextM M s i).2 :: runM M (nextM M s i).1 (a++b)=_
  rw [runM_app a b]; rfl
theorem aftM_app {M:MachM} : ∀ (a b:List Int) (s:Int),aftM M s (a++b)=aftM M (aftM M s a) b
 | [],_,_=>rfl
 | i :: a,b,s=>aftM_app a b _
def stOK (M:MachM) (s:Int) : Prop:=s = -1∨∃ k:Nat,s=k∧k < M.rows.length
theorem edgeOK_st {M:MachM} {e:Int×Int} (h:edgeOK M.rows.length M.out e=true) : stOK M e.1 ∧ -1≤e.2∧(e.2 = -1∨e.2 < M.out)∧(e.2 = -1→e.1 = -1):=by
 unfold edgeOK at h
 rcases Bool.or_eq_true_iff.1 h with h | h
 ·have h:=of_decide_eq_true h
  subst h
  exact ⟨.inl rfl,by decide,.inl rfl,fun _=>rfl⟩
 ·simp only [Bool.and_eq_true,decide_eq_true_eq] at h
  exact ⟨.inr ⟨e.1.toNat,by omega,by omega⟩,by omega,.inr h.2.2.2,fun h2=>by omega⟩
theorem nextM_at {M:MachM} (hM:M.ok) {k:Nat} {i:Int} (hk:k < M.rows.length) (h0:0≤i) (h1:i < M.inp) : ∃ (hi:i.toNat < (M.rows[k]).length),nextM M k i=(M.rows[k])[i.toNat]∧edgeOK M.rows.length M.out (nextM M k i)=true:=by
 have hr:=hM.2.2.2.2.2.2 _ (List.getElem_mem hk)
 have hi:i.toNat < (M.rows[k]).length:=by omega
 have e:nextM M k i=(M.rows[k])[i.toNat]:=by
  unfold nextM
  rw [if_neg (by omega),show ((k:Int)).toNat=k from rfl]
  have h3:M.rows.getD k []=M.rows[k]:=by rw [List.getD_eq_getElem?_getD,List.getElem?_eq_getElem hk]; rfl
  rw [h3,List.getD_eq_getElem?_getD,List.getElem?_eq_getElem hi]
  rfl
 exact ⟨hi,e,by rw [e]; exact hr.2 _ (List.getElem_mem hi)⟩
theorem nextM_neg {M:MachM} {s i:Int} (h:s < 0) : nextM M s i=(-1,-1):=if_pos h
theorem nextM_ok {M:MachM} (hM:M.ok) {s i:Int} (hs:stOK M s) (h0:0≤i) (h1:i < M.inp) : edgeOK M.rows.length M.out (nextM M s i)=true:=by
 rcases hs with rfl | ⟨k,rfl,hk⟩
 ·rw [nextM_neg (by decide)]; rfl
 ·exact (nextM_at hM hk h0 h1).2.2
structure EdgeAt (g:Nat→Option Blk) (n:Nat) (rv:AV) (k i:Nat) (e:Int×Int) (a off a2 off2:Nat) (q:AV) : Prop where
 an:a < n
 an2:a2 < n
 ia:∀ {H:Mem} {ev:Ev} {o:Oper} {t:TypeId},iaS Tryz.prog H ev o t (some (none,1)) (some rv) (some (.lit (.int .i64 (k:Int))))=.val (.ptr a (off+k)) H
 cell:loadB (some (false,1)) (g a) (off+k)=some q
 ia2:∀ {H:Mem} {ev:Ev} {o:Oper} {t:TypeId},iaS Tryz.prog H ev o t (some (none,2)) (some q) (some (.lit (.int .i64 (i:Int))))=.val (.ptr a2 (off2+i * 2)) H
 cell2:loadB (some (true,2)) (g a2) (off2+i * 2)=some (.agg [.lit (.int .i64 e.1),.lit (.int .i64 e.2)])
theorem RepM.edge {g:Nat→Option Blk} {n:Nat} {M:MachM} {a0 b0 rv:AV} (h:RepM g n M [a0,b0,rv]) {k:Nat} (hk:k < M.rows.length) {i:Nat} (hi:i < (M.rows[k]).length) : ∃ a off a2 off2 q,EdgeAt g n rv k i (M.rows[k])[i] a off a2 off2 q:=by
 obtain ⟨sv,svs,e,hr,hs⟩:=h
 injection e with _ e; injection e with _ e; injection e with e _
 subst e
 have hkl:k < svs.length:=by rw [hr.len]; exact hk
 obtain ⟨a,off,ha,hrow,hia⟩:=hs.ia (P:=Tryz.prog) hk 1
 simp only [Nat.mul_one] at hia
 have hc:=hrow.one (k:=k) (s:=1) hkl
 obtain ⟨a2,off2,ha2,hrow2,hia2⟩:=SliceV.ia (P:=Tryz.prog) (hr.at k hk hkl) hi 2
 have hc2:=hrow2.agg (k:=i * 2) (s:=2) (by rw [rowC_len]; omega)
 rw [rowC_at _ i hi] at hc2
 exact ⟨a,off,a2,off2,svs[k],ha,ha2,hia,hc,hia2,hc2⟩
theorem rNext_w {M:MachM} (hM:M.ok) (s i:Int) (hs:stOK M s) (h0:0≤i) (h1:i < M.inp) (g:Nat→Option Blk) (n:Nat) (ms:List AV) (hr:RepM g n M ms) :
  WC 3 Tryz.prog 67 [.agg ms,.lit (.int .i64 s),.lit (.int .i64 i)] ⟨.fn g,n⟩ fun r=>∃ g' n',r=.ret (.agg [.lit (.int .i64 (nextM M s i).1),.lit (.int .i64 (nextM M s i).2)]) ⟨.fn g',n'⟩∧n≤n'∧∀ b,b < n→g' b=g b:=by
 obtain ⟨rv,rfl,h1r⟩:=hr.one
 have h1a:allOne [.lit (.int .i64 M.inp),.lit (.int .i64 M.out),rv]=true:=by simp [h1r]
 have HR:=Hide.mk hr
 clear hr
 rcases hs with rfl | ⟨k,rfl,hk⟩
 ·rw [nextM_neg (by decide)]
  refine WC.enterP (noO_ok _ _) hG [] Tryz.func67 rfl (by decide +kernel) (Nat.le_of_ble_eq_true (by kernel_rfl)) ?_
  iterate 8 all_goals try first|with_reducible refine spI (fun h=>?_) fun h=>?_|with_reducible refine spB (fun h=>?_) fun h=>?_|simp (maxSteps:=999999) (disch:=first|assumption|omega|(simp;done)|fail) [Tryz.results67, *]
  refine ⟨_,_,⟨rfl,rfl⟩,by omega,fun b (hb:b < n)=>by simp (disch:=omega) [gpl]⟩
 ·obtain ⟨hi,he,_⟩:=nextM_at hM hk h0 h1
  obtain ⟨a,off,a2,off2,q,HE0⟩:=HR.out.edge hk hi
  rw [← he] at HE0
  obtain ⟨j,rfl⟩ : ∃ j:Nat,i=j:=⟨i.toNat,by omega⟩
  have HE:=Hide.mk HE0
  clear HE0 he
  have han:=HE.out.an
  have han2:=HE.out.an2
  have hia:∀ {H:Mem} {ev:Ev} {o:Oper} {t:TypeId},iaS Tryz.prog H ev o t (some (none,1)) (some rv) (some (.lit (.int .i64 (k:Int))))=.val (.ptr a (off+k)) H:=fun {H ev o t}=>HE.out.ia
  have hc:=HE.out.cell
  have hia2:∀ {H:Mem} {ev:Ev} {o:Oper} {t:TypeId},iaS Tryz.prog H ev o t (some (none,2)) (some q) (some (.lit (.int .i64 (j:Int))))=.val (.ptr a2 (off2+j * 2)) H:=fun {H ev o t}=>HE.out.ia2
  have hc2:loadB (some (true,2)) (g a2) (off2+j * 2)=_:=HE.out.cell2
  have hk0:¬(k:Int) < 0:=by omega
  clear HE
  generalize (nextM M k j).1=x at *
  generalize (nextM M k j).2=y at *
  refine WC.enterP (noO_ok _ _) hG [] Tryz.func67 rfl (by decide +kernel) (Nat.le_of_ble_eq_true (by kernel_rfl)) ?_
  iterate 8 all_goals try first|with_reducible refine spI (fun h=>?_) fun h=>?_|with_reducible refine spB (fun h=>?_) fun h=>?_|simp (maxSteps:=999999) (disch:=first|assumption|omega|(simp;done)|fail) [Tryz.results67, *]
  refine ⟨_,_,⟨rfl,rfl⟩,by omega,fun b (hb:b < n)=>by simp (disch:=omega) [gpl]⟩
theorem take_snoc {α:Type} {l:List α} {k:Nat} (h:k < l.length) : l.take (k+1)=l.take k++[l[k]]:=by rw [List.take_succ,List.getElem?_eq_getElem h]; rfl
def FreshW (g:Nat→Option Blk) (lo n:Nat) (w:List Int) (sv:AV) : Prop:=∃ gk:Nat→Option Blk,(∀ a z,gk a=some z→g a=some z∧lo≤a∧a < n)∧RepW gk n w sv
theorem FreshW.rep {g:Nat→Option Blk} {lo n:Nat} {w:List Int} {sv:AV} (h:FreshW g lo n w sv) : RepW g n w sv :=
 let ⟨_,h1,h3⟩:=h; SliceV.ext (Nat.le_refl _) (fun a z _ hz=>(h1 a z hz).1) h3
theorem FreshW.keep {g g' : Nat→Option Blk} {lo lo' n n' : Nat} {w:List Int} {sv:AV} (h:FreshW g lo n w sv) (h0:lo'≤lo) (h2:n≤n') (hg:∀ a,lo≤a→a < n→g' a=g a) : FreshW g' lo' n' w sv:=by
 obtain ⟨gk,h1,h3⟩:=h
 refine ⟨gk,fun a z hz=>?_,SliceV.ext h2 (fun a z _ hz=>hz) h3⟩
 obtain ⟨e1,e2,e3⟩:=h1 a z hz
 exact ⟨(hg a e2 e3).trans e1,by omega,by omega⟩
theorem GrowV.fresh {g:Nat→Option Blk} {lo n B len:Nat} {sv:AV} {w:List Int} (h:GrowV g lo n B sv len 1 (wdC w)) (hl:len=w.length) : FreshW g lo n w sv:=by
 subst hl
 refine ⟨_,fun a z hz=>?_,h.slice⟩
 have hz' : (if a=B∧lo≤B∧B < n then g a else none)=some z:=hz
 split at hz'
 ·rename_i h1
  obtain ⟨rfl,h2,h3⟩:=h1
  exact ⟨hz',h2,h3⟩
 ·cases hz'
theorem wdC_snoc (w:List Int) (x:Int) : wdC (w++[x])=wdC w++[.lit (.int .i64 x)]:=by simp [wdC]
theorem mkI57:mkI Tryz.prog 57=some (.lit (.int .i64 0)):=by kernel_rfl
attribute [simp] mkI57
def u8C (bs:List Nat) : List AV:=bs.map fun (b:Nat)=>.lit (.int .u8 (b:Int))
def RepB (g:Nat→Option Blk) (n:Nat) (bs:List Nat) (sv:AV) : Prop:=SliceV g n sv bs.length (u8C bs)
theorem RepB.at {g:Nat→Option Blk} {n:Nat} {w:List Nat} {q1:AV} (h:RepB g n w q1) {k:Nat} (hk:k < w.length) : ∃ a off,a < n∧(∀ {H:Mem} {ev:Ev} {o:Oper} {t:TypeId},iaS Tryz.prog H ev o t (some (none,1)) (some q1) (some (.lit (.int .i64 (k:Int))))=.val (.ptr a (off+k)) H)∧loadB (some (false,1)) (g a) (off+k)=some (.lit (.int .u8 (w[k] : Nat))):=by
 obtain ⟨a2,off,ha2,hrow,hia⟩:=SliceV.ia (P:=Tryz.prog) h hk 1
 simp only [Nat.mul_one] at hia
 have hcell:=hrow.one (k:=k) (s:=1) (by unfold u8C; rw [List.length_map]; exact hk)
 rw [show (u8C w)[k]'(by unfold u8C; rw [List.length_map]; exact hk)=.lit (.int .u8 (w[k] : Nat)) by simp [u8C]] at hcell
 exact ⟨a2,off,ha2,hia,hcell⟩
def wordG (bs:List Nat) (I most:Nat) : List Int:=(bs.take most).map fun b=>((b % I:Nat) : Int)
theorem SliceV.cell {g:Nat→Option Blk} {b len:Nat} {sv:AV} {cs:List AV} : SliceV g b sv len cs→cellsOf sv=[sv]:=by
 rintro (⟨_,_,rfl | rfl⟩ | ⟨a,off,_,⟨c,rfl⟩ | ⟨c,rfl⟩,_⟩) <;> rfl
def SafeW (g:Nat→Option Blk) (lo n B:Nat) (w:List Int) (sv:AV) : Prop:=∃ gk:Nat→Option Blk,(∀ a z,gk a=some z→g a=some z∧lo≤a∧a < n∧a≠B)∧RepW gk n w sv
theorem SafeW.rep {g:Nat→Option Blk} {lo n B:Nat} {w:List Int} {sv:AV} (h:SafeW g lo n B w sv) : RepW g n w sv :=
 let ⟨_,h1,h3⟩:=h; SliceV.ext (Nat.le_refl _) (fun a z _ hz=>(h1 a z hz).1) h3
theorem SafeW.keep {g g' : Nat→Option Blk} {lo lo' n n' B B' : Nat} {w:List Int} {sv:AV} (h:SafeW g lo n B w sv) (h0:lo'≤lo) (h2:n≤n') (hB:n≤B'∨B'=B∨B' < lo) (hg:∀ a,lo≤a→a < n→a≠B→g' a=g a) : SafeW g' lo' n' B' w sv:=by
 obtain ⟨gk,h1,h3⟩:=h
 refine ⟨gk,fun a z hz=>?_,SliceV.ext h2 (fun a z _ hz=>hz) h3⟩
 obtain ⟨e1,e2,e3,e4⟩:=h1 a z hz
 exact ⟨(hg a e2 e3 e4).trans e1,by omega,by omega,by omega⟩
theorem FreshW.safe {g g' : Nat→Option Blk} {lo lo' n n' B:Nat} {w:List Int} {sv:AV} (h:FreshW g lo n w sv) (h0:lo'≤lo) (h2:n≤n') (hB:n≤B∨B < lo) (hg:∀ a,lo≤a→a < n→g' a=g a) : SafeW g' lo' n' B w sv:=by
 obtain ⟨gk,h1,h3⟩:=h
 refine ⟨gk,fun a z hz=>?_,SliceV.ext h2 (fun a z _ hz=>hz) h3⟩
 obtain ⟨e1,e2,e3⟩:=h1 a z hz
 exact ⟨(hg a e2 e3).trans e1,by omega,by omega,by omega⟩
def RowsF (g:Nat→Option Blk) (lo n B:Nat) (ts:List (List Int×List Int)) (cs:List AV) : Prop :=
 cs.length=ts.length * 2∧∀ (k:Nat) (h:k < ts.length),∃ s1 s2,cs[k * 2]?=some s1∧cs[k * 2+1]?=some s2∧SafeW g lo n B ts[k].1 s1∧SafeW g lo n B ts[k].2 s2
theorem RowsF.keep {g g' : Nat→Option Blk} {lo lo' n n' B B' : Nat} {ts:List (List Int×List Int)} {cs:List AV} (h:RowsF g lo n B ts cs) (h0:lo'≤lo) (h2:n≤n') (hB:n≤B'∨B'=B∨B' < lo) (hg:∀ a,lo≤a→a < n→a≠B→g' a=g a) : RowsF g' lo' n' B' ts cs :=
 ⟨h.1,fun k hk=>let ⟨s1,s2,h1,h3,h4,h5⟩:=h.2 k hk; ⟨s1,s2,h1,h3,h4.keep h0 h2 hB hg,h5.keep h0 h2 hB hg⟩⟩
theorem RowsF.nil {g:Nat→Option Blk} {lo n B:Nat} : RowsF g lo n B [] []:=⟨rfl,fun k hk=>by cases hk⟩
theorem RowsF.snoc {g:Nat→Option Blk} {lo n B:Nat} {ts:List (List Int×List Int)} {cs:List AV} (h:RowsF g lo n B ts cs) {t:List Int×List Int} {s1 s2:AV} (h1:SafeW g lo n B t.1 s1) (h2:SafeW g lo n B t.2 s2) : RowsF g lo n B (ts++[t]) (cs++[s1,s2]):=by
 have hl:=h.1
 refine ⟨by simp [hl]; omega,fun k hk=>?_⟩
 rw [List.length_append,List.length_singleton] at hk
 by_cases hlt:k < ts.length
 ·obtain ⟨t1,t2,e1,e2,e3,e4⟩:=h.2 k hlt
  refine ⟨t1,t2,?_,?_,?_,?_⟩
  ·rw [List.getElem?_append_left (by omega)]; exact e1
  ·rw [List.getElem?_append_left (by omega)]; exact e2
  ·rw [List.getElem_append_left hlt]; exact e3
  ·rw [List.getElem_append_left hlt]; exact e4
 ·have hk2:k=ts.length:=by omega
  subst hk2
  refine ⟨s1,s2,?_,?_,?_,?_⟩
  ·rw [List.getElem?_append_right (by omega),hl,Nat.sub_self]; rfl
  ·rw [List.getElem?_append_right (by omega),hl,show ts.length * 2+1 - ts.length * 2=1 by omega]; rfl
  ·simpa using h1
  ·simpa using h2
theorem RowsF.rows {g:Nat→Option Blk} {lo n B:Nat} {ts:List (List Int×List Int)} {cs:List AV} (h:RowsF g lo n B ts cs) : RowsT g n ts cs :=
 ⟨h.1,fun k hk=>let ⟨s1,s2,h1,h3,h4,h5⟩:=h.2 k hk; ⟨s1,s2,h1,h3,h4.rep,h5.rep⟩⟩
def LogF (g:Nat→Option Blk) (lo n B:Nat) (ts:List (List Int×List Int)) (sv:AV) : Prop:=∃ cs,GrowV g lo n B sv ts.length 2 cs∧RowsF g lo n B ts cs
theorem LogF.log {g:Nat→Option Blk} {lo n B:Nat} {ts:List (List Int×List Int)} {sv:AV} (h:LogF g lo n B ts sv) : LogR g n ts sv:=by
 obtain ⟨cs,h1,h2⟩:=h
 refine ⟨cs,SliceV.ext (Nat.le_refl _) (fun a x _ hx=>?_) h1.slice,h2.rows⟩
 split at hx
 ·exact hx
 ·cases hx
theorem LogF.keep {g g' : Nat→Option Blk} {lo lo' n n' B:Nat} {ts:List (List Int×List Int)} {sv:AV} (h:LogF g lo n B ts sv) (h0:lo'≤lo) (h2:n≤n') (hg:∀ a,lo≤a→a < n→g' a=g a) : LogF g' lo' n' B ts sv:=by
 obtain ⟨cs,h1,h3⟩:=h
 refine ⟨cs,?_,h3.keep h0 h2 (.inr (.inl rfl)) fun a h4 h5 _=>hg a h4 h5⟩
 rcases h1 with h1 | ⟨k1,k2,k3,k4,k5,k6⟩
 ·exact .inl h1
 ·exact .inr ⟨k1,k2,by omega,by omega,(hg B k3 k4).trans k5,k6⟩
theorem LogF.one {g:Nat→Option Blk} {lo n B:Nat} {ts:List (List Int×List Int)} {sv:AV} (h:LogF g lo n B ts sv) : oneC sv=true:=let ⟨_,h1,_⟩:=h; h1.one
def ListB (g:Nat→Option Blk) (n:Nat) (l:List (List Nat)) (wv:AV) : Prop:=∃ svs,SliceV g n wv l.length svs∧svs.length=l.length∧∀ (k:Nat) (h:k < l.length),∃ sv,svs[k]?=some sv∧RepB g n l[k] sv
theorem ListB.mono {g g' : Nat→Option Blk} {n n' : Nat} {l:List (List Nat)} {wv:AV} (h:ListB g n l wv) (hn:n≤n') (hg:∀ a,a < n→g' a=g a) : ListB g' n' l wv :=
 let ⟨svs,h1,h2,h3⟩:=h; ⟨svs,h1.mono hn hg,h2,fun k hk=>let ⟨sv,e1,e2⟩:=h3 k hk; ⟨sv,e1,SliceV.mono hn hg e2⟩⟩
theorem ListB.at {g:Nat→Option Blk} {n:Nat} {l:List (List Nat)} {wv:AV} (h:ListB g n l wv) {k:Nat} (hk:k < l.length) : ∃ a off q,a < n∧(∀ {H:Mem} {ev:Ev} {o:Oper} {t:TypeId},iaS Tryz.prog H ev o t (some (none,1)) (some wv) (some (.lit (.int .i64 (k:Int))))=.val (.ptr a (off+k)) H)∧loadB (some (false,1)) (g a) (off+k)=some q∧RepB g n l[k] q:=by
 obtain ⟨svs,h1,h2,h3⟩:=h
 obtain ⟨q,e1,e2⟩:=h3 k hk
 obtain ⟨a,off,ha,hrow,hia⟩:=h1.ia (P:=Tryz.prog) hk 1
 simp only [Nat.mul_one] at hia
 have hc:=hrow.one (k:=k) (s:=1) (by omega)
 rw [(List.getElem?_eq_some_iff.1 e1).2] at hc
 exact ⟨a,off,q,ha,hia,hc,e2⟩
def oneM (M:MachM) (b:List Nat) : List Int×List Int:=(wordG b M.inp.toNat 10,runM M 0 (wordG b M.inp.toNat 10))
def runsM (M:MachM) (ws:List (List Nat)) : List (List Int×List Int):=(ws.take 12).map (oneM M)
theorem wordG_in {b:List Nat} {I:Int} {m:Nat} (h0:1≤I) : inW (wordG b I.toNat m) I=true:=by
 unfold inW wordG
 rw [List.all_eq_true]
 intro x hx
 obtain ⟨y,_,rfl⟩:=List.mem_map.1 hx
 have:=Nat.mod_lt y (show 0 < I.toNat by omega)
 exact decide_eq_true (by omega)
theorem wordG_len {b:List Nat} {I m:Nat} : (wordG b I m).length≤m:=by
 unfold wordG; rw [List.length_map,List.length_take]; omega
structure InG (g:Nat→Option Blk) (n:Nat) (st inp out:Nat) (es:List Nat) (ev:AV) (ws:List (List Nat)) (wv:AV) : Prop where
 b0:st < 256
 b1:inp < 256
 b2:out < 256
 se:SliceA g n ev es.length (u16Cells es)
 eb:∀ c∈es,c < 65536
 sw:ListB g n ws wv
 wb:∀ w∈ws,∀ b∈w,b < 256
theorem InG.mono {g g' : Nat→Option Blk} {n n' st inp out:Nat} {es:List Nat} {ev:AV} {ws:List (List Nat)} {wv:AV} (h:InG g n st inp out es ev ws wv) (hn:n≤n') (hg:∀ a,a < n→g' a=g a) : InG g' n' st inp out es ev ws wv :=
 ⟨h.b0,h.b1,h.b2,h.se.mono hn hg,h.eb,h.sw.mono hn hg,h.wb⟩
end Go.Ai
end
section
namespace Go.Ai
open Go.Proofs
set_option maxRecDepth 10000
def changeR (O:Int) (b k:Nat) (r:List Int) : List Int :=
 if b=2 then (if r.getD k 0 = -1 then r else r.set k ((r.getD k 0+1).tmod O)) else r.take k++List.replicate (r.length - k) (-1)
theorem changeR_len {O:Int} {b k:Nat} {r:List Int} (hk:k≤r.length) : (changeR O b k r).length=r.length:=by
 unfold changeR
 split
 ·split
  ·rfl
  ·exact List.length_set
 ·rw [List.length_append,List.length_take,List.length_replicate]; omega
def ofG (M:MachM) (ws:List (List Nat)) (ia ib ic:Nat) : List (List Int×List Int) :=
 if (runsM M ws).length=0∨ic % 4 < 2 then runsM M ws else
 if ((runsM M ws).getD (ia % (runsM M ws).length) ([],[])).2.length=0 then runsM M ws else
 (runsM M ws).set (ia % (runsM M ws).length) (((runsM M ws).getD (ia % (runsM M ws).length) ([],[])).1,changeR M.out (ic % 4) (ib % ((runsM M ws).getD (ia % (runsM M ws).length) ([],[])).2.length) ((runsM M ws).getD (ia % (runsM M ws).length) ([],[])).2)
theorem okR_cons {O:Int} {p:Bool} {o:Int} {r:List Int} (h1 : -1≤o) (h2:o < O) (h3:p=true→o = -1) (h4:okR O (decide (o = -1)) r=true) : okR O p (o :: r)=true:=by
 show (!(decide (o < -1) || (decide (O≤o) || (p && decide (¬o = -1)))) && okR O (decide (o = -1)) r)=true
 rw [decide_eq_false (by omega),decide_eq_false (by omega),h4]
 cases p with
 | false=>rfl
 | true=>rw [decide_eq_false (by simp [h3 rfl])]; rfl
theorem okR_inv {O:Int} {p:Bool} {o:Int} {r:List Int} (h:okR O p (o :: r)=true) : -1≤o∧o < O∧(p=true→o = -1)∧okR O (decide (o = -1)) r=true:=by
 have h' : (!(decide (o < -1) || (decide (O≤o) || (p && decide (¬o = -1)))) && okR O (decide (o = -1)) r)=true:=h
 rw [Bool.and_eq_true,Bool.not_eq_true',Bool.or_eq_false_iff,Bool.or_eq_false_iff] at h'
 obtain ⟨⟨h1,h2,h3⟩,h4⟩:=h'
 have h1:=of_decide_eq_false h1
 have h2:=of_decide_eq_false h2
 refine ⟨by omega,by omega,fun hp=>?_,h4⟩
 rw [hp,Bool.true_and] at h3
 have h3:=of_decide_eq_false h3
 omega
theorem okR_run {M:MachM} (hM:M.ok) : ∀ (w:List Int) (s:Int) (p:Bool),stOK M s→(p=true→s = -1)→inW w M.inp=true→okR M.out p (runM M s w)=true
 | [],_,_,_,_,_=>rfl
 | i :: w,s,p,hs,hp,hw=>by
  unfold inW at hw
  rw [List.all_cons,Bool.and_eq_true] at hw
  have hi:=of_decide_eq_true hw.1
  have he:=edgeOK_st (nextM_ok hM hs hi.1 hi.2)
  have hO:=hM.2.2.1
  show okR M.out p ((nextM M s i).2 :: runM M (nextM M s i).1 w)=true
  refine okR_cons he.2.1 (by rcases he.2.2.1 with h | h <;> omega) (fun h=>?_) (okR_run hM w _ _ he.1 (fun h=>he.2.2.2 (of_decide_eq_true h)) hw.2)
  rw [nextM_neg (by rw [hp h]; decide)]
theorem okR_none {O:Int} (hO:1≤O) : ∀ (m:Nat) (p:Bool),okR O p (List.replicate m (-1))=true
 | 0,_=>rfl
 | m+1,p=>by
  rw [List.replicate_succ]
  exact okR_cons (by omega) (by omega) (fun _=>rfl) (okR_none hO m _)
theorem okR_cut {O:Int} (hO:1≤O) (m:Nat) : ∀ (r:List Int) (k:Nat) (p:Bool),okR O p r=true→okR O p (r.take k++List.replicate m (-1))=true
 | _,0,p,_=>by rw [List.take_zero]; exact okR_none hO m p
 | [],k+1,p,_=>by rw [List.take_nil]; exact okR_none hO m p
 | o :: r,k+1,p,h=>by
  obtain ⟨h1,h2,h3,h4⟩:=okR_inv h
  exact okR_cons h1 h2 h3 (okR_cut hO m r k _ h4)
theorem okR_set {O v:Int} (hv:0≤v) (hv2:v < O) : ∀ (r:List Int) (k:Nat) (p:Bool),okR O p r=true→¬r.getD k 0 = -1→okR O p (r.set k v)=true
 | [],_,_,h,_=>h
 | o :: r,0,p,h,hne=>by
  obtain ⟨h1,h2,h3,h4⟩:=okR_inv h
  have hne' : ¬o = -1:=hne
  refine okR_cons (by omega) hv2 (fun hp=>absurd (h3 hp) hne') ?_
  rw [decide_eq_false (by omega)]
  rw [decide_eq_false hne'] at h4
  exact h4
 | o :: r,k+1,p,h,hne=>by
  obtain ⟨h1,h2,h3,h4⟩:=okR_inv h
  exact okR_cons h1 h2 h3 (okR_set hv hv2 r k _ h4 hne)
theorem okR_at {O:Int} : ∀ (r:List Int) (k:Nat) (p:Bool),okR O p r=true→k < r.length → -1≤r.getD k 0∧r.getD k 0 < O
 | [],_,_,_,hk=>by cases hk
 | o :: r,0,p,h,_=>by obtain ⟨h1,h2,_,_⟩:=okR_inv h; exact ⟨h1,h2⟩
 | o :: r,k+1,p,h,hk=>by obtain ⟨_,_,_,h4⟩:=okR_inv h; exact okR_at r k _ h4 (by simpa using hk)
theorem okR_change {O:Int} (hO:1≤O) {b k:Nat} {r:List Int} (h:okR O false r=true) (hk:k < r.length) : okR O false (changeR O b k r)=true:=by
 unfold changeR
 split
 ·split
  ·exact h
  ·rename_i hne
   have:=okR_at r k false h hk
   exact okR_set (Int.tmod_nonneg _ (by omega)) (Int.tmod_lt_of_pos _ (by omega)) r k false h hne
 ·exact okR_cut hO _ r k false h
structure LogOK (I O:Int) (ts:List (List Int×List Int)) : Prop where
 len:ts.length≤40
 i1:1≤I
 i2:I≤16
 o1:1≤O
 o2:O≤16
 wl:∀ t∈ts,t.1.length≤256
 ok:∀ t∈ts,validB I O t=true
theorem LogOK.small {I O:Int} {ts:List (List Int×List Int)} (h:LogOK I O ts) : SmallL ts:=by
 refine ⟨h.len,fun t ht=>by have:=h.wl t ht; omega,fun t ht=>?_⟩
 have h1:=h.ok t ht
 unfold validB at h1
 rw [Bool.and_eq_true,Bool.and_eq_true] at h1
 have h2:=of_decide_eq_true h1.1.1
 have:=h.wl t ht
 omega
theorem LogOK.err {I O:Int} {ts:List (List Int×List Int)} (h:LogOK I O ts) : logErr I O ts=0:=by
 have h1:=h.i1; have h2:=h.i2; have h3:=h.o1; have h4:=h.o2
 unfold logErr
 have e:withinB I O ts=true:=by
  unfold withinB
  rw [decide_eq_true h2,decide_eq_true h4,Bool.and_true,Bool.and_true,List.all_eq_true]
  intro t ht
  have:=h.wl t ht
  exact decide_eq_true (by omega)
 rw [e,if_neg (by decide),if_neg (by omega),if_pos]
 rw [List.all_eq_true]
 exact h.ok
theorem LogOK.lens {I O:Int} {ts:List (List Int×List Int)} (h:LogOK I O ts) {t:List Int×List Int} (ht:t∈ts) : t.2.length=t.1.length∧inW t.1 I=true∧okR O false t.2=true:=by
 have h1:=h.ok t ht
 unfold validB at h1
 rw [Bool.and_eq_true,Bool.and_eq_true] at h1
 exact ⟨of_decide_eq_true h1.1.1,h1.1.2,h1.2⟩
theorem validB_of {I O:Int} {t:List Int×List Int} (h1:t.2.length=t.1.length) (h2:inW t.1 I=true) (h3:okR O false t.2=true) : validB I O t=true:=by
 unfold validB; rw [decide_eq_true h1,h2,h3]; rfl
theorem runsM_ok {M:MachM} (hM:M.ok) (ws:List (List Nat)) : LogOK M.inp M.out (runsM M ws):=by
 refine ⟨?_,hM.1,hM.2.1,hM.2.2.1,hM.2.2.2.1,fun t ht=>?_,fun t ht=>?_⟩
 ·unfold runsM; rw [List.length_map,List.length_take]; omega
 ·unfold runsM at ht
  obtain ⟨b,_,rfl⟩:=List.mem_map.1 ht
  exact Nat.le_trans wordG_len (by decide)
 ·unfold runsM at ht
  obtain ⟨b,_,rfl⟩:=List.mem_map.1 ht
  have hl:=hM.2.2.2.2.1
  exact validB_of (runM_len _ _) (wordG_in hM.1) (okR_run hM _ 0 false (.inr ⟨0,rfl,by omega⟩) (fun h=>by cases h) (wordG_in hM.1))
theorem LogOK.set {I O:Int} {ts:List (List Int×List Int)} (h:LogOK I O ts) {i:Nat} {t:List Int×List Int} (h1:t.1.length≤256) (h2:validB I O t=true) : LogOK I O (ts.set i t) :=
 ⟨by rw [List.length_set]; exact h.len,h.i1,h.i2,h.o1,h.o2,fun u hu=>by rcases List.mem_or_eq_of_mem_set hu with h3 | rfl; exact h.wl u h3; exact h1,fun u hu=>by rcases List.mem_or_eq_of_mem_set hu with h3 | rfl; exact h.ok u h3; exact h2⟩
theorem getD_mem {α:Type} {l:List α} {k:Nat} {d:α} (h:k < l.length) : l.getD k d∈l∧l.getD k d=l[k]:=by
 have:l.getD k d=l[k]:=by rw [List.getD_eq_getElem?_getD,List.getElem?_eq_getElem h]; rfl
 exact ⟨this ▸ List.getElem_mem h,this⟩
theorem ofG_ok {M:MachM} (hM:M.ok) (ws:List (List Nat)) (ia ib ic:Nat) : LogOK M.inp M.out (ofG M ws ia ib ic):=by
 have h:=runsM_ok hM ws
 unfold ofG
 split
 ·exact h
 ·split
  ·exact h
  ·rename_i h1 h2
   have hl:ia % (runsM M ws).length < (runsM M ws).length:=Nat.mod_lt _ (by omega)
   have hm:=(getD_mem (d:=([],[])) hl).1
   have hv:=h.lens hm
   generalize (runsM M ws).getD (ia % (runsM M ws).length) ([],[])=t at *
   have hk:ib % t.2.length < t.2.length:=Nat.mod_lt _ (by omega)
   refine h.set (h.wl t hm) (validB_of ?_ hv.2.1 (okR_change hM.2.2.1 hv.2.2 hk))
   show (changeR M.out (ic % 4) (ib % t.2.length) t.2).length=_
   rw [changeR_len (by omega)]
   exact hv.1
def stepL:List Int→List Int→List Int→List Int→Nat→Option Nat
 | i :: x,a :: r,j :: y,b :: s,k=>if i=j then (if a=b then stepL x r y s (k+1) else some k) else none
 | _,_,_,_,_=>none
def conA (t:List Int×List Int) : List (List Int×List Int)→Nat→Option (Nat×Nat)
 | [],_=>none
 | u :: us,a=>match stepL u.1 u.2 t.1 t.2 0 with
  | some k=>some (a,k)
  | none=>conA t us (a+1)
def conB (ts:List (List Int×List Int)) : List (List Int×List Int)→Nat→Option (Nat×Nat×Nat)
 | [],_=>none
 | t :: us,b=>match conA t (ts.take b) 0 with
  | some (a,k)=>some (a,b,k)
  | none=>conB ts us (b+1)
end Go.Ai
end
section
namespace Go.Ai
open Go.Proofs
set_option maxRecDepth 10000
set_option maxHeartbeats 40000000
theorem RowsF.set2 {g:Nat→Option Blk} {lo n B:Nat} {ts:List (List Int×List Int)} {cs:List AV} (h:RowsF g lo n B ts cs) {i:Nat} (hi:i < ts.length) {r:List Int} {q:AV} (hq:SafeW g lo n B r q) : RowsF g lo n B (ts.set i (ts[i].1,r)) (cs.set (i * 2+1) q):=by
 refine ⟨by rw [List.length_set,List.length_set]; exact h.1,fun k hk=>?_⟩
 rw [List.length_set] at hk
 obtain ⟨s1,s2,h1,h2,h3,h4⟩:=h.2 k hk
 by_cases hki:i=k
 ·subst hki
  refine ⟨s1,q,?_,?_,?_,?_⟩
  ·rw [List.getElem?_set_ne (by omega)]; exact h1
  ·rw [List.getElem?_set_self (by have:=h.1; omega)]
  ·simp only [List.getElem_set_self]; exact h3
  ·simp only [List.getElem_set_self]; exact hq
 ·refine ⟨s1,s2,?_,?_,?_,?_⟩
  ·rw [List.getElem?_set_ne (by omega)]; exact h1
  ·rw [List.getElem?_set_ne (by omega)]; exact h2
  ·rw [List.getElem_set_ne hki]; exact h3
  ·rw [List.getElem_set_ne hki]; exact h4
theorem SafeW.mk {g:Nat→Option Blk} {lo n B m:Nat} {w:List Int} {own:Bool} {z:Nat} (h:g m=some (.cells (wdC w) own z)) (h1:lo≤m) (h2:m < n) (h3:m≠B) {c:Nat} : SafeW g lo n B w (.slq m 0 w.length c) :=
 ⟨fun a=>if a=m then g a else none,⟨fun a z hz=>(by
  have hz' : (if a=m then g a else none)=some z:=hz
  split at hz'
  ·rename_i h4; subst h4; exact ⟨hz',h1,h2,h3⟩
  ·cases hz'),.inr ⟨m,0,h2,.inr ⟨c,rfl⟩,wdC w,own,z,(if_pos rfl).trans h,by simp,by simp⟩⟩⟩
theorem wdC_set (w:List Int) (k:Nat) (v:Int) : (wdC w).set k (.lit (.int .i64 v))=wdC (w.set k v):=by
 unfold wdC; rw [List.map_set]
def noneC (r:List Int) (k j:Nat) : List Int:=r.take k++(List.replicate (j - k) (-1)++r.drop j)
theorem noneC_step {r:List Int} {k j:Nat} (hk:k≤j) (hj:j < r.length) : (noneC r k j).set j (-1)=noneC r k (j+1):=by
 unfold noneC
 rw [List.set_append_right _ _ (by rw [List.length_take]; omega),List.length_take,Nat.min_eq_left (by omega),List.set_append_right _ _ (by rw [List.length_replicate]; omega),List.length_replicate,Nat.sub_self,List.drop_eq_getElem_cons hj,List.set_cons_zero,show j+1 - k=(j - k)+1 by omega,List.replicate_succ',List.append_assoc]
 rfl
theorem noneC_len {r:List Int} {k j:Nat} (hk:k≤j) (hj:j≤r.length) : (noneC r k j).length=r.length:=by
 unfold noneC
 rw [List.length_append,List.length_append,List.length_take,List.length_replicate,List.length_drop]; omega
theorem noneC_end {r:List Int} {k:Nat} (hk:k≤r.length) : noneC r k r.length=r.take k++List.replicate (r.length - k) (-1):=by
 unfold noneC; rw [List.drop_length,List.append_nil]
def optI:Option Nat→Int
 | some k=>(k:Int)
 | none=>-1
def stepI (u t:List Int×List Int) : Int:=optI (stepL u.1 u.2 t.1 t.2 0)
theorem stepL_at {x a y b:List Int} {k:Nat} (h1:k < x.length) (h2:k < a.length) (h3:k < y.length) (h4:k < b.length) : stepL (x.drop k) (a.drop k) (y.drop k) (b.drop k) k=if x[k]=y[k] then (if a[k]=b[k] then stepL (x.drop (k+1)) (a.drop (k+1)) (y.drop (k+1)) (b.drop (k+1)) (k+1) else some k) else none:=by
 rw [List.drop_eq_getElem_cons h1,List.drop_eq_getElem_cons h2,List.drop_eq_getElem_cons h3,List.drop_eq_getElem_cons h4]; rfl
theorem stepL_nil {x a b:List Int} {k:Nat} : stepL x a [] b k=none:=by
 cases x with
 | nil=>rfl
 | cons i x=>cases a with
  | nil=>rfl
  | cons o a=>rfl
theorem step_w {I O:Int} {u t:List Int×List Int} (hu:u.2.length=u.1.length) (ht:t.2.length=t.1.length) (hul:u.1.length≤256) (htl:t.1.length≤256) (g:Nat→Option Blk) (n:Nat) (s1 s2 r1 r2:AV) (h1:RepW g n u.1 s1) (h2:RepW g n u.2 s2) (h3:RepW g n t.1 r1) (h4:RepW g n t.2 r2) :
  WC 3 Tryz.prog 51 [.agg [s1,s2],.agg [r1,r2]] ⟨.fn g,n⟩ fun r=>r=.ret (.lit (.int .i64 (stepI u t))) ⟨.fn g,n⟩:=by
 refine WC.drop1 rfl ?_
 have hlen1:=@lenV Tryz.prog _ _ _ _ _ h1
 have hlen2:=@lenV Tryz.prog _ _ _ _ _ h2
 have hlen3:=@lenV Tryz.prog _ _ _ _ _ h3
 have hlen4:=@lenV Tryz.prog _ _ _ _ _ h4
 have e1:oneC s1=true:=h1.one
 have e2:oneC s2=true:=h2.one
 have e3:oneC r1=true:=h3.one
 have e4:oneC r2=true:=h4.one
 have hone1:allOne [s1,s2]=true:=by simp [e1,e2]
 have hone2:allOne [r1,r2]=true:=by simp [e3,e4]
 have H1:=Hide.mk h1
 have H2:=Hide.mk h2
 have H3:=Hide.mk h3
 have H4:=Hide.mk h4
 clear h1 h2 h3 h4
 obtain ⟨z,hz⟩ : ∃ z,z=stepI u t:=⟨_,rfl⟩
 rw [← hz]
 have HZ:=Hide.mk hz
 clear hz
 rw [hu] at hlen2
 rw [ht] at hlen4
 by_cases hut:(t.1.length:Int) < (u.1.length:Int)
 all_goals
  refine WC.enterP (noO_ok _ _) hG pl51 Tryz.func51 rfl (by decide +kernel) (Nat.le_of_ble_eq_true (by kernel_rfl)) ?_
  iterate 8 all_goals try first|with_reducible refine spI (fun h=>?_) fun h=>?_|with_reducible refine spB (fun h=>?_) fun h=>?_|simp (maxSteps:=999999) (disch:=first|assumption|omega|(simp;done)|fail) [Tryz.results51, *]
  refine LX.ind (fun m gf H'=>∃ (k:Nat),k≤u.1.length∧k≤t.1.length∧m=u.1.length - k∧H'=⟨.fn (gput (gput g n (some (.cells [s1,s2] true 0))) (n+1) (some (.cells [r1,r2] true 0))),n+1+1⟩ ∧
   Hide (z=optI (stepL (u.1.drop k) (u.2.drop k) (t.1.drop k) (t.2.drop k) k))∧gf 2=some (.ptr n 0)∧gf 3=some (.ptr (n+1) 0)∧gf 5=some (.lit (.int .i64 k))) (m0:=u.1.length) ?_ ?_
  ·exact ⟨0,Nat.zero_le _,Nat.zero_le _,rfl,rfl,HZ,by simp,by simp,by simp⟩
  rintro m gf H' ⟨k,hku,hkt,rfl,rfl,HP,w2,w3,w5⟩ ih
  refine LX.roundP (noO_ok _ _) hG pl51 (by decide +kernel) ?_
  by_cases hlu:k < u.1.length
  ·have hluI:(k:Int) < (u.1.length:Int):=by omega
   by_cases hlt:k < t.1.length
   ·have hltI:(k:Int) < (t.1.length:Int):=by omega
    obtain ⟨b1,o1,hb1,hia1,hc1⟩:=RepW.at H1.out hlu
    obtain ⟨b2,o2,hb2,hia2,hc2⟩:=RepW.at H2.out (by omega:k < u.2.length)
    obtain ⟨b3,o3,hb3,hia3,hc3⟩:=RepW.at H3.out hlt
    obtain ⟨b4,o4,hb4,hia4,hc4⟩:=RepW.at H4.out (by omega:k < t.2.length)
    have HST:=Hide.mk (HP.out.trans (congrArg optI (stepL_at hlu (by omega:k < u.2.length) hlt (by omega:k < t.2.length))))
    generalize u.1[k]=i at *
    generalize u.2[k]=a at *
    generalize t.1[k]=j at *
    generalize t.2[k]=b at *
    by_cases hij:i=j
    ·rw [if_pos hij] at HST
     subst hij
     by_cases hab:a=b
     ·rw [if_pos hab] at HST
      subst hab
      iterate 8 all_goals try first|with_reducible refine spI (fun h=>?_) fun h=>?_|with_reducible refine spB (fun h=>?_) fun h=>?_|simp (maxSteps:=999999) (disch:=first|assumption|omega|(simp;done)|fail) [Tryz.results51, *]
      exact ih.out (u.1.length - (k+1)) _ _ (by omega) ⟨k+1,by omega,by omega,rfl,rfl,HST,by simp [*],by simp [*],by simp⟩
     ·rw [if_neg hab] at HST
      have hz:z=k:=HST.out
      clear HST HP HZ
      subst hz
      iterate 8 all_goals try first|with_reducible refine spI (fun h=>?_) fun h=>?_|with_reducible refine spB (fun h=>?_) fun h=>?_|simp (maxSteps:=999999) (disch:=first|assumption|omega|(simp;done)|fail) [Tryz.results51, *]
      all_goals exact ⟨by show n≤n+1+1; omega,fun b (hb:b < n)=>(gpl (by omega)).trans (gpl hb)⟩
    ·rw [if_neg hij] at HST
     have hz:z = -1:=HST.out
     clear HST HP HZ
     subst hz
     iterate 8 all_goals try first|with_reducible refine spI (fun h=>?_) fun h=>?_|with_reducible refine spB (fun h=>?_) fun h=>?_|simp (maxSteps:=999999) (disch:=first|assumption|omega|(simp;done)|fail) [Tryz.results51, *]
     all_goals exact ⟨by show n≤n+1+1; omega,fun b (hb:b < n)=>(gpl (by omega)).trans (gpl hb)⟩
   ·have hltI:¬(k:Int) < (t.1.length:Int):=by omega
    have hz:z = -1:=by rw [HP.out,List.drop_eq_nil_of_le (by omega:t.1.length≤k)]; rw [stepL_nil]; rfl
    try (exfalso; omega)
    all_goals clear HP HZ
    all_goals subst hz
    iterate 8 all_goals try first|with_reducible refine spI (fun h=>?_) fun h=>?_|with_reducible refine spB (fun h=>?_) fun h=>?_|simp (maxSteps:=999999) (disch:=first|assumption|omega|(simp;done)|fail) [Tryz.results51, *]
    all_goals exact ⟨by show n≤n+1+1; omega,fun b (hb:b < n)=>(gpl (by omega)).trans (gpl hb)⟩
  ·have hluI:¬(k:Int) < (u.1.length:Int):=by omega
   have hz:z = -1:=by rw [HP.out,List.drop_eq_nil_of_le (by omega:u.1.length≤k)]; rfl
   try (exfalso; omega)
   all_goals clear HP HZ
   all_goals subst hz
   iterate 8 all_goals try first|with_reducible refine spI (fun h=>?_) fun h=>?_|with_reducible refine spB (fun h=>?_) fun h=>?_|simp (maxSteps:=999999) (disch:=first|assumption|omega|(simp;done)|fail) [Tryz.results51, *]
   all_goals exact ⟨by show n≤n+1+1; omega,fun b (hb:b < n)=>(gpl (by omega)).trans (gpl hb)⟩
theorem SliceV.cut {g:Nat→Option Blk} {b len:Nat} {sv:AV} {cs:List AV} (h:SliceV g b sv len cs) (hc:CapV sv) {t:TypeId} (he:(elSz Tryz.prog t).map (·.1)=some none) {k sz:Nat} (hk:k≤len) (h0:0 < len) :
  ∃ sv',(∀ {H:Mem} {ev:Ev} {d:Option Tmp} {ty:TypeId} {p:String} {af:Array Edge} {gd:Option (Nat×Bool)} {x hi:Operand} {hx:ev x=some sv} {hh:ev hi=some (.lit (.int .i64 (k:Int)))},
   ex2 Tryz.prog H ev ⟨d,.slice t x none (some hi) none,ty,p,af,gd⟩ x hi (some sv) (some (.lit (.int .i64 (k:Int)))) hx hh=.val sv' H)∧SliceV g b sv' k (cs.take (k * sz)):=by
 rcases h with ⟨h1,_⟩ | ⟨a,off,ha,⟨c,rfl⟩ | ⟨c,rfl⟩,hrow⟩
 ·omega
 ·have hcc:=hc _ _ _ _ rfl
  refine ⟨.sl a off k c,?_,.inr ⟨a,off,ha,.inl ⟨c,rfl⟩,hrow.takes _⟩⟩
  intro H ev d ty p af gd x hi hx hh
  rw [slice_sl_hi he (by omega) (by omega) (by omega)]
  simp
 ·refine ⟨.slq a off k c,?_,.inr ⟨a,off,ha,.inr ⟨c,rfl⟩,hrow.takes _⟩⟩
  intro H ev d ty p af gd x hi hx hh
  rw [slice_slq_hi he (by omega) (by omega) (by omega)]
  simp
theorem el22:(elSz Tryz.prog 22).map (·.1)=some none:=by kernel_rfl
theorem LogR.cut {g:Nat→Option Blk} {n:Nat} {ts:List (List Int×List Int)} {sv:AV} (h:LogR g n ts sv) (hc:CapV sv) {k:Nat} (hk:k≤ts.length) (h0:0 < ts.length) :
  ∃ sv',(∀ {H:Mem} {ev:Ev} {d:Option Tmp} {ty:TypeId} {p:String} {af:Array Edge} {gd:Option (Nat×Bool)} {x hi:Operand} {hx:ev x=some sv} {hh:ev hi=some (.lit (.int .i64 (k:Int)))},
   ex2 Tryz.prog H ev ⟨d,.slice 22 x none (some hi) none,ty,p,af,gd⟩ x hi (some sv) (some (.lit (.int .i64 (k:Int)))) hx hh=.val sv' H)∧LogR g n (ts.take k) sv':=by
 obtain ⟨cs,h1,h2⟩:=h
 obtain ⟨sv',h3,h4⟩:=h1.cut hc el22 (sz:=2) hk h0
 refine ⟨sv',h3,cs.take (k * 2),by rw [List.length_take,Nat.min_eq_left hk]; exact h4,?_,fun j hj=>?_⟩
 ·rw [List.length_take,List.length_take,h2.1]; omega
 ·have hj2:j < k∧j < ts.length:=by rw [List.length_take] at hj; omega
  obtain ⟨s1,s2,e1,e2,e3,e4⟩:=h2.2 j hj2.2
  exact ⟨s1,s2,by rw [List.getElem?_take,if_pos (by omega)]; exact e1,by rw [List.getElem?_take,if_pos (by omega)]; exact e2,by rw [List.getElem_take]; exact e3,by rw [List.getElem_take]; exact e4⟩
theorem conB_at {ts:List (List Int×List Int)} {k:Nat} (hk:k < ts.length) : conB ts (ts.drop k) k=match conA (ts[k]) (ts.take k) 0 with
  | some (a,j)=>some (a,k,j)
  | none=>conB ts (ts.drop (k+1)) (k+1):=by
 rw [List.drop_eq_getElem_cons hk]; rfl
theorem conA_at {t:List Int×List Int} {us:List (List Int×List Int)} {j:Nat} (hj:j < us.length) : conA t (us.drop j) j=match stepL (us[j]).1 (us[j]).2 t.1 t.2 0 with
  | some k=>some (j,k)
  | none=>conA t (us.drop (j+1)) (j+1):=by
 rw [List.drop_eq_getElem_cons hj]; rfl
def conC:Option (Nat×Nat×Nat)→AV
 | some (a,b,k)=>.agg [.lit (.int .i64 a),.lit (.int .i64 b),.lit (.int .i64 k)]
 | none=>.agg [.lit (.int .i64 0),.lit (.int .i64 0),.lit (.int .i64 0)]
theorem Contradiction_w {I O:Int} {ts:List (List Int×List Int)} (hL:LogOK I O ts) (g:Nat→Option Blk) (n:Nat) (sv:AV) (hT:LogR g n ts sv) (hcap:CapV sv) :
  WC 3 Tryz.prog 19 [.agg [.lit (.int .i64 I),.lit (.int .i64 O),sv]] ⟨.fn g,n⟩ fun r=>∃ gX n',r=.ret (.tup [conC (conB ts ts 0),.lit (.bool (conB ts ts 0).isSome),.lit (.int .i64 0)]) ⟨.fn gX,n'⟩∧n≤n'∧∀ b,b < n→gX b=g b:=by
 have hlen:=@lenV Tryz.prog _ _ _ _ _ hT.choose_spec.1
 have h1s:=hT.choose_spec.1.one
 have hone:allOne [.lit (.int .i64 I),.lit (.int .i64 O),sv]=true:=by simp [h1s]
 have HCK:=Hide.mk fun (gX:Nat→Option Blk) (n2:Nat) (hn:n≤n2) (hX:∀ b,b < n→gX b=g b)=>Check_w I O ts hL.small gX n2 sv (hT.mono hn hX)
 rw [hL.err] at HCK
 have HT:=Hide.mk hT
 have HL:=Hide.mk hL
 have HCAP:=Hide.mk hcap
 have htl:=hL.len
 clear hT hL hcap
 obtain ⟨D,hD⟩ : ∃ D,D=conB ts ts 0:=⟨_,rfl⟩
 rw [← hD]
 have HD:=Hide.mk hD
 clear hD
 refine WC.enterP (noO_ok _ _) hG [] Tryz.func19 rfl (by decide +kernel) (Nat.le_of_ble_eq_true (by kernel_rfl)) ?_
 iterate 8 all_goals try first|with_reducible refine spI (fun h=>?_) fun h=>?_|with_reducible refine spB (fun h=>?_) fun h=>?_|simp (maxSteps:=999999) (disch:=first|assumption|omega|(simp;done)|fail) [Tryz.results19, *]
 refine WC.mono (HCK.out _ _ (by omega) fun b (hb:b < n)=>by simp (disch:=omega) only [gpl]) ?_
 rintro _ rfl
 iterate 8 all_goals try first|with_reducible refine spI (fun h=>?_) fun h=>?_|with_reducible refine spB (fun h=>?_) fun h=>?_|simp (maxSteps:=999999) (disch:=first|assumption|omega|(simp;done)|fail) [Tryz.results19, *]
 refine LX.ind (fun m gf H'=>∃ (k n' : Nat) (gL:Nat→Option Blk),k≤ts.length∧m=ts.length - k∧H'=⟨.fn gL,n'⟩∧n+1+1≤n'∧Hide (∀ b,b < n→gL b=g b)∧gL n=some (.cells [.lit (.int .i64 I),.lit (.int .i64 O),sv] true 0)∧gL (n+1)=some (.cells [.lit (.int .i64 0),.lit (.int .i64 0),.lit (.int .i64 0)] true 0) ∧
  Hide (D=conB ts (ts.drop k) k)∧gf 1=some (.ptr n 0)∧gf 2=some (.ptr (n+1) 0)∧gf 18=some sv∧gf 19=some (.lit (.int .i64 ts.length))∧gf 20=some (.lit (.int .i64 k))) (m0:=ts.length) ?_ ?_
 ·refine ⟨0,_,_,Nat.zero_le _,rfl,rfl,Nat.le_refl _,⟨fun b hb=>?_⟩,?_,gpe,⟨HD.out⟩,by simp,by simp,by simp,by simp,by simp⟩
  ·simp (disch:=omega) only [gpl]
  ·simp (disch:=omega) only [gpl,gpe]
 rintro m gf H' ⟨k,n',gL,hk,rfl,rfl,hn',HG,hgn,hgp,HP,w1,w2,w18,w19,w20⟩ ih
 refine LX.roundP (noO_ok _ _) hG [] (by decide +kernel) ?_
 by_cases hlt:k < ts.length
 ·have hltI:(k:Int) < (ts.length:Int):=by omega
  obtain ⟨a2,off,r1,r2,HAT0⟩:=(HT.out.mono (show n≤n' by omega) HG.out).at hlt
  have HAT:=Hide.mk HAT0
  clear HAT0
  have hia:∀ {H:Mem} {ev:Ev} {o:Oper} {ty:TypeId},iaS Tryz.prog H ev o ty (some (none,2)) (some sv) (some (.lit (.int .i64 (k:Int))))=.val (.ptr a2 (off+k * 2)) H:=fun {H ev o ty}=>HAT.out.ia
  have han:a2 < n':=HAT.out.an
  have hagg:=HAT.out.agg
  have h1r1:oneC r1=true:=HAT.out.r1.one
  have h1r2:oneC r2=true:=HAT.out.r2.one
  have honeR:allOne [r1,r2]=true:=by simp [h1r1,h1r2]
  obtain ⟨cut,hcut,hcv⟩:=HT.out.cut HCAP.out (Nat.le_of_lt hlt) (by omega)
  have hcl:=@lenV Tryz.prog _ _ _ _ _ hcv.choose_spec.1
  rw [List.length_take,Nat.min_eq_left hk] at hcl
  have HCV:=Hide.mk (hcv.mono (show n≤n' by omega) HG.out)
  have HDE:=Hide.mk (HP.out.trans (conB_at hlt))
  have HLT:=Hide.mk (HL.out.lens (List.getElem_mem hlt))
  have HWT:=Hide.mk (HL.out.wl _ (List.getElem_mem hlt))
  have HR1:=Hide.mk HAT.out.r1
  have HR2:=Hide.mk HAT.out.r2
  clear HAT hcv
  generalize ts[k]=t at *
  iterate 8 all_goals try first|with_reducible refine spI (fun h=>?_) fun h=>?_|with_reducible refine spB (fun h=>?_) fun h=>?_|simp (maxSteps:=999999) (disch:=first|assumption|omega|(simp;done)|fail) [Tryz.results19, *]
  refine LX.ind (fun m gf H'=>∃ (j n2:Nat) (g2:Nat→Option Blk),j≤k∧m=k - j∧H'=⟨.fn g2,n2⟩∧n'+1≤n2∧Hide (∀ b,b < n'→g2 b=gL b)∧g2 n'=some (.cells [r1,r2] true 0)∧Hide (conA t (ts.take k) 0=conA t ((ts.take k).drop j) j) ∧
   gf 1=some (.ptr n 0)∧gf 2=some (.ptr (n+1) 0)∧gf 18=some sv∧gf 19=some (.lit (.int .i64 ts.length))∧gf 20=some (.lit (.int .i64 k))∧gf 6=some (.lit (.int .i64 k))∧gf 7=some (.ptr n' 0)∧gf 28=some cut∧gf 29=some (.lit (.int .i64 k))∧gf 30=some (.lit (.int .i64 j))) (m0:=k) ?_ ?_
  ·refine ⟨0,_,_,Nat.zero_le _,rfl,rfl,Nat.le_refl _,⟨fun b hb=>?_⟩,gpe,⟨rfl⟩,by simp [*],by simp [*],by simp [*],by simp [*],by simp [*],by simp,by simp,by simp,by simp,by simp⟩
   exact gpl hb
  clear w1 w2 w18 w19 w20
  rintro m gf H' ⟨j,n2,g2,hj,rfl,rfl,hn2,HG2,hgt,HNE,w1,w2,w18,w19,w20,w6,w7,w28,w29,w30⟩ ih2
  have hgn2:=(HG2.out n (by omega)).trans hgn
  have hgp2:=(HG2.out (n+1) (by omega)).trans hgp
  refine LX.roundP (noO_ok _ _) hG [] (by decide +kernel) ?_
  by_cases hltj:j < k
  ·have hltjI:(j:Int) < (k:Int):=by omega
   have hjl:j < (ts.take k).length:=by rw [List.length_take]; omega
   obtain ⟨a3,o3,s1,s2,HAU0⟩:=(HCV.out.mono (show n'≤n2 by omega) HG2.out).at hjl
   have HAU:=Hide.mk HAU0
   clear HAU0
   have hia3:∀ {H:Mem} {ev:Ev} {o:Oper} {ty:TypeId},iaS Tryz.prog H ev o ty (some (none,2)) (some cut) (some (.lit (.int .i64 (j:Int))))=.val (.ptr a3 (o3+j * 2)) H:=fun {H ev o ty}=>HAU.out.ia
   have han3:a3 < n2:=HAU.out.an
   have hagg3:=HAU.out.agg
   have h1s1:oneC s1=true:=HAU.out.r1.one
   have h1s2:oneC s2=true:=HAU.out.r2.one
   have honeS:allOne [s1,s2]=true:=by simp [h1s1,h1s2]
   have HMU:Hide ((ts.take k)[j]∈ts):=⟨List.mem_of_mem_take (List.getElem_mem hjl)⟩
   have HLU:=Hide.mk (HL.out.lens HMU.out)
   have HWU:=Hide.mk (HL.out.wl _ HMU.out)
   have HNA:=Hide.mk (HNE.out.trans (conA_at hjl))
   have HS1:=Hide.mk HAU.out.r1
   have HS2:=Hide.mk HAU.out.r2
   clear HAU
   generalize (ts.take k)[j]=u at *
   have HST:=Hide.mk fun (gX:Nat→Option Blk) (n3:Nat) (hn:n2≤n3) (hX:∀ b,b < n2→gX b=g2 b)=>step_w (I:=I) (O:=O) HLU.out.1 HLT.out.1 HWU.out HWT.out gX n3 s1 s2 r1 r2 (SliceV.mono hn hX HS1.out) (SliceV.mono hn hX HS2.out) (SliceV.mono (by omega) (fun b hb=>(hX b (by omega)).trans (HG2.out b hb)) HR1.out) (SliceV.mono (by omega) (fun b hb=>(hX b (by omega)).trans (HG2.out b hb)) HR2.out)
   have HSI:Hide (stepI u t=optI (stepL u.1 u.2 t.1 t.2 0)):=⟨rfl⟩
   generalize stepI u t=z at *
   iterate 8 all_goals try first|with_reducible refine spI (fun h=>?_) fun h=>?_|with_reducible refine spB (fun h=>?_) fun h=>?_|simp (maxSteps:=999999) (disch:=first|assumption|omega|(simp;done)|fail) [Tryz.results19, *]
   refine WC.mono (HST.out _ _ (by omega) fun b hb=>by simp (disch:=omega) only [gpl]) ?_
   rintro _ rfl
   cases hq:stepL u.1 u.2 t.1 t.2 0 with
   | none =>
    have hz:z = -1:=by rw [HSI.out,hq]; rfl
    rw [hq] at HNA
    have HNB:Hide (conA t (ts.take k) 0=conA t ((ts.take k).drop (j+1)) (j+1)):=⟨HNA.out⟩
    clear HNA hq HSI
    subst hz
    iterate 8 all_goals try first|with_reducible refine spI (fun h=>?_) fun h=>?_|with_reducible refine spB (fun h=>?_) fun h=>?_|simp (maxSteps:=999999) (disch:=first|assumption|omega|(simp;done)|fail) [Tryz.results19, *]
    refine ih2.out (k - (j+1)) _ _ (by omega) ⟨j+1,_,_,by omega,rfl,rfl,?_,⟨fun b hb=>?_⟩,?_,HNB,by simp [*],by simp [*],by simp [*],by simp [*],by simp [*],by simp [*],by simp [*],by simp [*],by simp [*],by simp⟩
    ·omega
    ·simp (disch:=omega) only [gpl]; exact HG2.out b hb
    ·simp (disch:=omega) only [gpl]; exact hgt
   | some v =>
    have hz:z=v:=by rw [HSI.out,hq]; rfl
    rw [hq] at HNA
    have hDE:=HDE.out
    rw [HNA.out] at hDE
    have hDE2:D=some (j,k,v):=hDE
    clear HNA hq HSI hDE HDE HD HP
    subst hz hDE2
    iterate 8 all_goals try first|with_reducible refine spI (fun h=>?_) fun h=>?_|with_reducible refine spB (fun h=>?_) fun h=>?_|simp (maxSteps:=999999) (disch:=first|assumption|omega|(simp;done)|fail) [Tryz.results19, *]
    refine ⟨_,_,⟨rfl,rfl,rfl⟩,by omega,fun b hb=>?_⟩
    simp (disch:=omega) only [gpl]
    exact (HG2.out b (by omega)).trans (HG.out b hb)
  ·have hltjI:¬(j:Int) < (k:Int):=by omega
   have hNN:=HNE.out.trans (by rw [List.drop_eq_nil_of_le (by rw [List.length_take]; omega)]; rfl:_=none)
   have hDE:=HDE.out
   rw [hNN] at hDE
   have HDN:Hide (D=conB ts (ts.drop (k+1)) (k+1)):=⟨hDE⟩
   clear hDE hNN
   iterate 8 all_goals try first|with_reducible refine spI (fun h=>?_) fun h=>?_|with_reducible refine spB (fun h=>?_) fun h=>?_|simp (maxSteps:=999999) (disch:=first|assumption|omega|(simp;done)|fail) [Tryz.results19, *]
   refine ih.out (ts.length - (k+1)) _ _ (by omega) ⟨k+1,n2,g2,by omega,rfl,rfl,by omega,⟨fun b hb=>(HG2.out b (by omega)).trans (HG.out b hb)⟩,hgn2,hgp2,HDN,by simp [*],by simp [*],by simp [*],by simp [*],by simp⟩
 ·have hltI:¬(k:Int) < (ts.length:Int):=by omega
  have hDE:D=none:=by rw [HP.out,List.drop_eq_nil_of_le (by omega)]; rfl
  clear HP HD
  subst hDE
  iterate 8 all_goals try first|with_reducible refine spI (fun h=>?_) fun h=>?_|with_reducible refine spB (fun h=>?_) fun h=>?_|simp (maxSteps:=999999) (disch:=first|assumption|omega|(simp;done)|fail) [Tryz.results19, *]
  refine ⟨_,_,⟨rfl,rfl,rfl⟩,by omega,fun b hb=>?_⟩
  simp (disch:=omega) only [gpl]
  exact HG.out b hb
end Go.Ai
end
section
namespace Go.Ai
open Go.Proofs
set_option maxRecDepth 10000
theorem start34 {W:World} (h:W.ShapedOpen Tryz.prog) : ∃ (m:Int) (g:Nat→Option Blk) (ρ:Rn),g 0=some (.cells [.lit (.int .i64 m)] false 0)∧Sim W.heap.size 3 ρ ⟨.fn g,3⟩ W∧NoOwn ⟨.fn g,3⟩:=by
 obtain ⟨m,hm⟩:=cell_of_shapedOpen_int (g:=0) (t:=3) (zero:=#[.int .i64 0]) (k:=.i64) h (by rw [gsize]; decide) (by kernel_rfl) rfl (by kernel_rfl) (by kernel_rfl) Tryz.underlying3
 have hx:∃ c e fz,W.heap[0]?=some (.cells c e fz)∧c[0]?=some (.int .i64 m):=by
  unfold World.cell? at hm
  split at hm
  ·rename_i c e fz hh
   exact ⟨c,e,fz,hh,hm⟩
  ·cases hm
 obtain ⟨c,e,fz,hh,hc⟩:=hx
 refine ⟨m,fun a=>if a=0 then some (.cells [.lit (.int .i64 m)] false 0) else none,fun a=>if a < 3 then some (a,0,0) else none,if_pos rfl,⟨fun a x hx=>?_,fun a a' x x' b o k o' k' hx hx' hne=>?_,fun a ha=>if_neg (Nat.not_lt.2 ha),fun a x ha hx=>if_pos ha,Nat.le_refl _,Nat.le_refl _⟩,fun a x hx=>?_⟩
 ·have hx' : (if a=0 then some (Blk.cells [.lit (.int .i64 m)] false 0) else none)=some x:=hx
  split at hx'
  ·rename_i h0
   subst h0
   cases hx'
   refine .inr ⟨0,0,0,rfl,c,e,fz,hh,fun i v hi=>?_,fun h=>by cases h⟩
   cases i with
   | zero=>cases hi; exact ⟨_,hc,rfl⟩
   | succ i=>cases hi
  ·cases hx'
 ·have h1:(if a=0 then some (Blk.cells [.lit (.int .i64 m)] false 0) else none)=some x:=hx
  have h2:(if a'=0 then some (Blk.cells [.lit (.int .i64 m)] false 0) else none)=some x':=hx'
  split at h1
  ·split at h2
   ·rename_i h3 h4; exact absurd (h3.trans h4.symm) hne
   ·cases h2
  ·cases h1
 ·have hx' : (if a=0 then some (Blk.cells [.lit (.int .i64 m)] false 0) else none)=some x:=hx
  split at hx'
  ·cases hx'; rfl
  ·cases hx'
end Go.Ai
end
section
namespace Go.Ai
open Go.Proofs Go.ChangeShapes Go.WideShapes Go.ChangeAt Go.RowKit
set_option maxRecDepth 10000
variable {H:Type} {enc:TypeId×Value→H} {w:World}
theorem c3:Tryz.prog.cellsOf 3=1:=by kernel_rfl
theorem c4:Tryz.prog.cellsOf 4=1:=by kernel_rfl
theorem c5:Tryz.prog.cellsOf 5=1:=by kernel_rfl
theorem c25:Tryz.prog.cellsOf 25=1:=by kernel_rfl
theorem c27:Tryz.prog.cellsOf 27=5:=by kernel_rfl
theorem c104:Tryz.prog.cellsOf 104=1:=by kernel_rfl
theorem slice_one {t e:TypeId} {fuel:Nat} {cs:List Value} {x:DataW H×List MemPlace} (ht:Tryz.prog.underlying t=some (.slice e)) (h:DataW.trod enc Tryz.prog w 0 (fun _=>true) true fuel t cs=some x) : ∃ s,cs=[s]:=by
 rcases DataW.trod_slice ht h with ⟨h1,_⟩ | ⟨a,len,cap,elems,rest,m,_,h1,_⟩
 ·exact ⟨_,h1⟩
 ·exact ⟨_,h1⟩
def RL {β:Type} (R:(Nat→Option Blk)→Nat→β→List AV→Prop) (g:Nat→Option Blk) (b:Nat) : List β→List AV→Prop
 | [],cs=>cs=[]
 | x :: l,cs=>∃ c r,cs=c++r∧R g b x c∧RL R g b l r
theorem RL_len {β:Type} {R:(Nat→Option Blk)→Nat→β→List AV→Prop} {g:Nat→Option Blk} {b sz:Nat} (hl:∀ {x cs},R g b x cs→cs.length=sz) : ∀ {l:List β} {cs:List AV},RL R g b l cs→cs.length=l.length * sz
 | [],cs,h=>by have h' : cs=[]:=h; rw [h']; simp
 | x :: l,cs,⟨c,r,h1,h2,h3⟩=>by rw [h1,List.length_append,hl h2,RL_len hl h3,List.length_cons,Nat.succ_mul]; omega
theorem RL_take {β:Type} {R:(Nat→Option Blk)→Nat→β→List AV→Prop} {g:Nat→Option Blk} {b:Nat} : ∀ (n:Nat) {l:List β} {cs:List AV},RL R g b l cs→∃ c r,cs=c++r∧RL R g b (l.take n) c
 | 0,l,cs,_=>⟨[],cs,rfl,rfl⟩
 | n+1,[],cs,h=>⟨cs,[],by simp,h⟩
 | n+1,x :: l,cs,⟨c,r,h1,h2,h3⟩=>by
  obtain ⟨c',r',h4,h5⟩:=RL_take n h3
  exact ⟨c++c',r',by rw [h1,h4,List.append_assoc],c,c',rfl,h2,h5⟩
theorem mkL_rep {α β:Type} {f:α→Mem→Option (List AV×Mem)} {R:(Nat→Option Blk)→Nat→β→List AV→Prop} {sz:Nat} (hm:∀ {g g' : Nat→Option Blk} {b b' : Nat} {x:β} {cs:List AV},b≤b'→(∀ a,a < b→g' a=g a)→R g b x cs→R g' b' x cs)
  (hl:∀ {g:Nat→Option Blk} {b:Nat} {x:β} {cs:List AV},R g b x cs→cs.length=sz) :
  ∀ (ds:List α),(∀ d∈ds,∀ g b,∃ avs g' b' x,f d ⟨.fn g,b⟩=some (avs,⟨.fn g',b'⟩)∧b≤b'∧(∀ a,a < b→g' a=g a)∧R g' b' x avs) →
  ∀ g b,∃ avs g' b' l,mkL f sz ds ⟨.fn g,b⟩=some (avs,⟨.fn g',b'⟩)∧b≤b'∧(∀ a,a < b→g' a=g a)∧l.length=ds.length∧RL R g' b' l avs
 | [],_,g,b=>⟨[],g,b,[],rfl,Nat.le_refl _,fun _ _=>rfl,rfl,rfl⟩
 | d :: ds,h,g,b=>by
  obtain ⟨a1,g1,b1,x,e1,h1,h2,h3⟩:=h d (by simp) g b
  obtain ⟨a2,g2,b2,l,e2,k1,k2,k3,k4⟩:=mkL_rep (f:=f) (R:=R) (sz:=sz) hm hl ds (fun d hd=>h d (by simp [hd])) g1 b1
  refine ⟨a1++a2,g2,b2,x :: l,?_,by omega,fun a ha=>(k2 a (by omega)).trans (h2 a ha),by simp [k3],a1,a2,rfl,hm k1 k2 h3,k4⟩
  unfold mkL
  rw [e1]
  dsimp only
  rw [e2]
  dsimp only
  rw [show Nat.beq a1.length sz=true from Nat.beq_eq.mpr (hl h3)]
theorem name_slice {β:Type} {R:(Nat→Option Blk)→Nat→β→List AV→Prop} {t e:TypeId} {sz:Nat} (ht:Tryz.prog.underlying t=some (.slice e)) (hsz:Tryz.prog.cellsOf e=sz) (hs0:0 < sz)
  (hm:∀ {g g' : Nat→Option Blk} {b b' : Nat} {x:β} {cs:List AV},b≤b'→(∀ a,a < b→g' a=g a)→R g b x cs→R g' b' x cs)
  (hl:∀ {g:Nat→Option Blk} {b:Nat} {x:β} {cs:List AV},R g b x cs→cs.length=sz) {fuel:Nat} {s:Value} {d:DataW H} {p:List MemPlace}
  (h:DataW.trod enc Tryz.prog w 0 (fun _=>true) true fuel t [s]=some (d,p))
  (he:∀ m cs d p,m < fuel→DataW.trod enc Tryz.prog w 0 (fun _=>true) true m e cs=some (d,p)→∀ N,m≤N→∀ g b,∃ avs g' b' x,mkD Tryz.prog noTok N e d ⟨.fn g,b⟩=some (avs,⟨.fn g',b'⟩)∧b≤b'∧(∀ a,a < b→g' a=g a)∧R g' b' x avs)
  (N:Nat) (hN:fuel≤N) (g:Nat→Option Blk) (b:Nat) :
  ∃ sv g' b' l,mkD Tryz.prog noTok N t d ⟨.fn g,b⟩=some ([sv],⟨.fn g',b'⟩)∧b≤b'∧(∀ a,a < b→g' a=g a) ∧
   CapV sv∧((l=[]∧(sv=.lit (.slice none 0 0)∨sv=.es))∨∃ a off r,a < b'∧(∃ c,sv=.sl a off l.length c)∧Row g' a off r∧RL R g' b' l r):=by
 rcases DataW.trod_slice ht h with ⟨_,hx⟩ | ⟨a,len,cap,elems,rest,m,rfl,_,hx,_,hlc,_,hlen,hel,hrs,_⟩
 ·cases hx
  have hf:fuel≠0:=by
   rintro rfl
   simp [DataW.trod] at h
  obtain ⟨N,rfl⟩ : ∃ M,N=M+1:=⟨N - 1,by omega⟩
  refine ⟨.lit (.slice none 0 0),g,b,[],?_,Nat.le_refl _,fun _ _=>rfl,fun _ _ _ _ e=>(by cases e),.inl ⟨rfl,.inl rfl⟩⟩
  unfold mkD
  rw [ht]
 ·obtain ⟨hrl,hre⟩:=hrs rfl
  simp only [Prod.mk.injEq] at hx
  obtain ⟨rfl,_⟩:=hx
  obtain ⟨N,rfl⟩ : ∃ M,N=M+1:=⟨N - 1,by omega⟩
  have all:∀ x∈elems++rest,∃ ci,DataW.trod enc Tryz.prog w 0 (fun _=>true) true m e ci=some x:=by
   intro x hx
   rcases List.mem_append.1 hx with hx | hx
   ·obtain ⟨i,hi,rfl⟩:=List.mem_iff_getElem.1 hx
    have:=hel i (by omega)
    rw [List.getElem?_eq_getElem hi] at this
    obtain ⟨ci,_,h3⟩:=Option.bind_eq_some_iff.1 this
    exact ⟨ci,h3⟩
   ·obtain ⟨i,hi,rfl⟩:=List.mem_iff_getElem.1 hx
    have:=hre i (by omega)
    rw [List.getElem?_eq_getElem hi] at this
    obtain ⟨ci,_,h3⟩:=Option.bind_eq_some_iff.1 this
    exact ⟨ci,h3⟩
  obtain ⟨avs,g1,b1,l,e1,k1,k2,k3,k4⟩:=mkL_rep (f:=mkD Tryz.prog noTok N e) (R:=R) (sz:=sz) hm hl ((elems++rest).map (·.1)) (by
   intro d hd g b
   obtain ⟨x,hx,rfl⟩:=List.mem_map.1 hd
   obtain ⟨ci,h3⟩:=all x hx
   exact he m ci x.1 x.2 (by omega) h3 N (by omega) g b) g b
  rw [List.map_append] at e1
  have hla:=RL_len (fun h=>hl h) k4
  rw [List.length_map,List.length_append] at k3
  cases hcs:elems.map (·.1)++rest.map (·.1) with
  | nil =>
   have h0:elems.length=0:=by
    have:=congrArg List.length hcs
    rw [List.length_append,List.length_map,List.length_nil] at this
    omega
   refine ⟨.es,g,b,[],?_,Nat.le_refl _,fun _ _=>rfl,fun _ _ _ _ e=>(by cases e),.inl ⟨rfl,.inr rfl⟩⟩
   unfold mkD
   rw [ht]
   dsimp only
   rw [hcs]
  | cons y ys =>
   have hpos:0 < elems.length+rest.length:=by
    have:=congrArg List.length hcs
    rw [List.length_append,List.length_map,List.length_map,List.length_cons] at this
    omega
   obtain ⟨z,zs,rfl⟩ : ∃ z zs,avs=z :: zs:=by
    cases avs with
    | nil =>
     rw [k3] at hla
     have:0 < (elems.length+rest.length) * sz:=Nat.mul_pos hpos hs0
     rw [List.length_nil] at hla
     omega
    | cons z zs=>exact ⟨z,zs,rfl⟩
   obtain ⟨c,r,q1,q2⟩:=RL_take elems.length k4
   have hcl:=RL_len (fun h=>hl h) q2
   have hfr:∀ a,a < b1→gput g1 b1 (some (.cells (z :: zs) false 0)) a=g1 a:=fun a ha=>gpl ha
   refine ⟨.sl b1 0 elems.length (elems.length+rest.length),gput g1 b1 (some (.cells (z :: zs) false 0)),b1+1,l.take elems.length,?_,by omega,fun a ha=>(hfr a (by omega)).trans (k2 a ha),fun _ _ _ _ e=>(by cases e; omega),.inr ⟨b1,0,c,Nat.lt_succ_self _,⟨elems.length+rest.length,?_⟩,?_,?_⟩⟩
   ·unfold mkD
    rw [ht]
    dsimp only
    rw [hcs] at e1
    rw [hsz,hcs]
    dsimp only
    rw [e1]
    simp only [List.length_map]
    rfl
   ·rw [List.length_take,Nat.min_eq_left (by omega)]
   ·refine ⟨z :: zs,false,0,if_pos rfl,?_,?_⟩
    ·rw [q1,List.length_append]; omega
    ·rw [q1,List.drop_zero,List.take_left]
   ·have key:∀ (l:List β) (cs:List AV),RL R g1 b1 l cs→RL R (gput g1 b1 (some (.cells (z :: zs) false 0))) (b1+1) l cs:=by
     intro l
     induction l with
     | nil=>intro cs h; exact h
     | cons x l ih=>rintro cs ⟨c,r,h1,h2,h3⟩; exact ⟨c,r,h1,hm (by omega) hfr h2,ih r h3⟩
    exact key _ _ q2
theorem five_of {cs:List Value} (h:cs.length=5) : ∃ a b c d e,cs=[a,b,c,d,e]:=by
 match cs,h with
 | [a,b,c,d,e],_=>exact ⟨a,b,c,d,e,rfl⟩
theorem five_xs {α:Type} {xs:List α} (h:xs.length=5) : ∃ a b c d e,xs=[a,b,c,d,e]:=by
 match xs,h with
 | [a,b,c,d,e],_=>exact ⟨a,b,c,d,e,rfl⟩
def HalfR (_:Nat→Option Blk) (_:Nat) (x:Nat) (avs:List AV) : Prop:=x < 65536∧avs=[.lit (.int .u16 x)]
theorem wf8 {z:Int} (h:(Lit.int .u8 z).wf=true) : ∃ n:Nat,z=n∧n < 256:=by
 simp only [Lit.wf,Bool.and_eq_true,decide_eq_true_eq] at h
 have h' : 0≤z∧z≤255:=h
 exact ⟨z.toNat,by omega,by omega⟩
theorem wf16 {z:Int} (h:(Lit.int .u16 z).wf=true) : ∃ n:Nat,z=n∧n < 65536:=by
 simp only [Lit.wf,Bool.and_eq_true,decide_eq_true_eq] at h
 have h' : 0≤z∧z≤65535:=h
 exact ⟨z.toNat,by omega,by omega⟩
theorem half_mk (fuel:Nat) (cs:List Value) (d:DataW H) (p:List MemPlace) (h:DataW.trod enc Tryz.prog w 0 (fun _=>true) true fuel 104 cs=some (d,p)) (N:Nat) (hN:fuel≤N) (g:Nat→Option Blk) (b:Nat) :
  ∃ avs g' b' x,mkD Tryz.prog noTok N 104 d ⟨.fn g,b⟩=some (avs,⟨.fn g',b'⟩)∧b≤b'∧(∀ a,a < b→g' a=g a)∧HalfR g' b' x avs:=by
 obtain ⟨x,_,f0,hw⟩:=DataW.trod_int (x:=(d,p)) Tryz.underlying104 h
 obtain ⟨x,rfl,hx⟩:=wf16 hw
 have hd:d=.lit (.int .u16 x):=congrArg Prod.fst f0
 subst hd
 have hm0:fuel≠0:=by rintro rfl; simp [DataW.trod] at h
 obtain ⟨N,rfl⟩ : ∃ M,N=M+1:=⟨N - 1,by omega⟩
 exact ⟨[.lit (.int .u16 x)],g,b,x,by unfold mkD; rw [Tryz.underlying104],Nat.le_refl _,fun _ _=>rfl,hx,rfl⟩
theorem halves_of {g:Nat→Option Blk} {b:Nat} : ∀ {l:List Nat} {cs:List AV},RL HalfR g b l cs→cs=u16Cells l∧∀ c∈l,c < 65536
 | [],_,h=>⟨h,fun c hc=>by cases hc⟩
 | x :: l,_,⟨c,r,h1,⟨hx,h2⟩,h3⟩=>by
  obtain ⟨i1,i2⟩:=halves_of h3
  refine ⟨by rw [h1,h2,i1]; rfl,fun y hy=>?_⟩
  rcases List.mem_cons.1 hy with rfl | hy
  ·exact hx
  ·exact i2 y hy
theorem halfs_mk (fuel:Nat) (s:Value) (d:DataW H) (p:List MemPlace) (h:DataW.trod enc Tryz.prog w 0 (fun _=>true) true fuel 25 [s]=some (d,p)) (N:Nat) (hN:fuel≤N) (g:Nat→Option Blk) (b:Nat) :
  ∃ sv g' b' l,mkD Tryz.prog noTok N 25 d ⟨.fn g,b⟩=some ([sv],⟨.fn g',b'⟩)∧b≤b'∧(∀ a,a < b→g' a=g a)∧SliceA g' b' sv l.length (u16Cells l)∧∀ c∈l,c < 65536:=by
 obtain ⟨sv,g1,b1,l,e1,t1,t2,tc,t3⟩:=name_slice (R:=HalfR) Tryz.underlying25 c104 (by decide) (fun _ _ h=>h) (fun h=>by rw [h.2]; rfl) h (fun m cs d p _ h N hN g b=>half_mk m cs d p h N hN g b) N hN g b
 refine ⟨sv,g1,b1,l,e1,t1,t2,?_⟩
 rcases t3 with ⟨rfl,h⟩ | ⟨a,off,r,q1,⟨c,q2⟩,q3,q4⟩
 ·exact ⟨.inl ⟨rfl,h⟩,fun c hc=>by cases hc⟩
 ·obtain ⟨j1,j2⟩:=halves_of q4
  subst j1
  exact ⟨.inr ⟨a,off,c,q1,q2,q3⟩,j2⟩
theorem M_mk (fuel:Nat) (cs:List Value) (d:DataW H) (p:List MemPlace) (h:DataW.trod enc Tryz.prog w 0 (fun _=>true) true fuel 27 cs=some (d,p)) (N:Nat) (hN:fuel≤N) (g:Nat→Option Blk) (b:Nat) :
  ∃ (st inp out:Nat) (part:Bool) (es:List Nat) (ev:AV) (g' : Nat→Option Blk) (b' : Nat),mkD Tryz.prog noTok N 27 d ⟨.fn g,b⟩=some ([.lit (.int .u8 st),.lit (.int .u8 inp),.lit (.int .u8 out),.lit (.bool part),ev],⟨.fn g',b'⟩)∧b≤b'∧(∀ a,a < b→g' a=g a) ∧
   st < 256∧inp < 256∧out < 256∧SliceA g' b' ev es.length (u16Cells es)∧∀ c∈es,c < 65536:=by
 obtain ⟨xs,m,rfl,hd,hl,hn,he⟩:=DataW.trod_struct Tryz.underlying27 h
 rw [c27] at hl
 obtain ⟨v0,v1,v2,v3,v4,rfl⟩:=five_of hl
 have h0:DataW.trod enc Tryz.prog w 0 (fun _=>true) true m 5 (([v0,v1,v2,v3,v4].drop 0).take (Tryz.prog.cellsOf 5))=xs[0]?:=he 0 _ rfl
 have h1:DataW.trod enc Tryz.prog w 0 (fun _=>true) true m 5 (([v0,v1,v2,v3,v4].drop 1).take (Tryz.prog.cellsOf 5))=xs[1]?:=he 1 _ rfl
 have h2:DataW.trod enc Tryz.prog w 0 (fun _=>true) true m 5 (([v0,v1,v2,v3,v4].drop 2).take (Tryz.prog.cellsOf 5))=xs[2]?:=he 2 _ rfl
 have h3:DataW.trod enc Tryz.prog w 0 (fun _=>true) true m 4 (([v0,v1,v2,v3,v4].drop 3).take (Tryz.prog.cellsOf 4))=xs[3]?:=he 3 _ rfl
 have h4:DataW.trod enc Tryz.prog w 0 (fun _=>true) true m 25 (([v0,v1,v2,v3,v4].drop 4).take (Tryz.prog.cellsOf 25))=xs[4]?:=he 4 _ rfl
 rw [c5] at h0 h1 h2
 rw [c4] at h3
 rw [c25] at h4
 obtain ⟨x0,x1,x2,x3,x4,rfl⟩:=five_xs (show xs.length=5 from hn)
 obtain ⟨st,e0,f0,w0⟩:=DataW.trod_int (x:=x0) Tryz.underlying5 h0
 obtain ⟨inp,e1,f1,w1⟩:=DataW.trod_int (x:=x1) Tryz.underlying5 h1
 obtain ⟨out,e2,f2,w2⟩:=DataW.trod_int (x:=x2) Tryz.underlying5 h2
 obtain ⟨part,e3,f3⟩:=DataW.trod_bool (x:=x3) Tryz.underlying4 h3
 obtain ⟨st,rfl,b0⟩:=wf8 w0
 obtain ⟨inp,rfl,b1⟩:=wf8 w1
 obtain ⟨out,rfl,b2⟩:=wf8 w2
 subst f0
 subst f1
 subst f2
 subst f3
 have hx4:DataW.trod enc Tryz.prog w 0 (fun _=>true) true m 25 [v4]=some (x4.1,x4.2):=h4
 obtain ⟨sv,g1,b1',l,e4,k1,k2,k3,k4⟩:=halfs_mk m v4 _ _ hx4 (N - 1) (by omega) g b
 refine ⟨st,inp,out,part,l,sv,g1,b1',?_,k1,k2,b0,b1,b2,k3,k4⟩
 have hd' : d=.agg [.lit (.int .u8 st),.lit (.int .u8 inp),.lit (.int .u8 out),.lit (.bool part),x4.1]:=congrArg Prod.fst hd
 subst hd'
 have hm0:m≠0:=by rintro rfl; simp [DataW.trod] at h0
 obtain ⟨N,rfl⟩ : ∃ M,N=M+2:=⟨N - 2,by omega⟩
 have e4' : mkD Tryz.prog noTok (N+1) 25 x4.1 ⟨.fn g,b⟩=some ([sv],⟨.fn g1,b1'⟩):=e4
 have i1:∀ k:Int,mkD (Hh:=H) Tryz.prog noTok (N+1) 5 (.lit (.int .u8 k)) ⟨.fn g,b⟩=some ([.lit (.int .u8 k)],⟨.fn g,b⟩):=by
  intro k; unfold mkD; rw [Tryz.underlying5]
 have i2:∀ k:Bool,mkD (Hh:=H) Tryz.prog noTok (N+1) 4 (.lit (.bool k)) ⟨.fn g,b⟩=some ([.lit (.bool k)],⟨.fn g,b⟩):=by
  intro k; unfold mkD; rw [Tryz.underlying4]
 unfold mkD
 rw [Tryz.underlying27]
 dsimp only
 simp only [mkF,i1,i2,e4',c5,c4,c25,c27]
 rfl
end Go.Ai
end
section
namespace Go.Ai
open Go.Proofs Go.ChangeShapes Go.WideShapes Go.ChangeAt Go.RowKit
set_option maxRecDepth 10000
variable {H:Type} {enc:TypeId×Value→H} {w:World}
theorem c50:Tryz.prog.cellsOf 50=1:=by kernel_rfl
theorem c52:Tryz.prog.cellsOf 52=9:=by kernel_rfl
theorem c67:Tryz.prog.cellsOf 67=1:=by kernel_rfl
def ByteR (_:Nat→Option Blk) (_:Nat) (x:Nat) (avs:List AV) : Prop:=x < 256∧avs=[.lit (.int .u8 x)]
theorem byte_mk (fuel:Nat) (cs:List Value) (d:DataW H) (p:List MemPlace) (h:DataW.trod enc Tryz.prog w 0 (fun _=>true) true fuel 5 cs=some (d,p)) (N:Nat) (hN:fuel≤N) (g:Nat→Option Blk) (b:Nat) :
  ∃ avs g' b' x,mkD Tryz.prog noTok N 5 d ⟨.fn g,b⟩=some (avs,⟨.fn g',b'⟩)∧b≤b'∧(∀ a,a < b→g' a=g a)∧ByteR g' b' x avs:=by
 obtain ⟨x,_,f0,hw⟩:=DataW.trod_int (x:=(d,p)) Tryz.underlying5 h
 obtain ⟨x,rfl,hx⟩:=wf8 hw
 have hd:d=.lit (.int .u8 x):=congrArg Prod.fst f0
 subst hd
 have hm0:fuel≠0:=by rintro rfl; simp [DataW.trod] at h
 obtain ⟨N,rfl⟩ : ∃ M,N=M+1:=⟨N - 1,by omega⟩
 exact ⟨[.lit (.int .u8 x)],g,b,x,by unfold mkD; rw [Tryz.underlying5],Nat.le_refl _,fun _ _=>rfl,hx,rfl⟩
theorem bytes_of {g:Nat→Option Blk} {b:Nat} : ∀ {l:List Nat} {cs:List AV},RL ByteR g b l cs→cs=u8C l∧∀ c∈l,c < 256
 | [],_,h=>⟨h,fun c hc=>by cases hc⟩
 | x :: l,_,⟨c,r,h1,⟨hx,h2⟩,h3⟩=>by
  obtain ⟨i1,i2⟩:=bytes_of h3
  refine ⟨by rw [h1,h2,i1]; rfl,fun y hy=>?_⟩
  rcases List.mem_cons.1 hy with rfl | hy
  ·exact hx
  ·exact i2 y hy
def BytesR (g:Nat→Option Blk) (b:Nat) (x:List Nat) (avs:List AV) : Prop:=∃ sv,avs=[sv]∧RepB g b x sv∧∀ c∈x,c < 256
theorem bytes_mk (fuel:Nat) (cs:List Value) (d:DataW H) (p:List MemPlace) (h:DataW.trod enc Tryz.prog w 0 (fun _=>true) true fuel 67 cs=some (d,p)) (N:Nat) (hN:fuel≤N) (g:Nat→Option Blk) (b:Nat) :
  ∃ avs g' b' x,mkD Tryz.prog noTok N 67 d ⟨.fn g,b⟩=some (avs,⟨.fn g',b'⟩)∧b≤b'∧(∀ a,a < b→g' a=g a)∧BytesR g' b' x avs:=by
 obtain ⟨s,rfl⟩:=slice_one Tryz.underlying67 h
 obtain ⟨sv,g1,b1,l,e1,t1,t2,tc,t3⟩:=name_slice (R:=ByteR) Tryz.underlying67 c5 (by decide) (fun _ _ h=>h) (fun h=>by rw [h.2]; rfl) h (fun m cs d p _ h N hN g b=>byte_mk m cs d p h N hN g b) N hN g b
 refine ⟨[sv],g1,b1,l,e1,t1,t2,sv,rfl,?_⟩
 rcases t3 with ⟨rfl,h⟩ | ⟨a,off,r,q1,q2,q3,q4⟩
 ·exact ⟨.inl ⟨rfl,rfl,h⟩,fun c hc=>by cases hc⟩
 ·obtain ⟨j1,j2⟩:=bytes_of q4
  exact ⟨.inr ⟨a,off,q1,.inl q2,by rw [← j1]; exact q3⟩,j2⟩
theorem lists_of {g:Nat→Option Blk} {b:Nat} : ∀ {l:List (List Nat)} {cs:List AV},RL BytesR g b l cs→(cs.length=l.length∧∀ (k:Nat) (h:k < l.length),∃ sv,cs[k]?=some sv∧RepB g b l[k] sv)∧∀ x∈l,∀ c∈x,c < 256
 | [],_,h=>by
  have h:_=[]:=h
  subst h
  exact ⟨⟨rfl,fun k hk=>by simp at hk⟩,fun x hx=>by cases hx⟩
 | x :: l,_,⟨c,r,h1,⟨sv,h2,h3,h4⟩,h5⟩=>by
  obtain ⟨⟨i1,i2⟩,i3⟩:=lists_of h5
  subst h1 h2
  refine ⟨⟨by simp [i1],fun k hk=>?_⟩,fun y hy=>?_⟩
  ·cases k with
   | zero=>exact ⟨sv,rfl,h3⟩
   | succ k =>
    obtain ⟨t1,j1,j2⟩:=i2 k (by simpa using hk)
    exact ⟨t1,by simpa using j1,j2⟩
  ·rcases List.mem_cons.1 hy with rfl | hy
   ·exact h4
   ·exact i3 y hy
theorem lists_mk (fuel:Nat) (s:Value) (d:DataW H) (p:List MemPlace) (h:DataW.trod enc Tryz.prog w 0 (fun _=>true) true fuel 50 [s]=some (d,p)) (N:Nat) (hN:fuel≤N) (g:Nat→Option Blk) (b:Nat) :
  ∃ sv g' b' l,mkD Tryz.prog noTok N 50 d ⟨.fn g,b⟩=some ([sv],⟨.fn g',b'⟩)∧b≤b'∧(∀ a,a < b→g' a=g a)∧ListB g' b' l sv∧∀ x∈l,∀ c∈x,c < 256:=by
 obtain ⟨sv,g1,b1,l,e1,t1,t2,tc,t3⟩:=name_slice (R:=BytesR) Tryz.underlying50 c67 (by decide) (fun h1 h2 ⟨s1,e,h3,h4⟩=>⟨s1,e,SliceV.mono h1 h2 h3,h4⟩) (fun ⟨s1,e,_,_⟩=>by rw [e]; rfl) h (fun m cs d p _ h N hN g b=>bytes_mk m cs d p h N hN g b) N hN g b
 refine ⟨sv,g1,b1,l,e1,t1,t2,?_⟩
 rcases t3 with ⟨rfl,h⟩ | ⟨a,off,r,q1,q2,q3,q4⟩
 ·exact ⟨⟨[],.inl ⟨rfl,rfl,h⟩,rfl,fun k hk=>by simp at hk⟩,fun x hx=>by cases hx⟩
 ·obtain ⟨⟨j1,j2⟩,j3⟩:=lists_of q4
  exact ⟨⟨r,.inr ⟨a,off,q1,.inl q2,q3⟩,j1,j2⟩,j3⟩
theorem nine_of {cs:List Value} (h:cs.length=9) : ∃ a b c d e f g i j,cs=[a,b,c,d,e,f,g,i,j]:=by
 match cs,h with
 | [a,b,c,d,e,f,g,i,j],_=>exact ⟨a,b,c,d,e,f,g,i,j,rfl⟩
theorem G_mk (fuel:Nat) (cs:List Value) (d:DataW H) (p:List MemPlace) (h:DataW.trod enc Tryz.prog w 0 (fun _=>true) true fuel 52 cs=some (d,p)) (N:Nat) (hN:fuel≤N) (g:Nat→Option Blk) (b:Nat) :
  ∃ (st inp out:Nat) (part:Bool) (es:List Nat) (ev:AV) (ws:List (List Nat)) (wv:AV) (ia ib ic:Nat) (g' : Nat→Option Blk) (b' : Nat),mkD Tryz.prog noTok N 52 d ⟨.fn g,b⟩=some ([.lit (.int .u8 st),.lit (.int .u8 inp),.lit (.int .u8 out),.lit (.bool part),ev,wv,.lit (.int .u8 ia),.lit (.int .u8 ib),.lit (.int .u8 ic)],⟨.fn g',b'⟩)∧b≤b'∧(∀ a,a < b→g' a=g a) ∧
   InG g' b' st inp out es ev ws wv∧ia < 256∧ib < 256∧ic < 256:=by
 obtain ⟨xs,m,rfl,hd,hl,hn,he⟩:=DataW.trod_struct Tryz.underlying52 h
 rw [c52] at hl
 obtain ⟨v0,v1,v2,v3,v4,v5,v6,v7,v8,rfl⟩:=nine_of hl
 have h0:DataW.trod enc Tryz.prog w 0 (fun _=>true) true m 27 (([v0,v1,v2,v3,v4,v5,v6,v7,v8].drop 0).take (Tryz.prog.cellsOf 27))=xs[0]?:=he 0 _ rfl
 have h1:DataW.trod enc Tryz.prog w 0 (fun _=>true) true m 50 (([v0,v1,v2,v3,v4,v5,v6,v7,v8].drop 5).take (Tryz.prog.cellsOf 50))=xs[1]?:=he 1 _ rfl
 have h2:DataW.trod enc Tryz.prog w 0 (fun _=>true) true m 5 (([v0,v1,v2,v3,v4,v5,v6,v7,v8].drop 6).take (Tryz.prog.cellsOf 5))=xs[2]?:=he 2 _ rfl
 have h3:DataW.trod enc Tryz.prog w 0 (fun _=>true) true m 5 (([v0,v1,v2,v3,v4,v5,v6,v7,v8].drop 7).take (Tryz.prog.cellsOf 5))=xs[3]?:=he 3 _ rfl
 have h4:DataW.trod enc Tryz.prog w 0 (fun _=>true) true m 5 (([v0,v1,v2,v3,v4,v5,v6,v7,v8].drop 8).take (Tryz.prog.cellsOf 5))=xs[4]?:=he 4 _ rfl
 rw [c27] at h0
 rw [c50] at h1
 rw [c5] at h2 h3 h4
 obtain ⟨x0,x1,x2,x3,x4,rfl⟩:=five_xs (show xs.length=5 from hn)
 obtain ⟨ia,e2,f2,w2⟩:=DataW.trod_int (x:=x2) Tryz.underlying5 h2
 obtain ⟨ib,e3,f3,w3⟩:=DataW.trod_int (x:=x3) Tryz.underlying5 h3
 obtain ⟨ic,e4,f4,w4⟩:=DataW.trod_int (x:=x4) Tryz.underlying5 h4
 obtain ⟨ia,rfl,b2⟩:=wf8 w2
 obtain ⟨ib,rfl,b3⟩:=wf8 w3
 obtain ⟨ic,rfl,b4⟩:=wf8 w4
 subst f2
 subst f3
 subst f4
 have hx0:DataW.trod enc Tryz.prog w 0 (fun _=>true) true m 27 [v0,v1,v2,v3,v4]=some (x0.1,x0.2):=h0
 have hx1:DataW.trod enc Tryz.prog w 0 (fun _=>true) true m 50 [v5]=some (x1.1,x1.2):=h1
 obtain ⟨st,inp,out,part,es,ev,g1,b1',e0,k1,k2,k3,k4,k5,k6,k7⟩:=M_mk m _ _ _ hx0 (N - 1) (by omega) g b
 obtain ⟨sv,g2,b2',l,e1,l1,l2,l3,l4⟩:=lists_mk m v5 _ _ hx1 (N - 1) (by omega) g1 b1'
 refine ⟨st,inp,out,part,es,ev,l,sv,ia,ib,ic,g2,b2',?_,by omega,fun a ha=>(l2 a (by omega)).trans (k2 a ha),⟨k3,k4,k5,k6.mono l1 l2,k7,l3,l4⟩,b2,b3,b4⟩
 have hd' : d=.agg [x0.1,x1.1,.lit (.int .u8 ia),.lit (.int .u8 ib),.lit (.int .u8 ic)]:=congrArg Prod.fst hd
 subst hd'
 have hm0:m≠0:=by rintro rfl; simp [DataW.trod] at hx0
 obtain ⟨N,rfl⟩ : ∃ M,N=M+2:=⟨N - 2,by omega⟩
 have e0' : mkD Tryz.prog noTok (N+1) 27 x0.1 ⟨.fn g,b⟩=some ([.lit (.int .u8 st),.lit (.int .u8 inp),.lit (.int .u8 out),.lit (.bool part),ev],⟨.fn g1,b1'⟩):=e0
 have e1' : mkD Tryz.prog noTok (N+1) 50 x1.1 ⟨.fn g1,b1'⟩=some ([sv],⟨.fn g2,b2'⟩):=e1
 have i1:∀ k:Int,mkD (Hh:=H) Tryz.prog noTok (N+1) 5 (.lit (.int .u8 k)) ⟨.fn g2,b2'⟩=some ([.lit (.int .u8 k)],⟨.fn g2,b2'⟩):=by
  intro k; unfold mkD; rw [Tryz.underlying5]
 unfold mkD
 rw [Tryz.underlying52]
 dsimp only
 simp only [mkF,i1,e0',e1',c5,c27,c50,c52]
 rfl
end Go.Ai
end
section
namespace Go.Ai
open Go.Proofs
set_option maxRecDepth 10000
set_option maxHeartbeats 40000000
def CloneV (g:Nat→Option Blk) (lo n:Nat) (w:List Int) (sv:AV) : Prop :=
 (w=[]∧(sv=.lit (.slice none 0 0)∨∃ m,lo≤m∧m < n∧sv=.sl m 0 0 0∧g m=some (.cells [] true 0)))∨(0 < w.length∧∃ m,lo≤m∧m < n∧sv=.slq m 0 w.length 0∧g m=some (.cells (wdC w) true 1))
theorem mk57 {H:Mem} {a b:Int} (h0:0≤a) (h1:a≤b) (h2:b≤1048576) : mksS Tryz.prog H 57 (mkI Tryz.prog 57) (some (.lit (.int .i64 a))) (some (.lit (.int .i64 b)))=.val (.sl H.next 0 a.toNat b.toNat) (H.add (.cells (rep [.lit (.int .i64 0)] b.toNat) true 0)):=by
 have hx:oMakeSlice Tryz.prog H 57 (some (.lit (.int .i64 a))) (some (.lit (.int .i64 b)))=_:=oMakeSlice_ok (e:=3) (size:=1) (bytes:=8) (z:=[.lit (.int .i64 0)]) (by kernel_rfl) (by decide) (by decide) (by kernel_rfl) h0 h1 h2
 unfold mksS
 split
 ·rename_i v a' b' hq e1 e2
  cases e1; cases e2
  split
  ·rename_i h
   obtain ⟨rfl,h3,h4⟩:=h
   have hv:mkI Tryz.prog 57=some (.lit (.int .i64 0)):=by kernel_rfl
   rw [hv] at hq
   cases hq
   rw [rep_one]
  ·exact hx
 ·exact hx
theorem mk22 {H:Mem} {a b:Int} (h0:0≤a) (h1:a≤b) (h2:b≤1048576) : mksS Tryz.prog H 22 none (some (.lit (.int .i64 a))) (some (.lit (.int .i64 b)))=.val (.sl H.next 0 a.toNat b.toNat) (H.add (.cells (rep [.lit (.slice none 0 0),.lit (.slice none 0 0)] b.toNat) true 0)) :=
 oMakeSlice_ok (e:=59) (size:=2) (bytes:=48) (z:=[.lit (.slice none 0 0),.lit (.slice none 0 0)]) (by kernel_rfl) (by decide) (by decide) (by kernel_rfl) h0 h1 h2
theorem mk57' {H:Mem} {a b:Int} (h0:0≤a) (h1:a≤b) (h2:b≤1048576) : mksS Tryz.prog H 57 (some (.lit (.int .i64 0))) (some (.lit (.int .i64 a))) (some (.lit (.int .i64 b)))=.val (.sl H.next 0 a.toNat b.toNat) (H.add (.cells (rep [.lit (.int .i64 0)] b.toNat) true 0)):=by
 have h:=mk57 (H:=H) h0 h1 h2
 rwa [mkI57] at h
theorem mkI22:mkI Tryz.prog 22=none:=by kernel_rfl
attribute [simp] mk22 mkI22 mk57'
def ListV (g:Nat→Option Blk) (n:Nat) (l:List (List Int)) (lv:AV) : Prop:=∃ svs,SliceV g n lv l.length svs∧RowsW g n l svs
theorem ListV.mono {g g' : Nat→Option Blk} {n n' : Nat} {l:List (List Int)} {lv:AV} (h:ListV g n l lv) (hn:n≤n') (hg:∀ a,a < n→g' a=g a) : ListV g' n' l lv :=
 let ⟨svs,h1,h2⟩:=h; ⟨svs,h1.mono hn hg,h2.ext hn fun a x ha hx=>(hg a ha).trans hx⟩
theorem ListV.at {g:Nat→Option Blk} {n:Nat} {l:List (List Int)} {lv:AV} (h:ListV g n l lv) {k:Nat} (hk:k < l.length) : ∃ a off q,a < n∧(∀ {H:Mem} {ev:Ev} {o:Oper} {t:TypeId},iaS Tryz.prog H ev o t (some (none,1)) (some lv) (some (.lit (.int .i64 (k:Int))))=.val (.ptr a (off+k)) H)∧loadB (some (false,1)) (g a) (off+k)=some q∧RepW g n l[k] q:=by
 obtain ⟨svs,h1,h2,h3⟩:=h
 obtain ⟨q,e1,e2⟩:=h3 k hk
 obtain ⟨a,off,ha,hrow,hia⟩:=h1.ia (P:=Tryz.prog) hk 1
 simp only [Nat.mul_one] at hia
 have hc:=hrow.one (k:=k) (s:=1) (by omega)
 rw [(List.getElem?_eq_some_iff.1 e1).2] at hc
 exact ⟨a,off,q,ha,hia,hc,e2⟩
theorem el93:(elSz Tryz.prog 93).map (·.1)=some none:=by kernel_rfl
theorem ListV.cut {g:Nat→Option Blk} {n:Nat} {l:List (List Int)} {lv:AV} (h:ListV g n l lv) (hc:CapV lv) :
  ∃ sv',(∀ {H:Mem} {ev:Ev} {d:Option Tmp} {ty:TypeId} {p:String} {af:Array Edge} {gd:Option (Nat×Bool)} {x hi:Operand} {hx:ev x=some lv} {hh:ev hi=some (.lit (.int .i64 (l.length:Int)))},
   ex2 Tryz.prog H ev ⟨d,.slice 93 x none (some hi) none,ty,p,af,gd⟩ x hi (some lv) (some (.lit (.int .i64 (l.length:Int)))) hx hh=.val sv' H)∧ListV g n l sv':=by
 obtain ⟨svs,h1,h2⟩:=h
 obtain ⟨sv',h3,h4,_⟩:=SliceV.cutP (P:=Tryz.prog) h1 hc el93 (k:=l.length) (sz:=1) (Nat.le_refl _)
 refine ⟨sv',h3,svs,?_,h2⟩
 rw [Nat.mul_one,← h2.1,List.take_length] at h4
 rw [h2.1] at h4
 exact h4
theorem RepW.safe {g g' : Nat→Option Blk} {n n' B:Nat} {w:List Int} {sv:AV} (h:RepW g n w sv) (hn:n≤n') (hB:n≤B) (hg:∀ a,a < n→g' a=g a) : SafeW g' 0 n' B w sv :=
 ⟨fun a=>if a < n then g a else none,⟨fun a z hz=>(by
  have hz' : (if a < n then g a else none)=some z:=hz
  split at hz'
  ·rename_i h4; exact ⟨(hg a h4).trans hz',Nat.zero_le _,by omega,by omega⟩
  ·cases hz'),SliceV.ext hn (fun a x ha hx=>(if_pos ha).trans hx) h⟩⟩
theorem SafeW.nil {g:Nat→Option Blk} {lo n B:Nat} : SafeW g lo n B [] (.lit (.slice none 0 0)):=⟨fun _=>none,fun a z h=>(by cases h),.inl ⟨rfl,rfl,.inl rfl⟩⟩
structure RoomT (g:Nat→Option Blk) (n B c k:Nat) (ts:List (List Int×List Int)) (R:List AV) : Prop where
 blk:g B=some (.cells R true 0)
 len:R.length=c * 2
 kl:k≤c
 rows:RowsF g 0 n B ts (R.take (k * 2))
 tl:ts.length=k
theorem RoomT.log {g:Nat→Option Blk} {n B len:Nat} {ts:List (List Int×List Int)} {R:List AV} (h:RoomT g n B len len ts R) (hB:B < n) : LogR g n ts (.sl B 0 len len):=by
 have h1:=h.rows
 rw [← h.len,List.take_length] at h1
 exact ⟨R,.inr ⟨B,0,hB,.inl ⟨len,by rw [h.tl]⟩,R,true,0,h.blk,by simp,by simp⟩,h1.rows⟩
theorem RowsF.upd {g:Nat→Option Blk} {lo n B:Nat} {ts:List (List Int×List Int)} {cs cs' : List AV} (h:RowsF g lo n B ts cs) {i:Nat} {t:List Int×List Int} {s1 s2:AV} (hl:cs'.length=cs.length) (h1:cs'[i * 2]?=some s1) (h2:cs'[i * 2+1]?=some s2) (ho:∀ j,j≠i * 2→j≠i * 2+1→cs'[j]?=cs[j]?) (w1:SafeW g lo n B t.1 s1) (w2:SafeW g lo n B t.2 s2) : RowsF g lo n B (ts.set i t) cs':=by
 refine ⟨by rw [hl,List.length_set]; exact h.1,fun k hk=>?_⟩
 rw [List.length_set] at hk
 by_cases hki:i=k
 ·subst hki
  exact ⟨s1,s2,h1,h2,by simpa using w1,by simpa using w2⟩
 ·obtain ⟨r1,r2,e1,e2,e3,e4⟩:=h.2 k hk
  exact ⟨r1,r2,(ho _ (by omega) (by omega)).trans e1,(ho _ (by omega) (by omega)).trans e2,by rw [List.getElem_set_ne hki]; exact e3,by rw [List.getElem_set_ne hki]; exact e4⟩
theorem CloneV.keep {g g' : Nat→Option Blk} {lo n:Nat} {w:List Int} {sv:AV} (h:CloneV g lo n w sv) (hg:∀ a,lo≤a→a < n→g' a=g a) : CloneV g' lo n w sv:=by
 rcases h with ⟨rfl,rfl | ⟨m,h1,h2,rfl,h3⟩⟩ | ⟨hl,m,h1,h2,rfl,h3⟩
 ·exact .inl ⟨rfl,.inl rfl⟩
 ·exact .inl ⟨rfl,.inr ⟨m,h1,h2,rfl,(hg m h1 h2).trans h3⟩⟩
 ·exact .inr ⟨hl,m,h1,h2,rfl,(hg m h1 h2).trans h3⟩
theorem CloneV.one {g:Nat→Option Blk} {lo n:Nat} {w:List Int} {sv:AV} (h:CloneV g lo n w sv) : oneC sv=true∧cellsOf sv=[sv]:=by
 rcases h with ⟨rfl,rfl | ⟨m,h1,h2,rfl,h3⟩⟩ | ⟨hl,m,h1,h2,rfl,h3⟩ <;> exact ⟨rfl,rfl⟩
end Go.Ai
end
section
namespace Go.Ai
set_option maxRecDepth 10000
def valT:List (List Int×List Int)→List Int→Option Int
 | [],_=>none
 | t :: ts,w=>if w≠[]∧w.length≤t.1.length∧t.1.take w.length=w then some (t.2.getD (w.length - 1) 0) else valT ts w
def entT (V:List Int→Option Int) (ws:List (List Int)) (w:List Int) (i:Nat) : Int×Int:=match V (w++[(i:Int)]) with
 | none=>(-1,-1)
 | some o=>if o = -1 then (-1,-2) else (((ws.idxOf (w++[(i:Int)]) : Nat) : Int),o)
def rowW (V:List Int→Option Int) (ws:List (List Int)) (I:Nat) (w:List Int) : List (Int×Int):=(List.range I).map (entT V ws w)
def rowsT (V:List Int→Option Int) (ws:List (List Int)) (I:Nat) : List (List (Int×Int)):=ws.map (rowW V ws I)
structure Nod (V:List Int→Option Int) (ws:List (List Int)) : Prop where
 nd:ws.Nodup
 mem:∀ w,w∈ws↔w=[]∨∃ o,V w=some o∧o ≠ -1
 clo:∀ x j o,V (x++[j])=some o→x=[]∨∃ o',V x=some o'∧(o ≠ -1→o' ≠ -1)
theorem rowW_len {V:List Int→Option Int} {ws:List (List Int)} {I:Nat} {w:List Int} : (rowW V ws I w).length=I:=by simp [rowW]
theorem rowW_at {V:List Int→Option Int} {ws:List (List Int)} {I:Nat} {w:List Int} {i:Nat} (h:i < I) : (rowW V ws I w)[i]?=some (entT V ws w i):=by
 unfold rowW
 rw [List.getElem?_map,List.getElem?_range h]; rfl
theorem rowsT_len {V:List Int→Option Int} {ws:List (List Int)} {I:Nat} : (rowsT V ws I).length=ws.length:=by simp [rowsT]
theorem rowsT_at {V:List Int→Option Int} {ws:List (List Int)} {I k:Nat} (h:k < ws.length) : (rowsT V ws I).getD k []=rowW V ws I ws[k]:=by
 unfold rowsT
 rw [List.getD_eq_getElem?_getD,List.getElem?_map,List.getElem?_eq_getElem h]; rfl
theorem idx_at {ws:List (List Int)} {w:List Int} (h:w∈ws) : ∃ hl:ws.idxOf w < ws.length,ws[ws.idxOf w]=w:=by
 have hl:=List.idxOf_lt_length_of_mem h
 exact ⟨hl,List.getElem_idxOf hl⟩
theorem idx_app {ws us:List (List Int)} {w:List Int} (h:w∈ws) : (ws++us).idxOf w=ws.idxOf w:=by
 rw [List.idxOf_append,if_pos h]
theorem idx_new {ws:List (List Int)} {w:List Int} (h:w ∉ ws) : (ws++[w]).idxOf w=ws.length:=by
 rw [List.idxOf_append,if_neg h]; simp
def updV (V:List Int→Option Int) (x:List Int) (o:Int) : List Int→Option Int:=fun y=>if y=x then some ((V x).getD o) else V y
theorem updV_known {V:List Int→Option Int} {x:List Int} {o o' : Int} (h:V x=some o') : updV V x o=V:=by
 funext y
 unfold updV
 split
 ·rename_i h1; rw [h1,h]; rfl
 ·rfl
theorem updV_self {V:List Int→Option Int} {x:List Int} {o:Int} (h:V x=none) : updV V x o x=some o:=by unfold updV; rw [if_pos rfl,h]; rfl
theorem updV_ne {V:List Int→Option Int} {x y:List Int} {o:Int} (h:y≠x) : updV V x o y=V y:=if_neg h
theorem ent_upd {V:List Int→Option Int} {ws us:List (List Int)} {x w:List Int} {o:Int} {i:Nat} (hN:Nod V ws) (hw:w++[(i:Int)]≠x) : entT (updV V x o) (ws++us) w i=entT V ws w i:=by
 unfold entT
 rw [updV_ne hw]
 cases h:V (w++[(i:Int)]) with
 | none=>rfl
 | some o' =>
  dsimp only
  split
  ·rfl
  ·rename_i h1
   rw [idx_app ((hN.mem _).2 (.inr ⟨o',h,h1⟩))]
theorem snoc_inj {a b:List Int} {i j:Int} (h:a++[i]=b++[j]) : a=b∧i=j:=by
 have h1:=List.append_inj' h rfl
 exact ⟨h1.1,by have:=h1.2; simpa using this⟩
theorem row_other {V:List Int→Option Int} {ws us:List (List Int)} {I:Nat} {p w:List Int} {i:Int} {o:Int} (hN:Nod V ws) (hw:w≠p) : rowW (updV V (p++[i]) o) (ws++us) I w=rowW V ws I w:=by
 unfold rowW
 apply List.map_congr_left
 intro j hj
 exact ent_upd hN fun h=>hw (snoc_inj h).1
theorem row_self {V:List Int→Option Int} {ws us:List (List Int)} {I:Nat} {p:List Int} {i:Nat} {o:Int} (hN:Nod V ws) (hi:i < I) : rowW (updV V (p++[(i:Int)]) o) (ws++us) I p=(rowW V ws I p).set i (entT (updV V (p++[(i:Int)]) o) (ws++us) p i):=by
 apply List.ext_getElem?
 intro j
 by_cases hji:i=j
 ·subst hji
  rw [List.getElem?_set_self (by rw [rowW_len]; exact hi),rowW_at hi]
 ·rw [List.getElem?_set_ne hji]
  by_cases hj:j < I
  ·rw [rowW_at hj,rowW_at hj,ent_upd hN]
   intro h
   have:=(snoc_inj h).2
   omega
  ·rw [List.getElem?_eq_none (by rw [rowW_len]; omega),List.getElem?_eq_none (by rw [rowW_len]; omega)]
theorem rows_upd {V:List Int→Option Int} {ws:List (List Int)} {I:Nat} {p:List Int} {i:Nat} {o:Int} (us:List (List Int)) (hN:Nod V ws) (hp:p∈ws) (hi:i < I) :
  ws.map (rowW (updV V (p++[(i:Int)]) o) (ws++us) I)=(rowsT V ws I).set (ws.idxOf p) (((rowsT V ws I).getD (ws.idxOf p) []).set i (entT (updV V (p++[(i:Int)]) o) (ws++us) p i)):=by
 obtain ⟨hl,hat⟩:=idx_at hp
 apply List.ext_getElem?
 intro k
 by_cases hk:ws.idxOf p=k
 ·subst hk
  rw [List.getElem?_set_self (by rw [rowsT_len]; exact hl),List.getElem?_map,List.getElem?_eq_getElem hl,rowsT_at hl,hat]
  exact congrArg some (row_self hN hi)
 ·rw [List.getElem?_set_ne hk]
  by_cases hk2:k < ws.length
  ·unfold rowsT
   rw [List.getElem?_map,List.getElem?_map,List.getElem?_eq_getElem hk2]
   refine congrArg some (row_other hN fun h=>hk ?_)
   have:ws[ws.idxOf p]=ws[k]:=by rw [hat,h]
   exact (List.getElem_inj hN.nd).1 this
  ·rw [List.getElem?_eq_none (by rw [List.length_map]; omega),List.getElem?_eq_none (by rw [rowsT_len]; omega)]
theorem Nod.none_of {V:List Int→Option Int} {ws:List (List Int)} (hN:Nod V ws) {x:List Int} (hx:x≠[]) (h:V x=none) (j:Int) : V (x++[j])=none:=by
 cases h2:V (x++[j]) with
 | none=>rfl
 | some o =>
  rcases hN.clo x j o h2 with h3 | ⟨o',h3,_⟩
  ·exact absurd h3 hx
  ·rw [h] at h3; cases h3
theorem Nod.up {V:List Int→Option Int} {ws:List (List Int)} (hN:Nod V ws) {x:List Int} {j:Int} (h:x++[j]∈ws) : x∈ws:=by
 rcases (hN.mem _).1 h with h1 | ⟨o,h1,h2⟩
 ·simp at h1
 ·rcases hN.clo x j o h1 with h3 | ⟨o',h3,h4⟩
  ·exact (hN.mem x).2 (.inl h3)
  ·exact (hN.mem x).2 (.inr ⟨o',h3,h4 h2⟩)
theorem Nod.pre {V:List Int→Option Int} {ws:List (List Int)} (hN:Nod V ws) {x:List Int} : ∀ (n:Nat) (u:List Int),u.length=n→x++u∈ws→x∈ws
 | 0,u,hu,h=>by
  have:=List.length_eq_zero_iff.1 hu
  subst this
  rwa [List.append_nil] at h
 | n+1,u,hu,h=>by
  have hne:u≠[]:=fun e=>by rw [e] at hu; cases hu
  have e:=List.dropLast_concat_getLast hne
  rw [← e,← List.append_assoc] at h
  exact hN.pre n u.dropLast (by rw [List.length_dropLast]; omega) (hN.up h)
theorem Nod.updDead {V:List Int→Option Int} {ws:List (List Int)} (hN:Nod V ws) {p:List Int} {i:Int} (hp:p∈ws) (h:V (p++[i])=none) : Nod (updV V (p++[i]) (-1)) ws:=by
 refine ⟨hN.nd,fun w=>?_,fun y j o hy=>?_⟩
 ·by_cases hw:w=p++[i]
  ·subst hw
   rw [updV_self h]
   constructor
   ·intro h1
    rcases (hN.mem _).1 h1 with h2 | ⟨o,h2,_⟩
    ·simp at h2
    ·rw [h] at h2; cases h2
   ·rintro (h1 | ⟨o,h1,h2⟩)
    ·simp at h1
    ·cases h1; exact absurd rfl h2
  ·rw [updV_ne hw]; exact hN.mem w
 ·by_cases hyx:y++[j]=p++[i]
  ·obtain ⟨rfl,rfl⟩:=snoc_inj hyx
   rcases (hN.mem _).1 hp with h1 | ⟨o',h1,h2⟩
   ·exact .inl h1
   ·refine .inr ⟨o',?_,fun _=>h2⟩
    rw [updV_ne (fun e=>by have:=congrArg List.length e; simp at this)]; exact h1
  ·rw [updV_ne hyx] at hy
   rcases hN.clo y j o hy with h1 | ⟨o',h1,h2⟩
   ·exact .inl h1
   ·refine .inr ⟨o',?_,h2⟩
    rw [updV_ne (fun e=>by rw [e,h] at h1; cases h1)]; exact h1
theorem Nod.updNew {V:List Int→Option Int} {ws:List (List Int)} (hN:Nod V ws) {p:List Int} {i o:Int} (hp:p∈ws) (h:V (p++[i])=none) (ho:o ≠ -1) : Nod (updV V (p++[i]) o) (ws++[p++[i]]):=by
 have hx:p++[i] ∉ ws:=fun h1=>by
  rcases (hN.mem _).1 h1 with h2 | ⟨o,h2,_⟩
  ·simp at h2
  ·rw [h] at h2; cases h2
 refine ⟨?_,fun w=>?_,fun y j o' hy=>?_⟩
 ·rw [List.nodup_append]
  refine ⟨hN.nd,by simp,fun a ha b hb e=>?_⟩
  rw [List.mem_singleton] at hb
  rw [← hb,← e] at hx
  exact hx ha
 ·rw [List.mem_append,List.mem_singleton]
  by_cases hw:w=p++[i]
  ·subst hw
   rw [updV_self h]
   exact ⟨fun _=>.inr ⟨o,rfl,ho⟩,fun _=>.inr rfl⟩
  ·rw [updV_ne hw]
   constructor
   ·rintro (h1 | h1)
    ·exact (hN.mem w).1 h1
    ·exact absurd h1 hw
   ·intro h1; exact .inl ((hN.mem w).2 h1)
 ·by_cases hyx:y++[j]=p++[i]
  ·obtain ⟨rfl,rfl⟩:=snoc_inj hyx
   rcases (hN.mem _).1 hp with h1 | ⟨o',h1,h2⟩
   ·exact .inl h1
   ·refine .inr ⟨o',?_,fun _=>h2⟩
    rw [updV_ne (fun e=>by have:=congrArg List.length e; simp at this)]; exact h1
  ·rw [updV_ne hyx] at hy
   rcases hN.clo y j o' hy with h1 | ⟨o'',h1,h2⟩
   ·exact .inl h1
   ·refine .inr ⟨o'',?_,h2⟩
    rw [updV_ne (fun e=>by rw [e,h] at h1; cases h1)]; exact h1
def addV:(List Int→Option Int)→List Int→List Int→List Int→List Int→Option Int
 | V,p,i :: w,o :: r=>addV (updV V (p++[i]) o) (p++[i]) w r
 | V,_,_,_=>V
theorem addV_keep:∀ (w r:List Int) (V:List Int→Option Int) (p y:List Int) (o:Int),V y=some o→addV V p w r y=some o
 | [],_,_,_,_,_,h=>h
 | _ :: _,[],_,_,_,_,h=>h
 | i :: w,o' :: r,V,p,y,o,h=>by
  refine addV_keep w r _ _ y o ?_
  by_cases hy:y=p++[i]
  ·rw [updV_known (hy ▸ h)]; exact h
  ·rw [updV_ne hy]; exact h
theorem take_cons_app {p:List Int} {i:Int} {w:List Int} {k:Nat} : p++(i :: w).take (k+1)=(p++[i])++w.take k:=by
 rw [List.take_succ_cons,List.append_assoc]; rfl
theorem addV_some:∀ (w r:List Int) (V:List Int→Option Int) (p:List Int) (k:Nat),r.length=w.length→k < w.length→∃ o,addV V p w r (p++w.take (k+1))=some o
 | [],_,_,_,_,_,h=>by cases h
 | _ :: _,[],_,_,_,h,_=>by cases h
 | i :: w,o :: r,V,p,0,_,_=>by
  show ∃ o',addV (updV V (p++[i]) o) (p++[i]) w r _=some o'
  rw [take_cons_app,List.take_zero,List.append_nil]
  cases h:V (p++[i]) with
  | none=>exact ⟨o,addV_keep _ _ _ _ _ _ (updV_self h)⟩
  | some o'=>exact ⟨o',addV_keep _ _ _ _ _ _ (by rw [updV_known h]; exact h)⟩
 | i :: w,o :: r,V,p,k+1,hl,hk=>by
  show ∃ o',addV (updV V (p++[i]) o) (p++[i]) w r _=some o'
  rw [take_cons_app]
  exact addV_some w r _ _ k (by simpa using hl) (by simpa using hk)
theorem addV_dead:∀ (w r:List Int) (V:List Int→Option Int) (p y:List Int),r.length=w.length→(∀ k,k < r.length→r.getD k 0 = -1)→addV V p w r y=V y∨(V y=none∧addV V p w r y=some (-1)∧∃ k,k < w.length∧y=p++w.take (k+1))
 | [],_,_,_,_,_,_=>.inl rfl
 | _ :: _,[],_,_,_,h,_=>by cases h
 | i :: w,o :: r,V,p,y,hl,hd=>by
  have ho:o = -1:=hd 0 (by simp)
  subst ho
  show addV (updV V (p++[i]) (-1)) (p++[i]) w r y=V y∨(V y=none∧addV (updV V (p++[i]) (-1)) (p++[i]) w r y=some (-1)∧_)
  rcases addV_dead w r (updV V (p++[i]) (-1)) (p++[i]) y (by simpa using hl) (fun k hk=>hd (k+1) (by simpa using hk)) with h | ⟨h1,h2,k,hk,h3⟩
  ·by_cases hy:y=p++[i]
   ·cases hv:V y with
    | none =>
     refine .inr ⟨rfl,?_,0,by simp,by rw [take_cons_app,List.take_zero,List.append_nil]; exact hy⟩
     rw [h,hy,updV_self (hy ▸ hv)]
    | some o=>left; rw [h,updV_known (hy ▸ hv),hv]
   ·left; rw [h,updV_ne hy]
  ·have hy:y≠p++[i]:=fun e=>by
    have h4:=congrArg List.length (h3.symm.trans e)
    rw [List.length_append,List.length_take] at h4
    omega
   rw [updV_ne hy] at h1
   exact .inr ⟨h1,h2,k+1,by simpa using hk,by rw [take_cons_app]; exact h3⟩
theorem okR_all {O:Int} : ∀ (r:List Int) (k:Nat),okR O true r=true→k < r.length→r.getD k 0 = -1
 | [],_,_,hk=>by cases hk
 | o :: r,0,h,_=>(okR_inv h).2.2.1 rfl
 | o :: r,k+1,h,hk=>by
  obtain ⟨_,_,h3,h4⟩:=okR_inv h
  rw [h3 rfl] at h4
  exact okR_all r k h4 (by simpa using hk)
theorem dead_rows {V:List Int→Option Int} {ws:List (List Int)} {I:Nat} (hN:Nod V ws) {x w r:List Int} (hx:V x=some (-1)) (hx0:x≠[]) (hl:r.length=w.length) (hd:∀ k,k < r.length→r.getD k 0 = -1) : rowsT (addV V x w r) ws I=rowsT V ws I∧Nod (addV V x w r) ws:=by
 have hxw:x ∉ ws:=fun h=>by
  rcases (hN.mem _).1 h with h1 | ⟨o,h1,h2⟩
  ·exact hx0 h1
  ·rw [hx] at h1; cases h1; exact h2 rfl
 have key:∀ v∈ws,∀ j:Int,addV V x w r (v++[j])=V (v++[j]):=fun v hv j=>by
  rcases addV_dead w r V x (v++[j]) hl hd with h | ⟨h1,h2,k,hk,h3⟩
  ·exact h
  ·exfalso
   have h4:v=x++w.take k:=by
    have h5:w.take (k+1)=w.take k++[w[k]]:=take_snoc hk
    rw [h5,← List.append_assoc] at h3
    exact (snoc_inj h3).1
   rw [h4] at hv
   exact hxw (hN.pre _ _ rfl hv)
 constructor
 ·unfold rowsT
  apply List.map_congr_left
  intro v hv
  unfold rowW
  apply List.map_congr_left
  intro j hj
  unfold entT
  rw [key v hv]
 ·refine ⟨hN.nd,fun v=>?_,fun y j o hy=>?_⟩
  ·rw [hN.mem v]
   rcases addV_dead w r V x v hl hd with h | ⟨h1,h2,_⟩
   ·rw [h]
   ·rw [h1,h2]
    constructor
    ·rintro (h | ⟨o,h,_⟩)
     ·exact .inl h
     ·cases h
    ·rintro (h | ⟨o,h,h3⟩)
     ·exact .inl h
     ·cases h; exact absurd rfl h3
  ·rcases addV_dead w r V x (y++[j]) hl hd with h | ⟨h1,h2,k,hk,h3⟩
   ·rw [h] at hy
    rcases hN.clo y j o hy with h1 | ⟨o',h1,h2⟩
    ·exact .inl h1
    ·exact .inr ⟨o',addV_keep _ _ _ _ _ _ h1,h2⟩
   ·rw [h2] at hy
    cases hy
    have h4:y=x++w.take k:=by
     have h5:w.take (k+1)=w.take k++[w[k]]:=take_snoc hk
     rw [h5,← List.append_assoc] at h3
     exact (snoc_inj h3).1
    cases k with
    | zero =>
     rw [List.take_zero,List.append_nil] at h4
     rw [h4]
     exact .inr ⟨-1,addV_keep _ _ _ _ _ _ hx,fun h=>absurd rfl h⟩
    | succ k =>
     obtain ⟨o',ho'⟩:=addV_some w r V x k hl (by omega)
     rw [← h4] at ho'
     exact .inr ⟨o',ho',fun h=>absurd rfl h⟩
def enterM (I:Nat) : List (List (Int×Int))→Nat→List Int→List Int→List (List (Int×Int))
 | rows,at',i :: w,o :: r =>
  if o = -1 then rows.set at' ((rows.getD at' []).set i.toNat (-1,-2))
  else if ((rows.getD at' []).getD i.toNat (-1,-1)).1 = -1 then enterM I (rows.set at' ((rows.getD at' []).set i.toNat ((rows.length:Int),o))++[List.replicate I (-1,-1)]) rows.length w r
  else enterM I rows ((rows.getD at' []).getD i.toNat (-1,-1)).1.toNat w r
 | rows,_,_,_=>rows
theorem enter_ok {O:Int} {I:Nat} : ∀ (w r:List Int) (V:List Int→Option Int) (ws:List (List Int)) (p:List Int),Nod V ws→p∈ws→inW w I=true→okR O false r=true→r.length=w.length →
  (∀ k,k < w.length→∀ o',V (p++w.take (k+1))=some o'→o'=r.getD k 0)→∃ us,Nod (addV V p w r) (ws++us)∧enterM I (rowsT V ws I) (ws.idxOf p) w r=rowsT (addV V p w r) (ws++us) I
 | [],_,V,ws,p,hN,_,_,_,_,_=>⟨[],by rw [List.append_nil]; exact hN,by rw [List.append_nil]; rfl⟩
 | _ :: _,[],_,_,_,_,_,_,_,h,_=>by cases h
 | i :: w,o :: r,V,ws,p,hN,hp,hw,hr,hl,hc=>by
  unfold inW at hw
  rw [List.all_cons,Bool.and_eq_true] at hw
  have hi:=of_decide_eq_true hw.1
  obtain ⟨a,rfl⟩ : ∃ a:Nat,i=a:=⟨i.toNat,by omega⟩
  have ha:a < I:=by omega
  obtain ⟨hr1,hr2,_,hr4⟩:=okR_inv hr
  have hl' : r.length=w.length:=by simpa using hl
  obtain ⟨hpl,hpat⟩:=idx_at hp
  have hc0:∀ o',V (p++[(a:Int)])=some o'→o'=o:=fun o' h=>by
   have:=hc 0 (by simp) o' (by rw [take_cons_app,List.take_zero,List.append_nil]; exact h)
   exact this
  have hrow:(rowsT V ws I).getD (ws.idxOf p) []=rowW V ws I p:=by rw [rowsT_at hpl,hpat]
  have hent:(rowW V ws I p).getD a (-1,-1)=entT V ws p a:=by rw [List.getD_eq_getElem?_getD,rowW_at ha]; rfl
  have hxne:p++[(a:Int)]≠[]:=by simp
  have hc1:∀ k,k < w.length→∀ o',updV V (p++[(a:Int)]) o ((p++[(a:Int)])++w.take (k+1))=some o'→o'=r.getD k 0:=fun k hk o' h=>by
   rw [updV_ne (fun e=>by have h4:=congrArg List.length e; rw [List.length_append,List.length_take] at h4; omega)] at h
   have:=hc (k+1) (by simpa using hk) o' (by rw [take_cons_app]; exact h)
   exact this
  show ∃ us,Nod (addV (updV V (p++[(a:Int)]) o) (p++[(a:Int)]) w r) (ws++us)∧(if o = -1 then (rowsT V ws I).set (ws.idxOf p) (((rowsT V ws I).getD (ws.idxOf p) []).set (a:Int).toNat (-1,-2))
   else if (((rowsT V ws I).getD (ws.idxOf p) []).getD (a:Int).toNat (-1,-1)).1 = -1 then enterM I ((rowsT V ws I).set (ws.idxOf p) (((rowsT V ws I).getD (ws.idxOf p) []).set (a:Int).toNat (((rowsT V ws I).length:Int),o))++[List.replicate I (-1,-1)]) (rowsT V ws I).length w r
   else enterM I (rowsT V ws I) (((rowsT V ws I).getD (ws.idxOf p) []).getD (a:Int).toNat (-1,-1)).1.toNat w r)=rowsT (addV (updV V (p++[(a:Int)]) o) (p++[(a:Int)]) w r) (ws++us) I
  rw [Int.toNat_natCast]
  by_cases ho:o = -1
  ·subst ho
   rw [if_pos rfl]
   have hd:∀ k,k < r.length→r.getD k 0 = -1:=fun k hk=>okR_all r k (by rw [decide_eq_true rfl] at hr4; exact hr4) hk
   have hx1:updV V (p++[(a:Int)]) (-1) (p++[(a:Int)])=some (-1):=by
    cases h:V (p++[(a:Int)]) with
    | none=>exact updV_self h
    | some o'=>rw [updV_known h,h,hc0 o' h]
   have hN1:Nod (updV V (p++[(a:Int)]) (-1)) ws:=by
    cases h:V (p++[(a:Int)]) with
    | none=>exact hN.updDead hp h
    | some o'=>rw [updV_known h]; exact hN
   obtain ⟨d1,d2⟩:=dead_rows (I:=I) hN1 hx1 hxne hl' hd
   refine ⟨[],by rw [List.append_nil]; exact d2,?_⟩
   rw [List.append_nil,d1]
   have h1:=rows_upd (I:=I) (o:=-1) [] hN hp ha
   rw [List.append_nil] at h1
   have h2:entT (updV V (p++[(a:Int)]) (-1)) ws p a=(-1,-2):=by unfold entT; rw [hx1]; rfl
   rw [h2] at h1
   exact h1.symm
  ·rw [if_neg ho,hrow,hent]
   have hr4' : okR O false r=true:=by rw [decide_eq_false ho] at hr4; exact hr4
   cases h:V (p++[(a:Int)]) with
   | none =>
    have he:entT V ws p a=(-1,-1):=by unfold entT; rw [h]
    rw [he,if_pos rfl]
    have hxw:p++[(a:Int)] ∉ ws:=fun h1=>by
     rcases (hN.mem _).1 h1 with h2 | ⟨o',h2,_⟩
     ·simp at h2
     ·rw [h] at h2; cases h2
    have hN1:=hN.updNew hp h ho
    have h1:=rows_upd (I:=I) (o:=o) [p++[(a:Int)]] hN hp ha
    have h2:entT (updV V (p++[(a:Int)]) o) (ws++[p++[(a:Int)]]) p a=((ws.length:Int),o):=by
     unfold entT; rw [updV_self h]; dsimp only; rw [if_neg ho,idx_new hxw]
    rw [h2,hrow] at h1
    have h3:rowW (updV V (p++[(a:Int)]) o) (ws++[p++[(a:Int)]]) I (p++[(a:Int)])=List.replicate I (-1,-1):=by
     unfold rowW
     rw [List.eq_replicate_iff]
     refine ⟨by simp,fun b hb=>?_⟩
     obtain ⟨j,_,rfl⟩:=List.mem_map.1 hb
     unfold entT
     rw [updV_ne (by intro e; have:=congrArg List.length e; simp at this),hN.none_of hxne h]
    have h4:(rowsT V ws I).set (ws.idxOf p) ((rowW V ws I p).set a (((rowsT V ws I).length:Int),o))++[List.replicate I (-1,-1)]=rowsT (updV V (p++[(a:Int)]) o) (ws++[p++[(a:Int)]]) I:=by
     rw [rowsT_len,← h1,← h3]
     unfold rowsT
     rw [List.map_append]; rfl
    rw [h4]
    have h5:(rowsT V ws I).length=(ws++[p++[(a:Int)]]).idxOf (p++[(a:Int)]):=by rw [rowsT_len,idx_new hxw]
    rw [h5]
    obtain ⟨us,e1,e2⟩:=enter_ok w r _ _ (p++[(a:Int)]) hN1 (by simp) hw.2 hr4' hl' hc1
    exact ⟨[p++[(a:Int)]]++us,by rw [← List.append_assoc]; exact e1,by rw [← List.append_assoc]; exact e2⟩
   | some o' =>
    have hoo:=hc0 o' h
    subst hoo
    have hxw:p++[(a:Int)]∈ws:=(hN.mem _).2 (.inr ⟨o',h,ho⟩)
    have he:entT V ws p a=(((ws.idxOf (p++[(a:Int)]) : Nat) : Int),o'):=by unfold entT; rw [h]; dsimp only; rw [if_neg ho]
    rw [he,if_neg (by show ¬((ws.idxOf (p++[(a:Int)]) : Nat) : Int) = -1; omega)]
    rw [updV_known h] at hc1 ⊢
    obtain ⟨us,e1,e2⟩:=enter_ok w r V ws (p++[(a:Int)]) hN hxw hw.2 hr4' hl' hc1
    exact ⟨us,e1,by rw [show ((ws.idxOf (p++[(a:Int)]) : Nat) : Int).toNat=ws.idxOf (p++[(a:Int)]) from Int.toNat_natCast _]; exact e2⟩
theorem valT_snoc (t:List Int×List Int) (w:List Int) : ∀ (ts:List (List Int×List Int)),valT (ts++[t]) w=match valT ts w with
  | some o=>some o
  | none=>if w≠[]∧w.length≤t.1.length∧t.1.take w.length=w then some (t.2.getD (w.length - 1) 0) else none
 | []=>rfl
 | u :: ts=>by
  show (if w≠[]∧w.length≤u.1.length∧u.1.take w.length=w then some (u.2.getD (w.length - 1) 0) else valT (ts++[t]) w)=_
  by_cases h:w≠[]∧w.length≤u.1.length∧u.1.take w.length=w
  ·have e:valT (u :: ts) w=some (u.2.getD (w.length - 1) 0):=if_pos h
   rw [if_pos h,e]
  ·have e:valT (u :: ts) w=valT ts w:=if_neg h
   rw [if_neg h,e]
   exact valT_snoc t w ts
theorem addV_eq:∀ (w r:List Int) (V:List Int→Option Int) (p y:List Int),r.length=w.length→addV V p w r y=match V y with
  | some o=>some o
  | none=>if p.length < y.length∧y.length≤p.length+w.length∧(p++w).take y.length=y then some (r.getD (y.length - p.length - 1) 0) else none
 | [],_,V,p,y,_=>by
  show V y=_
  cases V y with
  | some o=>rfl
  | none =>
   dsimp only
   rw [if_neg]
   rintro ⟨h1,h2,_⟩
   rw [List.length_nil] at h2; omega
 | _ :: _,[],_,_,_,h=>by cases h
 | i :: w,o :: r,V,p,y,hl=>by
  show addV (updV V (p++[i]) o) (p++[i]) w r y=_
  rw [addV_eq w r _ _ y (by simpa using hl)]
  have hla:(p++[i]).length=p.length+1:=by simp
  by_cases hy:y=p++[i]
  ·cases hv:V y with
   | some o'=>rw [updV_known (hy ▸ hv),hv]
   | none =>
    have h1:updV V (p++[i]) o y=some o:=by rw [hy]; exact updV_self (hy ▸ hv)
    rw [h1]
    dsimp only
    have hyl:y.length=p.length+1:=by rw [hy]; exact hla
    have hpt:(p++i :: w).take y.length=y:=by
     rw [hyl,List.take_append,show p.length+1 - p.length=1 by omega,List.take_of_length_le (by omega),hy]
     rfl
    rw [if_pos ⟨by omega,by rw [List.length_cons]; omega,hpt⟩,hyl,show p.length+1 - p.length - 1=0 by omega]
    rfl
  ·rw [updV_ne hy]
   cases hv:V y with
   | some o'=>rfl
   | none =>
    dsimp only
    have hass:(p++[i])++w=p++i :: w:=by simp
    rw [hla,hass]
    by_cases hc:p.length+1 < y.length∧y.length≤p.length+1+w.length∧(p++i :: w).take y.length=y
    ·rw [if_pos hc,if_pos ⟨by omega,by simp; omega,hc.2.2⟩]
     rw [show y.length - p.length - 1=(y.length - (p.length+1) - 1)+1 by omega]
     rfl
    ·rw [if_neg hc,if_neg]
     rintro ⟨h1,h2,h3⟩
     simp at h2
     by_cases h4:y.length=p.length+1
     ·apply hy
      rw [← h3,h4,List.take_append,show p.length+1 - p.length=1 by omega,List.take_of_length_le (by omega)]
      rfl
     ·exact hc ⟨by omega,by omega,h3⟩
theorem addV_val {ts:List (List Int×List Int)} {t:List Int×List Int} (hl:t.2.length=t.1.length) : addV (valT ts) [] t.1 t.2=valT (ts++[t]):=by
 funext y
 rw [addV_eq _ _ _ _ _ hl,valT_snoc]
 cases valT ts y with
 | some o=>rfl
 | none =>
  dsimp only
  rw [List.nil_append,List.length_nil,Nat.zero_add,Nat.sub_zero]
  by_cases h:y=[]
  ·subst h
   rw [if_neg (by simp),if_neg (by simp)]
  ·have h1:0 < y.length:=List.length_pos_iff.2 h
   by_cases h2:y.length≤t.1.length∧t.1.take y.length=y
   ·rw [if_pos ⟨h1,h2⟩,if_pos ⟨h,h2⟩]
   ·rw [if_neg (fun h3=>h2 h3.2),if_neg (fun h3=>h2 h3.2)]
def Cons (ts:List (List Int×List Int)) : Prop:=∀ u∈ts,∀ t∈ts,∀ k,k < u.1.length→k < t.1.length→u.1.take (k+1)=t.1.take (k+1)→u.2.getD k 0=t.2.getD k 0
theorem stepL_iff:∀ (x a y b:List Int) (k:Nat),a.length=x.length→b.length=y.length→(stepL x a y b k=none↔∀ j,j < x.length→j < y.length→x.take (j+1)=y.take (j+1)→a.getD j 0=b.getD j 0)
 | [],_,_,_,_,_,_=>⟨fun _ j h=>(by cases h),fun _=>rfl⟩
 | _ :: _,[],_,_,_,h,_=>by cases h
 | _ :: _,_ :: _,[],_,_,_,_=>⟨fun _ j _ h=>(by cases h),fun _=>rfl⟩
 | _ :: _,_ :: _,_ :: _,[],_,_,h=>by cases h
 | i :: x,p :: a,j :: y,q :: b,k,ha,hb=>by
  have ih:=stepL_iff x a y b (k+1) (by simpa using ha) (by simpa using hb)
  show ((if i=j then (if p=q then stepL x a y b (k+1) else some k) else none)=none↔_)
  by_cases h:i=j
  ·subst h
   rw [if_pos rfl]
   by_cases h2:p=q
   ·subst h2
    rw [if_pos rfl,ih]
    constructor
    ·intro h3 m hm1 hm2 hm3
     cases m with
     | zero=>rfl
     | succ m =>
      rw [List.take_succ_cons,List.take_succ_cons] at hm3
      exact h3 m (by simpa using hm1) (by simpa using hm2) (by simpa using hm3)
    ·intro h3 m hm1 hm2 hm3
     exact h3 (m+1) (by simpa using hm1) (by simpa using hm2) (by rw [List.take_succ_cons,List.take_succ_cons,hm3])
   ·rw [if_neg h2]
    constructor
    ·intro h3; cases h3
    ·intro h3; exact absurd (h3 0 (by simp) (by simp) (by simp)) h2
  ·rw [if_neg h]
   constructor
   ·intro _ m _ _ hm3
    rw [List.take_succ_cons,List.take_succ_cons] at hm3
    exact absurd (List.cons.inj hm3).1 h
   ·intro _; rfl
theorem conA_iff (t:List Int×List Int) : ∀ (us:List (List Int×List Int)) (a:Nat),conA t us a=none↔∀ u∈us,stepL u.1 u.2 t.1 t.2 0=none
 | [],_=>⟨fun _ u hu=>(by cases hu),fun _=>rfl⟩
 | u :: us,a=>by
  have ih:=conA_iff t us (a+1)
  have e:conA t (u :: us) a=match stepL u.1 u.2 t.1 t.2 0 with | some k=>some (a,k) | none=>conA t us (a+1):=rfl
  rw [e]
  cases h:stepL u.1 u.2 t.1 t.2 0 with
  | some k =>
   constructor
   ·intro h2; cases h2
   ·intro h2; have:=h2 u (by simp); rw [h] at this; cases this
  | none =>
   dsimp only
   rw [ih]
   constructor
   ·intro h2 v hv
    rcases List.mem_cons.1 hv with rfl | hv
    ·exact h
    ·exact h2 v hv
   ·intro h2 v hv; exact h2 v (by simp [hv])
theorem conB_iff (ts:List (List Int×List Int)) : ∀ (us:List (List Int×List Int)) (b:Nat),conB ts us b=none↔∀ (i:Nat) (h:i < us.length),∀ u∈ts.take (b+i),stepL u.1 u.2 us[i].1 us[i].2 0=none
 | [],_=>⟨fun _ i hi=>(by cases hi),fun _=>rfl⟩
 | t :: us,b=>by
  have ih:=conB_iff ts us (b+1)
  have e:conB ts (t :: us) b=match conA t (ts.take b) 0 with | some (a,k)=>some (a,b,k) | none=>conB ts us (b+1):=rfl
  rw [e]
  cases h:conA t (ts.take b) 0 with
  | some x =>
   constructor
   ·intro h2; cases h2
   ·intro h2
    have h3:=(conA_iff t (ts.take b) 0).2 fun u hu=>h2 0 (by simp) u hu
    rw [h] at h3; cases h3
  | none =>
   dsimp only
   rw [ih]
   constructor
   ·intro h2 i hi u hu
    cases i with
    | zero=>exact (conA_iff t (ts.take b) 0).1 h u hu
    | succ i=>exact h2 i (by simpa using hi) u (by rw [show b+1+i=b+(i+1) by omega]; exact hu)
   ·intro h2 i hi u hu
    exact h2 (i+1) (by simpa using hi) u (by rw [show b+(i+1)=b+1+i by omega]; exact hu)
theorem cons_iff {ts:List (List Int×List Int)} (hl:∀ t∈ts,t.2.length=t.1.length) : conB ts ts 0=none↔Cons ts:=by
 rw [conB_iff]
 constructor
 ·intro h
  have key:∀ (a b:Nat) (ha:a < ts.length) (hb:b < ts.length),a < b→∀ k,k < ts[a].1.length→k < ts[b].1.length→ts[a].1.take (k+1)=ts[b].1.take (k+1)→ts[a].2.getD k 0=ts[b].2.getD k 0:=fun a b ha hb hab=>by
   have h1:=h b hb ts[a] (by
    rw [Nat.zero_add,List.mem_iff_getElem]
    exact ⟨a,by rw [List.length_take]; omega,by rw [List.getElem_take]⟩)
   exact (stepL_iff _ _ _ _ _ (hl _ (List.getElem_mem ha)) (hl _ (List.getElem_mem hb))).1 h1
  intro u hu t ht k h1 h2 h3
  obtain ⟨a,ha,rfl⟩:=List.mem_iff_getElem.1 hu
  obtain ⟨b,hb,rfl⟩:=List.mem_iff_getElem.1 ht
  rcases Nat.lt_trichotomy a b with hab | hab | hab
  ·exact key a b ha hb hab k h1 h2 h3
  ·subst hab; rfl
  ·exact (key b a hb ha hab k h2 h1 h3.symm).symm
 ·intro h i hi u hu
  have hu':=List.mem_of_mem_take hu
  exact (stepL_iff _ _ _ _ _ (hl _ hu') (hl _ (List.getElem_mem hi))).2 fun j=>h u hu' _ (List.getElem_mem hi) j
theorem valT_of {w:List Int} {o:Int} : ∀ {ts:List (List Int×List Int)},valT ts w=some o→∃ u∈ts,w≠[]∧w.length≤u.1.length∧u.1.take w.length=w∧o=u.2.getD (w.length - 1) 0
 | [],h=>by cases h
 | t :: ts,h=>by
  by_cases hc:w≠[]∧w.length≤t.1.length∧t.1.take w.length=w
  ·have e:valT (t :: ts) w=some (t.2.getD (w.length - 1) 0):=if_pos hc
   rw [e] at h
   cases h
   exact ⟨t,by simp,hc.1,hc.2.1,hc.2.2,rfl⟩
  ·have e:valT (t :: ts) w=valT ts w:=if_neg hc
   rw [e] at h
   obtain ⟨u,h1,h2⟩:=valT_of h
   exact ⟨u,by simp [h1],h2⟩
theorem valT_mem {ts:List (List Int×List Int)} (hc:Cons ts) {t:List Int×List Int} (ht:t∈ts) {k:Nat} (hk:k < t.1.length) : valT ts (t.1.take (k+1))=some (t.2.getD k 0):=by
 have hlen:(t.1.take (k+1)).length=k+1:=by rw [List.length_take]; omega
 have hne:t.1.take (k+1)≠[]:=fun e=>by rw [e] at hlen; cases hlen
 have hsome:∀ us:List (List Int×List Int),t∈us→∃ o,valT us (t.1.take (k+1))=some o:=by
  intro us
  induction us with
  | nil=>intro h; cases h
  | cons u us ih =>
   intro h
   by_cases hcc:t.1.take (k+1)≠[]∧(t.1.take (k+1)).length≤u.1.length∧u.1.take (t.1.take (k+1)).length=t.1.take (k+1)
   ·exact ⟨_,if_pos hcc⟩
   ·rcases List.mem_cons.1 h with rfl | h
    ·exact absurd ⟨hne,by rw [hlen]; omega,by rw [hlen]⟩ hcc
    ·obtain ⟨o,ho⟩:=ih h
     exact ⟨o,(if_neg hcc).trans ho⟩
 obtain ⟨o,ho⟩:=hsome ts ht
 obtain ⟨u,h1,_,h3,h4,h5⟩:=valT_of ho
 rw [hlen] at h3 h4 h5
 rw [ho,h5,Nat.add_sub_cancel]
 exact congrArg some (hc u h1 t ht k (by omega) hk h4)
theorem Cons.sub {ts us:List (List Int×List Int)} (h:Cons us) (hs:∀ t∈ts,t∈us) : Cons ts:=fun u hu t ht=>h u (hs u hu) t (hs t ht)
def treeM (I:Nat) (ts:List (List Int×List Int)) : List (List (Int×Int)):=ts.foldl (fun rows t=>enterM I rows 0 t.1 t.2) [List.replicate I (-1,-1)]
theorem tree_ok {I:Nat} {O:Int} : ∀ (n:Nat) (ts:List (List Int×List Int)),ts.length=n→Cons ts→(∀ t∈ts,validB I O t=true)→∃ us,Nod (valT ts) ([] :: us)∧treeM I ts=rowsT (valT ts) ([] :: us) I
 | 0,ts,hn,_,_=>by
  have e:=List.length_eq_zero_iff.1 hn
  subst e
  refine ⟨[],⟨by simp,fun w=>?_,fun x j o h=>by cases h⟩,?_⟩
  ·rw [List.mem_singleton]
   constructor
   ·intro h; exact .inl h
   ·rintro (h | ⟨o,h,_⟩)
    ·exact h
    ·cases h
  ·show [List.replicate I (-1,-1)]=[rowW (valT []) [[]] I []]
   congr 1
   unfold rowW
   symm
   rw [List.eq_replicate_iff]
   refine ⟨by simp,fun b hb=>?_⟩
   obtain ⟨j,_,rfl⟩:=List.mem_map.1 hb
   rfl
 | n+1,ts,hn,hc,hv=>by
  have hne:ts≠[]:=fun e=>by rw [e] at hn; cases hn
  have e:=List.dropLast_concat_getLast hne
  generalize ts.getLast hne=t at e
  generalize ts.dropLast=us at e
  subst e
  have hlu:us.length=n:=by rw [List.length_append] at hn; simpa using hn
  obtain ⟨vs,h1,h2⟩:=tree_ok n us hlu (hc.sub fun t ht=>by simp [ht]) fun t ht=>hv t (by simp [ht])
  have hvt:=hv t (by simp)
  unfold validB at hvt
  rw [Bool.and_eq_true,Bool.and_eq_true] at hvt
  have hlt:=of_decide_eq_true hvt.1.1
  obtain ⟨ks,h3,h4⟩:=enter_ok (O:=O) (I:=I) t.1 t.2 (valT us) ([] :: vs) [] h1 (by simp) hvt.1.2 hvt.2 hlt fun k hk o' ho'=>by
   rw [List.nil_append] at ho'
   obtain ⟨u,g1,_,g3,g4,g5⟩:=valT_of ho'
   have hlen:(t.1.take (k+1)).length=k+1:=by rw [List.length_take]; omega
   rw [hlen] at g3 g4 g5
   rw [g5,Nat.add_sub_cancel]
   exact hc u (by simp [g1]) t (by simp) k (by omega) hk g4
  rw [addV_val hlt] at h3 h4
  refine ⟨vs++ks,h3,?_⟩
  have e1:treeM I (us++[t])=enterM I (treeM I us) 0 t.1 t.2:=by unfold treeM; rw [List.foldl_append]; rfl
  rw [e1,h2]
  have e2:([] :: vs).idxOf ([] : List Int)=0:=by simp
  rw [e2] at h4
  exact h4
def Srt2 (ws:List (List Int)) : Prop:=∀ (a b:Nat) (ha:a < ws.length) (hb:b < ws.length),a < b→SL ws[a] ws[b]
theorem Srt2.nodup {ws:List (List Int)} (h:Srt2 ws) : ws.Nodup :=
 List.pairwise_iff_getElem.2 fun i j hi hj hij e=>by
  have h1:=h i j hi hj hij
  rw [e] at h1
  exact SL.irrefl h1
theorem Srt2.snoc {ws:List (List Int)} (h:Srt2 ws) {x:List Int} (hx:∀ w∈ws,SL w x) : Srt2 (ws++[x]):=by
 intro a b ha hb hab
 rw [List.length_append,List.length_singleton] at ha hb
 by_cases hb2:b < ws.length
 ·rw [List.getElem_append_left (by omega),List.getElem_append_left hb2]
  exact h a b (by omega) hb2 hab
 ·have e:b=ws.length:=by omega
  subst e
  rw [List.getElem_append_left (by omega),List.getElem_append_right (Nat.le_refl _)]
  simp
  exact hx _ (List.getElem_mem _)
def chL (V:List Int→Option Int) (w:List Int) : List Nat→List (List Int)
 | []=>[]
 | i :: l=>match V (w++[(i:Int)]) with
  | none=>chL V w l
  | some o=>if o = -1 then chL V w l else (w++[(i:Int)]) :: chL V w l
theorem chL_mem {V:List Int→Option Int} {w x:List Int} : ∀ {l:List Nat},x∈chL V w l↔∃ i∈l,x=w++[(i:Int)]∧∃ o,V x=some o∧o ≠ -1
 | []=>by simp [chL]
 | i :: l=>by
  have ih:=@chL_mem V w x l
  unfold chL
  cases h:V (w++[(i:Int)]) with
  | none =>
   dsimp only
   rw [ih]
   constructor
   ·rintro ⟨j,h1,h2⟩; exact ⟨j,by simp [h1],h2⟩
   ·rintro ⟨j,h1,h2,o,h3,h4⟩
    rcases List.mem_cons.1 h1 with rfl | h1
    ·rw [h2,h] at h3; cases h3
    ·exact ⟨j,h1,h2,o,h3,h4⟩
  | some o =>
   dsimp only
   by_cases ho:o = -1
   ·rw [if_pos ho,ih]
    constructor
    ·rintro ⟨j,h1,h2⟩; exact ⟨j,by simp [h1],h2⟩
    ·rintro ⟨j,h1,h2,o',h3,h4⟩
     rcases List.mem_cons.1 h1 with rfl | h1
     ·rw [h2,h] at h3; cases h3; exact absurd ho h4
     ·exact ⟨j,h1,h2,o',h3,h4⟩
   ·rw [if_neg ho,List.mem_cons,ih]
    constructor
    ·rintro (rfl | ⟨j,h1,h2⟩)
     ·exact ⟨i,by simp,rfl,o,h,ho⟩
     ·exact ⟨j,by simp [h1],h2⟩
    ·rintro ⟨j,h1,h2,h3⟩
     rcases List.mem_cons.1 h1 with rfl | h1
     ·exact .inl h2
     ·exact .inr ⟨j,h1,h2,h3⟩
def numE:Nat→List (Int×Int)→List (Int×Int)
 | _,[]=>[]
 | k,e :: es=>if e.1 = -1 then e :: numE k es else ((k:Int),e.2) :: numE (k+1) es
def oldE:List (Int×Int)→List Int
 | []=>[]
 | e :: es=>if e.1 = -1 then oldE es else e.1 :: oldE es
theorem oldE_row {V:List Int→Option Int} {ws:List (List Int)} {w:List Int} : ∀ (l:List Nat),oldE (l.map (entT V ws w))=(chL V w l).map fun x=>((ws.idxOf x:Nat) : Int)
 | []=>rfl
 | i :: l=>by
  have ih:=@oldE_row V ws w l
  rw [List.map_cons]
  unfold chL
  cases h:V (w++[(i:Int)]) with
  | none =>
   have e1:entT V ws w i=(-1,-1):=by unfold entT; rw [h]
   rw [e1]; exact ih
  | some o =>
   dsimp only
   by_cases ho:o = -1
   ·have e1:entT V ws w i=(-1,-2):=by unfold entT; rw [h]; exact if_pos ho
    rw [if_pos ho,e1]; exact ih
   ·have e1:entT V ws w i=(((ws.idxOf (w++[(i:Int)]) : Nat) : Int),o):=by unfold entT; rw [h]; exact if_neg ho
    rw [if_neg ho,e1,List.map_cons,← ih]
    exact if_neg (by show ¬((ws.idxOf _:Nat) : Int) = -1; omega)
theorem numE_row {V:List Int→Option Int} {ws:List (List Int)} {w:List Int} : ∀ (l:List Nat) (os:List (List Int)),l.Nodup→(∀ i∈l,w++[(i:Int)] ∉ os)→numE os.length (l.map (entT V ws w))=l.map (entT V (os++chL V w l) w)
 | [],_,_,_=>rfl
 | i :: l,os,hn,hos=>by
  have hn':=List.nodup_cons.1 hn
  rw [List.map_cons,List.map_cons]
  unfold chL
  cases h:V (w++[(i:Int)]) with
  | none =>
   have e1:∀ us,entT V us w i=(-1,-1):=fun us=>by unfold entT; rw [h]
   rw [e1,e1]
   show (-1,-1) :: numE os.length (l.map (entT V ws w))=_
   rw [numE_row l os hn'.2 fun j hj=>hos j (by simp [hj])]
  | some o =>
   dsimp only
   by_cases ho:o = -1
   ·rw [if_pos ho]
    have e1:∀ us,entT V us w i=(-1,-2):=fun us=>by unfold entT; rw [h]; exact if_pos ho
    rw [e1,e1]
    show (-1,-2) :: numE os.length (l.map (entT V ws w))=_
    rw [numE_row l os hn'.2 fun j hj=>hos j (by simp [hj])]
   ·rw [if_neg ho]
    have e1:∀ us,entT V us w i=(((us.idxOf (w++[(i:Int)]) : Nat) : Int),o):=fun us=>by unfold entT; rw [h]; exact if_neg ho
    rw [e1,e1]
    have e2:(os++(w++[(i:Int)]) :: chL V w l).idxOf (w++[(i:Int)])=os.length:=by
     rw [List.idxOf_append,if_neg (hos i (by simp))]; simp
    rw [e2]
    have e3:numE os.length ((((ws.idxOf (w++[(i:Int)]) : Nat) : Int),o) :: l.map (entT V ws w))=((os.length:Int),o) :: numE (os.length+1) (l.map (entT V ws w)):=by
     rw [numE,if_neg (by show ¬((ws.idxOf _:Nat) : Int) = -1; omega)]
    rw [e3]
    have ih:=numE_row (V:=V) (ws:=ws) (w:=w) l (os++[w++[(i:Int)]]) hn'.2 fun j hj hm=>by
     rcases List.mem_append.1 hm with h1 | h1
     ·exact hos j (by simp [hj]) h1
     ·have:=(snoc_inj (List.mem_singleton.1 h1)).2
      have e:j=i:=by omega
      exact hn'.1 (e ▸ hj)
    rw [List.length_append,List.length_singleton] at ih
    rw [ih,List.append_assoc]
    rfl
theorem goE_num {O:Int} {V:List Int→Option Int} {ws:List (List Int)} {w:List Int} (hV:∀ x o,V x=some o→o ≠ -1→0≤o∧o < O) : ∀ (l:List Nat) (k:Nat),goE O (numE k (l.map (entT V ws w))) k=some (k+(chL V w l).length)
 | [],_=>rfl
 | i :: l,k=>by
  rw [List.map_cons]
  unfold chL
  cases h:V (w++[(i:Int)]) with
  | none =>
   have e1:entT V ws w i=(-1,-1):=by unfold entT; rw [h]
   rw [e1]
   show goE O ((-1,-1) :: numE k (l.map (entT V ws w))) k=_
   exact goE_num hV l k
  | some o =>
   dsimp only
   by_cases ho:o = -1
   ·rw [if_pos ho]
    have e1:entT V ws w i=(-1,-2):=by unfold entT; rw [h]; exact if_pos ho
    rw [e1]
    show goE O ((-1,-2) :: numE k (l.map (entT V ws w))) k=_
    exact goE_num hV l k
   ·rw [if_neg ho]
    have e1:entT V ws w i=(((ws.idxOf (w++[(i:Int)]) : Nat) : Int),o):=by unfold entT; rw [h]; exact if_neg ho
    rw [e1]
    have e3:numE k ((((ws.idxOf (w++[(i:Int)]) : Nat) : Int),o) :: l.map (entT V ws w))=((k:Int),o) :: numE (k+1) (l.map (entT V ws w)):=by
     rw [numE,if_neg (by show ¬((ws.idxOf _:Nat) : Int) = -1; omega)]
    rw [e3]
    have hb:=hV _ _ h ho
    have e4:edOK O k ((k:Int),o)=some (k+1):=by
     unfold edOK
     rw [if_neg (fun h=>by have:=h.1; dsimp only at this; omega),if_pos ⟨rfl,hb⟩]
    show (match edOK O k ((k:Int),o) with | none=>none | some nx=>goE O (numE (k+1) (l.map (entT V ws w))) nx)=_
    rw [e4]
    dsimp only
    rw [goE_num hV l (k+1),List.length_cons]
    congr 1; omega
theorem goT_snoc {I O:Int} {r:List (Int×Int)} : ∀ (l:List (List (Int×Int))) (n nx k k' : Nat),goT I O l n nx=some k→(r.length:Int)=I→n+l.length < k→goE O r k=some k'→goT I O (l++[r]) n nx=some k'
 | [],n,nx,k,k',h,h1,h2,h3=>by
  have e:nx=k:=Option.some.inj h
  subst e
  show (if (r.length:Int)=I∧n < nx then (match goE O r nx with | none=>none | some q=>goT I O [] (n+1) q) else none)=_
  rw [if_pos ⟨h1,by simpa using h2⟩,h3]
  rfl
 | a :: l,n,nx,k,k',h,h1,h2,h3=>by
  have h' : (if (a.length:Int)=I∧n < nx then (match goE O a nx with | none=>none | some q=>goT I O l (n+1) q) else none)=some k:=h
  show (if (a.length:Int)=I∧n < nx then (match goE O a nx with | none=>none | some q=>goT I O (l++[r]) (n+1) q) else none)=_
  split at h'
  ·rename_i hc
   rw [if_pos hc]
   cases hq:goE O a nx with
   | none=>rw [hq] at h'; cases h'
   | some q =>
    rw [hq] at h'
    exact goT_snoc l (n+1) q k k' h' h1 (by rw [List.length_cons] at h2; omega) h3
  ·cases h'
structure Bfs (V:List Int→Option Int) (ws:List (List Int)) (I:Nat) (O:Int) (n:Nat) (os:List (List Int)) : Prop where
 srt:Srt2 os
 sub:∀ x∈os,x∈ws
 le:n≤os.length
 hd:os[0]?=some []
 ch:∀ (m:Nat) (h:m < os.length),m < n→∀ x∈chL V os[m] (List.range I),x∈os
 par:∀ x∈os,x=[]∨∃ (m:Nat) (h:m < os.length),m < n∧∃ i:Int,x=os[m]++[i]
 go:goT I O ((os.take n).map (rowW V os I)) 0 1=some os.length
theorem Bfs.zero {V:List Int→Option Int} {ws:List (List Int)} {I:Nat} {O:Int} (h:[]∈ws) : Bfs V ws I O 0 [[]] :=
 ⟨fun a b ha hb hab=>by simp at ha hb; omega,fun x hx=>by rw [List.mem_singleton] at hx; rw [hx]; exact h,by simp,rfl,fun m h hm=>by omega,fun x hx=>.inl (List.mem_singleton.1 hx),rfl⟩
theorem chL_asc {V:List Int→Option Int} {w:List Int} : ∀ (l:List Nat) (os:List (List Int)),Srt2 os→l.Pairwise (· < ·)→(∀ x∈os,∀ i∈l,SL x (w++[(i:Int)]))→Srt2 (os++chL V w l)
 | [],os,h,_,_=>by unfold chL; rw [List.append_nil]; exact h
 | i :: l,os,h,hp,hx=>by
  have hp':=List.pairwise_cons.1 hp
  unfold chL
  cases hv:V (w++[(i:Int)]) with
  | none=>exact chL_asc l os h hp'.2 fun x hx' j hj=>hx x hx' j (by simp [hj])
  | some o =>
   dsimp only
   split
   ·exact chL_asc l os h hp'.2 fun x hx' j hj=>hx x hx' j (by simp [hj])
   ·have h1:=chL_asc (V:=V) (w:=w) l (os++[w++[(i:Int)]]) (h.snoc fun x hx'=>hx x hx' i (by simp)) hp'.2 fun x hx' j hj=>by
     rcases List.mem_append.1 hx' with h2 | h2
     ·exact hx x h2 j (by simp [hj])
     ·rw [List.mem_singleton.1 h2]
      exact SL.last w (by have:=hp'.1 j hj; omega)
    rwa [List.append_assoc] at h1
theorem row_sub {V:List Int→Option Int} {os us:List (List Int)} {I:Nat} {w:List Int} (h:∀ x∈chL V w (List.range I),x∈os) : rowW V (os++us) I w=rowW V os I w:=by
 unfold rowW
 apply List.map_congr_left
 intro i hi
 unfold entT
 cases hv:V (w++[(i:Int)]) with
 | none=>rfl
 | some o =>
  dsimp only
  split
  ·rfl
  ·rename_i ho
   rw [idx_app (h _ (chL_mem.2 ⟨i,hi,rfl,o,hv,ho⟩))]
theorem Bfs.step {V:List Int→Option Int} {ws:List (List Int)} {I:Nat} {O:Int} {n:Nat} {os:List (List Int)} (h:Bfs V ws I O n os) (hN:Nod V ws) (hV:∀ x o,V x=some o→o ≠ -1→0≤o∧o < O) (hn:n < os.length) :
  Bfs V ws I O (n+1) (os++chL V os[n] (List.range I))∧numE os.length (rowW V ws I os[n])=rowW V (os++chL V os[n] (List.range I)) I os[n]:=by
 have hgt:∀ x∈os,∀ i∈List.range I,SL x (os[n]++[(i:Int)]):=fun x hx i _=>by
  rcases h.par x hx with rfl | ⟨m,hm,hmn,j,rfl⟩
  ·exact SL.nil _ _
  ·exact (h.srt m n hm hn hmn).app j i
 have hnot:∀ i∈List.range I,os[n]++[(i:Int)] ∉ os:=fun i hi hm=>SL.irrefl (hgt _ hm i hi)
 have hnum:=numE_row (V:=V) (ws:=ws) (w:=os[n]) (List.range I) os List.nodup_range hnot
 have hnum' : numE os.length (rowW V ws I os[n])=rowW V (os++chL V os[n] (List.range I)) I os[n]:=hnum
 refine ⟨⟨chL_asc _ _ h.srt List.pairwise_lt_range hgt,fun x hx=>?_,?_,?_,fun m hm hmn x hx=>?_,fun x hx=>?_,?_⟩,hnum⟩
 ·rcases List.mem_append.1 hx with h1 | h1
  ·exact h.sub x h1
  ·obtain ⟨i,_,_,o,h2,h3⟩:=chL_mem.1 h1
   exact (hN.mem x).2 (.inr ⟨o,h2,h3⟩)
 ·rw [List.length_append]; omega
 ·rw [List.getElem?_append_left (by omega)]; exact h.hd
 ·rw [List.mem_append]
  by_cases hmn2:m < n
  ·rw [List.getElem_append_left (by omega)] at hx
   exact .inl (h.ch m (by omega) hmn2 x hx)
  ·have e:m=n:=by omega
   subst e
   rw [List.getElem_append_left hn] at hx
   exact .inr hx
 ·rcases List.mem_append.1 hx with h1 | h1
  ·rcases h.par x h1 with h2 | ⟨m,hm,hmn,j,h2⟩
   ·exact .inl h2
   ·exact .inr ⟨m,by rw [List.length_append]; omega,by omega,j,by rw [List.getElem_append_left hm]; exact h2⟩
  ·obtain ⟨i,_,h2,_⟩:=chL_mem.1 h1
   exact .inr ⟨n,by rw [List.length_append]; omega,by omega,i,by rw [List.getElem_append_left hn]; exact h2⟩
 ·have e1:(os++chL V os[n] (List.range I)).take (n+1)=os.take n++[os[n]]:=by
   rw [List.take_append_of_le_length (by omega)]; exact take_snoc hn
  have e2:(os.take n).map (rowW V (os++chL V os[n] (List.range I)) I)=(os.take n).map (rowW V os I):=by
   apply List.map_congr_left
   intro w hw
   obtain ⟨m,hm,rfl⟩:=List.mem_iff_getElem.1 hw
   rw [List.length_take] at hm
   rw [List.getElem_take]
   exact row_sub fun x hx=>h.ch m (by omega) (by omega) x hx
  rw [e1,List.map_append,e2,List.map_singleton,← hnum']
  refine goT_snoc _ 0 1 os.length _ h.go ?_ ?_ ?_
  ·rw [hnum',rowW_len]
  ·rw [List.length_map,List.length_take]; omega
  ·rw [List.length_append]; exact goE_num hV _ _
theorem Bfs.rows {V:List Int→Option Int} {ws:List (List Int)} {I:Nat} {O:Int} {n:Nat} {os:List (List Int)} (h:Bfs V ws I O n os) (us:List (List Int)) : (os.take n).map (rowW V (os++us) I)=(os.take n).map (rowW V os I):=by
 apply List.map_congr_left
 intro w hw
 obtain ⟨m,hm,rfl⟩:=List.mem_iff_getElem.1 hw
 rw [List.length_take] at hm
 rw [List.getElem_take]
 exact row_sub fun x hx=>h.ch m (by omega) (by omega) x hx
theorem nodup_len:∀ {a b:List (List Int)},a.Nodup→(∀ x∈a,x∈b)→a.length≤b.length
 | [],b,_,_=>Nat.zero_le _
 | x :: a,b,hn,hs=>by
  have hn':=List.nodup_cons.1 hn
  have hx:=hs x (by simp)
  have h1:=@nodup_len a (b.erase x) hn'.2 fun y hy=>(List.mem_erase_of_ne (fun e=>hn'.1 (by rw [← e]; exact hy))).2 (hs y (by simp [hy]))
  rw [List.length_erase_of_mem hx] at h1
  have:0 < b.length:=List.length_pos_of_mem hx
  rw [List.length_cons]; omega
theorem Bfs.len {V:List Int→Option Int} {ws:List (List Int)} {I:Nat} {O:Int} {n:Nat} {os:List (List Int)} (h:Bfs V ws I O n os) : os.length≤ws.length:=nodup_len h.srt.nodup h.sub
theorem Bfs.done {V:List Int→Option Int} {ws:List (List Int)} {I:Nat} {O:Int} {os:List (List Int)} (h:Bfs V ws I O os.length os) (hN:Nod V ws) (hI:∀ (x:List Int) (i o:Int),V (x++[i])=some o→0≤i∧i < (I:Int)) : Nod V os:=by
 have hall:∀ (k:Nat) (x:List Int),x.length=k→x∈ws→x∈os:=by
  intro k
  induction k with
  | zero =>
   intro x hx _
   rw [List.length_eq_zero_iff.1 hx]
   exact List.mem_of_getElem? h.hd
  | succ k ih =>
   intro x hx hm
   have hne:x≠[]:=fun e=>by rw [e] at hx; cases hx
   have e:=List.dropLast_concat_getLast hne
   have hd:x.dropLast∈os:=ih x.dropLast (by rw [List.length_dropLast]; omega) (hN.up (by rw [e]; exact hm))
   obtain ⟨m,hm2,hm3⟩:=List.mem_iff_getElem.1 hd
   rcases (hN.mem x).1 hm with h1 | ⟨o,h1,h2⟩
   ·exact absurd h1 hne
   ·have h3:=hI x.dropLast (x.getLast hne) o (by rw [e]; exact h1)
    refine h.ch m hm2 hm2 x (chL_mem.2 ⟨(x.getLast hne).toNat,?_,?_,o,h1,h2⟩)
    ·rw [List.mem_range]; omega
    ·rw [hm3,Int.toNat_of_nonneg h3.1]; exact e.symm
 refine ⟨h.srt.nodup,fun w=>?_,hN.clo⟩
 rw [← hN.mem w]
 exact ⟨h.sub w,hall _ w rfl⟩
theorem srt_eq:∀ {a b:List (List Int)},Srt2 a→Srt2 b→(∀ x,x∈a↔x∈b)→a=b
 | [],[],_,_,_=>rfl
 | [],y :: b,_,_,h=>by have:=(h y).2 (by simp); cases this
 | x :: a,[],_,_,h=>by have:=(h x).1 (by simp); cases this
 | x :: a,y :: b,ha,hb,h=>by
  have hxa:∀ z∈a,SL x z:=fun z hz=>by
   obtain ⟨i,hi,rfl⟩:=List.mem_iff_getElem.1 hz
   exact ha 0 (i+1) (by simp) (by simpa using hi) (by omega)
  have hyb:∀ z∈b,SL y z:=fun z hz=>by
   obtain ⟨i,hi,rfl⟩:=List.mem_iff_getElem.1 hz
   exact hb 0 (i+1) (by simp) (by simpa using hi) (by omega)
  have e:x=y:=by
   rcases List.mem_cons.1 ((h x).1 (by simp)) with h1 | h1
   ·exact h1
   ·rcases List.mem_cons.1 ((h y).2 (by simp)) with h2 | h2
    ·exact h2.symm
    ·exact absurd ((hyb x h1).trans (hxa y h2)) SL.irrefl
  subst e
  have ta:Srt2 a:=fun i j hi hj hij=>ha (i+1) (j+1) (by simpa using hi) (by simpa using hj) (by omega)
  have tb:Srt2 b:=fun i j hi hj hij=>hb (i+1) (j+1) (by simpa using hi) (by simpa using hj) (by omega)
  rw [srt_eq ta tb fun z=>?_]
  constructor
  ·intro hz
   rcases List.mem_cons.1 ((h z).1 (by simp [hz])) with h1 | h1
   ·subst h1; exact absurd (hxa z hz) SL.irrefl
   ·exact h1
  ·intro hz
   rcases List.mem_cons.1 ((h z).2 (by simp [hz])) with h1 | h1
   ·subst h1; exact absurd (hyb z hz) SL.irrefl
   ·exact h1
end Go.Ai
end
