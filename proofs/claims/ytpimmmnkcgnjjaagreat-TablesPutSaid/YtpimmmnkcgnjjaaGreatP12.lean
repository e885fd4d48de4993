/- A small verified interpreter over names, its proofs, and what was proved with it. No condition. -/
import Derived.Test.YtpimmmnkcgnjjaaGreatP11
import Derived.Test.YtpimmmnkcgnjjaaGreatP08
import Derived.Test.YtpimmmnkcgnjjaaGreatP09
import Derived.Test.YtpimmmnkcgnjjaaGreatP06
set_option linter.all false
set_option linter.deprecated false
section
namespace Go.Ai
open Go.Proofs
set_option maxRecDepth 10000
set_option maxHeartbeats 40000000
def TightV (len:Nat) (rv:AV) : Prop:=(len=0∧rv=.lit (.slice none 0 0))∨∃ a o,rv=.sl a o len len
theorem Clip_t (w:List Int) (g:Nat→Option Blk) (lo n:Nat) (sv:AV) (hv:CloneV g lo n w sv) :
  WC 0 Tryz.prog 93 [sv] ⟨.fn g,n⟩ fun r=>∃ sv',r=.ret sv' ⟨.fn g,n⟩∧FreshW g lo n w sv'∧TightV w.length sv':=by
 rcases hv with ⟨rfl,rfl | ⟨m,h1,h2,rfl,h3⟩⟩ | ⟨hl,m,h1,h2,rfl,h3⟩
 ·have HF:Hide (FreshW g lo n [] (.lit (.slice none 0 0))∧TightV ([] : List Int).length (.lit (.slice none 0 0))):=⟨⟨fun _=>none,fun a z h=>(by cases h),.inl ⟨rfl,rfl,.inl rfl⟩⟩,.inl ⟨rfl,rfl⟩⟩
  refine WC.enterP (noO_ok _ _) hG [] Tryz.func93 rfl (by decide +kernel) (Nat.le_of_ble_eq_true (by kernel_rfl)) ?_
  iterate 8 (all_goals try (first | with_reducible refine splitI (fun h=>?_) (fun h=>?_) | with_reducible refine splitBI (fun h=>?_) (fun h=>?_) | simp (config:={ maxSteps:=1000000 }) (disch:=first | assumption | omega | (simp; done) | fail) [Tryz.results93, *]))
  exact HF.out
 ·have HF:Hide (FreshW g lo n [] (.sl m 0 0 0)∧TightV ([] : List Int).length (.sl m 0 0 0)):=⟨⟨fun a=>if a=m then g a else none,⟨fun a z hz=>(by
   have hz' : (if a=m then g a else none)=some z:=hz
   split at hz'
   ·rename_i h4; subst h4; exact ⟨hz',h1,h2⟩
   ·cases hz'),.inr ⟨m,0,h2,.inl ⟨0,rfl⟩,[],true,0,(if_pos rfl).trans h3,by simp [wdC],by simp [wdC]⟩⟩⟩,.inr ⟨_,_,rfl⟩⟩
  refine WC.enterP (noO_ok _ _) hG [] Tryz.func93 rfl (by decide +kernel) (Nat.le_of_ble_eq_true (by kernel_rfl)) ?_
  iterate 8 (all_goals try (first | with_reducible refine splitI (fun h=>?_) (fun h=>?_) | with_reducible refine splitBI (fun h=>?_) (fun h=>?_) | simp (config:={ maxSteps:=1000000 }) (disch:=first | assumption | omega | (simp; done) | fail) [Tryz.results93, *]))
  exact HF.out
 ·have HF:Hide (FreshW g lo n w (.sl m 0 w.length w.length)∧TightV w.length (.sl m 0 w.length w.length)):=⟨⟨fun a=>if a=m then g a else none,⟨fun a z hz=>(by
   have hz' : (if a=m then g a else none)=some z:=hz
   split at hz'
   ·rename_i h4; subst h4; exact ⟨hz',h1,h2⟩
   ·cases hz'),.inr ⟨m,0,h2,.inl ⟨_,rfl⟩,wdC w,true,1,(if_pos rfl).trans h3,by simp,by simp⟩⟩⟩,.inr ⟨_,_,rfl⟩⟩
  clear h3
  have hl2:¬w=[]:=fun h=>by rw [h] at hl; cases hl
  refine WC.enterP (noO_ok _ _) hG [] Tryz.func93 rfl (by decide +kernel) (Nat.le_of_ble_eq_true (by kernel_rfl)) ?_
  iterate 8 (all_goals try (first | with_reducible refine splitI (fun h=>?_) (fun h=>?_) | with_reducible refine splitBI (fun h=>?_) (fun h=>?_) | simp (config:={ maxSteps:=1000000 }) (disch:=first | assumption | omega | (simp; done) | fail) [Tryz.results93, *]))
  exact HF.out
def RowK (g:Nat→Option Blk) (lo n:Nat) : Option (List Int)→AV→Prop
 | none,rv=>rv=.lit (.slice none 0 0)
 | some r,rv=>FreshW g lo n r rv∧TightV r.length rv
def OutV (g:Nat→Option Blk) (lo n A c:Nat) (r:List Int) (rv:AV) : Prop :=
 (∃ Lo,rv=.sl A 0 r.length c∧lo≤A∧A < n∧g A=some (.cells Lo true 0)∧Lo.length=c∧Lo.take r.length=wdC r∧r.length≤c)∨(0 < r.length∧∃ B,rv=.slq B 0 r.length 0∧lo≤B∧B < n∧g B=some (.cells (wdC r) true 1))
theorem OutV.rep {g:Nat→Option Blk} {lo n A c:Nat} {r:List Int} {rv:AV} (h:OutV g lo n A c r rv) : RepW g n r rv:=by
 rcases h with ⟨Lo,rfl,h1,h2,h3,h4,h5,h6⟩ | ⟨h0,B,rfl,h1,h2,h3⟩
 ·refine .inr ⟨A,0,h2,.inl ⟨c,rfl⟩,Lo,true,0,h3,?_,?_⟩
  ·rw [wdC_len]; omega
  ·rw [wdC_len,List.drop_zero]; exact h5
 ·exact .inr ⟨B,0,h2,.inr ⟨0,rfl⟩,wdC r,true,1,h3,by simp,by simp⟩
end Go.Ai
end
section
namespace Go.Ai
open Go.Proofs
set_option maxRecDepth 10000
set_option maxHeartbeats 40000000
theorem lhas_w {l:List (List Int)} (hll:l.length≤100000) {w:List Int} (hwl:w.length≤1000) (hwls:∀ x∈l,x.length≤1000) (g:Nat→Option Blk) (n:Nat) (lv sv:AV) (h1:ListV g n l lv) (hw:RepW g n w sv) :
  WC 0 Tryz.prog 42 [lv,sv] ⟨.fn g,n⟩ fun r=>r=.ret (.lit (.bool (decide (w∈l)))) ⟨.fn g,n⟩:=by
 have hlen:=@lenV Tryz.prog _ _ _ _ _ h1.choose_spec.1
 have H1:=Hide.mk h1
 have HW:=Hide.mk hw
 have HWL:=Hide.mk hwls
 obtain ⟨res,hres⟩ : ∃ b,b=decide (w∈l):=⟨_,rfl⟩
 rw [← hres]
 have HRE:=Hide.mk hres
 clear h1 hw hwls hres
 refine WC.enterP (noO_ok _ _) hG [] Tryz.func42 rfl (by decide +kernel) (Nat.le_of_ble_eq_true (by kernel_rfl)) ?_
 iterate 8 (all_goals try (first | with_reducible refine splitI (fun h=>?_) (fun h=>?_) | with_reducible refine splitBI (fun h=>?_) (fun h=>?_) | simp (config:={ maxSteps:=1000000 }) (disch:=first | assumption | omega | (simp; done) | fail) [Tryz.results42, *]))
 refine LX.ind (fun m gf H'=>∃ k:Nat,k≤l.length∧m=l.length - k∧H'=⟨.fn g,n⟩∧Hide (w ∉ l.take k)∧gf 0=some lv∧gf 1=some sv∧gf 5=some (.lit (.int .i64 k))) (m0:=l.length) ?_ ?_
 ·exact ⟨0,Nat.zero_le _,rfl,rfl,⟨by simp⟩,by simp,by simp,by simp⟩
 rintro m gf H' ⟨k,hk,rfl,rfl,HN,w0,w1,w5⟩ ih
 refine LX.roundP (noO_ok _ _) hG [] (by decide +kernel) ?_
 by_cases hlt:k < l.length
 ·have hkI:(k:Int) < (l.length:Int):=by omega
  obtain ⟨a,off,q,ha,hia,hc,hq⟩:=H1.out.at hlt
  have HS:=Hide.mk (rsame_w l[k] w (by have:=HWL.out _ (List.getElem_mem hlt); omega) (by omega) g n q sv hq HW.out)
  have hwk:Hide (w ∉ l.take (k+1)∨l[k]=w):=⟨by
   by_cases h:l[k]=w
   ·exact .inr h
   ·refine .inl ?_
    rw [take_snoc hlt,List.mem_append,List.mem_singleton]
    rintro (h1 | h1)
    ·exact HN.out h1
    ·exact h h1.symm⟩
  have HIX:Hide (l[k]=w→res=true):=⟨fun h=>by rw [HRE.out,← h]; exact decide_eq_true (List.getElem_mem hlt)⟩
  generalize l[k]=x at *
  iterate 8 (all_goals try (first | with_reducible refine splitI (fun h=>?_) (fun h=>?_) | with_reducible refine splitBI (fun h=>?_) (fun h=>?_) | simp (config:={ maxSteps:=1000000 }) (disch:=first | assumption | omega | (simp; done) | fail) [Tryz.results42, *]))
  refine WC.mono HS.out ?_
  rintro _ rfl
  by_cases hx:x=w
  ·have hix:=HIX.out hx
   subst hix
   simp only [hx,decide_true]
   iterate 8 (all_goals try (first | with_reducible refine splitI (fun h=>?_) (fun h=>?_) | with_reducible refine splitBI (fun h=>?_) (fun h=>?_) | simp (config:={ maxSteps:=1000000 }) (disch:=first | assumption | omega | (simp; done) | fail) [Tryz.results42, *]))
  ·have hnm:w ∉ l.take (k+1):=hwk.out.resolve_right hx
   simp only [hx,decide_false]
   iterate 8 (all_goals try (first | with_reducible refine splitI (fun h=>?_) (fun h=>?_) | with_reducible refine splitBI (fun h=>?_) (fun h=>?_) | simp (config:={ maxSteps:=1000000 }) (disch:=first | assumption | omega | (simp; done) | fail) [Tryz.results42, *]))
   exact ih.out (l.length - (k+1)) _ _ (by omega) ⟨k+1,by omega,rfl,rfl,⟨hnm⟩,by simp [*],by simp [*],by simp⟩
 ·have hkI:¬(k:Int) < (l.length:Int):=by omega
  have hre:res=false:=by
   have h2:=HN.out
   rw [List.take_of_length_le (by omega)] at h2
   rw [HRE.out]; exact decide_eq_false h2
  subst hre
  iterate 8 (all_goals try (first | with_reducible refine splitI (fun h=>?_) (fun h=>?_) | with_reducible refine splitBI (fun h=>?_) (fun h=>?_) | simp (config:={ maxSteps:=1000000 }) (disch:=first | assumption | omega | (simp; done) | fail) [Tryz.results42, *]))
end Go.Ai
end
section
namespace Go.Ai
open Go.Proofs
set_option maxRecDepth 10000
set_option maxHeartbeats 40000000
theorem putL_w {l:List (List Int)} (hll:l.length≤30000) {w:List Int} (hwl:w.length≤1000) (hwls:∀ x∈l,x.length≤1000) (g gk:Nat→Option Blk) (hgk:∀ a z,gk a=some z→g a=some z) (n:Nat) (lv wv:AV) (svs:List AV) (hsv:SliceV gk n lv l.length svs) (hr:RowsW gk n l svs) (hw:RepW gk n w wv) :
  WC 0 Tryz.prog 60 [lv,wv] ⟨.fn g,n⟩ fun r=>∃ ov g' n',r=.ret ov ⟨.fn g',n'⟩∧n≤n'∧(∀ b,b < n→g' b=g b)∧((putM l w=l∧ov=lv)∨(putM l w=l++[w]∧∃ B,GrowV g' n n' B ov (putM l w).length 1 (svs++[wv]))):=by
 replace hsv:SliceV g n lv l.length svs:=SliceV.ext (Nat.le_refl _) (fun a x _ hx=>hgk a x hx) hsv
 have hlen:=@lenV Tryz.prog _ _ _ _ _ hsv
 have h1l:oneC lv=true:=hsv.one
 have h1w:oneC wv=true:=hw.one
 have hcw:cellsOf wv=[wv]:=hw.cell
 have h2w:allOne [wv]=true:=by simp [h1w]
 have hsl:svs.length=l.length:=hr.1
 have HH:=Hide.mk (lhas_w (by omega) hwl hwls g n lv wv ⟨svs,hsv,hr.ext (Nat.le_refl _) fun a x _ hx=>hgk a x hx⟩ (SliceV.ext (Nat.le_refl _) (fun a x _ hx=>hgk a x hx) hw))
 have HR:=Hide.mk hr
 have HW:=Hide.mk hw
 have HSV:=Hide.mk hsv
 clear hr hw hsv hwls hgk
 refine WC.enterP (noO_ok _ _) hG [] Tryz.func60 rfl (by decide +kernel) (Nat.le_of_ble_eq_true (by kernel_rfl)) ?_
 iterate 8 (all_goals try (first | with_reducible refine splitI (fun h=>?_) (fun h=>?_) | with_reducible refine splitBI (fun h=>?_) (fun h=>?_) | simp (config:={ maxSteps:=1000000 }) (disch:=first | assumption | omega | (simp; done) | fail) [Tryz.results60, *]))
 refine WC.mono HH.out ?_
 rintro _ rfl
 by_cases hin:w∈l
 ·have hpm:putM l w=l:=if_pos hin
  simp only [hin,decide_true]
  have HPM:=Hide.mk hpm
  clear hpm
  iterate 8 (all_goals try (first | with_reducible refine splitI (fun h=>?_) (fun h=>?_) | with_reducible refine splitBI (fun h=>?_) (fun h=>?_) | simp (config:={ maxSteps:=1000000 }) (disch:=first | assumption | omega | (simp; done) | fail) [Tryz.results60, *]))
  exact ⟨_,_,_,⟨rfl,rfl,rfl⟩,Nat.le_refl _,fun _ _=>rfl,.inl ⟨HPM.out,rfl⟩⟩
 ·have hpm:putM l w=l++[w]:=if_neg hin
  simp only [hin,decide_false]
  by_cases hl0:l.length=0
  ·have hsv:=HSV.out
   rw [hl0] at hsv
   have hap:=fun {H:Mem} {ev:Ev} {d:Option Tmp} {ty:TypeId} {p:String} {af:Array Edge} {gd:Option (Nat×Bool)} {x y:Operand} {s t:TypeId} {a off:Nat} {hx:ev x=some (.sl a off 0 0)} {hy:ev y=some lv} (hp:(apI Tryz.prog s t).isSome=true)=>SliceV.ap00 (P:=Tryz.prog) hsv (H:=H) (ev:=ev) (d:=d) (ty:=ty) (p:=p) (af:=af) (gd:=gd) (x:=x) (y:=y) (a:=a) (off:=off) (hx:=hx) (hy:=hy) hp
   have HPM:=Hide.mk hpm
   have HL0:=Hide.mk hl0
   clear hsv hpm hl0
   iterate 8 (all_goals try (first | with_reducible refine splitI (fun h=>?_) (fun h=>?_) | with_reducible refine splitBI (fun h=>?_) (fun h=>?_) | simp (config:={ maxSteps:=1000000 }) (disch:=first | assumption | omega | (simp; done) | fail) [Tryz.results60, *]))
   have hs0:svs=[]:=List.length_eq_zero_iff.1 (by rw [hsl]; exact HL0.out)
   rw [hs0]
   refine ⟨_,_,_,⟨rfl,rfl,rfl⟩,by omega,fun b hb=>by simp (disch:=omega) only [gput_lt],.inr ⟨HPM.out,n+1+1,.inr ⟨by rw [HPM.out]; simp,by rw [HPM.out]; simp [HL0.out],by omega,by omega,gput_eq,by rw [HPM.out]; simp [HL0.out]⟩⟩⟩
  ·have hsv:=HSV.out
   obtain ⟨a9,blk,ha9,hga9,hap⟩:=SliceV.ap0 (P:=Tryz.prog) (sz:=1) hsv (by omega) (by omega) (by rw [hsl,Nat.mul_one])
   have hsl1:svs.length=l.length * 1:=by omega
   have HPM:=Hide.mk hpm
   clear hsv hpm hsl
   iterate 8 (all_goals try (first | with_reducible refine splitI (fun h=>?_) (fun h=>?_) | with_reducible refine splitBI (fun h=>?_) (fun h=>?_) | simp (config:={ maxSteps:=1000000 }) (disch:=first | assumption | omega | (simp; done) | fail) [Tryz.results60, *]))
   exact ⟨_,_,_,⟨rfl,rfl,rfl⟩,by omega,fun b hb=>by simp (disch:=omega) only [gput_lt,gput_ne],.inr ⟨HPM.out,n+1+1+1,.inr ⟨by rw [HPM.out]; simp,by rw [HPM.out]; simp,by omega,by omega,gput_eq,by rw [HPM.out]; simp; omega⟩⟩⟩
end Go.Ai
end
section
namespace Go.Ai
open Go.Proofs
set_option maxRecDepth 10000
set_option maxHeartbeats 40000000
theorem capV_grow {g:Nat→Option Blk} {lo n B len sz:Nat} {sv:AV} {cs:List AV} (h:GrowV g lo n B sv len sz cs) : CapV sv:=by
 intro a o k c e
 rcases h with ⟨_,_,h3⟩ | ⟨_,h3,_⟩
 ·rw [h3] at e; cases e
 ·rw [h3] at e; cases e
def FreshC (g:Nat→Option Blk) (lo n:Nat) (w:List Int) (sv:AV) : Prop:=FreshW g lo n w sv∧CapV sv
def LogC (g:Nat→Option Blk) (lo n B:Nat) (ts:List (List Int×List Int)) (sv:AV) : Prop:=∃ cs,GrowV g lo n B sv ts.length 2 cs∧RowsF g lo n B ts cs∧∀ v∈cs,CapV v
theorem LogC.logF {g:Nat→Option Blk} {lo n B:Nat} {ts:List (List Int×List Int)} {sv:AV} (h:LogC g lo n B ts sv) : LogF g lo n B ts sv:=let ⟨cs,h1,h2,_⟩:=h; ⟨cs,h1,h2⟩
theorem LogC.one {g:Nat→Option Blk} {lo n B:Nat} {ts:List (List Int×List Int)} {sv:AV} (h:LogC g lo n B ts sv) : oneC sv=true:=h.logF.one
theorem LogC.logX {g:Nat→Option Blk} {lo n B:Nat} {ts:List (List Int×List Int)} {sv:AV} (h:LogC g lo n B ts sv) : LogX g n ts sv:=by
 obtain ⟨cs,h1,h2,h3⟩:=h
 refine ⟨cs,SliceV.ext (Nat.le_refl _) (fun a x _ hx=>?_) h1.slice,h2.rows,h3⟩
 split at hx
 ·exact hx
 ·cases hx
theorem LogC.keep {g g' : Nat→Option Blk} {lo lo' n n' B:Nat} {ts:List (List Int×List Int)} {sv:AV} (h:LogC g lo n B ts sv) (h0:lo'≤lo) (h2:n≤n') (hg:∀ a,lo≤a→a < n→g' a=g a) : LogC g' lo' n' B ts sv:=by
 obtain ⟨cs,h1,h3,h4⟩:=h
 refine ⟨cs,?_,h3.keep h0 h2 (.inr (.inl rfl)) fun a h4 h5 _=>hg a h4 h5,h4⟩
 rcases h1 with h1 | ⟨k1,k2,k3,k4,k5,k6⟩
 ·exact .inl h1
 ·exact .inr ⟨k1,k2,by omega,by omega,(hg B k3 k4).trans k5,k6⟩
theorem rRun_c {M:MachM} (hM:M.ok) (w:List Int) (hwl:w.length≤300) (hw:inW w M.inp=true) (g:Nat→Option Blk) (n:Nat) (ms:List AV) (wv:AV) (hr:RepM g n M ms) (hv:RepW g n w wv) :
  WC 0 Tryz.prog 45 [.agg ms,.lit (.int .i64 0),wv] ⟨.fn g,n⟩ fun r=>∃ sv g' n',r=.ret sv ⟨.fn g',n'⟩∧n≤n'∧(∀ b,b < n→g' b=g b)∧FreshC g' n n' (runM M 0 w) sv:=by
 obtain ⟨rv,rfl,h1r⟩:=hr.one
 have h1a:allOne [.lit (.int .i64 M.inp),.lit (.int .i64 M.out),rv]=true:=by simp [h1r]
 have hlen:=@lenV Tryz.prog _ _ _ _ _ hv
 have HR:=Hide.mk hr
 have HV:=Hide.mk hv
 have HM:=Hide.mk hM
 have HW:=Hide.mk hw
 have hr0:=hM.2.2.2.2.1
 clear hr hv hM hw
 refine WC.enterP (noO_ok _ _) hG pl45 Tryz.func45 rfl (by decide +kernel) (Nat.le_of_ble_eq_true (by kernel_rfl)) ?_
 iterate 8 (all_goals try (first | with_reducible refine splitI (fun h=>?_) (fun h=>?_) | with_reducible refine splitBI (fun h=>?_) (fun h=>?_) | simp (config:={ maxSteps:=1000000 }) (disch:=first | assumption | omega | (simp; done) | fail) [Tryz.results45, *]))
 refine LX.ind (fun m gf H'=>∃ (k n' : Nat) (gL:Nat→Option Blk) (B:Nat) (sv:AV) (cs:List AV) (s:Int),k≤w.length∧m=w.length - k∧H'=⟨.fn gL,n'⟩∧n+1≤n'∧Hide (∀ b,b < n→gL b=g b)∧gL n=some (.cells [.lit (.int .i64 M.inp),.lit (.int .i64 M.out),rv] true 0) ∧
  Hide (GrowV gL (n+1) n' B sv k 1 cs)∧Hide (cs=wdC (runM M 0 (w.take k)))∧Hide (s=aftM M 0 (w.take k)∧stOK M s)∧gf 1=some (.lit (.int .i64 s))∧gf 2=some wv∧gf 3=some (.ptr n 0)∧gf 7=some sv∧gf 8=some (.lit (.int .i64 k))) (m0:=w.length) ?_ ?_
 ·exact ⟨0,_,_,0,_,[],0,Nat.zero_le _,rfl,rfl,Nat.le_refl _,⟨fun b hb=>gput_lt hb⟩,gput_eq,⟨.inl ⟨rfl,rfl,rfl⟩⟩,⟨rfl⟩,⟨rfl,.inr ⟨0,rfl,by omega⟩⟩,by simp,by simp,by simp,by simp,by simp⟩
 rintro m gf H' ⟨k,n',gL,B,sv,cs,s,hk,rfl,rfl,hn',HG,hgn,HGR,HC,HST,w1,w2,w3,w7,w8⟩ ih
 refine LX.roundP (noO_ok _ _) hG pl45 (by decide +kernel) ?_
 by_cases hlt:k < w.length
 ·have hltI:(k:Int) < (w.length:Int):=by omega
  obtain ⟨a2,off,ha2,hia,hcell⟩:=SliceV.mono (Nat.le_of_lt hn') HG.out HV.out |> fun h=>RepW.at (w:=w) h hlt
  have htk:=take_snoc hlt
  have hx:=of_decide_eq_true (List.all_eq_true.1 HW.out _ (List.getElem_mem hlt))
  have HN:=Hide.mk (fun (gX:Nat→Option Blk) (n2:Nat) (hn2:n≤n2) (hX:∀ b,b < n→gX b=g b)=>rNext_w HM.out s w[k] HST.out.2 hx.1 hx.2 gX n2 _ (HR.out.mono hn2 hX))
  have HA:Hide (aftM M 0 (w.take (k+1))=(nextM M s w[k]).1):=⟨by rw [htk,aftM_app,← HST.out.1]; rfl⟩
  have HRN:Hide (runM M 0 (w.take (k+1))=runM M 0 (w.take k)++[(nextM M s w[k]).2]):=⟨by rw [htk,runM_app,← HST.out.1]; rfl⟩
  have HOK:=Hide.mk (edgeOK_st (nextM_ok HM.out HST.out.2 hx.1 hx.2)).1
  clear hx htk
  generalize w[k]=x at *
  generalize nextM M s x=e at *
  obtain ⟨to,eo⟩:=e
  dsimp only at *
  iterate 8 (all_goals try (first | with_reducible refine splitI (fun h=>?_) (fun h=>?_) | with_reducible refine splitBI (fun h=>?_) (fun h=>?_) | simp (config:={ maxSteps:=1000000 }) (disch:=first | assumption | omega | (simp; done) | fail) [Tryz.results45, *]))
  refine WC.mono (HN.out _ _ (by omega) fun b (hb:b < n)=>(gput_lt (by omega)).trans (HG.out b hb)) ?_
  rintro _ ⟨g2,n2,rfl,hn2,hX⟩
  have HG2:Hide (∀ b,b < n→g2 b=g b):=⟨fun b hb=>(hX b (by omega)).trans ((gput_lt (by omega)).trans (HG.out b hb))⟩
  have hnn2:n'+1≤n2:=hn2
  have hg2n:g2 n=some (.cells [.lit (.int .i64 M.inp),.lit (.int .i64 M.out),rv] true 0):=(hX n (by omega)).trans ((gput_lt (by omega)).trans hgn)
  have hg2e:g2 n'=some (.cells [.lit (.int .i64 0),.lit (.int .i64 0)] true 0):=(hX n' (by omega)).trans gput_eq
  have HX:=Hide.mk hX
  have HEND:Hide (∀ cs',cs'=cs++[.lit (.int .i64 eo)]→cs'=wdC (runM M 0 (w.take (k+1)))∧cs'.length=(k+1) * 1):=⟨fun cs' h=>by
   rw [HRN.out,wdC_snoc,← HC.out]
   refine ⟨h,?_⟩
   rw [h,HC.out,List.length_append,wdC_len,runM_len,List.length_take]
   simp; omega⟩
  clear hX hn2 HN hia hcell ha2
  rcases HGR.out with ⟨hk0,hc0,hs0⟩ | ⟨hk0,hs0,hB1,hB2,hB3,hB4⟩
  ·subst hs0
   have HZ:=Hide.mk (And.intro hk0 hc0)
   clear hk0 hc0
   iterate 8 (all_goals try (first | with_reducible refine splitI (fun h=>?_) (fun h=>?_) | with_reducible refine splitBI (fun h=>?_) (fun h=>?_) | simp (config:={ maxSteps:=1000000 }) (disch:=first | assumption | omega | (simp; done) | fail) [Tryz.results45, *]))
   have HQ:=HEND.out [.lit (.int .i64 eo)] (by rw [HZ.out.2]; rfl)
   refine ih.out (w.length - (k+1)) _ _ (by omega) ⟨k+1,n2+1+1,_,n2+1,.slq (n2+1) 0 (k+1) 0,_,to,by omega,rfl,rfl,by omega,⟨fun b hb=>?_⟩,?_,⟨.mk gput_eq (by omega) (by omega) HQ.2⟩,⟨HQ.1⟩,⟨HA.out.symm,HOK.out⟩,by simp,by simp [*],by simp [*],by rw [HZ.out.1]; simp,by simp⟩
   ·simp (disch:=omega) only [gput_lt]; exact HG2.out b hb
   ·simp (disch:=omega) only [gput_lt]; exact hg2n
  ·subst hs0
   have hB5:g2 B=some (.cells cs true 1):=(HX.out B (by omega)).trans ((gput_lt hB2).trans hB3)
   clear hB3
   iterate 8 (all_goals try (first | with_reducible refine splitI (fun h=>?_) (fun h=>?_) | with_reducible refine splitBI (fun h=>?_) (fun h=>?_) | simp (config:={ maxSteps:=1000000 }) (disch:=first | assumption | omega | (simp; done) | fail) [Tryz.results45, *]))
   have HQ:=HEND.out _ rfl
   refine ih.out (w.length - (k+1)) _ _ (by omega) ⟨k+1,n2+1+1,_,n2+1,.slq (n2+1) 0 (k+1) 0,_,to,by omega,rfl,rfl,by omega,⟨fun b hb=>?_⟩,?_,⟨.mk gput_eq (by omega) (by omega) HQ.2⟩,⟨HQ.1⟩,⟨HA.out.symm,HOK.out⟩,by simp,by simp [*],by simp [*],by simp,by simp⟩
   ·simp (disch:=omega) only [gput_lt,gput_ne]; exact HG2.out b hb
   ·simp (disch:=omega) only [gput_lt,gput_ne]; exact hg2n
 ·have hltI:¬(k:Int) < (w.length:Int):=by omega
  have hkw:k=w.length:=by omega
  have HREP:Hide (FreshC gL n n' (runM M 0 w) sv):=⟨by
   have h1:=HGR.out
   rw [HC.out,hkw,List.take_length] at h1
   exact ⟨(h1.fresh (runM_len w 0).symm).keep (Nat.le_succ n) (Nat.le_refl _) fun _ _ _=>rfl,capV_grow h1⟩⟩
  clear hkw
  iterate 8 (all_goals try (first | with_reducible refine splitI (fun h=>?_) (fun h=>?_) | with_reducible refine splitBI (fun h=>?_) (fun h=>?_) | simp (config:={ maxSteps:=1000000 }) (disch:=first | assumption | omega | (simp; done) | fail) [Tryz.results45, *]))
  exact ⟨_,_,_,⟨rfl,rfl,rfl⟩,by omega,HG.out,HREP.out⟩
theorem Word_c (bs:List Nat) (hb:∀ b∈bs,b < 256) (I most:Nat) (hI0:0 < I) (hI:I≤16) (hm:most≤12) (g:Nat→Option Blk) (n:Nat) (bv:AV) (hv:RepB g n bs bv) :
  WC 0 Tryz.prog 44 [bv,.lit (.int .i64 I),.lit (.int .i64 most)] ⟨.fn g,n⟩ fun r=>∃ sv g' n',r=.ret sv ⟨.fn g',n'⟩∧n≤n'∧(∀ b,b < n→g' b=g b)∧FreshC g' n n' (wordG bs I most) sv:=by
 have hlen:=@lenV Tryz.prog _ _ _ _ _ hv
 have HV:=Hide.mk hv
 have HBS:=Hide.mk hb
 clear hv hb
 refine WC.enterP (noO_ok _ _) hG [] Tryz.func44 rfl (by decide +kernel) (Nat.le_of_ble_eq_true (by kernel_rfl)) ?_
 iterate 8 (all_goals try (first | with_reducible refine splitI (fun h=>?_) (fun h=>?_) | with_reducible refine splitBI (fun h=>?_) (fun h=>?_) | simp (config:={ maxSteps:=1000000 }) (disch:=first | assumption | omega | (simp; done) | fail) [Tryz.results44, *]))
 refine LX.ind (fun m gf H'=>∃ (k n' : Nat) (gL:Nat→Option Blk) (B:Nat) (sv:AV) (cs:List AV),k≤bs.length∧k≤most∧m=most - k∧H'=⟨.fn gL,n'⟩∧n≤n'∧Hide (∀ b,b < n→gL b=g b) ∧
  Hide (GrowV gL n n' B sv k 1 cs)∧Hide (cs=wdC ((bs.take k).map fun b=>((b % I:Nat) : Int)))∧gf 0=some bv∧gf 1=some (.lit (.int .i64 I))∧gf 2=some (.lit (.int .i64 most))∧gf 7=some sv∧gf 8=some (.lit (.int .i64 k))) (m0:=most) ?_ ?_
 ·exact ⟨0,_,_,0,_,[],Nat.zero_le _,Nat.zero_le _,rfl,rfl,Nat.le_refl _,⟨fun b hb=>rfl⟩,⟨.inl ⟨rfl,rfl,rfl⟩⟩,⟨rfl⟩,by simp,by simp,by simp,by simp,by simp⟩
 rintro m gf H' ⟨k,n',gL,B,sv,cs,hk,hkm,rfl,rfl,hn',HG,HGR,HC,w0,w1,w2,w7,w8⟩ ih
 refine LX.roundP (noO_ok _ _) hG [] (by decide +kernel) ?_
 have fin:¬(k < bs.length∧k < most)→Hide (FreshC gL n n' (wordG bs I most) sv):=fun h=>⟨by
  have h1:=HGR.out
  have e:bs.take k=bs.take most:=by
   by_cases h2:k < most
   ·rw [List.take_of_length_le (by omega),List.take_of_length_le (by omega)]
   ·rw [show k=most by omega]
  rw [HC.out,e] at h1
  exact ⟨h1.fresh (by rw [List.length_map,← e,List.length_take]; omega),capV_grow h1⟩⟩
 have FIN:=Hide.mk fin
 clear fin
 by_cases hlt:k < bs.length
 ·have hltI:(k:Int) < (bs.length:Int):=by omega
  by_cases hlm:k < most
  ·have hlmI:(k:Int) < (most:Int):=by omega
   obtain ⟨a2,off,ha2,hia,hcell⟩:=RepB.at (n:=n') (w:=bs) (SliceV.mono hn' HG.out HV.out) hlt
   have hx:=HBS.out _ (List.getElem_mem hlt)
   have HEND:Hide (∀ cs',cs'=cs++[.lit (.int .i64 ((bs[k] % I:Nat) : Int))]→cs'=wdC ((bs.take (k+1)).map fun b=>((b % I:Nat) : Int))∧cs'.length=(k+1) * 1):=⟨fun cs' h=>by
    rw [take_snoc hlt,List.map_append,List.map_singleton,wdC_snoc,← HC.out]
    refine ⟨h,?_⟩
    rw [h,HC.out,List.length_append,wdC_len,List.length_map,List.length_take]
    simp; omega⟩
   generalize bs[k]=x at *
   have hrem:(x:Int).tmod (I:Int)=((x % I:Nat) : Int):=(Int.ofNat_tmod x I).symm
   have hxi:x % I < 256:=Nat.lt_of_le_of_lt (Nat.mod_le x I) hx
   generalize x % I=y at *
   have hI1:¬(I:Int)=0:=by omega
   have hI2:¬I=0:=by omega
   rcases HGR.out with ⟨hk0,hc0,hs0⟩ | ⟨hk0,hs0,hB1,hB2,hB3,hB4⟩
   ·subst hs0
    have HZ:=Hide.mk (And.intro hk0 hc0)
    clear hk0 hc0
    iterate 8 (all_goals try (first | with_reducible refine splitI (fun h=>?_) (fun h=>?_) | with_reducible refine splitBI (fun h=>?_) (fun h=>?_) | simp (config:={ maxSteps:=1000000 }) (disch:=first | assumption | omega | (simp; done) | fail) [Tryz.results44, *]))
    have HQ:=HEND.out [.lit (.int .i64 (y:Int))] (by rw [HZ.out.2]; rfl)
    refine ih.out (most - (k+1)) _ _ (by omega) ⟨k+1,n'+1+1,_,n'+1,.slq (n'+1) 0 (k+1) 0,_,by omega,by omega,rfl,rfl,by omega,⟨fun b hb=>?_⟩,⟨.mk gput_eq (by omega) (by omega) HQ.2⟩,⟨HQ.1⟩,by simp [*],by simp [*],by simp [*],by rw [HZ.out.1]; simp,by simp⟩
    simp (disch:=omega) only [gput_lt]; exact HG.out b hb
   ·subst hs0
    iterate 8 (all_goals try (first | with_reducible refine splitI (fun h=>?_) (fun h=>?_) | with_reducible refine splitBI (fun h=>?_) (fun h=>?_) | simp (config:={ maxSteps:=1000000 }) (disch:=first | assumption | omega | (simp; done) | fail) [Tryz.results44, *]))
    have HQ:=HEND.out _ rfl
    refine ih.out (most - (k+1)) _ _ (by omega) ⟨k+1,n'+1+1,_,n'+1,.slq (n'+1) 0 (k+1) 0,_,by omega,by omega,rfl,rfl,by omega,⟨fun b hb=>?_⟩,⟨.mk gput_eq (by omega) (by omega) HQ.2⟩,⟨HQ.1⟩,by simp [*],by simp [*],by simp [*],by simp,by simp⟩
    simp (disch:=omega) only [gput_lt,gput_ne]; exact HG.out b hb
  ·have hlmI:¬(k:Int) < (most:Int):=by omega
   have HF:=FIN.out (by omega)
   iterate 8 (all_goals try (first | with_reducible refine splitI (fun h=>?_) (fun h=>?_) | with_reducible refine splitBI (fun h=>?_) (fun h=>?_) | simp (config:={ maxSteps:=1000000 }) (disch:=first | assumption | omega | (simp; done) | fail) [Tryz.results44, *]))
   exact ⟨_,_,_,⟨rfl,rfl,rfl⟩,by omega,HG.out,HF.out⟩
 ·have hltI:¬(k:Int) < (bs.length:Int):=by omega
  have HF:=FIN.out (by omega)
  iterate 8 (all_goals try (first | with_reducible refine splitI (fun h=>?_) (fun h=>?_) | with_reducible refine splitBI (fun h=>?_) (fun h=>?_) | simp (config:={ maxSteps:=1000000 }) (disch:=first | assumption | omega | (simp; done) | fail) [Tryz.results44, *]))
  exact ⟨_,_,_,⟨rfl,rfl,rfl⟩,by omega,HG.out,HF.out⟩
theorem Word2_c (bs:List Nat) (hb:∀ b∈bs,b < 256) (I:Int) (most:Nat) (hI0:1≤I) (hI:I≤16) (hm:most≤12) (mm:Int) (hmm:mm=most) (g:Nat→Option Blk) (n:Nat) (bv:AV) (hv:RepB g n bs bv) :
  WC 0 Tryz.prog 44 [bv,.lit (.int .i64 I),.lit (.int .i64 mm)] ⟨.fn g,n⟩ fun r=>∃ sv g' n',r=.ret sv ⟨.fn g',n'⟩∧n≤n'∧(∀ b,b < n→g' b=g b)∧FreshC g' n n' (wordG bs I.toNat most) sv:=by
 obtain ⟨k,rfl⟩ : ∃ k:Nat,I=k:=⟨I.toNat,by omega⟩
 subst hmm
 exact Word_c bs hb k most (by omega) (by omega) hm g n bv hv
theorem Runs_c {st inp out:Nat} {part:Bool} {es:List Nat} {ev:AV} {ws:List (List Nat)} {wv:AV} (ia ib ic:Int) (g:Nat→Option Blk) (n:Nat) (hI:InG g n st inp out es ev ws wv) :
  WC 0 Tryz.prog 59 [.agg [.lit (.int .u8 st),.lit (.int .u8 inp),.lit (.int .u8 out),.lit (.bool part),ev,wv,.lit (.int .u8 ia),.lit (.int .u8 ib),.lit (.int .u8 ic)]] ⟨.fn g,n⟩ fun r=>∃ sv g' n' B,r=.ret (.agg [.lit (.int .i64 (machOf st inp out part es).inp),.lit (.int .i64 (machOf st inp out part es).out),sv]) ⟨.fn g',n'⟩∧n≤n'∧(∀ b,b < n→g' b=g b)∧LogC g' n n' B (runsM (machOf st inp out part es) ws) sv:=by
 have hlen:=@lenV Tryz.prog _ _ _ _ _ hI.sw.choose_spec.1
 have h1e:=hI.se.one
 have h1w:=hI.sw.choose_spec.1.one
 have hone:allOne [.lit (.int .u8 st),.lit (.int .u8 inp),.lit (.int .u8 out),.lit (.bool part),ev,wv,.lit (.int .u8 ia),.lit (.int .u8 ib),.lit (.int .u8 ic)]=true:=by simp [h1e,h1w]
 have HMO:=Hide.mk fun (gX:Nat→Option Blk) (n2:Nat) (hn:n≤n2) (hX:∀ b,b < n→gX b=g b)=>MOf_w st inp out part es ev gX n2 hI.b0 hI.b1 hI.b2 (hI.se.mono hn hX) hI.eb
 have HI:=Hide.mk hI
 have HM:=Hide.mk (machOf_ok st inp out part es)
 clear hI
 generalize machOf st inp out part es=M at *
 refine WC.enterP (noO_ok _ _) hG pl59 Tryz.func59 rfl (by decide +kernel) (Nat.le_of_ble_eq_true (by kernel_rfl)) ?_
 iterate 8 (all_goals try (first | with_reducible refine splitI (fun h=>?_) (fun h=>?_) | with_reducible refine splitBI (fun h=>?_) (fun h=>?_) | simp (config:={ maxSteps:=1000000 }) (disch:=first | assumption | omega | (simp; done) | fail) [Tryz.results59, *]))
 refine WC.mono (HMO.out _ _ (by omega) fun b (hb:b < n)=>by simp (disch:=omega) only [gput_lt]) ?_
 rintro _ ⟨ms,g1,n1,rfl,hn1,hg1,hfr⟩
 obtain ⟨rv,hms,h1r⟩:=hfr.rep.one
 subst hms
 have hone2:allOne [.lit (.int .i64 M.inp),.lit (.int .i64 M.out),rv]=true:=by simp [h1r]
 have HR:=Hide.mk hfr.rep
 have HG1:Hide (∀ b,b < n→g1 b=g b):=⟨fun b hb=>(hg1 b (by omega)).trans (by simp (disch:=omega) only [gput_lt])⟩
 have HX1:=Hide.mk hg1
 clear hg1 hfr HMO
 iterate 8 (all_goals try (first | with_reducible refine splitI (fun h=>?_) (fun h=>?_) | with_reducible refine splitBI (fun h=>?_) (fun h=>?_) | simp (config:={ maxSteps:=1000000 }) (disch:=first | assumption | omega | (simp; done) | fail) [Tryz.results59, *]))
 have hgn1:g1 n=some (.cells [.lit (.int .u8 st),.lit (.int .u8 inp),.lit (.int .u8 out),.lit (.bool part),ev,wv,.lit (.int .u8 ia),.lit (.int .u8 ib),.lit (.int .u8 ic)] true 0):=(HX1.out n (by omega)).trans (by simp (disch:=omega) only [gput_lt,gput_eq])
 have hgo1:g1 (n+1)=some (.cells [.lit (.int .i64 0),.lit (.int .i64 0),.lit (.slice none 0 0)] true 0):=(HX1.out (n+1) (by omega)).trans (by simp (disch:=omega) only [gput_lt,gput_eq])
 clear HX1
 refine LX.ind (fun m gf H'=>∃ (k n' : Nat) (gL:Nat→Option Blk) (B:Nat) (sv:AV),k≤ws.length∧k≤12∧m=12 - k∧H'=⟨.fn gL,n'⟩∧n1+1+1≤n'∧B < n'∧Hide (∀ b,b < n1→gL b=g1 b)∧gL n1=some (.cells [.lit (.int .i64 M.inp),.lit (.int .i64 M.out),rv] true 0) ∧
  gL (n1+1)=some (.cells [.lit (.int .i64 M.inp),.lit (.int .i64 M.out),sv] true 0)∧Hide (LogC gL (n1+1+1) n' B ((ws.take k).map (oneM M)) sv)∧gf 1=some (.ptr n 0)∧gf 2=some (.ptr (n+1) 0)∧gf 3=some (.ptr n1 0)∧gf 4=some (.ptr (n1+1) 0)∧gf 5=some (.lit (.int .i64 k))) (m0:=12) ?_ ?_
 ·refine ⟨0,_,_,0,_,Nat.zero_le _,Nat.zero_le _,rfl,rfl,Nat.le_refl _,by omega,⟨fun b hb=>?_⟩,?_,gput_eq,⟨[],.inl ⟨rfl,rfl,rfl⟩,.nil,fun v hv=>by cases hv⟩,by simp,by simp,by simp,by simp,by simp⟩
  ·exact (gput_lt (by omega)).trans (gput_lt hb)
  ·exact (gput_lt (by omega)).trans gput_eq
 rintro m gf H' ⟨k,n',gL,B,sv,hk,hk12,rfl,rfl,hn',hBn,HG,hgm,hgl,HL,w1,w2,w3,w4,w5⟩ ih
 have hgn:=(HG.out n (by omega)).trans hgn1
 have hgo:=(HG.out (n+1) (by omega)).trans hgo1
 have h1sv:=HL.out.one
 have hone3:allOne [.lit (.int .i64 M.inp),.lit (.int .i64 M.out),sv]=true:=by simp [h1sv]
 have FIN:Hide (¬(k < ws.length∧k < 12)→LogC gL (n1+1+1) n' B (runsM M ws) sv):=⟨fun h=>by
  have e:ws.take k=ws.take 12:=by
   by_cases h2:k < 12
   ·rw [List.take_of_length_le (by omega),List.take_of_length_le (by omega)]
   ·rw [show k=12 by omega]
  have h1:=HL.out
  rw [e] at h1
  exact h1⟩
 refine LX.roundP (noO_ok _ _) hG pl59 (by decide +kernel) ?_
 by_cases hlt:k < ws.length
 ·have hltI:(k:Int) < (ws.length:Int):=by omega
  by_cases hlm:k < 12
  ·have hlmI:(k:Int) < 12:=by omega
   obtain ⟨a2,off,q,ha2,hia,hcell,hrb⟩:=HI.out.sw.at hlt
   have hcell2:loadB (some (false,1)) (gL a2) (off+k)=some q:=(congrArg (fun z=>loadB (some (false,1)) z (off+k)) ((HG.out a2 (by omega)).trans (HG1.out a2 ha2))).trans hcell
   have hM:=HM.out
   have HWD:=Hide.mk (fun (gX:Nat→Option Blk) (n2:Nat) (hn2:n≤n2) (hX:∀ b,b < n→gX b=g b)=>Word2_c ws[k] (HI.out.wb _ (List.getElem_mem hlt)) M.inp 10 hM.1 hM.2.1 (by decide) 10 rfl gX n2 q (SliceV.mono hn2 hX hrb))
   have HTK:Hide ((ws.take (k+1)).map (oneM M)=(ws.take k).map (oneM M)++[oneM M ws[k]]):=⟨by rw [take_snoc hlt,List.map_append,List.map_singleton]⟩
   have HW:Hide (oneM M ws[k]=(wordG ws[k] M.inp.toNat 10,runM M 0 (wordG ws[k] M.inp.toNat 10))∧(wordG ws[k] M.inp.toNat 10).length≤10∧inW (wordG ws[k] M.inp.toNat 10) M.inp=true):=⟨rfl,wordG_len,wordG_in hM.1⟩
   clear hcell hrb hM
   generalize wordG ws[k] M.inp.toNat 10=w at *
   generalize oneM M ws[k]=t at *
   iterate 8 (all_goals try (first | with_reducible refine splitI (fun h=>?_) (fun h=>?_) | with_reducible refine splitBI (fun h=>?_) (fun h=>?_) | simp (config:={ maxSteps:=1000000 }) (disch:=first | assumption | omega | (simp; done) | fail) [Tryz.results59, *]))
   refine WC.mono (HWD.out _ _ (by omega) fun b (hb:b < n)=>(HG.out b (by omega)).trans (HG1.out b hb)) ?_
   rintro _ ⟨uv,g2,n2,rfl,hn2,hX2,hfw⟩
   have HX2:=Hide.mk hX2
   have HFW:=Hide.mk hfw
   have hgm2:=(hX2 n1 (by omega)).trans hgm
   have hgl2:=(hX2 (n1+1) (by omega)).trans hgl
   have hone4:oneC uv=true:=hfw.1.rep.one
   have hcu:cellsOf uv=[uv]:=hfw.1.rep.cell
   have HRU:=Hide.mk (fun (gX:Nat→Option Blk) (n3:Nat) (hn3:n2≤n3) (hX:∀ b,b < n2→gX b=g2 b)=>rRun_c HM.out w (by have:=HW.out.2.1; omega) HW.out.2.2 gX n3 [.lit (.int .i64 M.inp),.lit (.int .i64 M.out),rv] uv (HR.out.mono (by omega) fun b hb=>(hX b (by omega)).trans ((HX2.out b (by omega)).trans (HG.out b (by omega)))) (SliceV.mono hn3 hX HFW.out.1.rep))
   clear hX2 hfw HWD hcell2 hia
   iterate 8 (all_goals try (first | with_reducible refine splitI (fun h=>?_) (fun h=>?_) | with_reducible refine splitBI (fun h=>?_) (fun h=>?_) | simp (config:={ maxSteps:=1000000 }) (disch:=first | assumption | omega | (simp; done) | fail) [Tryz.results59, *]))
   refine WC.mono (HRU.out _ _ (by omega) fun b hb=>rfl) ?_
   rintro _ ⟨zv,g3,n3,rfl,hn3,hX3,hfz⟩
   have HX3:=Hide.mk hX3
   have HFZ:=Hide.mk hfz
   have hgm3:=(hX3 n1 (by omega)).trans hgm2
   have hgl3:=(hX3 (n1+1) (by omega)).trans hgl2
   have hone5:oneC zv=true:=hfz.1.rep.one
   have hcz:cellsOf zv=[zv]:=hfz.1.rep.cell
   have hone6:allOne [uv,zv]=true:=by simp [hone4,hone5]
   clear hX3 hfz HRU
   obtain ⟨cs,hgr,hrf,hcc⟩:=HL.out
   have HCC:=Hide.mk hcc
   clear hcc
   have HRF:=Hide.mk hrf
   have hcl:=hrf.1
   rw [List.length_map,List.length_take,Nat.min_eq_left hk] at hgr
   rw [List.length_map,List.length_take,Nat.min_eq_left hk] at hcl
   clear hrf
   have HNB:Hide (∀ a,n'≤a→a≠B):=⟨fun a h=>by omega⟩
   have HLOG:Hide (∀ gF:Nat→Option Blk,(∀ b,n1+1+1≤b→b < n3→b≠B→gF b=g3 b)→gF (n3+1)=some (.cells (cs++[uv,zv]) true 2)→LogC gF (n1+1+1) (n3+1+1) (n3+1) ((ws.take (k+1)).map (oneM M)) (.slq (n3+1) 0 (k+1) 0)):=⟨fun gF h1 h2=>by
    refine ⟨cs++[uv,zv],?_,?_,?_⟩
    ·rw [HTK.out,List.length_append,List.length_map,List.length_take,Nat.min_eq_left hk]
     exact .mk h2 (by omega) (by omega) (by rw [List.length_append,hcl]; simp; omega)
    ·rw [HTK.out,HW.out.1]
     exact (HRF.out.keep (Nat.le_refl _) (by omega) (.inl (by omega)) fun a h3 h4 h5=>(h1 a h3 (by omega) h5).trans ((HX3.out a (by omega)).trans (HX2.out a h4))).snoc (HFW.out.1.safe (by omega) (by omega) (.inl (by omega)) fun a h3 h4=>(h1 a (by omega) (by omega) (HNB.out a (by omega))).trans (HX3.out a h4)) (HFZ.out.1.safe (by omega) (by omega) (.inl (by omega)) fun a h3 h4=>h1 a (by omega) h4 (HNB.out a (by omega)))
    ·intro v hv
     rcases List.mem_append.1 hv with h | h
     ·exact HCC.out v h
     ·rcases List.mem_cons.1 h with rfl | h
      ·exact HFW.out.2
      ·rw [List.mem_singleton.1 h]; exact HFZ.out.2⟩
   rcases hgr with ⟨hk0,hc0,hs0⟩ | ⟨hk0,hs0,hB1,hB2,hB3,hB4⟩
   ·subst hs0
    have HZ:=Hide.mk (And.intro hk0 hc0)
    clear hk0 hc0
    iterate 8 (all_goals try (first | with_reducible refine splitI (fun h=>?_) (fun h=>?_) | with_reducible refine splitBI (fun h=>?_) (fun h=>?_) | simp (config:={ maxSteps:=1000000 }) (disch:=first | assumption | omega | (simp; done) | fail) [Tryz.results59, *]))
    refine ih.out (12 - (k+1)) _ _ (by omega) ⟨k+1,n3+1+1,_,n3+1,.slq (n3+1) 0 (k+1) 0,by omega,by omega,rfl,rfl,by omega,by omega,⟨fun b hb=>?_⟩,?_,?_,⟨HLOG.out _ (fun b h1 h2 h3=>?_) ?_⟩,by simp [*],by simp [*],by simp [*],by simp [*],by simp⟩
    ·simp (disch:=omega) only [gput_lt,gput_ne]; exact (HX3.out b (by omega)).trans ((HX2.out b (by omega)).trans (HG.out b hb))
    ·simp (disch:=omega) only [gput_lt,gput_ne]; exact hgm3
    ·rw [HZ.out.1]; simp (disch:=omega) only [gput_lt,gput_ne,gput_eq]
    ·simp (disch:=omega) only [gput_lt,gput_ne]
    ·rw [HZ.out.2]; simp (disch:=omega) only [gput_lt,gput_ne,gput_eq]; rfl
   ·subst hs0
    have hB5:g3 B=some (.cells cs true 2):=(HX3.out B (by omega)).trans ((HX2.out B hB2).trans hB3)
    clear hB3
    iterate 8 (all_goals try (first | with_reducible refine splitI (fun h=>?_) (fun h=>?_) | with_reducible refine splitBI (fun h=>?_) (fun h=>?_) | simp (config:={ maxSteps:=1000000 }) (disch:=first | assumption | omega | (simp; done) | fail) [Tryz.results59, *]))
    refine ih.out (12 - (k+1)) _ _ (by omega) ⟨k+1,n3+1+1,_,n3+1,.slq (n3+1) 0 (k+1) 0,by omega,by omega,rfl,rfl,by omega,by omega,⟨fun b hb=>?_⟩,?_,?_,⟨HLOG.out _ (fun b h1 h2 h3=>?_) ?_⟩,by simp [*],by simp [*],by simp [*],by simp [*],by simp⟩
    ·simp (disch:=omega) only [gput_lt,gput_ne]; exact (HX3.out b (by omega)).trans ((HX2.out b (by omega)).trans (HG.out b hb))
    ·simp (disch:=omega) only [gput_lt,gput_ne]; exact hgm3
    ·simp (disch:=omega) only [gput_lt,gput_ne,gput_eq]
    ·simp (disch:=omega) only [gput_lt,gput_ne]
    ·simp (disch:=omega) only [gput_lt,gput_ne,gput_eq]
  ·have hlmI:¬(k:Int) < 12:=by omega
   have HF:=Hide.mk (FIN.out (by omega))
   iterate 8 (all_goals try (first | with_reducible refine splitI (fun h=>?_) (fun h=>?_) | with_reducible refine splitBI (fun h=>?_) (fun h=>?_) | simp (config:={ maxSteps:=1000000 }) (disch:=first | assumption | omega | (simp; done) | fail) [Tryz.results59, *]))
   exact ⟨_,_,_,⟨rfl,rfl,rfl⟩,by omega,fun b hb=>(gput_lt (by omega)).trans ((HG.out b (by omega)).trans (HG1.out b hb)),B,HF.out.keep (by omega) (Nat.le_refl _) fun a h1 h2=>gput_ne (by omega)⟩
 ·have hltI:¬(k:Int) < (ws.length:Int):=by omega
  have HF:=Hide.mk (FIN.out (by omega))
  iterate 8 (all_goals try (first | with_reducible refine splitI (fun h=>?_) (fun h=>?_) | with_reducible refine splitBI (fun h=>?_) (fun h=>?_) | simp (config:={ maxSteps:=1000000 }) (disch:=first | assumption | omega | (simp; done) | fail) [Tryz.results59, *]))
  exact ⟨_,_,_,⟨rfl,rfl,rfl⟩,by omega,fun b hb=>(gput_lt (by omega)).trans ((HG.out b (by omega)).trans (HG1.out b hb)),B,HF.out.keep (by omega) (Nat.le_refl _) fun a h1 h2=>gput_ne (by omega)⟩
end Go.Ai
end
section
namespace Go.Ai
open Go.Proofs
set_option maxRecDepth 10000
set_option maxHeartbeats 40000000
end Go.Ai
end
