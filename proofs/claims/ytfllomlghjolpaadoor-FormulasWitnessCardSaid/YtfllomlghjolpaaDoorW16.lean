/- A small verified interpreter over names, its proofs, and what was proved with it. No condition. -/
import Derived.Test.YtfllomlghjolpaaDoorW13
import Derived.Test.YtfllomlghjolpaaDoorW14
import Derived.Test.YtfllomlghjolpaaDoorW07
import Derived.Test.YtfllomlghjolpaaDoorW15
set_option linter.all false
set_option linter.deprecated false
section
namespace Go.Ai
open Go.Proofs
set_option maxRecDepth 10000
set_option maxHeartbeats 40000000
theorem WordV.keep6 {g g2:Nat→Option Blk} {lo hi hi2:Nat} {v:AV} {w:List Nat} (h:WordV g lo hi v w) (hh:hi≤hi2) (hg:∀ q,q < hi→g2 q=g q) : WordV g2 lo hi2 v w:=by
 rcases h with h | ⟨h1,A,own,z,h2,h3,h4,h5⟩
 ·exact Or.inl h
 ·exact Or.inr ⟨h1,A,own,z,h2,h3,by omega,by rw [hg A h4]; exact h5⟩
theorem formulasWitness_w (hl:retIs (.lit (.bool true)) (callF Tryd.prog noO 10000 14 [] H0)=true) (st inp out:Nat) (part:Bool) (es codes:List Nat) (ev cv:AV) (wh:Nat) (s:Int) (g:Nat→Option Blk) (n:Nat) (h0:∀ i x,blks0[i]?=some x→g i=some x) (hn:8≤n)
  (hst:st < 256) (hinp:inp < 256) (hout:out < 256) (hes:SliceA g n ev es.length (u16Cells es)) (heb:∀ c∈es,c < 65536) (hcs:SliceA g n cv codes.length (u8Cells codes)) (hcb:∀ c∈codes,c < 256) (hwh:wh < 256) :
  WC 6 Tryd.prog 7 [.agg [.lit (.int .u8 st),.lit (.int .u8 inp),.lit (.int .u8 out),.lit (.bool part),ev,cv],.lit (.int .u8 wh),.lit (.int .i64 s)] ⟨.fn g,n⟩ fun r=>∃ H',r=.ret (.lit (.bool true)) H':=by
 have h1e:=hes.one
 have h1c:=hcs.one
 have h1a:allOne [.lit (.int .u8 st),.lit (.int .u8 inp),.lit (.int .u8 out),.lit (.bool part),ev,cv]=true:=by simp [h1e,h1c]
 have H00:=Hide.mk h0
 have HL:=Hide.mk hl
 have H8:Hide (∀ i y,blks0[i]?=some y→i < 8):=⟨fun i y hy=>(List.getElem?_eq_some_iff.1 hy).1⟩
 have HMK:=Hide.mk (machOf_ok st inp out part es)
 have HW:=Hide.mk (fun (g:Nat→Option Blk) (n:Nat) (h1:SliceA g n ev es.length (u16Cells es)) (h2:SliceA g n cv codes.length (u8Cells codes))=>FOf_w st inp out part es codes ev cv g n hst hinp hout h1 heb h2 hcb)
 have HE:=Hide.mk hes
 have HC:=Hide.mk hcs
 have HF:=Hide.mk (of_facts st inp out codes)
 have HVM:=Hide.mk (of_valid st inp out part es codes)
 have LIVES:Hide (∀ (g' : Nat→Option Blk) (n' : Nat),(∀ q,q < n→g' q=g q)→WC 6 Tryd.prog 14 [] ⟨.fn g',n'⟩ fun r=>r=.ret (.lit (.bool true)) ⟨.fn g',n'⟩):=⟨fun g' n' h=>own_w (callF_ok (noO_ok _ _) hG 10000) rfl rfl HL.out _ (holds_of fun i y hy=>by
  have h8:=H8.out i y hy
  show g' i=_
  rw [h i (by omega)]
  exact H00.out i y hy)⟩
 clear h0 hl hes heb hcs hcb
 refine WC.enterP (noO_ok _ _) hG pl7 Tryd.func7 rfl (by decide +kernel) (Nat.le_of_ble_eq_true (by kernel_rfl)) ?_
 try simp (maxSteps:=999999) (disch:=first | assumption | omega | (simp; done) | fail) [Tryd.results7, *]
 refine WC.mono (HW.out _ _ (HE.out.mono (by omega) fun q hq=>(by simp (disch:=omega) only [gput_lt])) (HC.out.mono (by omega) fun q hq=>(by simp (disch:=omega) only [gput_lt]))) ?_
 generalize machOf st inp out part es=M at *
 generalize ofF st inp out codes=x at *
 rintro _ ⟨ms,cs,g1,n1,rfl,hn1,hg1,hrm,hrn⟩
 have HRM:=Hide.mk hrm
 obtain ⟨rv,hms,h1r⟩:=hrm.one
 obtain ⟨k3,q3,sv3,hcz,h1c3,hop3⟩:=repN_one hrn
 subst hms hcz
 have h1m:allOne [.lit (.int .i64 M.inp),.lit (.int .i64 M.out),rv]=true:=by simp [h1r]
 have h1p:allOne [.lit (.int .u8 x.op),.lit (.int .i64 k3),.lit (.int .i64 q3),sv3]=true:=by simp [h1c3]
 have HG1:Hide (∀ q,q < n→g1 q=g q):=⟨fun q hq=>by rw [hg1 q (by omega)]; simp (disch:=omega) only [gput_lt]⟩
 have HRN:=Hide.mk hrn
 have hsz:=HF.out.2.2.1
 have h64:M.rows.length≤64:=HMK.out.2.2.2.2.2.1
 have hlr:∀ {H:Mem} {ev:Ev} {o:Oper} {c:Call} {e:TypeId},lenS Tryd.prog H ev o c (some (.slice e)) (some [rv])=.val (.lit (.int .i64 M.rows.length)) H:=by
  obtain ⟨rv2,svs2,e2,_,h2⟩:=HRM.out
  cases e2
  exact lenV h2
 clear hg1 hrm hrn HW HE HC
 try simp (maxSteps:=999999) (disch:=first | assumption | omega | (simp; done) | fail) [Tryd.results7, *]
 refine WC.mono (rSat_w HMK.out (sizeN x) x (Nat.le_refl _) HVM.out _ _ _ _ (HRM.out.mono (by omega) fun q hq=>by simp (disch:=omega) only [gput_lt]) (repN_mono (by omega) (fun q hq=>by simp (disch:=omega) only [gput_lt]) HRN.out)) ?_
 rintro _ ⟨A,XA,g2,n2,rfl,hn2,hg2,hA1,hA2,hA3,hsemA⟩
 have HG2:Hide (∀ q,q < n1→g2 q=g1 q):=⟨fun q hq=>by rw [hg2 q (by omega)]; simp (disch:=omega) only [gput_lt]⟩
 have e7:g2 n1=some (.cells [.lit (.int .i64 M.inp),.lit (.int .i64 M.out),rv] true 0):=by rw [hg2 n1 (by omega)]; simp (disch:=omega) only [gput_lt,gput_eq,gput_ne]
 have e8:g2 (n1+1)=some (.cells [.lit (.int .u8 x.op),.lit (.int .i64 k3),.lit (.int .i64 q3),sv3] true 0):=by rw [hg2 (n1+1) (by omega)]; simp (disch:=omega) only [gput_eq,gput_ne]
 have HSA:=Hide.mk hsemA
 clear hg2 hsemA
 try simp (maxSteps:=999999) (disch:=first | assumption | omega | (simp; done) | fail) [Tryd.results7, *]
 refine WC.mono (node_nil _ _ 0) ?_
 rintro _ rfl
 try simp (maxSteps:=999999) (disch:=first | assumption | omega | (simp; done) | fail) [Tryd.results7, *]
 refine WC.mono (rSat_w HMK.out 1 (.mk 0 0 0 []) (Nat.le_refl _) valid_true _ _ _ _ (HRM.out.mono (by omega) fun q hq=>by rw [gput_lt (by omega)]; exact HG2.out q hq) rep_leaf) ?_
 rintro _ ⟨B,XB,g3,n3,rfl,hn3,hg3,hB1,hB2,hB3,hsemB⟩
 have HG3:Hide (∀ q,q < n1→g3 q=g1 q):=⟨fun q hq=>by rw [hg3 q (by omega),gput_lt (by omega)]; exact HG2.out q hq⟩
 have f7:g3 n1=some (.cells [.lit (.int .i64 M.inp),.lit (.int .i64 M.out),rv] true 0):=by rw [hg3 n1 (by omega),gput_lt (by omega)]; exact e7
 have f8:g3 (n1+1)=some (.cells [.lit (.int .u8 x.op),.lit (.int .i64 k3),.lit (.int .i64 q3),sv3] true 0):=by rw [hg3 (n1+1) (by omega),gput_lt (by omega)]; exact e8
 have hA4:g3 A=some (.cells (intC M.rows.length XA) true 0):=by rw [hg3 A (by omega),gput_lt (by omega)]; exact hA3
 have HSB:=Hide.mk (sem_true hsemB)
 clear hg3 hsemB hA3 e7 e8 HG2
 have hm4:=Nat.mod_lt wh (show 0 < 4 by omega)
 have htm:(wh:Int).tmod 4=((wh % 4:Nat) : Int):=(Int.ofNat_tmod wh 4).symm
 have hgood:=wit_good hm4 HVM.out hsz
 have HGD:=Hide.mk hgood
 have hr4:wh % 4=0∨wh % 4=1∨wh % 4=2∨wh % 4=3:=by omega
 clear hgood hm4
 rcases hr4 with hr | hr | hr | hr
 ·rw [hr] at htm HGD
  change (wh:Int).tmod 4=0 at htm
  have HG:=HGD
  change Hide (validM M.rows.length M.inp M.out (un 7 x)=true∧sizeN (un 7 x)≤64) at HG
  clear HGD
  try simp (maxSteps:=999999) (disch:=first | assumption | omega | (simp; done) | fail) [Tryd.results7, *]
  refine WC.mono (node_sl _ _ 7 _ _ _ _) ?_
  rintro _ rfl
  try simp (maxSteps:=999999) (disch:=first | assumption | omega | (simp; done) | fail) [Tryd.results7, *]
  have HREP:Hide (∀ (g4:Nat→Option Blk) (n4:Nat),n3+1+1+1+1≤n4→g4 (n3+1)=some (.cells [.lit (.int .u8 x.op),.lit (.int .i64 k3),.lit (.int .i64 q3),sv3] true 0)→(∀ q,q < n1→g4 q=g1 q)→repN g4 n4 (un 7 x) [.lit (.int .u8 7),.lit (.int .i64 0),.lit (.int .i64 0),.sl (n3+1) 0 1 1]):=⟨fun g4 n4 hn4 K1 KG=>(rep_un (by omega) K1 (by omega) (repN_mono (by omega) KG HRN.out) : repN g4 n4 (un 7 x) _)⟩
  have hYs:sizeN (un 7 x)≤64:=HG.out.2
  refine WC.mono (wit_w HMK.out (un 7 x) (by omega) HG.out.1 (by rw [small_ok' _ 64 (by omega)]) s _ _ _ _ ?_ (by omega) (HRM.out.mono (by omega) fun q hq=>?_) (HREP.out _ _ (by omega) ?_ fun q hq=>?_)) ?_
  ·simp (disch:=omega) only [gput_lt,gput_ne,gput_eq]; rw [HG3.out 0 (by omega),HG1.out 0 (by omega)]; exact H00.out 0 _ rfl
  ·simp (disch:=omega) only [gput_lt,gput_ne,gput_eq]; exact HG3.out q (by omega)
  ·simp (disch:=omega) only [gput_lt,gput_ne,gput_eq]
  ·simp (disch:=omega) only [gput_lt,gput_ne,gput_eq]; exact HG3.out q (by omega)
  rintro _ ⟨v,l,e,g4,n4,rfl,hn4,hg4,hwr⟩
  have HWR:=Hide.mk hwr
  have h1v:=wit_one hwr
  have HG4:Hide (∀ q,q < n3→g4 q=g3 q):=⟨fun q hq=>by rw [hg4 q (by omega)]; simp (disch:=omega) only [gput_lt,gput_ne,gput_eq]⟩
  have x7:g4 n1=some (.cells [.lit (.int .i64 M.inp),.lit (.int .i64 M.out),rv] true 0):=(HG4.out n1 (by omega)).trans f7
  have x8:g4 (n1+1)=some (.cells [.lit (.int .u8 x.op),.lit (.int .i64 k3),.lit (.int .i64 q3),sv3] true 0):=(HG4.out (n1+1) (by omega)).trans f8
  have x12:g4 (n3+1+1+1)=some (.cells [.lit (.int .u8 7),.lit (.int .i64 0),.lit (.int .i64 0),.sl (n3+1) 0 1 1] true 0):=by rw [hg4 (n3+1+1+1) (by omega)]; simp (disch:=omega) only [gput_lt,gput_ne,gput_eq]
  have HXA:=Hide.mk ((HG4.out A (by omega)).trans hA4)
  have HXB:=Hide.mk ((HG4.out B (by omega)).trans hB3)
  have KG:Hide (∀ q,q < n1→g4 q=g1 q):=⟨fun q hq=>by rw [HG4.out q (by omega)]; exact HG3.out q hq⟩
  have KL:Hide (∀ q,q < n→g4 q=g q):=⟨fun q hq=>by rw [KG.out q (by omega)]; exact HG1.out q hq⟩
  have HK1:Hide (g4 (n3+1)=some (.cells [.lit (.int .u8 x.op),.lit (.int .i64 k3),.lit (.int .i64 q3),sv3] true 0)):=⟨by rw [hg4 (n3+1) (by omega)]; simp (disch:=omega) only [gput_lt,gput_ne,gput_eq]⟩
  clear hg4 hwr f7 f8 hA4 hB3
  have h1y:allOne [.lit (.int .u8 7),.lit (.int .i64 0),.lit (.int .i64 0),.sl (n3+1) 0 1 1]=true:=by simp
  by_cases hs0:s < 0
  ·obtain ⟨rfl,rfl,rfl⟩:=wit_out HWR.out (by omega)
   try simp (maxSteps:=999999) (disch:=first | assumption | omega | (simp; done) | fail) [Tryd.results7, *]
   refine WC.mono (LIVES.out _ _ fun q hq=>KL.out q hq) ?_
   rintro _ rfl
   try simp (maxSteps:=999999) (disch:=first | assumption | omega | (simp; done) | fail) [Tryd.results7, *]
  by_cases hsN:s ≥ (M.rows.length:Int)
  ·obtain ⟨rfl,rfl,rfl⟩:=wit_out HWR.out (by omega)
   try simp (maxSteps:=999999) (disch:=first | assumption | omega | (simp; done) | fail) [Tryd.results7, *]
   refine WC.mono (LIVES.out _ _ fun q hq=>KL.out q hq) ?_
   rintro _ rfl
   try simp (maxSteps:=999999) (disch:=first | assumption | omega | (simp; done) | fail) [Tryd.results7, *]
  obtain ⟨sn,rfl⟩ : ∃ sn:Nat,s=sn:=⟨s.toNat,by omega⟩
  have hsn:sn < M.rows.length:=by omega
  try simp (maxSteps:=999999) (disch:=first | assumption | omega | (simp; done) | fail) [Tryd.results7, *]
  refine WC.mono (rSat_w HMK.out 64 (un 7 x) HG.out.2 HG.out.1 _ _ _ _ (HRM.out.mono (by omega) fun q hq=>KG.out q (by omega)) (HREP.out _ _ (by omega) HK1.out KG.out)) ?_
  rintro _ ⟨C,XC,g5,n5,rfl,hn5,hg5,hC1,hC2,hC3,hsemC⟩
  have HG5:=Hide.mk hg5
  have HSC:=Hide.mk hsemC
  have y7:=(hg5 n1 (by omega)).trans x7
  have y8:=(hg5 (n1+1) (by omega)).trans x8
  have HYA:=Hide.mk ((hg5 A (by omega)).trans HXA.out)
  have HYB:=Hide.mk ((hg5 B (by omega)).trans HXB.out)
  have KL5:Hide (∀ q,q < n→g5 q=g q):=⟨fun q hq=>by rw [hg5 q (by omega)]; exact KL.out q hq⟩
  have KG5:Hide (∀ q,q < n1→g5 q=g1 q):=⟨fun q hq=>by rw [hg5 q (by omega)]; exact KG.out q hq⟩
  have hcl:=intC_len M.rows.length XC
  have hat:=intC_at M.rows.length XC sn
  rw [if_pos hsn] at hat
  have hCl:sn < (intC M.rows.length XC).length:=by omega
  rw [List.getElem?_eq_getElem hCl,Option.some.injEq] at hat
  have HC3:=Hide.mk hC3
  generalize hLC:intC M.rows.length XC=LC at *
  have HLC:=Hide.mk hLC
  clear hg5 hsemC x7 x8 x12 HXA HXB hLC
  cases hxc:XC sn with
  | false =>
   rw [hxc] at hat
   change LC[sn]'hCl=.lit (.int .i64 0) at hat
   obtain ⟨rfl,rfl,rfl⟩:=wit_none HMK.out HWR.out hsn ⟨by show 7≤7; omega,by show 7≤10; omega⟩ HSC.out hxc
   try simp (maxSteps:=999999) (disch:=first | assumption | omega | (simp; done) | fail) [Tryd.results7, *]
   refine WC.mono (LIVES.out _ _ fun q hq=>KL5.out q hq) ?_
   rintro _ rfl
   try simp (maxSteps:=999999) (disch:=first | assumption | omega | (simp; done) | fail) [Tryd.results7, *]
  | true =>
   rw [hxc] at hat
   change LC[sn]'hCl=.lit (.int .i64 1) at hat
   obtain ⟨rfl,rfl,w,hw,hwv,hwl⟩:=wit_r0 HMK.out HWR.out hsn HSC.out hxc HSA.out
   have HWV:=Hide.mk hwv
   have HW:=Hide.mk hw
   clear hwv hw
   have hrpl:sn < (List.replicate M.rows.length (AV.lit (.int .i64 0))).length:=by rw [List.length_replicate]; exact hsn
   try simp (maxSteps:=999999) (disch:=first | assumption | omega | (simp; done) | fail) [Tryd.results7, *]
   refine WC.mono (rWay_w HMK.out sn (fun u=>decide (u=sn)) XA 1 hsn n5 A _ (n5+1) _ (HRM.out.mono (by omega) fun q hq=>?_) true true 0 0 ?_ (by omega) ?_ (by omega) w HW.out) ?_
   ·simp (disch:=omega) only [gput_lt,gput_ne,gput_eq]; exact KG5.out q hq
   ·simp (disch:=omega) only [gput_lt,gput_ne,gput_eq]; rw [intC_one M.rows.length sn hsn]
   ·simp (disch:=omega) only [gput_lt,gput_ne,gput_eq]; exact HYA.out
   rintro _ ⟨u,g6,n6,rfl,hn6,hg6,hgw⟩
   have h1u:=hgw.one
   have HGW:=Hide.mk hgw
   have KL6:Hide (∀ q,q < n→g6 q=g q):=⟨fun q hq=>by rw [hg6 q (by omega)]; simp (disch:=omega) only [gput_lt,gput_ne,gput_eq]; exact KL5.out q hq⟩
   have HG6:Hide (∀ q,q < n4→g6 q=g4 q):=⟨fun q hq=>by rw [hg6 q (by omega)]; simp (disch:=omega) only [gput_lt,gput_ne,gput_eq]; exact HG5.out q (by omega)⟩
   clear hg6 hgw
   try simp (maxSteps:=999999) (disch:=first | assumption | omega | (simp; done) | fail) [Tryd.results7, *]
   refine WC.mono (word_w _ hwl (-1) _ _ _ _ n6 (HWV.out.keep6 (by omega) HG6.out) HGW.out.slice) ?_
   rintro _ rfl
   try simp (maxSteps:=999999) (disch:=first | assumption | omega | (simp; done) | fail) [Tryd.results7, *]
   refine WC.mono (LIVES.out _ _ fun q hq=>KL6.out q hq) ?_
   rintro _ rfl
   try simp (maxSteps:=999999) (disch:=first | assumption | omega | (simp; done) | fail) [Tryd.results7, *]
 ·rw [hr] at htm HGD
  change (wh:Int).tmod 4=1 at htm
  have HG:=HGD
  change Hide (validM M.rows.length M.inp M.out (un 8 x)=true∧sizeN (un 8 x)≤64) at HG
  clear HGD
  try simp (maxSteps:=999999) (disch:=first | assumption | omega | (simp; done) | fail) [Tryd.results7, *]
  refine WC.mono (node_sl _ _ 8 _ _ _ _) ?_
  rintro _ rfl
  try simp (maxSteps:=999999) (disch:=first | assumption | omega | (simp; done) | fail) [Tryd.results7, *]
  have HREP:Hide (∀ (g4:Nat→Option Blk) (n4:Nat),n3+1+1+1+1≤n4→g4 (n3+1)=some (.cells [.lit (.int .u8 x.op),.lit (.int .i64 k3),.lit (.int .i64 q3),sv3] true 0)→(∀ q,q < n1→g4 q=g1 q)→repN g4 n4 (un 8 x) [.lit (.int .u8 8),.lit (.int .i64 0),.lit (.int .i64 0),.sl (n3+1) 0 1 1]):=⟨fun g4 n4 hn4 K1 KG=>(rep_un (by omega) K1 (by omega) (repN_mono (by omega) KG HRN.out) : repN g4 n4 (un 8 x) _)⟩
  have hYs:sizeN (un 8 x)≤64:=HG.out.2
  refine WC.mono (wit_w HMK.out (un 8 x) (by omega) HG.out.1 (by rw [small_ok' _ 64 (by omega)]) s _ _ _ _ ?_ (by omega) (HRM.out.mono (by omega) fun q hq=>?_) (HREP.out _ _ (by omega) ?_ fun q hq=>?_)) ?_
  ·simp (disch:=omega) only [gput_lt,gput_ne,gput_eq]; rw [HG3.out 0 (by omega),HG1.out 0 (by omega)]; exact H00.out 0 _ rfl
  ·simp (disch:=omega) only [gput_lt,gput_ne,gput_eq]; exact HG3.out q (by omega)
  ·simp (disch:=omega) only [gput_lt,gput_ne,gput_eq]
  ·simp (disch:=omega) only [gput_lt,gput_ne,gput_eq]; exact HG3.out q (by omega)
  rintro _ ⟨v,l,e,g4,n4,rfl,hn4,hg4,hwr⟩
  have HWR:=Hide.mk hwr
  have h1v:=wit_one hwr
  have HG4:Hide (∀ q,q < n3→g4 q=g3 q):=⟨fun q hq=>by rw [hg4 q (by omega)]; simp (disch:=omega) only [gput_lt,gput_ne,gput_eq]⟩
  have x7:g4 n1=some (.cells [.lit (.int .i64 M.inp),.lit (.int .i64 M.out),rv] true 0):=(HG4.out n1 (by omega)).trans f7
  have x8:g4 (n1+1)=some (.cells [.lit (.int .u8 x.op),.lit (.int .i64 k3),.lit (.int .i64 q3),sv3] true 0):=(HG4.out (n1+1) (by omega)).trans f8
  have x12:g4 (n3+1+1+1)=some (.cells [.lit (.int .u8 8),.lit (.int .i64 0),.lit (.int .i64 0),.sl (n3+1) 0 1 1] true 0):=by rw [hg4 (n3+1+1+1) (by omega)]; simp (disch:=omega) only [gput_lt,gput_ne,gput_eq]
  have HXA:=Hide.mk ((HG4.out A (by omega)).trans hA4)
  have HXB:=Hide.mk ((HG4.out B (by omega)).trans hB3)
  have KG:Hide (∀ q,q < n1→g4 q=g1 q):=⟨fun q hq=>by rw [HG4.out q (by omega)]; exact HG3.out q hq⟩
  have KL:Hide (∀ q,q < n→g4 q=g q):=⟨fun q hq=>by rw [KG.out q (by omega)]; exact HG1.out q hq⟩
  have HK1:Hide (g4 (n3+1)=some (.cells [.lit (.int .u8 x.op),.lit (.int .i64 k3),.lit (.int .i64 q3),sv3] true 0)):=⟨by rw [hg4 (n3+1) (by omega)]; simp (disch:=omega) only [gput_lt,gput_ne,gput_eq]⟩
  clear hg4 hwr f7 f8 hA4 hB3
  have h1y:allOne [.lit (.int .u8 8),.lit (.int .i64 0),.lit (.int .i64 0),.sl (n3+1) 0 1 1]=true:=by simp
  by_cases hs0:s < 0
  ·obtain ⟨rfl,rfl,rfl⟩:=wit_out HWR.out (by omega)
   try simp (maxSteps:=999999) (disch:=first | assumption | omega | (simp; done) | fail) [Tryd.results7, *]
   refine WC.mono (LIVES.out _ _ fun q hq=>KL.out q hq) ?_
   rintro _ rfl
   try simp (maxSteps:=999999) (disch:=first | assumption | omega | (simp; done) | fail) [Tryd.results7, *]
  by_cases hsN:s ≥ (M.rows.length:Int)
  ·obtain ⟨rfl,rfl,rfl⟩:=wit_out HWR.out (by omega)
   try simp (maxSteps:=999999) (disch:=first | assumption | omega | (simp; done) | fail) [Tryd.results7, *]
   refine WC.mono (LIVES.out _ _ fun q hq=>KL.out q hq) ?_
   rintro _ rfl
   try simp (maxSteps:=999999) (disch:=first | assumption | omega | (simp; done) | fail) [Tryd.results7, *]
  obtain ⟨sn,rfl⟩ : ∃ sn:Nat,s=sn:=⟨s.toNat,by omega⟩
  have hsn:sn < M.rows.length:=by omega
  try simp (maxSteps:=999999) (disch:=first | assumption | omega | (simp; done) | fail) [Tryd.results7, *]
  refine WC.mono (rSat_w HMK.out 64 (un 8 x) HG.out.2 HG.out.1 _ _ _ _ (HRM.out.mono (by omega) fun q hq=>KG.out q (by omega)) (HREP.out _ _ (by omega) HK1.out KG.out)) ?_
  rintro _ ⟨C,XC,g5,n5,rfl,hn5,hg5,hC1,hC2,hC3,hsemC⟩
  have HG5:=Hide.mk hg5
  have HSC:=Hide.mk hsemC
  have y7:=(hg5 n1 (by omega)).trans x7
  have y8:=(hg5 (n1+1) (by omega)).trans x8
  have HYA:=Hide.mk ((hg5 A (by omega)).trans HXA.out)
  have HYB:=Hide.mk ((hg5 B (by omega)).trans HXB.out)
  have KL5:Hide (∀ q,q < n→g5 q=g q):=⟨fun q hq=>by rw [hg5 q (by omega)]; exact KL.out q hq⟩
  have KG5:Hide (∀ q,q < n1→g5 q=g1 q):=⟨fun q hq=>by rw [hg5 q (by omega)]; exact KG.out q hq⟩
  have hcl:=intC_len M.rows.length XC
  have hat:=intC_at M.rows.length XC sn
  rw [if_pos hsn] at hat
  have hCl:sn < (intC M.rows.length XC).length:=by omega
  rw [List.getElem?_eq_getElem hCl,Option.some.injEq] at hat
  have HC3:=Hide.mk hC3
  generalize hLC:intC M.rows.length XC=LC at *
  have HLC:=Hide.mk hLC
  clear hg5 hsemC x7 x8 x12 HXA HXB hLC
  cases hxc:XC sn with
  | false =>
   rw [hxc] at hat
   change LC[sn]'hCl=.lit (.int .i64 0) at hat
   obtain ⟨rfl,rfl,rfl⟩:=wit_none HMK.out HWR.out hsn ⟨by show 7≤8; omega,by show 8≤10; omega⟩ HSC.out hxc
   try simp (maxSteps:=999999) (disch:=first | assumption | omega | (simp; done) | fail) [Tryd.results7, *]
   refine WC.mono (LIVES.out _ _ fun q hq=>KL5.out q hq) ?_
   rintro _ rfl
   try simp (maxSteps:=999999) (disch:=first | assumption | omega | (simp; done) | fail) [Tryd.results7, *]
  | true =>
   rw [hxc] at hat
   change LC[sn]'hCl=.lit (.int .i64 1) at hat
   obtain ⟨rfl,rfl,w,hw,hwv,hwl⟩:=wit_r1 HMK.out HWR.out hsn HSC.out hxc HSA.out HSB.out
   have HWV:=Hide.mk hwv
   have HW:=Hide.mk hw
   clear hwv hw
   try simp (maxSteps:=999999) (disch:=first | assumption | omega | (simp; done) | fail) [Tryd.results7, *]
   refine WC.mono (rWay_w HMK.out sn XB XA 0 hsn B A _ n5 _ (HRM.out.mono (by omega) KG5.out) true true 0 0 HYB.out (by omega) HYA.out (by omega) w HW.out) ?_
   rintro _ ⟨u,g6,n6,rfl,hn6,hg6,hgw⟩
   have h1u:=hgw.one
   have HGW:=Hide.mk hgw
   have KL6:Hide (∀ q,q < n→g6 q=g q):=⟨fun q hq=>by rw [hg6 q (by omega)]; exact KL5.out q hq⟩
   have HG6:Hide (∀ q,q < n4→g6 q=g4 q):=⟨fun q hq=>by rw [hg6 q (by omega)]; exact HG5.out q (by omega)⟩
   clear hg6 hgw
   try simp (maxSteps:=999999) (disch:=first | assumption | omega | (simp; done) | fail) [Tryd.results7, *]
   refine WC.mono (word_w _ hwl (-1) _ _ _ _ n6 (HWV.out.keep6 (by omega) HG6.out) HGW.out.slice) ?_
   rintro _ rfl
   try simp (maxSteps:=999999) (disch:=first | assumption | omega | (simp; done) | fail) [Tryd.results7, *]
   refine WC.mono (LIVES.out _ _ fun q hq=>KL6.out q hq) ?_
   rintro _ rfl
   try simp (maxSteps:=999999) (disch:=first | assumption | omega | (simp; done) | fail) [Tryd.results7, *]
 ·rw [hr] at htm HGD
  change (wh:Int).tmod 4=2 at htm
  have HG:=HGD
  change Hide (validM M.rows.length M.inp M.out (un 9 x)=true∧sizeN (un 9 x)≤64) at HG
  clear HGD
  try simp (maxSteps:=999999) (disch:=first | assumption | omega | (simp; done) | fail) [Tryd.results7, *]
  refine WC.mono (node_sl _ _ 9 _ _ _ _) ?_
  rintro _ rfl
  try simp (maxSteps:=999999) (disch:=first | assumption | omega | (simp; done) | fail) [Tryd.results7, *]
  have HREP:Hide (∀ (g4:Nat→Option Blk) (n4:Nat),n3+1+1+1+1≤n4→g4 (n3+1)=some (.cells [.lit (.int .u8 x.op),.lit (.int .i64 k3),.lit (.int .i64 q3),sv3] true 0)→(∀ q,q < n1→g4 q=g1 q)→repN g4 n4 (un 9 x) [.lit (.int .u8 9),.lit (.int .i64 0),.lit (.int .i64 0),.sl (n3+1) 0 1 1]):=⟨fun g4 n4 hn4 K1 KG=>(rep_un (by omega) K1 (by omega) (repN_mono (by omega) KG HRN.out) : repN g4 n4 (un 9 x) _)⟩
  have hYs:sizeN (un 9 x)≤64:=HG.out.2
  refine WC.mono (wit_w HMK.out (un 9 x) (by omega) HG.out.1 (by rw [small_ok' _ 64 (by omega)]) s _ _ _ _ ?_ (by omega) (HRM.out.mono (by omega) fun q hq=>?_) (HREP.out _ _ (by omega) ?_ fun q hq=>?_)) ?_
  ·simp (disch:=omega) only [gput_lt,gput_ne,gput_eq]; rw [HG3.out 0 (by omega),HG1.out 0 (by omega)]; exact H00.out 0 _ rfl
  ·simp (disch:=omega) only [gput_lt,gput_ne,gput_eq]; exact HG3.out q (by omega)
  ·simp (disch:=omega) only [gput_lt,gput_ne,gput_eq]
  ·simp (disch:=omega) only [gput_lt,gput_ne,gput_eq]; exact HG3.out q (by omega)
  rintro _ ⟨v,l,e,g4,n4,rfl,hn4,hg4,hwr⟩
  have HWR:=Hide.mk hwr
  have h1v:=wit_one hwr
  have HG4:Hide (∀ q,q < n3→g4 q=g3 q):=⟨fun q hq=>by rw [hg4 q (by omega)]; simp (disch:=omega) only [gput_lt,gput_ne,gput_eq]⟩
  have x7:g4 n1=some (.cells [.lit (.int .i64 M.inp),.lit (.int .i64 M.out),rv] true 0):=(HG4.out n1 (by omega)).trans f7
  have x8:g4 (n1+1)=some (.cells [.lit (.int .u8 x.op),.lit (.int .i64 k3),.lit (.int .i64 q3),sv3] true 0):=(HG4.out (n1+1) (by omega)).trans f8
  have x12:g4 (n3+1+1+1)=some (.cells [.lit (.int .u8 9),.lit (.int .i64 0),.lit (.int .i64 0),.sl (n3+1) 0 1 1] true 0):=by rw [hg4 (n3+1+1+1) (by omega)]; simp (disch:=omega) only [gput_lt,gput_ne,gput_eq]
  have HXA:=Hide.mk ((HG4.out A (by omega)).trans hA4)
  have HXB:=Hide.mk ((HG4.out B (by omega)).trans hB3)
  have KG:Hide (∀ q,q < n1→g4 q=g1 q):=⟨fun q hq=>by rw [HG4.out q (by omega)]; exact HG3.out q hq⟩
  have KL:Hide (∀ q,q < n→g4 q=g q):=⟨fun q hq=>by rw [KG.out q (by omega)]; exact HG1.out q hq⟩
  have HK1:Hide (g4 (n3+1)=some (.cells [.lit (.int .u8 x.op),.lit (.int .i64 k3),.lit (.int .i64 q3),sv3] true 0)):=⟨by rw [hg4 (n3+1) (by omega)]; simp (disch:=omega) only [gput_lt,gput_ne,gput_eq]⟩
  clear hg4 hwr f7 f8 hA4 hB3
  have h1y:allOne [.lit (.int .u8 9),.lit (.int .i64 0),.lit (.int .i64 0),.sl (n3+1) 0 1 1]=true:=by simp
  by_cases hs0:s < 0
  ·obtain ⟨rfl,rfl,rfl⟩:=wit_out HWR.out (by omega)
   try simp (maxSteps:=999999) (disch:=first | assumption | omega | (simp; done) | fail) [Tryd.results7, *]
   refine WC.mono (LIVES.out _ _ fun q hq=>KL.out q hq) ?_
   rintro _ rfl
   try simp (maxSteps:=999999) (disch:=first | assumption | omega | (simp; done) | fail) [Tryd.results7, *]
  by_cases hsN:s ≥ (M.rows.length:Int)
  ·obtain ⟨rfl,rfl,rfl⟩:=wit_out HWR.out (by omega)
   try simp (maxSteps:=999999) (disch:=first | assumption | omega | (simp; done) | fail) [Tryd.results7, *]
   refine WC.mono (LIVES.out _ _ fun q hq=>KL.out q hq) ?_
   rintro _ rfl
   try simp (maxSteps:=999999) (disch:=first | assumption | omega | (simp; done) | fail) [Tryd.results7, *]
  obtain ⟨sn,rfl⟩ : ∃ sn:Nat,s=sn:=⟨s.toNat,by omega⟩
  have hsn:sn < M.rows.length:=by omega
  try simp (maxSteps:=999999) (disch:=first | assumption | omega | (simp; done) | fail) [Tryd.results7, *]
  refine WC.mono (rSat_w HMK.out 64 (un 9 x) HG.out.2 HG.out.1 _ _ _ _ (HRM.out.mono (by omega) fun q hq=>KG.out q (by omega)) (HREP.out _ _ (by omega) HK1.out KG.out)) ?_
  rintro _ ⟨C,XC,g5,n5,rfl,hn5,hg5,hC1,hC2,hC3,hsemC⟩
  have HG5:=Hide.mk hg5
  have HSC:=Hide.mk hsemC
  have y7:=(hg5 n1 (by omega)).trans x7
  have y8:=(hg5 (n1+1) (by omega)).trans x8
  have HYA:=Hide.mk ((hg5 A (by omega)).trans HXA.out)
  have HYB:=Hide.mk ((hg5 B (by omega)).trans HXB.out)
  have KL5:Hide (∀ q,q < n→g5 q=g q):=⟨fun q hq=>by rw [hg5 q (by omega)]; exact KL.out q hq⟩
  have KG5:Hide (∀ q,q < n1→g5 q=g1 q):=⟨fun q hq=>by rw [hg5 q (by omega)]; exact KG.out q hq⟩
  have hcl:=intC_len M.rows.length XC
  have hat:=intC_at M.rows.length XC sn
  rw [if_pos hsn] at hat
  have hCl:sn < (intC M.rows.length XC).length:=by omega
  rw [List.getElem?_eq_getElem hCl,Option.some.injEq] at hat
  have HC3:=Hide.mk hC3
  generalize hLC:intC M.rows.length XC=LC at *
  have HLC:=Hide.mk hLC
  clear hg5 hsemC x7 x8 x12 HXA HXB hLC
  cases hxc:XC sn with
  | false =>
   rw [hxc] at hat
   change LC[sn]'hCl=.lit (.int .i64 0) at hat
   obtain ⟨rfl,rfl,rfl⟩:=wit_none HMK.out HWR.out hsn ⟨by show 7≤9; omega,by show 9≤10; omega⟩ HSC.out hxc
   try simp (maxSteps:=999999) (disch:=first | assumption | omega | (simp; done) | fail) [Tryd.results7, *]
   refine WC.mono (LIVES.out _ _ fun q hq=>KL5.out q hq) ?_
   rintro _ rfl
   try simp (maxSteps:=999999) (disch:=first | assumption | omega | (simp; done) | fail) [Tryd.results7, *]
  | true =>
   rw [hxc] at hat
   change LC[sn]'hCl=.lit (.int .i64 1) at hat
   obtain ⟨rfl,hl,hwv⟩:=wit_r2 HMK.out HWR.out hsn HSC.out hxc
   have HWV:=Hide.mk hwv
   have HLE:=Hide.mk hl
   have hll:=lasso_len HMK.out (t:=XC) (s:=sn)
   clear hwv hl
   try simp (maxSteps:=999999) (disch:=first | assumption | omega | (simp; done) | fail) [Tryd.results7, *]
   refine WC.mono (rLasso_w HMK.out sn XC hsn C _ n5 _ (HRM.out.mono (by omega) KG5.out) (by rw [HLC.out]; exact HC3.out) (by omega)) ?_
   rintro _ ⟨u,g6,n6,rfl,hn6,hg6,hgw⟩
   have h1u:=hgw.one
   have HGW:=Hide.mk hgw
   have KL6:Hide (∀ q,q < n→g6 q=g q):=⟨fun q hq=>by rw [hg6 q (by omega)]; exact KL5.out q hq⟩
   have HG6:=Hide.mk hg6
   clear hg6 hgw
   rw [← HLE.out] at *
   try simp (maxSteps:=999999) (disch:=first | assumption | omega | (simp; done) | fail) [Tryd.results7, *]
   refine WC.mono (word_w _ hll l _ _ _ _ n6 (HWV.out.keep6 (by omega) fun q hq=>(HG6.out q (by omega)).trans (HG5.out q hq)) HGW.out.slice) ?_
   rintro _ rfl
   try simp (maxSteps:=999999) (disch:=first | assumption | omega | (simp; done) | fail) [Tryd.results7, *]
   refine WC.mono (LIVES.out _ _ fun q hq=>KL6.out q hq) ?_
   rintro _ rfl
   try simp (maxSteps:=999999) (disch:=first | assumption | omega | (simp; done) | fail) [Tryd.results7, *]
 ·rw [hr] at htm HGD
  change (wh:Int).tmod 4=3 at htm
  have HG:=HGD
  change Hide (validM M.rows.length M.inp M.out (bi 10 (un 4 x) x)=true∧sizeN (bi 10 (un 4 x) x)≤64) at HG
  clear HGD
  try simp (maxSteps:=999999) (disch:=first | assumption | omega | (simp; done) | fail) [Tryd.results7, *]
  refine WC.mono (node_sl _ _ 10 _ _ _ _) ?_
  rintro _ rfl
  try simp (maxSteps:=999999) (disch:=first | assumption | omega | (simp; done) | fail) [Tryd.results7, *]
  refine WC.mono (node_sl _ _ 4 _ _ _ _) ?_
  rintro _ rfl
  try simp (maxSteps:=999999) (disch:=first | assumption | omega | (simp; done) | fail) [Tryd.results7, *]
  refine WC.mono (node_sl _ _ 10 _ _ _ _) ?_
  rintro _ rfl
  try simp (maxSteps:=999999) (disch:=first | assumption | omega | (simp; done) | fail) [Tryd.results7, *]
  have HREP:Hide (∀ (g4:Nat→Option Blk) (n4:Nat),n3+1+1+1+1+1+1+1+1≤n4→g4 (n3+1+1+1+1)=some (.cells [.lit (.int .u8 x.op),.lit (.int .i64 k3),.lit (.int .i64 q3),sv3] true 0)→g4 (n3+1+1+1+1+1+1)=some (.cells [.lit (.int .u8 4),.lit (.int .i64 0),.lit (.int .i64 0),.sl (n3+1+1+1+1) 0 1 1,.lit (.int .u8 x.op),.lit (.int .i64 k3),.lit (.int .i64 q3),sv3] true 0)→(∀ q,q < n1→g4 q=g1 q)→repN g4 n4 (bi 10 (un 4 x) x) [.lit (.int .u8 10),.lit (.int .i64 0),.lit (.int .i64 0),.sl (n3+1+1+1+1+1+1) 0 2 2]):=⟨fun g4 n4 hn4 K4 K6 KG=>(rep_bi (by omega) K6 (by omega) (rep_un (by omega) K4 (by omega) (repN_mono (by omega) KG HRN.out)) (repN_mono (by omega) KG HRN.out) : repN g4 n4 (bi 10 (un 4 x) x) _)⟩
  have hYs:sizeN (bi 10 (un 4 x) x)≤64:=HG.out.2
  refine WC.mono (wit_w HMK.out (bi 10 (un 4 x) x) (by omega) HG.out.1 (by rw [small_ok' _ 64 (by omega)]) s _ _ _ _ ?_ (by omega) (HRM.out.mono (by omega) fun q hq=>?_) (HREP.out _ _ (by omega) ?_ ?_ fun q hq=>?_)) ?_
  ·simp (disch:=omega) only [gput_lt,gput_ne,gput_eq]; rw [HG3.out 0 (by omega),HG1.out 0 (by omega)]; exact H00.out 0 _ rfl
  ·simp (disch:=omega) only [gput_lt,gput_ne,gput_eq]; exact HG3.out q (by omega)
  ·simp (disch:=omega) only [gput_lt,gput_ne,gput_eq]
  ·simp (disch:=omega) only [gput_lt,gput_ne,gput_eq]
  ·simp (disch:=omega) only [gput_lt,gput_ne,gput_eq]; exact HG3.out q (by omega)
  rintro _ ⟨v,l,e,g4,n4,rfl,hn4,hg4,hwr⟩
  have HWR:=Hide.mk hwr
  have h1v:=wit_one hwr
  have HG4:Hide (∀ q,q < n3→g4 q=g3 q):=⟨fun q hq=>by rw [hg4 q (by omega)]; simp (disch:=omega) only [gput_lt,gput_ne,gput_eq]⟩
  have x7:g4 n1=some (.cells [.lit (.int .i64 M.inp),.lit (.int .i64 M.out),rv] true 0):=(HG4.out n1 (by omega)).trans f7
  have x8:g4 (n1+1)=some (.cells [.lit (.int .u8 x.op),.lit (.int .i64 k3),.lit (.int .i64 q3),sv3] true 0):=(HG4.out (n1+1) (by omega)).trans f8
  have x12:g4 (n3+1+1+1)=some (.cells [.lit (.int .u8 10),.lit (.int .i64 0),.lit (.int .i64 0),.sl (n3+1+1+1+1+1+1) 0 2 2] true 0):=by rw [hg4 (n3+1+1+1) (by omega)]; simp (disch:=omega) only [gput_lt,gput_ne,gput_eq]
  have HXA:=Hide.mk ((HG4.out A (by omega)).trans hA4)
  have HXB:=Hide.mk ((HG4.out B (by omega)).trans hB3)
  have KG:Hide (∀ q,q < n1→g4 q=g1 q):=⟨fun q hq=>by rw [HG4.out q (by omega)]; exact HG3.out q hq⟩
  have KL:Hide (∀ q,q < n→g4 q=g q):=⟨fun q hq=>by rw [KG.out q (by omega)]; exact HG1.out q hq⟩
  have HK4:Hide (g4 (n3+1+1+1+1)=some (.cells [.lit (.int .u8 x.op),.lit (.int .i64 k3),.lit (.int .i64 q3),sv3] true 0)):=⟨by rw [hg4 (n3+1+1+1+1) (by omega)]; simp (disch:=omega) only [gput_lt,gput_ne,gput_eq]⟩
  have HK6:Hide (g4 (n3+1+1+1+1+1+1)=some (.cells [.lit (.int .u8 4),.lit (.int .i64 0),.lit (.int .i64 0),.sl (n3+1+1+1+1) 0 1 1,.lit (.int .u8 x.op),.lit (.int .i64 k3),.lit (.int .i64 q3),sv3] true 0)):=⟨by rw [hg4 (n3+1+1+1+1+1+1) (by omega)]; simp (disch:=omega) only [gput_lt,gput_ne,gput_eq]⟩
  clear hg4 hwr f7 f8 hA4 hB3
  have h1y:allOne [.lit (.int .u8 10),.lit (.int .i64 0),.lit (.int .i64 0),.sl (n3+1+1+1+1+1+1) 0 2 2]=true:=by simp
  by_cases hs0:s < 0
  ·obtain ⟨rfl,rfl,rfl⟩:=wit_out HWR.out (by omega)
   try simp (maxSteps:=999999) (disch:=first | assumption | omega | (simp; done) | fail) [Tryd.results7, *]
   refine WC.mono (LIVES.out _ _ fun q hq=>KL.out q hq) ?_
   rintro _ rfl
   try simp (maxSteps:=999999) (disch:=first | assumption | omega | (simp; done) | fail) [Tryd.results7, *]
  by_cases hsN:s ≥ (M.rows.length:Int)
  ·obtain ⟨rfl,rfl,rfl⟩:=wit_out HWR.out (by omega)
   try simp (maxSteps:=999999) (disch:=first | assumption | omega | (simp; done) | fail) [Tryd.results7, *]
   refine WC.mono (LIVES.out _ _ fun q hq=>KL.out q hq) ?_
   rintro _ rfl
   try simp (maxSteps:=999999) (disch:=first | assumption | omega | (simp; done) | fail) [Tryd.results7, *]
  obtain ⟨sn,rfl⟩ : ∃ sn:Nat,s=sn:=⟨s.toNat,by omega⟩
  have hsn:sn < M.rows.length:=by omega
  try simp (maxSteps:=999999) (disch:=first | assumption | omega | (simp; done) | fail) [Tryd.results7, *]
  refine WC.mono (rSat_w HMK.out 64 (bi 10 (un 4 x) x) HG.out.2 HG.out.1 _ _ _ _ (HRM.out.mono (by omega) fun q hq=>KG.out q (by omega)) (HREP.out _ _ (by omega) HK4.out HK6.out KG.out)) ?_
  rintro _ ⟨C,XC,g5,n5,rfl,hn5,hg5,hC1,hC2,hC3,hsemC⟩
  have HG5:=Hide.mk hg5
  have HSC:=Hide.mk hsemC
  have y7:=(hg5 n1 (by omega)).trans x7
  have y8:=(hg5 (n1+1) (by omega)).trans x8
  have HYA:=Hide.mk ((hg5 A (by omega)).trans HXA.out)
  have HYB:=Hide.mk ((hg5 B (by omega)).trans HXB.out)
  have KL5:Hide (∀ q,q < n→g5 q=g q):=⟨fun q hq=>by rw [hg5 q (by omega)]; exact KL.out q hq⟩
  have KG5:Hide (∀ q,q < n1→g5 q=g1 q):=⟨fun q hq=>by rw [hg5 q (by omega)]; exact KG.out q hq⟩
  have hcl:=intC_len M.rows.length XC
  have hat:=intC_at M.rows.length XC sn
  rw [if_pos hsn] at hat
  have hCl:sn < (intC M.rows.length XC).length:=by omega
  rw [List.getElem?_eq_getElem hCl,Option.some.injEq] at hat
  have HC3:=Hide.mk hC3
  generalize hLC:intC M.rows.length XC=LC at *
  have HLC:=Hide.mk hLC
  clear hg5 hsemC x7 x8 x12 HXA HXB hLC
  cases hxc:XC sn with
  | false =>
   rw [hxc] at hat
   change LC[sn]'hCl=.lit (.int .i64 0) at hat
   obtain ⟨rfl,rfl,rfl⟩:=wit_none HMK.out HWR.out hsn ⟨by show 7≤10; omega,by show 10≤10; omega⟩ HSC.out hxc
   try simp (maxSteps:=999999) (disch:=first | assumption | omega | (simp; done) | fail) [Tryd.results7, *]
   refine WC.mono (LIVES.out _ _ fun q hq=>KL5.out q hq) ?_
   rintro _ rfl
   try simp (maxSteps:=999999) (disch:=first | assumption | omega | (simp; done) | fail) [Tryd.results7, *]
  | true =>
   rw [hxc] at hat
   change LC[sn]'hCl=.lit (.int .i64 1) at hat
   have h0e:=(wit_some HMK.out HWR.out hsn ⟨by show 7≤10; omega,by show 10≤10; omega⟩ HSC.out hxc).1
   subst h0e
   try simp (maxSteps:=999999) (disch:=first | assumption | omega | (simp; done) | fail) [Tryd.results7, *]
   refine WC.mono (node_sl _ _ 4 _ _ _ _) ?_
   rintro _ rfl
   try simp (maxSteps:=999999) (disch:=first | assumption | omega | (simp; done) | fail) [Tryd.results7, *]
   refine WC.mono (rSat_w HMK.out 64 (un 4 x) (by rw [size_un]; omega) (valid_un (by omega) rfl HVM.out) _ _ _ _ (HRM.out.mono (by omega) fun q hq=>?_) (rep_un (by omega) (a:=n5) (cs:=[.lit (.int .u8 x.op),.lit (.int .i64 k3),.lit (.int .i64 q3),sv3]) ?_ (by omega) (repN_mono (by omega) (fun q hq=>?_) HRN.out))) ?_
   ·simp (disch:=omega) only [gput_lt,gput_ne,gput_eq]; exact KG5.out q hq
   ·simp (disch:=omega) only [gput_lt,gput_ne,gput_eq]
   ·simp (disch:=omega) only [gput_lt,gput_ne,gput_eq]; exact KG5.out q hq
   rintro _ ⟨E,XD,g7,n7,rfl,hn7,hg7,hE1,hE2,hE3,hsemD⟩
   obtain ⟨_,rfl,w,hw,hwv,hwl⟩:=wit_r3 HMK.out HWR.out hsn HSC.out hxc HSA.out hsemD
   have HWV:=Hide.mk hwv
   have HW:=Hide.mk hw
   have HG7:Hide (∀ q,q < n5→g7 q=g5 q):=⟨fun q hq=>by rw [hg7 q (by omega)]; simp (disch:=omega) only [gput_lt,gput_ne,gput_eq]⟩
   have z7:=(HG7.out n1 (by omega)).trans y7
   have HE3:=Hide.mk hE3
   clear hwv hw hg7 hE3 y7 y8
   try simp (maxSteps:=999999) (disch:=first | assumption | omega | (simp; done) | fail) [Tryd.results7, *]
   refine WC.mono (rWay_w HMK.out sn XD XA 0 hsn E A _ n7 _ (HRM.out.mono (by omega) fun q hq=>?_) true true 0 0 HE3.out (by omega) ((HG7.out A (by omega)).trans HYA.out) (by omega) w HW.out) ?_
   ·rw [HG7.out q (by omega)]; exact KG5.out q hq
   rintro _ ⟨u,g6,n6,rfl,hn6,hg6,hgw⟩
   have h1u:=hgw.one
   have HGW:=Hide.mk hgw
   have KL6:Hide (∀ q,q < n→g6 q=g q):=⟨fun q hq=>by rw [hg6 q (by omega)]; rw [HG7.out q (by omega)]; exact KL5.out q hq⟩
   have HG6:Hide (∀ q,q < n4→g6 q=g4 q):=⟨fun q hq=>by rw [hg6 q (by omega)]; rw [HG7.out q (by omega)]; exact HG5.out q (by omega)⟩
   clear hg6 hgw
   try simp (maxSteps:=999999) (disch:=first | assumption | omega | (simp; done) | fail) [Tryd.results7, *]
   refine WC.mono (word_w _ hwl (-1) _ _ _ _ n6 (HWV.out.keep6 (by omega) HG6.out) HGW.out.slice) ?_
   rintro _ rfl
   try simp (maxSteps:=999999) (disch:=first | assumption | omega | (simp; done) | fail) [Tryd.results7, *]
   refine WC.mono (LIVES.out _ _ fun q hq=>KL6.out q hq) ?_
   rintro _ rfl
   try simp (maxSteps:=999999) (disch:=first | assumption | omega | (simp; done) | fail) [Tryd.results7, *]
end Go.Ai
end
