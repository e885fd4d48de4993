/- A small verified interpreter over names, its proofs, and what was proved with it. No condition. -/
import Derived.Test.YtfllomlghjolpaaDoorW08
import Derived.Test.YtfllomlghjolpaaDoorW06
set_option linter.all false
set_option linter.deprecated false
section
namespace Go.Ai
open Go.Proofs
set_option maxRecDepth 10000
set_option maxHeartbeats 40000000
theorem rsem4_w {M:MachM} (hM:M.ok) {m:Nat} (IH0:RSatW M m) (a b:Int) (subs:List NodeM) (hx:sizeN (.mk 4 a b subs)≤m+1) (hv:validM M.rows.length M.inp M.out (.mk 4 a b subs)=true) (g:Nat→Option Blk) (n:Nat) (ms xs:List AV) (hr:RepM g n M ms) (hx0:repN g n (.mk 4 a b subs) xs) :
  WC 6 Tryd.prog 13 [.agg ms,.agg xs] ⟨.fn g,n⟩ (RQ M (.mk 4 a b subs) g n):=by
 have IH:=Hide.mk IH0
 have HMM:=Hide.mk hM
 have HR:=Hide.mk hr
 obtain ⟨rv,svs,rfl,hrows,hrv⟩:=hr
 have h1r:=hrv.one
 have h1a:allOne [.lit (.int .i64 M.inp),.lit (.int .i64 M.out),rv]=true:=by simp [h1r]
 have hlen:=@lenV Tryd.prog _ _ _ _ _ hrv
 have hsl:=hrows.len
 have HROW:=Hide.mk hrows
 have HRV:=Hide.mk hrv
 have HOK:=Hide.mk (ok_row hM)
 have h64:M.rows.length≤64:=hM.2.2.2.2.2.1
 have hz64:(M.rows.length:Int)≤1048576:=by omega
 have hrep:=hx0
 obtain ⟨hop,sv,rfl,hsv⟩:=hx0
 have h1s:oneC sv=true:=by
  obtain ⟨_,_,_,e1,e2,_⟩:=repN_one hrep
  cases e1; exact e2
 have h1x:allOne [.lit (.int .u8 ((4:Nat) : Int)),.lit (.int .i64 a),.lit (.int .i64 b),sv]=true:=by simp [h1s]
 have h1y:allOne [.lit (.int .u8 4),.lit (.int .i64 a),.lit (.int .i64 b),sv]=true:=by simp [h1s]
 have h1e:allOne [.lit (.int .i64 (-1)),.lit (.int .i64 0)]=true:=by simp
 unfold validM at hv
 simp only [Bool.and_eq_true,decide_eq_true_eq] at hv
 obtain ⟨v1,v2,v3,v4,v5,v6,v7⟩:=hv
 have v2' : subs.length=1:=v2
 have hsz:sizeL subs≤m:=by unfold sizeN at hx; omega
 have HSV:Hide ((subs=[]∧(sv=.lit (.slice none 0 0)∨sv=.es))∨∃ a off r,a < n∧((∃ c,sv=.sl a off subs.length c)∨(∃ c,sv=.slq a off subs.length c))∧Row g a off r∧repL g n subs r):=⟨hsv⟩
 have hlS:∀ {H:Mem} {e' : Ev} {o:Oper} {c' : Call} {e:TypeId},lenS Tryd.prog H e' o c' (some (.slice e)) (some [sv])=.val (.lit (.int .i64 1)) H:=by
  intro H e' o c' e
  rcases HSV.out with ⟨h1,rfl | rfl⟩ | ⟨a2,off,r,_,⟨c2,rfl⟩ | ⟨c2,rfl⟩,_⟩
  ·rw [h1] at v2'; first | rfl | cases v2'
  ·rw [h1] at v2'; first | rfl | cases v2'
  ·rw [v2']; rfl
  ·rw [v2']; rfl
 clear hrows hrv IH0 v1 v2 v5 v6 hx hop hM
 obtain ⟨y,rfl⟩ : ∃ y,subs=[y]:=by
  match subs,v2' with
  | [y],_=>exact ⟨y,rfl⟩
 rcases hsv with ⟨h1,_⟩ | ⟨a2,off,r,ha2,hev,hrow,hrl⟩
 ·cases h1
 have hll:=repL_len hrl
 have hy0:=repL_at hrl 0 (by simp)
 have hc0:=hrow.agg (k:=0 * 4) (s:=4) (by rw [hll]; simp)
 have hy0' : repN g n y ((r.drop (0 * 4)).take 4):=hy0
 obtain ⟨k2,k3,sv2,hcy,h1c,hop2⟩:=repN_one hy0'
 rw [hcy] at hc0 hy0'
 have h1q:allOne [.lit (.int .u8 y.op),.lit (.int .i64 k2),.lit (.int .i64 k3),sv2]=true:=by simp [h1c]
 have hc0' : loadB (some (true,4)) (g a2) off=some (.agg [.lit (.int .u8 y.op),.lit (.int .i64 k2),.lit (.int .i64 k3),sv2]):=by simpa using hc0
 have hyv:=validL_mem v7 y (by simp)
 have hyz:sizeN y≤m:=Nat.le_trans (size_mem (by simp)) hsz
 have HY:=Hide.mk hy0'
 have HYV:=Hide.mk hyv
 clear hy0 hc0 hcy hy0' hyv hrow hrl hll hrep v7 v2' hsz HSV
 rcases hev with ⟨c2,rfl⟩ | ⟨c2,rfl⟩
 all_goals
  refine WC.enterP (noO_ok _ _) hG pl13 Tryd.func13 rfl (by decide +kernel) (Nat.le_of_ble_eq_true (by kernel_rfl)) ?_
  try simp (maxSteps:=999999) (disch:=first | assumption | omega | (simp; done) | fail) [Tryd.results13, *]
  refine WC.mono (IH.out y hyz HYV.out _ _ _ _ (HR.out.mono (by omega) fun q hq=>by simp (disch:=omega) only [gput_lt]) (repN_mono (by omega) (fun q hq=>by simp (disch:=omega) only [gput_lt]) HY.out)) ?_
  rintro _ ⟨Aa,SA,g1,n1,rfl,hn1,hg1,hA1,hA2,hA3,hsemA⟩
  have HG:Hide (∀ q,q < n→g1 q=g q):=⟨fun q hq=>by rw [hg1 q (by omega)]; simp (disch:=omega) only [gput_lt]⟩
  have f0:g1 n=some (.cells [.lit (.int .i64 M.inp),.lit (.int .i64 M.out),rv] true 0):=by rw [hg1 n (by omega)]; simp (disch:=omega) only [gput_lt,gput_eq]
  have f1:=(hg1 (n+1) (by omega)).trans ((gput_lt (by omega)).trans ((gput_lt (by omega)).trans gput_eq))
  have f3:g1 (n+1+1+1)=some (.cells (intC M.rows.length noneS) true 0):=by rw [hg1 (n+1+1+1) (by omega),intC_none]; simp (disch:=omega) only [gput_eq]; try rfl
  have HSA:=Hide.mk hsemA
  clear hg1 hsemA
  have HSL:Hide (semL M [y] SA noneS):=⟨⟨HSA.out,eqS.refl _ _⟩⟩
  obtain ⟨xv,f1x⟩ : ∃ xv,g1 (n+1)=some (.cells [.lit (.int .u8 ((4:Nat) : Int)),.lit (.int .i64 a),.lit (.int .i64 b),xv] true 0):=⟨_,f1⟩
  clear HSA
  try simp (maxSteps:=999999) (disch:=first | assumption | omega | (simp; done) | fail) [Tryd.results13, *]
  refine LX.ind (fun m gf H'=>∃ (k n' : Nat) (g' : Nat→Option Blk),k≤M.rows.length∧m=M.rows.length - k∧H'=⟨.fn g',n'⟩∧n1+1≤n'∧(∀ q,q < n→g' q=g q)∧g' n=some (.cells [.lit (.int .i64 M.inp),.lit (.int .i64 M.out),rv] true 0)∧g' (n+1)=some (.cells [.lit (.int .u8 4),.lit (.int .i64 a),.lit (.int .i64 b),xv] true 0)∧g' Aa=some (.cells (intC M.rows.length SA) true 0)∧g' (n+1+1+1)=some (.cells (intC M.rows.length noneS) true 0)∧g' n1=some (.cells (intC M.rows.length (upS (notS SA) k)) true 0)∧gf 2=some (.ptr n 0)∧gf 3=some (.ptr (n+1) 0)∧gf 5=some (.lit (.int .i64 M.rows.length))∧gf 6=some (.sl Aa 0 M.rows.length M.rows.length)∧gf 7=some (.sl (n+1+1+1) 0 M.rows.length M.rows.length)∧gf 8=some (.sl n1 0 M.rows.length M.rows.length)∧gf 9=some (.lit (.int .i64 k))) (m0:=M.rows.length) ?_ ?_
  ·refine ⟨0,_,_,Nat.zero_le _,rfl,rfl,Nat.le_refl _,fun q hq=>?_,?_,?_,?_,?_,?_,by simp [*],by simp [*],by simp [*],by simp [*],by simp [*],by simp [*],by simp⟩
   ·simp (disch:=omega) only [gput_lt]
    exact HG.out q hq
   ·simp (disch:=omega) only [gput_lt]
    exact f0
   ·simp (disch:=omega) only [gput_lt]
    exact f1x
   ·simp (disch:=omega) only [gput_lt]
    exact hA3
   ·simp (disch:=omega) only [gput_lt]
    exact f3
   ·rw [intC_zero]
    simp (disch:=omega) only [gput_eq]
    try rfl
  clear f0 f1x hA3 f3 HG f1
  rintro m gf H' ⟨k,nq,gq,hk,rfl,rfl,hnq,hgq,e0,e1,eA,eB,eO,w2,w3,w5,w6,w7,w8,w9⟩ ih
  have HGq:=Hide.mk hgq
  clear hgq
  refine LX.roundP (noO_ok _ _) hG pl13 (by decide +kernel) ?_
  by_cases hlt:k < M.rows.length
  ·have hltI:(k:Int) < (M.rows.length:Int):=by omega
   have hRA:=rahead_w HMM.out k hlt SA Aa
   have HRA:=Hide.mk hRA
   clear hRA
   have hul:=intC_len M.rows.length (upS (notS SA) k)
   have hset:=intC_set M.rows.length (notS SA) k hlt
   have HSET:=Hide.mk hset
   clear hset
   have hclA:=intC_len M.rows.length SA
   have hclB:=intC_len M.rows.length noneS
   have hatA:=intC_at M.rows.length SA k
   have hatB:=intC_at M.rows.length noneS k
   rw [if_pos hlt] at hatA hatB
   have HRM:Hide (∀ (g' : Nat→Option Blk) (n' : Nat),n≤n'→(∀ q,q < n→g' q=gq q)→RepM g' n' M [.lit (.int .i64 M.inp),.lit (.int .i64 M.out),rv]):=⟨fun g' n' h1 h2=>HR.out.mono h1 fun q hq=>by rw [h2 q hq]; exact HGq.out q hq⟩
   have hkA:k < (intC M.rows.length SA).length:=by omega
   have hkB:k < (intC M.rows.length noneS).length:=by omega
   have hgA:(intC M.rows.length SA)[k]'hkA=.lit (.int .i64 (b01 (SA k))):=by
    rw [List.getElem?_eq_getElem hkA] at hatA
    exact Option.some.inj hatA
   have hgB:(intC M.rows.length noneS)[k]'hkB=.lit (.int .i64 (b01 (noneS k))):=by
    rw [List.getElem?_eq_getElem hkB] at hatB
    exact Option.some.inj hatB
   have eA' : Hide (gq Aa=some (.cells (intC M.rows.length SA) true 0)):=⟨eA⟩
   clear hatA hatB
   generalize intC M.rows.length (upS (notS SA) k)=L at *
   have hkL:k < L.length:=by omega
   cases hA:SA k
   all_goals
    rw [hA] at hgA
    skip
    simp only [b01] at hgA hgB
    try simp (maxSteps:=999999) (disch:=first | assumption | omega | (simp; done) | fail) [Tryd.results13, *]
    refine WC.mono (HRA.out _ _ _ (HRM.out _ _ (by omega) fun q hq=>by simp (disch:=omega) only [gput_lt]) (by simp (disch:=omega) only [gput_lt]; exact eA'.out) (by omega)) ?_
    rintro _ ⟨so,ma,rfl,hsm1,hsm2,hpre,hpost,hends⟩
    clear hpre hpost hends
    try simp (maxSteps:=999999) (disch:=first | assumption | omega | (simp; done) | fail) [Tryd.results13, *]
    refine ih.out (M.rows.length - (k+1)) _ _ (by omega) ⟨k+1,nq+1,_,by omega,rfl,rfl,by omega,fun q hq=>?_,?_,?_,?_,?_,?_,by simp [*],by simp [*],by simp [*],by simp [*],by simp [*],by simp [*],by simp⟩
    ·simp (disch:=omega) only [gput_lt,gput_ne]
     exact HGq.out q hq
    ·simp (disch:=omega) only [gput_lt,gput_ne]
     exact e0
    ·simp (disch:=omega) only [gput_lt,gput_ne]
     exact e1
    ·simp (disch:=omega) only [gput_lt,gput_ne]
     exact eA'.out
    ·simp (disch:=omega) only [gput_lt,gput_ne]
     exact eB
    ·simp (disch:=omega) only [gput_lt,gput_ne,gput_eq]
     rw [← HSET.out]
     show _=some (Blk.cells (L.set k (.lit (.int .i64 (b01 (!SA k))))) true 0)
     rw [hA]
     first | rfl | simp [b01]
  ·have hltI:¬(k:Int) < (M.rows.length:Int):=by omega
   have hk2:k=M.rows.length:=by omega
   have HK2:=Hide.mk hk2
   clear hk2
   try simp (maxSteps:=999999) (disch:=first | assumption | omega | (simp; done) | fail) [Tryd.results13, *]
   refine ⟨n1,(notS SA),gq,nq,rfl,by omega,fun q hq=>HGq.out q hq,by omega,by omega,?_,SA,noneS,HSL.out,?_⟩
   ·rw [← intC_end]
    have h:=eO
    rw [HK2.out] at h
    exact h
   ·exact eqS.refl _ _
theorem rsem5_w {M:MachM} (hM:M.ok) {m:Nat} (IH0:RSatW M m) (a b:Int) (subs:List NodeM) (hx:sizeN (.mk 5 a b subs)≤m+1) (hv:validM M.rows.length M.inp M.out (.mk 5 a b subs)=true) (g:Nat→Option Blk) (n:Nat) (ms xs:List AV) (hr:RepM g n M ms) (hx0:repN g n (.mk 5 a b subs) xs) :
  WC 6 Tryd.prog 13 [.agg ms,.agg xs] ⟨.fn g,n⟩ (RQ M (.mk 5 a b subs) g n):=by
 have IH:=Hide.mk IH0
 have HMM:=Hide.mk hM
 have HR:=Hide.mk hr
 obtain ⟨rv,svs,rfl,hrows,hrv⟩:=hr
 have h1r:=hrv.one
 have h1a:allOne [.lit (.int .i64 M.inp),.lit (.int .i64 M.out),rv]=true:=by simp [h1r]
 have hlen:=@lenV Tryd.prog _ _ _ _ _ hrv
 have hsl:=hrows.len
 have HROW:=Hide.mk hrows
 have HRV:=Hide.mk hrv
 have HOK:=Hide.mk (ok_row hM)
 have h64:M.rows.length≤64:=hM.2.2.2.2.2.1
 have hz64:(M.rows.length:Int)≤1048576:=by omega
 have hrep:=hx0
 obtain ⟨hop,sv,rfl,hsv⟩:=hx0
 have h1s:oneC sv=true:=by
  obtain ⟨_,_,_,e1,e2,_⟩:=repN_one hrep
  cases e1; exact e2
 have h1x:allOne [.lit (.int .u8 ((5:Nat) : Int)),.lit (.int .i64 a),.lit (.int .i64 b),sv]=true:=by simp [h1s]
 have h1y:allOne [.lit (.int .u8 5),.lit (.int .i64 a),.lit (.int .i64 b),sv]=true:=by simp [h1s]
 have h1e:allOne [.lit (.int .i64 (-1)),.lit (.int .i64 0)]=true:=by simp
 unfold validM at hv
 simp only [Bool.and_eq_true,decide_eq_true_eq] at hv
 obtain ⟨v1,v2,v3,v4,v5,v6,v7⟩:=hv
 have v2' : subs.length=2:=v2
 have hsz:sizeL subs≤m:=by unfold sizeN at hx; omega
 have HSV:Hide ((subs=[]∧(sv=.lit (.slice none 0 0)∨sv=.es))∨∃ a off r,a < n∧((∃ c,sv=.sl a off subs.length c)∨(∃ c,sv=.slq a off subs.length c))∧Row g a off r∧repL g n subs r):=⟨hsv⟩
 have hlS:∀ {H:Mem} {e' : Ev} {o:Oper} {c' : Call} {e:TypeId},lenS Tryd.prog H e' o c' (some (.slice e)) (some [sv])=.val (.lit (.int .i64 2)) H:=by
  intro H e' o c' e
  rcases HSV.out with ⟨h1,rfl | rfl⟩ | ⟨a2,off,r,_,⟨c2,rfl⟩ | ⟨c2,rfl⟩,_⟩
  ·rw [h1] at v2'; first | rfl | cases v2'
  ·rw [h1] at v2'; first | rfl | cases v2'
  ·rw [v2']; rfl
  ·rw [v2']; rfl
 clear hrows hrv IH0 v1 v2 v5 v6 hx hop hM
 obtain ⟨y,z,rfl⟩ : ∃ y z,subs=[y,z]:=by
  match subs,v2' with
  | [y,z],_=>exact ⟨y,z,rfl⟩
 rcases hsv with ⟨h1,_⟩ | ⟨a2,off,r,ha2,hev,hrow,hrl⟩
 ·cases h1
 have hll:=repL_len hrl
 have hy0:=repL_at hrl 0 (by simp)
 have hc0:=hrow.agg (k:=0 * 4) (s:=4) (by rw [hll]; simp)
 have hy0' : repN g n y ((r.drop (0 * 4)).take 4):=hy0
 obtain ⟨k2,k3,sv2,hcy,h1c,hop2⟩:=repN_one hy0'
 rw [hcy] at hc0 hy0'
 have h1q:allOne [.lit (.int .u8 y.op),.lit (.int .i64 k2),.lit (.int .i64 k3),sv2]=true:=by simp [h1c]
 have hc0' : loadB (some (true,4)) (g a2) off=some (.agg [.lit (.int .u8 y.op),.lit (.int .i64 k2),.lit (.int .i64 k3),sv2]):=by simpa using hc0
 have hyv:=validL_mem v7 y (by simp)
 have hyz:sizeN y≤m:=Nat.le_trans (size_mem (by simp)) hsz
 have HY:=Hide.mk hy0'
 have HYV:=Hide.mk hyv
 have hz0:=repL_at hrl 1 (by simp)
 have hc1:=hrow.agg (k:=1 * 4) (s:=4) (by rw [hll]; simp)
 have hz0' : repN g n z ((r.drop (1 * 4)).take 4):=hz0
 obtain ⟨k4,k5,sv3,hcz,h1d,hop3⟩:=repN_one hz0'
 rw [hcz] at hc1 hz0'
 have h1w:allOne [.lit (.int .u8 z.op),.lit (.int .i64 k4),.lit (.int .i64 k5),sv3]=true:=by simp [h1d]
 have hc1' : loadB (some (true,4)) (g a2) (off+4)=some (.agg [.lit (.int .u8 z.op),.lit (.int .i64 k4),.lit (.int .i64 k5),sv3]):=by simpa using hc1
 have hzv:=validL_mem v7 z (by simp)
 have hzz:sizeN z≤m:=Nat.le_trans (size_mem (by simp)) hsz
 have HZ:=Hide.mk hz0'
 have HZV:=Hide.mk hzv
 clear hz0 hc1 hcz hz0' hzv
 clear hy0 hc0 hcy hy0' hyv hrow hrl hll hrep v7 v2' hsz HSV
 rcases hev with ⟨c2,rfl⟩ | ⟨c2,rfl⟩
 all_goals
  refine WC.enterP (noO_ok _ _) hG pl13 Tryd.func13 rfl (by decide +kernel) (Nat.le_of_ble_eq_true (by kernel_rfl)) ?_
  try simp (maxSteps:=999999) (disch:=first | assumption | omega | (simp; done) | fail) [Tryd.results13, *]
  refine WC.mono (IH.out y hyz HYV.out _ _ _ _ (HR.out.mono (by omega) fun q hq=>by simp (disch:=omega) only [gput_lt]) (repN_mono (by omega) (fun q hq=>by simp (disch:=omega) only [gput_lt]) HY.out)) ?_
  rintro _ ⟨Aa,SA,g1,n1,rfl,hn1,hg1,hA1,hA2,hA3,hsemA⟩
  have HG:Hide (∀ q,q < n→g1 q=g q):=⟨fun q hq=>by rw [hg1 q (by omega)]; simp (disch:=omega) only [gput_lt]⟩
  have f0:g1 n=some (.cells [.lit (.int .i64 M.inp),.lit (.int .i64 M.out),rv] true 0):=by rw [hg1 n (by omega)]; simp (disch:=omega) only [gput_lt,gput_eq]
  have f1:=(hg1 (n+1) (by omega)).trans ((gput_lt (by omega)).trans ((gput_lt (by omega)).trans gput_eq))
  have f3:g1 (n+1+1+1)=some (.cells (intC M.rows.length noneS) true 0):=by rw [hg1 (n+1+1+1) (by omega),intC_none]; simp (disch:=omega) only [gput_eq]; try rfl
  have HSA:=Hide.mk hsemA
  clear hg1 hsemA
  have hc1'' : loadB (some (true,4)) (g1 a2) (off+4)=some (.agg [.lit (.int .u8 z.op),.lit (.int .i64 k4),.lit (.int .i64 k5),sv3]):=by rw [HG.out a2 ha2]; exact hc1'
  try simp (maxSteps:=999999) (disch:=first | assumption | omega | (simp; done) | fail) [Tryd.results13, *]
  refine WC.mono (IH.out z hzz HZV.out _ _ _ _ (HR.out.mono (by omega) HG.out) (repN_mono (by omega) HG.out HZ.out)) ?_
  rintro _ ⟨Ab,SB,g2,n2,rfl,hn2,hg2,hB1,hB2,hB3,hsemB⟩
  have HG' : Hide (∀ q,q < n→g2 q=g q):=⟨fun q hq=>by rw [hg2 q (by omega)]; exact HG.out q hq⟩
  have f0':=(hg2 n (by omega)).trans f0
  have f1':=(hg2 (n+1) (by omega)).trans f1
  have hA3':=(hg2 Aa (by omega)).trans hA3
  have HSL:Hide (semL M [y,z] SA SB):=⟨⟨HSA.out,hsemB⟩⟩
  obtain ⟨xv,f1x⟩ : ∃ xv,g2 (n+1)=some (.cells [.lit (.int .u8 ((5:Nat) : Int)),.lit (.int .i64 a),.lit (.int .i64 b),xv] true 0):=⟨_,f1'⟩
  clear hg2 hsemB f0 f1 hA3 HSA HG f3
  try simp (maxSteps:=999999) (disch:=first | assumption | omega | (simp; done) | fail) [Tryd.results13, *]
  refine LX.ind (fun m gf H'=>∃ (k n' : Nat) (g' : Nat→Option Blk),k≤M.rows.length∧m=M.rows.length - k∧H'=⟨.fn g',n'⟩∧n2+1≤n'∧(∀ q,q < n→g' q=g q)∧g' n=some (.cells [.lit (.int .i64 M.inp),.lit (.int .i64 M.out),rv] true 0)∧g' (n+1)=some (.cells [.lit (.int .u8 5),.lit (.int .i64 a),.lit (.int .i64 b),xv] true 0)∧g' Aa=some (.cells (intC M.rows.length SA) true 0)∧g' Ab=some (.cells (intC M.rows.length SB) true 0)∧g' n2=some (.cells (intC M.rows.length (upS (fun s=>SA s && SB s) k)) true 0)∧gf 2=some (.ptr n 0)∧gf 3=some (.ptr (n+1) 0)∧gf 5=some (.lit (.int .i64 M.rows.length))∧gf 6=some (.sl Aa 0 M.rows.length M.rows.length)∧gf 7=some (.sl Ab 0 M.rows.length M.rows.length)∧gf 8=some (.sl n2 0 M.rows.length M.rows.length)∧gf 9=some (.lit (.int .i64 k))) (m0:=M.rows.length) ?_ ?_
  ·refine ⟨0,_,_,Nat.zero_le _,rfl,rfl,Nat.le_refl _,fun q hq=>?_,?_,?_,?_,?_,?_,by simp [*],by simp [*],by simp [*],by simp [*],by simp [*],by simp [*],by simp⟩
   ·simp (disch:=omega) only [gput_lt]
    exact HG'.out q hq
   ·simp (disch:=omega) only [gput_lt]
    exact f0'
   ·simp (disch:=omega) only [gput_lt]
    exact f1x
   ·simp (disch:=omega) only [gput_lt]
    exact hA3'
   ·simp (disch:=omega) only [gput_lt]
    exact hB3
   ·rw [intC_zero]
    simp (disch:=omega) only [gput_eq]
    try rfl
  clear f0' f1x hA3' hB3 HG' f1'
  rintro m gf H' ⟨k,nq,gq,hk,rfl,rfl,hnq,hgq,e0,e1,eA,eB,eO,w2,w3,w5,w6,w7,w8,w9⟩ ih
  have HGq:=Hide.mk hgq
  clear hgq
  refine LX.roundP (noO_ok _ _) hG pl13 (by decide +kernel) ?_
  by_cases hlt:k < M.rows.length
  ·have hltI:(k:Int) < (M.rows.length:Int):=by omega
   have hRA:=rahead_w HMM.out k hlt SA Aa
   have HRA:=Hide.mk hRA
   clear hRA
   have hul:=intC_len M.rows.length (upS (fun s=>SA s && SB s) k)
   have hset:=intC_set M.rows.length (fun s=>SA s && SB s) k hlt
   have HSET:=Hide.mk hset
   clear hset
   have hclA:=intC_len M.rows.length SA
   have hclB:=intC_len M.rows.length SB
   have hatA:=intC_at M.rows.length SA k
   have hatB:=intC_at M.rows.length SB k
   rw [if_pos hlt] at hatA hatB
   have HRM:Hide (∀ (g' : Nat→Option Blk) (n' : Nat),n≤n'→(∀ q,q < n→g' q=gq q)→RepM g' n' M [.lit (.int .i64 M.inp),.lit (.int .i64 M.out),rv]):=⟨fun g' n' h1 h2=>HR.out.mono h1 fun q hq=>by rw [h2 q hq]; exact HGq.out q hq⟩
   have hkA:k < (intC M.rows.length SA).length:=by omega
   have hkB:k < (intC M.rows.length SB).length:=by omega
   have hgA:(intC M.rows.length SA)[k]'hkA=.lit (.int .i64 (b01 (SA k))):=by
    rw [List.getElem?_eq_getElem hkA] at hatA
    exact Option.some.inj hatA
   have hgB:(intC M.rows.length SB)[k]'hkB=.lit (.int .i64 (b01 (SB k))):=by
    rw [List.getElem?_eq_getElem hkB] at hatB
    exact Option.some.inj hatB
   have eA' : Hide (gq Aa=some (.cells (intC M.rows.length SA) true 0)):=⟨eA⟩
   clear hatA hatB
   generalize intC M.rows.length (upS (fun s=>SA s && SB s) k)=L at *
   have hkL:k < L.length:=by omega
   cases hA:SA k <;> cases hB:SB k
   all_goals
    rw [hA] at hgA
    rw [hB] at hgB
    simp only [b01] at hgA hgB
    try simp (maxSteps:=999999) (disch:=first | assumption | omega | (simp; done) | fail) [Tryd.results13, *]
    refine WC.mono (HRA.out _ _ _ (HRM.out _ _ (by omega) fun q hq=>by simp (disch:=omega) only [gput_lt]) (by simp (disch:=omega) only [gput_lt]; exact eA'.out) (by omega)) ?_
    rintro _ ⟨so,ma,rfl,hsm1,hsm2,hpre,hpost,hends⟩
    clear hpre hpost hends
    try simp (maxSteps:=999999) (disch:=first | assumption | omega | (simp; done) | fail) [Tryd.results13, *]
    refine ih.out (M.rows.length - (k+1)) _ _ (by omega) ⟨k+1,nq+1,_,by omega,rfl,rfl,by omega,fun q hq=>?_,?_,?_,?_,?_,?_,by simp [*],by simp [*],by simp [*],by simp [*],by simp [*],by simp [*],by simp⟩
    ·simp (disch:=omega) only [gput_lt,gput_ne]
     exact HGq.out q hq
    ·simp (disch:=omega) only [gput_lt,gput_ne]
     exact e0
    ·simp (disch:=omega) only [gput_lt,gput_ne]
     exact e1
    ·simp (disch:=omega) only [gput_lt,gput_ne]
     exact eA'.out
    ·simp (disch:=omega) only [gput_lt,gput_ne]
     exact eB
    ·simp (disch:=omega) only [gput_lt,gput_ne,gput_eq]
     rw [← HSET.out]
     show _=some (Blk.cells (L.set k (.lit (.int .i64 (b01 (SA k && SB k))))) true 0)
     rw [hA,hB]
     first | rfl | simp [b01]
  ·have hltI:¬(k:Int) < (M.rows.length:Int):=by omega
   have hk2:k=M.rows.length:=by omega
   have HK2:=Hide.mk hk2
   clear hk2
   try simp (maxSteps:=999999) (disch:=first | assumption | omega | (simp; done) | fail) [Tryd.results13, *]
   refine ⟨n2,(fun s=>SA s && SB s),gq,nq,rfl,by omega,fun q hq=>HGq.out q hq,by omega,by omega,?_,SA,SB,HSL.out,?_⟩
   ·rw [← intC_end]
    have h:=eO
    rw [HK2.out] at h
    exact h
   ·exact eqS.refl _ _
theorem rsem6_w {M:MachM} (hM:M.ok) {m:Nat} (IH0:RSatW M m) (a b:Int) (subs:List NodeM) (hx:sizeN (.mk 6 a b subs)≤m+1) (hv:validM M.rows.length M.inp M.out (.mk 6 a b subs)=true) (g:Nat→Option Blk) (n:Nat) (ms xs:List AV) (hr:RepM g n M ms) (hx0:repN g n (.mk 6 a b subs) xs) :
  WC 6 Tryd.prog 13 [.agg ms,.agg xs] ⟨.fn g,n⟩ (RQ M (.mk 6 a b subs) g n):=by
 have IH:=Hide.mk IH0
 have HMM:=Hide.mk hM
 have HR:=Hide.mk hr
 obtain ⟨rv,svs,rfl,hrows,hrv⟩:=hr
 have h1r:=hrv.one
 have h1a:allOne [.lit (.int .i64 M.inp),.lit (.int .i64 M.out),rv]=true:=by simp [h1r]
 have hlen:=@lenV Tryd.prog _ _ _ _ _ hrv
 have hsl:=hrows.len
 have HROW:=Hide.mk hrows
 have HRV:=Hide.mk hrv
 have HOK:=Hide.mk (ok_row hM)
 have h64:M.rows.length≤64:=hM.2.2.2.2.2.1
 have hz64:(M.rows.length:Int)≤1048576:=by omega
 have hrep:=hx0
 obtain ⟨hop,sv,rfl,hsv⟩:=hx0
 have h1s:oneC sv=true:=by
  obtain ⟨_,_,_,e1,e2,_⟩:=repN_one hrep
  cases e1; exact e2
 have h1x:allOne [.lit (.int .u8 ((6:Nat) : Int)),.lit (.int .i64 a),.lit (.int .i64 b),sv]=true:=by simp [h1s]
 have h1y:allOne [.lit (.int .u8 6),.lit (.int .i64 a),.lit (.int .i64 b),sv]=true:=by simp [h1s]
 have h1e:allOne [.lit (.int .i64 (-1)),.lit (.int .i64 0)]=true:=by simp
 unfold validM at hv
 simp only [Bool.and_eq_true,decide_eq_true_eq] at hv
 obtain ⟨v1,v2,v3,v4,v5,v6,v7⟩:=hv
 have v2' : subs.length=2:=v2
 have hsz:sizeL subs≤m:=by unfold sizeN at hx; omega
 have HSV:Hide ((subs=[]∧(sv=.lit (.slice none 0 0)∨sv=.es))∨∃ a off r,a < n∧((∃ c,sv=.sl a off subs.length c)∨(∃ c,sv=.slq a off subs.length c))∧Row g a off r∧repL g n subs r):=⟨hsv⟩
 have hlS:∀ {H:Mem} {e' : Ev} {o:Oper} {c' : Call} {e:TypeId},lenS Tryd.prog H e' o c' (some (.slice e)) (some [sv])=.val (.lit (.int .i64 2)) H:=by
  intro H e' o c' e
  rcases HSV.out with ⟨h1,rfl | rfl⟩ | ⟨a2,off,r,_,⟨c2,rfl⟩ | ⟨c2,rfl⟩,_⟩
  ·rw [h1] at v2'; first | rfl | cases v2'
  ·rw [h1] at v2'; first | rfl | cases v2'
  ·rw [v2']; rfl
  ·rw [v2']; rfl
 clear hrows hrv IH0 v1 v2 v5 v6 hx hop hM
 obtain ⟨y,z,rfl⟩ : ∃ y z,subs=[y,z]:=by
  match subs,v2' with
  | [y,z],_=>exact ⟨y,z,rfl⟩
 rcases hsv with ⟨h1,_⟩ | ⟨a2,off,r,ha2,hev,hrow,hrl⟩
 ·cases h1
 have hll:=repL_len hrl
 have hy0:=repL_at hrl 0 (by simp)
 have hc0:=hrow.agg (k:=0 * 4) (s:=4) (by rw [hll]; simp)
 have hy0' : repN g n y ((r.drop (0 * 4)).take 4):=hy0
 obtain ⟨k2,k3,sv2,hcy,h1c,hop2⟩:=repN_one hy0'
 rw [hcy] at hc0 hy0'
 have h1q:allOne [.lit (.int .u8 y.op),.lit (.int .i64 k2),.lit (.int .i64 k3),sv2]=true:=by simp [h1c]
 have hc0' : loadB (some (true,4)) (g a2) off=some (.agg [.lit (.int .u8 y.op),.lit (.int .i64 k2),.lit (.int .i64 k3),sv2]):=by simpa using hc0
 have hyv:=validL_mem v7 y (by simp)
 have hyz:sizeN y≤m:=Nat.le_trans (size_mem (by simp)) hsz
 have HY:=Hide.mk hy0'
 have HYV:=Hide.mk hyv
 have hz0:=repL_at hrl 1 (by simp)
 have hc1:=hrow.agg (k:=1 * 4) (s:=4) (by rw [hll]; simp)
 have hz0' : repN g n z ((r.drop (1 * 4)).take 4):=hz0
 obtain ⟨k4,k5,sv3,hcz,h1d,hop3⟩:=repN_one hz0'
 rw [hcz] at hc1 hz0'
 have h1w:allOne [.lit (.int .u8 z.op),.lit (.int .i64 k4),.lit (.int .i64 k5),sv3]=true:=by simp [h1d]
 have hc1' : loadB (some (true,4)) (g a2) (off+4)=some (.agg [.lit (.int .u8 z.op),.lit (.int .i64 k4),.lit (.int .i64 k5),sv3]):=by simpa using hc1
 have hzv:=validL_mem v7 z (by simp)
 have hzz:sizeN z≤m:=Nat.le_trans (size_mem (by simp)) hsz
 have HZ:=Hide.mk hz0'
 have HZV:=Hide.mk hzv
 clear hz0 hc1 hcz hz0' hzv
 clear hy0 hc0 hcy hy0' hyv hrow hrl hll hrep v7 v2' hsz HSV
 rcases hev with ⟨c2,rfl⟩ | ⟨c2,rfl⟩
 all_goals
  refine WC.enterP (noO_ok _ _) hG pl13 Tryd.func13 rfl (by decide +kernel) (Nat.le_of_ble_eq_true (by kernel_rfl)) ?_
  try simp (maxSteps:=999999) (disch:=first | assumption | omega | (simp; done) | fail) [Tryd.results13, *]
  refine WC.mono (IH.out y hyz HYV.out _ _ _ _ (HR.out.mono (by omega) fun q hq=>by simp (disch:=omega) only [gput_lt]) (repN_mono (by omega) (fun q hq=>by simp (disch:=omega) only [gput_lt]) HY.out)) ?_
  rintro _ ⟨Aa,SA,g1,n1,rfl,hn1,hg1,hA1,hA2,hA3,hsemA⟩
  have HG:Hide (∀ q,q < n→g1 q=g q):=⟨fun q hq=>by rw [hg1 q (by omega)]; simp (disch:=omega) only [gput_lt]⟩
  have f0:g1 n=some (.cells [.lit (.int .i64 M.inp),.lit (.int .i64 M.out),rv] true 0):=by rw [hg1 n (by omega)]; simp (disch:=omega) only [gput_lt,gput_eq]
  have f1:=(hg1 (n+1) (by omega)).trans ((gput_lt (by omega)).trans ((gput_lt (by omega)).trans gput_eq))
  have f3:g1 (n+1+1+1)=some (.cells (intC M.rows.length noneS) true 0):=by rw [hg1 (n+1+1+1) (by omega),intC_none]; simp (disch:=omega) only [gput_eq]; try rfl
  have HSA:=Hide.mk hsemA
  clear hg1 hsemA
  have hc1'' : loadB (some (true,4)) (g1 a2) (off+4)=some (.agg [.lit (.int .u8 z.op),.lit (.int .i64 k4),.lit (.int .i64 k5),sv3]):=by rw [HG.out a2 ha2]; exact hc1'
  try simp (maxSteps:=999999) (disch:=first | assumption | omega | (simp; done) | fail) [Tryd.results13, *]
  refine WC.mono (IH.out z hzz HZV.out _ _ _ _ (HR.out.mono (by omega) HG.out) (repN_mono (by omega) HG.out HZ.out)) ?_
  rintro _ ⟨Ab,SB,g2,n2,rfl,hn2,hg2,hB1,hB2,hB3,hsemB⟩
  have HG' : Hide (∀ q,q < n→g2 q=g q):=⟨fun q hq=>by rw [hg2 q (by omega)]; exact HG.out q hq⟩
  have f0':=(hg2 n (by omega)).trans f0
  have f1':=(hg2 (n+1) (by omega)).trans f1
  have hA3':=(hg2 Aa (by omega)).trans hA3
  have HSL:Hide (semL M [y,z] SA SB):=⟨⟨HSA.out,hsemB⟩⟩
  obtain ⟨xv,f1x⟩ : ∃ xv,g2 (n+1)=some (.cells [.lit (.int .u8 ((6:Nat) : Int)),.lit (.int .i64 a),.lit (.int .i64 b),xv] true 0):=⟨_,f1'⟩
  clear hg2 hsemB f0 f1 hA3 HSA HG f3
  try simp (maxSteps:=999999) (disch:=first | assumption | omega | (simp; done) | fail) [Tryd.results13, *]
  refine LX.ind (fun m gf H'=>∃ (k n' : Nat) (g' : Nat→Option Blk),k≤M.rows.length∧m=M.rows.length - k∧H'=⟨.fn g',n'⟩∧n2+1≤n'∧(∀ q,q < n→g' q=g q)∧g' n=some (.cells [.lit (.int .i64 M.inp),.lit (.int .i64 M.out),rv] true 0)∧g' (n+1)=some (.cells [.lit (.int .u8 6),.lit (.int .i64 a),.lit (.int .i64 b),xv] true 0)∧g' Aa=some (.cells (intC M.rows.length SA) true 0)∧g' Ab=some (.cells (intC M.rows.length SB) true 0)∧g' n2=some (.cells (intC M.rows.length (upS (fun s=>SA s || SB s) k)) true 0)∧gf 2=some (.ptr n 0)∧gf 3=some (.ptr (n+1) 0)∧gf 5=some (.lit (.int .i64 M.rows.length))∧gf 6=some (.sl Aa 0 M.rows.length M.rows.length)∧gf 7=some (.sl Ab 0 M.rows.length M.rows.length)∧gf 8=some (.sl n2 0 M.rows.length M.rows.length)∧gf 9=some (.lit (.int .i64 k))) (m0:=M.rows.length) ?_ ?_
  ·refine ⟨0,_,_,Nat.zero_le _,rfl,rfl,Nat.le_refl _,fun q hq=>?_,?_,?_,?_,?_,?_,by simp [*],by simp [*],by simp [*],by simp [*],by simp [*],by simp [*],by simp⟩
   ·simp (disch:=omega) only [gput_lt]
    exact HG'.out q hq
   ·simp (disch:=omega) only [gput_lt]
    exact f0'
   ·simp (disch:=omega) only [gput_lt]
    exact f1x
   ·simp (disch:=omega) only [gput_lt]
    exact hA3'
   ·simp (disch:=omega) only [gput_lt]
    exact hB3
   ·rw [intC_zero]
    simp (disch:=omega) only [gput_eq]
    try rfl
  clear f0' f1x hA3' hB3 HG' f1'
  rintro m gf H' ⟨k,nq,gq,hk,rfl,rfl,hnq,hgq,e0,e1,eA,eB,eO,w2,w3,w5,w6,w7,w8,w9⟩ ih
  have HGq:=Hide.mk hgq
  clear hgq
  refine LX.roundP (noO_ok _ _) hG pl13 (by decide +kernel) ?_
  by_cases hlt:k < M.rows.length
  ·have hltI:(k:Int) < (M.rows.length:Int):=by omega
   have hRA:=rahead_w HMM.out k hlt SA Aa
   have HRA:=Hide.mk hRA
   clear hRA
   have hul:=intC_len M.rows.length (upS (fun s=>SA s || SB s) k)
   have hset:=intC_set M.rows.length (fun s=>SA s || SB s) k hlt
   have HSET:=Hide.mk hset
   clear hset
   have hclA:=intC_len M.rows.length SA
   have hclB:=intC_len M.rows.length SB
   have hatA:=intC_at M.rows.length SA k
   have hatB:=intC_at M.rows.length SB k
   rw [if_pos hlt] at hatA hatB
   have HRM:Hide (∀ (g' : Nat→Option Blk) (n' : Nat),n≤n'→(∀ q,q < n→g' q=gq q)→RepM g' n' M [.lit (.int .i64 M.inp),.lit (.int .i64 M.out),rv]):=⟨fun g' n' h1 h2=>HR.out.mono h1 fun q hq=>by rw [h2 q hq]; exact HGq.out q hq⟩
   have hkA:k < (intC M.rows.length SA).length:=by omega
   have hkB:k < (intC M.rows.length SB).length:=by omega
   have hgA:(intC M.rows.length SA)[k]'hkA=.lit (.int .i64 (b01 (SA k))):=by
    rw [List.getElem?_eq_getElem hkA] at hatA
    exact Option.some.inj hatA
   have hgB:(intC M.rows.length SB)[k]'hkB=.lit (.int .i64 (b01 (SB k))):=by
    rw [List.getElem?_eq_getElem hkB] at hatB
    exact Option.some.inj hatB
   have eA' : Hide (gq Aa=some (.cells (intC M.rows.length SA) true 0)):=⟨eA⟩
   clear hatA hatB
   generalize intC M.rows.length (upS (fun s=>SA s || SB s) k)=L at *
   have hkL:k < L.length:=by omega
   cases hA:SA k <;> cases hB:SB k
   all_goals
    rw [hA] at hgA
    rw [hB] at hgB
    simp only [b01] at hgA hgB
    try simp (maxSteps:=999999) (disch:=first | assumption | omega | (simp; done) | fail) [Tryd.results13, *]
    refine WC.mono (HRA.out _ _ _ (HRM.out _ _ (by omega) fun q hq=>by simp (disch:=omega) only [gput_lt]) (by simp (disch:=omega) only [gput_lt]; exact eA'.out) (by omega)) ?_
    rintro _ ⟨so,ma,rfl,hsm1,hsm2,hpre,hpost,hends⟩
    clear hpre hpost hends
    try simp (maxSteps:=999999) (disch:=first | assumption | omega | (simp; done) | fail) [Tryd.results13, *]
    refine ih.out (M.rows.length - (k+1)) _ _ (by omega) ⟨k+1,nq+1,_,by omega,rfl,rfl,by omega,fun q hq=>?_,?_,?_,?_,?_,?_,by simp [*],by simp [*],by simp [*],by simp [*],by simp [*],by simp [*],by simp⟩
    ·simp (disch:=omega) only [gput_lt,gput_ne]
     exact HGq.out q hq
    ·simp (disch:=omega) only [gput_lt,gput_ne]
     exact e0
    ·simp (disch:=omega) only [gput_lt,gput_ne]
     exact e1
    ·simp (disch:=omega) only [gput_lt,gput_ne]
     exact eA'.out
    ·simp (disch:=omega) only [gput_lt,gput_ne]
     exact eB
    ·simp (disch:=omega) only [gput_lt,gput_ne,gput_eq]
     rw [← HSET.out]
     show _=some (Blk.cells (L.set k (.lit (.int .i64 (b01 (SA k || SB k))))) true 0)
     rw [hA,hB]
     first | rfl | simp [b01]
  ·have hltI:¬(k:Int) < (M.rows.length:Int):=by omega
   have hk2:k=M.rows.length:=by omega
   have HK2:=Hide.mk hk2
   clear hk2
   try simp (maxSteps:=999999) (disch:=first | assumption | omega | (simp; done) | fail) [Tryd.results13, *]
   refine ⟨n2,(fun s=>SA s || SB s),gq,nq,rfl,by omega,fun q hq=>HGq.out q hq,by omega,by omega,?_,SA,SB,HSL.out,?_⟩
   ·rw [← intC_end]
    have h:=eO
    rw [HK2.out] at h
    exact h
   ·exact eqS.refl _ _
end Go.Ai
end
section
namespace Go.Ai
open Go.Proofs
set_option maxRecDepth 10000
set_option maxHeartbeats 40000000
theorem rsem8_w {M:MachM} (hM:M.ok) {m:Nat} (IH0:RSatW M m) (a b:Int) (subs:List NodeM) (hx:sizeN (.mk 8 a b subs)≤m+1) (hv:validM M.rows.length M.inp M.out (.mk 8 a b subs)=true) (g:Nat→Option Blk) (n:Nat) (ms xs:List AV) (hr:RepM g n M ms) (hx0:repN g n (.mk 8 a b subs) xs) :
  WC 6 Tryd.prog 13 [.agg ms,.agg xs] ⟨.fn g,n⟩ (RQ M (.mk 8 a b subs) g n):=by
 have IH:=Hide.mk IH0
 have HMM:=Hide.mk hM
 have HR:=Hide.mk hr
 obtain ⟨rv,svs,rfl,hrows,hrv⟩:=hr
 have h1r:=hrv.one
 have h1a:allOne [.lit (.int .i64 M.inp),.lit (.int .i64 M.out),rv]=true:=by simp [h1r]
 have hlen:=@lenV Tryd.prog _ _ _ _ _ hrv
 have hsl:=hrows.len
 have HROW:=Hide.mk hrows
 have HRV:=Hide.mk hrv
 have HOK:=Hide.mk (ok_row hM)
 have h64:M.rows.length≤64:=hM.2.2.2.2.2.1
 have hz64:(M.rows.length:Int)≤1048576:=by omega
 have hrep:=hx0
 obtain ⟨hop,sv,rfl,hsv⟩:=hx0
 have h1s:oneC sv=true:=by
  obtain ⟨_,_,_,e1,e2,_⟩:=repN_one hrep
  cases e1; exact e2
 have h1x:allOne [.lit (.int .u8 ((8:Nat) : Int)),.lit (.int .i64 a),.lit (.int .i64 b),sv]=true:=by simp [h1s]
 have h1y:allOne [.lit (.int .u8 8),.lit (.int .i64 a),.lit (.int .i64 b),sv]=true:=by simp [h1s]
 have h1e:allOne [.lit (.int .i64 (-1)),.lit (.int .i64 0)]=true:=by simp
 unfold validM at hv
 simp only [Bool.and_eq_true,decide_eq_true_eq] at hv
 obtain ⟨v1,v2,v3,v4,v5,v6,v7⟩:=hv
 have v2' : subs.length=1:=v2
 have hsz:sizeL subs≤m:=by unfold sizeN at hx; omega
 have HSV:Hide ((subs=[]∧(sv=.lit (.slice none 0 0)∨sv=.es))∨∃ a off r,a < n∧((∃ c,sv=.sl a off subs.length c)∨(∃ c,sv=.slq a off subs.length c))∧Row g a off r∧repL g n subs r):=⟨hsv⟩
 have hlS:∀ {H:Mem} {e' : Ev} {o:Oper} {c' : Call} {e:TypeId},lenS Tryd.prog H e' o c' (some (.slice e)) (some [sv])=.val (.lit (.int .i64 1)) H:=by
  intro H e' o c' e
  rcases HSV.out with ⟨h1,rfl | rfl⟩ | ⟨a2,off,r,_,⟨c2,rfl⟩ | ⟨c2,rfl⟩,_⟩
  ·rw [h1] at v2'; first | rfl | cases v2'
  ·rw [h1] at v2'; first | rfl | cases v2'
  ·rw [v2']; rfl
  ·rw [v2']; rfl
 clear hrows hrv IH0 v1 v2 v5 v6 hx hop hM
 obtain ⟨y,rfl⟩ : ∃ y,subs=[y]:=by
  match subs,v2' with
  | [y],_=>exact ⟨y,rfl⟩
 rcases hsv with ⟨h1,_⟩ | ⟨a2,off,r,ha2,hev,hrow,hrl⟩
 ·cases h1
 have hll:=repL_len hrl
 have hy0:=repL_at hrl 0 (by simp)
 have hc0:=hrow.agg (k:=0 * 4) (s:=4) (by rw [hll]; simp)
 have hy0' : repN g n y ((r.drop (0 * 4)).take 4):=hy0
 obtain ⟨k2,k3,sv2,hcy,h1c,hop2⟩:=repN_one hy0'
 rw [hcy] at hc0 hy0'
 have h1q:allOne [.lit (.int .u8 y.op),.lit (.int .i64 k2),.lit (.int .i64 k3),sv2]=true:=by simp [h1c]
 have hc0' : loadB (some (true,4)) (g a2) off=some (.agg [.lit (.int .u8 y.op),.lit (.int .i64 k2),.lit (.int .i64 k3),sv2]):=by simpa using hc0
 have hyv:=validL_mem v7 y (by simp)
 have hyz:sizeN y≤m:=Nat.le_trans (size_mem (by simp)) hsz
 have HY:=Hide.mk hy0'
 have HYV:=Hide.mk hyv
 clear hy0 hc0 hcy hy0' hyv hrow hrl hll hrep v7 v2' hsz HSV
 rcases hev with ⟨c2,rfl⟩ | ⟨c2,rfl⟩
 all_goals
  refine WC.enterP (noO_ok _ _) hG pl13 Tryd.func13 rfl (by decide +kernel) (Nat.le_of_ble_eq_true (by kernel_rfl)) ?_
  try simp (maxSteps:=999999) (disch:=first | assumption | omega | (simp; done) | fail) [Tryd.results13, *]
  refine WC.mono (IH.out y hyz HYV.out _ _ _ _ (HR.out.mono (by omega) fun q hq=>by simp (disch:=omega) only [gput_lt]) (repN_mono (by omega) (fun q hq=>by simp (disch:=omega) only [gput_lt]) HY.out)) ?_
  rintro _ ⟨Aa,SA,g1,n1,rfl,hn1,hg1,hA1,hA2,hA3,hsemA⟩
  have HG:Hide (∀ q,q < n→g1 q=g q):=⟨fun q hq=>by rw [hg1 q (by omega)]; simp (disch:=omega) only [gput_lt]⟩
  have f0:g1 n=some (.cells [.lit (.int .i64 M.inp),.lit (.int .i64 M.out),rv] true 0):=by rw [hg1 n (by omega)]; simp (disch:=omega) only [gput_lt,gput_eq]
  have f1:=(hg1 (n+1) (by omega)).trans ((gput_lt (by omega)).trans ((gput_lt (by omega)).trans gput_eq))
  have f3:g1 (n+1+1+1)=some (.cells (intC M.rows.length noneS) true 0):=by rw [hg1 (n+1+1+1) (by omega),intC_none]; simp (disch:=omega) only [gput_eq]; try rfl
  have HSA:=Hide.mk hsemA
  clear hg1 hsemA
  have HSL:Hide (semL M [y] SA noneS):=⟨⟨HSA.out,eqS.refl _ _⟩⟩
  obtain ⟨xv,f1x⟩ : ∃ xv,g1 (n+1)=some (.cells [.lit (.int .u8 ((8:Nat) : Int)),.lit (.int .i64 a),.lit (.int .i64 b),xv] true 0):=⟨_,f1⟩
  clear HSA
  try simp (maxSteps:=999999) (disch:=first | assumption | omega | (simp; done) | fail) [Tryd.results13, *]
  refine LX.ind (fun m gf H'=>∃ (k n' : Nat) (g' : Nat→Option Blk),k≤M.rows.length∧m=M.rows.length - k∧H'=⟨.fn g',n'⟩∧n1+1≤n'∧(∀ q,q < n→g' q=g q)∧g' n=some (.cells [.lit (.int .i64 M.inp),.lit (.int .i64 M.out),rv] true 0)∧g' (n+1)=some (.cells [.lit (.int .u8 8),.lit (.int .i64 a),.lit (.int .i64 b),xv] true 0)∧g' Aa=some (.cells (intC M.rows.length SA) true 0)∧g' (n+1+1+1)=some (.cells (intC M.rows.length noneS) true 0)∧g' n1=some (.cells (intC M.rows.length (upS noneS k)) true 0)∧gf 2=some (.ptr n 0)∧gf 3=some (.ptr (n+1) 0)∧gf 5=some (.lit (.int .i64 M.rows.length))∧gf 6=some (.sl Aa 0 M.rows.length M.rows.length)∧gf 7=some (.sl (n+1+1+1) 0 M.rows.length M.rows.length)∧gf 8=some (.sl n1 0 M.rows.length M.rows.length)∧gf 9=some (.lit (.int .i64 k))) (m0:=M.rows.length) ?_ ?_
  ·refine ⟨0,_,_,Nat.zero_le _,rfl,rfl,Nat.le_refl _,fun q hq=>?_,?_,?_,?_,?_,?_,by simp [*],by simp [*],by simp [*],by simp [*],by simp [*],by simp [*],by simp⟩
   ·simp (disch:=omega) only [gput_lt]
    exact HG.out q hq
   ·simp (disch:=omega) only [gput_lt]
    exact f0
   ·simp (disch:=omega) only [gput_lt]
    exact f1x
   ·simp (disch:=omega) only [gput_lt]
    exact hA3
   ·simp (disch:=omega) only [gput_lt]
    exact f3
   ·rw [intC_zero]
    simp (disch:=omega) only [gput_eq]
    try rfl
  clear f0 f1x hA3 f3 HG f1
  rintro m gf H' ⟨k,nq,gq,hk,rfl,rfl,hnq,hgq,e0,e1,eA,eB,eO,w2,w3,w5,w6,w7,w8,w9⟩ ih
  have HGq:=Hide.mk hgq
  clear hgq
  refine LX.roundP (noO_ok _ _) hG pl13 (by decide +kernel) ?_
  by_cases hlt:k < M.rows.length
  ·have hltI:(k:Int) < (M.rows.length:Int):=by omega
   have hRA:=rahead_w HMM.out k hlt SA Aa
   have HRA:=Hide.mk hRA
   clear hRA
   have HSAME:Hide (intC M.rows.length (upS noneS k)=intC M.rows.length (upS noneS (k+1))):=⟨by rw [up_none,up_none]⟩
   have hul:=intC_len M.rows.length (upS noneS k)
   have hset:=intC_set M.rows.length noneS k hlt
   have HSET:=Hide.mk hset
   clear hset
   have hclA:=intC_len M.rows.length SA
   have hclB:=intC_len M.rows.length noneS
   have hatA:=intC_at M.rows.length SA k
   have hatB:=intC_at M.rows.length noneS k
   rw [if_pos hlt] at hatA hatB
   have HRM:Hide (∀ (g' : Nat→Option Blk) (n' : Nat),n≤n'→(∀ q,q < n→g' q=gq q)→RepM g' n' M [.lit (.int .i64 M.inp),.lit (.int .i64 M.out),rv]):=⟨fun g' n' h1 h2=>HR.out.mono h1 fun q hq=>by rw [h2 q hq]; exact HGq.out q hq⟩
   have hkA:k < (intC M.rows.length SA).length:=by omega
   have hkB:k < (intC M.rows.length noneS).length:=by omega
   have hgA:(intC M.rows.length SA)[k]'hkA=.lit (.int .i64 (b01 (SA k))):=by
    rw [List.getElem?_eq_getElem hkA] at hatA
    exact Option.some.inj hatA
   have hgB:(intC M.rows.length noneS)[k]'hkB=.lit (.int .i64 (b01 (noneS k))):=by
    rw [List.getElem?_eq_getElem hkB] at hatB
    exact Option.some.inj hatB
   have eA' : Hide (gq Aa=some (.cells (intC M.rows.length SA) true 0)):=⟨eA⟩
   clear hatA hatB
   generalize intC M.rows.length (upS noneS k)=L at *
   have hkL:k < L.length:=by omega
   try simp (maxSteps:=999999) (disch:=first | assumption | omega | (simp; done) | fail) [Tryd.results13, *]
   refine WC.mono (HRA.out _ _ _ (HRM.out _ _ (by omega) fun q hq=>by simp (disch:=omega) only [gput_lt]) (by simp (disch:=omega) only [gput_lt]; exact eA'.out) (by omega)) ?_
   rintro _ ⟨so,ma,rfl,hsm1,hsm2,hpre,hpost,hends⟩
   clear hpre hpost hends
   try simp (maxSteps:=999999) (disch:=first | assumption | omega | (simp; done) | fail) [Tryd.results13, *]
   refine ih.out (M.rows.length - (k+1)) _ _ (by omega) ⟨k+1,nq+1,_,by omega,rfl,rfl,by omega,fun q hq=>?_,?_,?_,?_,?_,?_,by simp [*],by simp [*],by simp [*],by simp [*],by simp [*],by simp [*],by simp⟩
   ·simp (disch:=omega) only [gput_lt,gput_ne]
    exact HGq.out q hq
   ·simp (disch:=omega) only [gput_lt,gput_ne]
    exact e0
   ·simp (disch:=omega) only [gput_lt,gput_ne]
    exact e1
   ·simp (disch:=omega) only [gput_lt,gput_ne]
    exact eA'.out
   ·simp (disch:=omega) only [gput_lt,gput_ne]
    exact eB
   ·simp (disch:=omega) only [gput_lt,gput_ne,gput_eq]
    rw [← HSAME.out]
    exact eO
  ·have hltI:¬(k:Int) < (M.rows.length:Int):=by omega
   have hk2:k=M.rows.length:=by omega
   have HK2:=Hide.mk hk2
   clear hk2
   try simp (maxSteps:=999999) (disch:=first | assumption | omega | (simp; done) | fail) [Tryd.results13, *]
   have HOX:Hide (intC M.rows.length (upS noneS k)=intC M.rows.length (rounds M SA noneS 8 0)):=⟨by rw [HK2.out,intC_end]; first | rfl | (rw [rounds_all _ _ _ _ (by omega)])⟩
   refine LX.ind (fun m gf H'=>∃ (r n' Or:Nat) (g' : Nat→Option Blk),r≤M.rows.length+1∧m=M.rows.length+1 - r∧H'=⟨.fn g',n'⟩∧n1≤Or∧Or < n'∧(∀ q,q < n→g' q=g q)∧g' n=some (.cells [.lit (.int .i64 M.inp),.lit (.int .i64 M.out),rv] true 0)∧g' (n+1)=some (.cells [.lit (.int .u8 8),.lit (.int .i64 a),.lit (.int .i64 b),xv] true 0)∧g' Aa=some (.cells (intC M.rows.length SA) true 0)∧g' (n+1+1+1)=some (.cells (intC M.rows.length noneS) true 0)∧g' Or=some (.cells (intC M.rows.length (rounds M SA noneS 8 r)) true 0)∧gf 2=some (.ptr n 0)∧gf 3=some (.ptr (n+1) 0)∧gf 5=some (.lit (.int .i64 M.rows.length))∧gf 6=some (.sl Aa 0 M.rows.length M.rows.length)∧gf 7=some (.sl (n+1+1+1) 0 M.rows.length M.rows.length)∧gf 8=some (.sl Or 0 M.rows.length M.rows.length)∧gf 13=some (.lit (.int .i64 r))) (m0:=M.rows.length+1) ?_ ?_
   ·exact ⟨0,nq,n1,gq,by omega,rfl,rfl,by omega,by omega,HGq.out,e0,e1,eA,eB,by rw [← HOX.out]; exact eO,by simp [*],by simp [*],by simp [*],by simp [*],by simp [*],by simp [*],by simp⟩
   clear ih eO HOX HK2 w2 w3 w5 w6 w7 w8 w9 e0 e1 eA eB HGq hnq hltI
   rintro m gf H' ⟨r,n2,Or,g2,hr2,rfl,rfl,hOr,hOn,hg2,e0,e1,eA,eB,eO,w2,w3,w5,w6,w7,w8,w13⟩ ih
   have HG2:=Hide.mk hg2
   clear hg2
   refine LX.roundP (noO_ok _ _) hG pl13 (by decide +kernel) ?_
   by_cases hrt:r≤M.rows.length
   ·have hrtI:(r:Int)≤(M.rows.length:Int):=by omega
    have hr65:r≤64:=by omega
    try simp (maxSteps:=999999) (disch:=first | assumption | omega | (simp; done) | fail) [Tryd.results13, *]
    refine LX.ind (fun m gf H'=>∃ (k:Nat) (g' : Nat→Option Blk),k≤M.rows.length∧m=M.rows.length - k∧H'=⟨.fn g',n2+1⟩∧(∀ q,q < n→g' q=g q)∧g' n=some (.cells [.lit (.int .i64 M.inp),.lit (.int .i64 M.out),rv] true 0)∧g' (n+1)=some (.cells [.lit (.int .u8 8),.lit (.int .i64 a),.lit (.int .i64 b),xv] true 0)∧g' Aa=some (.cells (intC M.rows.length SA) true 0)∧g' (n+1+1+1)=some (.cells (intC M.rows.length noneS) true 0)∧g' Or=some (.cells (intC M.rows.length (rounds M SA noneS 8 r)) true 0)∧g' n2=some (.cells (intC M.rows.length (upS (rounds M SA noneS 8 (r+1)) k)) true 0)∧gf 2=some (.ptr n 0)∧gf 3=some (.ptr (n+1) 0)∧gf 5=some (.lit (.int .i64 M.rows.length))∧gf 6=some (.sl Aa 0 M.rows.length M.rows.length)∧gf 7=some (.sl (n+1+1+1) 0 M.rows.length M.rows.length)∧gf 8=some (.sl Or 0 M.rows.length M.rows.length)∧gf 13=some (.lit (.int .i64 r))∧gf 14=some (.sl n2 0 M.rows.length M.rows.length)∧gf 15=some (.lit (.int .i64 k))) (m0:=M.rows.length) ?_ ?_
    ·refine ⟨0,_,Nat.zero_le _,rfl,rfl,fun q hq=>?_,?_,?_,?_,?_,?_,?_,by simp [*],by simp [*],by simp [*],by simp [*],by simp [*],by simp [*],by simp [*],by simp,by simp⟩
     ·simp (disch:=omega) only [gput_lt]
      exact HG2.out q hq
     ·simp (disch:=omega) only [gput_lt]
      exact e0
     ·simp (disch:=omega) only [gput_lt]
      exact e1
     ·simp (disch:=omega) only [gput_lt]
      exact eA
     ·simp (disch:=omega) only [gput_lt]
      exact eB
     ·simp (disch:=omega) only [gput_lt]
      exact eO
     ·rw [intC_zero]
      simp (disch:=omega) only [gput_eq]
      try rfl
    clear e0 e1 eA eB eO w2 w3 w5 w6 w7 w8 w13
    rintro m gf H' ⟨k,g3,hk,rfl,rfl,hg3,e0,e1,eA,eB,eO,eP,w2,w3,w5,w6,w7,w8,w13,w14,w15⟩ ihk
    have HG3:=Hide.mk hg3
    clear hg3
    refine LX.roundP (noO_ok _ _) hG pl13 (by decide +kernel) ?_
    by_cases hlt:k < M.rows.length
    ·have hltI:(k:Int) < (M.rows.length:Int):=by omega
     have HRA:=Hide.mk (rahead_w HMM.out k hlt (rounds M SA noneS 8 r) Or)
     have hul:=intC_len M.rows.length (upS (rounds M SA noneS 8 (r+1)) k)
     have HSET:=Hide.mk (intC_set M.rows.length (rounds M SA noneS 8 (r+1)) k hlt)
     have hclA:=intC_len M.rows.length SA
     have hclB:=intC_len M.rows.length noneS
     have hatA:=intC_at M.rows.length SA k
     have hatB:=intC_at M.rows.length noneS k
     rw [if_pos hlt] at hatA hatB
     have HRM:Hide (RepM g3 (n2+1) M [.lit (.int .i64 M.inp),.lit (.int .i64 M.out),rv]):=⟨HR.out.mono (by omega) HG3.out⟩
     have hkA:k < (intC M.rows.length SA).length:=by omega
     have hkB:k < (intC M.rows.length noneS).length:=by omega
     have hgA:(intC M.rows.length SA)[k]'hkA=.lit (.int .i64 (b01 (SA k))):=by
      rw [List.getElem?_eq_getElem hkA] at hatA
      exact Option.some.inj hatA
     have hgB:(intC M.rows.length noneS)[k]'hkB=.lit (.int .i64 (b01 (noneS k))):=by
      rw [List.getElem?_eq_getElem hkB] at hatB
      exact Option.some.inj hatB
     have HSTEP:=Hide.mk (step8 M SA noneS r k)
     have EA:=Hide.mk eA
     have EO:=Hide.mk eO
     clear hatA hatB
     generalize rounds M SA noneS 8 (r+1) k=sk at HSET HSTEP
     generalize intC M.rows.length (upS (rounds M SA noneS 8 (r+1)) k)=L at *
     have hkL:k < L.length:=by omega
     try simp (maxSteps:=999999) (disch:=first | assumption | omega | (simp; done) | fail) [Tryd.results13, *]
     refine WC.mono (HRA.out _ _ _ HRM.out EO.out (by omega)) ?_
     rintro _ ⟨so,ma,rfl,hsm1,hsm2,hpre,hpost,hends⟩
     have HP:=Hide.mk (And.intro hpre (And.intro hpost hends))
     clear hpre hpost hends
     cases hA:SA k <;> by_cases hp:0 < so
     all_goals
      rw [hA] at hgA
      simp only [b01] at hgA
      first | have hpI:(0:Int) < (so:Int):=by omega | have hpI:¬(0:Int) < (so:Int):=by omega
      try simp (maxSteps:=999999) (disch:=first | assumption | omega | (simp; done) | fail) [Tryd.results13, *]
      refine WC.mono (one_w _ _) ?_
      rintro _ rfl
      simp only [b01]
      try simp (maxSteps:=999999) (disch:=first | assumption | omega | (simp; done) | fail) [Tryd.results13, *]
      refine ihk.out (M.rows.length - (k+1)) _ _ (by omega) ⟨k+1,_,by omega,rfl,rfl,fun q hq=>?_,?_,?_,?_,?_,?_,?_,by simp [*],by simp [*],by simp [*],by simp [*],by simp [*],by simp [*],by simp [*],by simp [*],by simp⟩
      ·simp (disch:=omega) only [gput_ne]
       exact HG3.out q hq
      ·simp (disch:=omega) only [gput_ne]
       exact e0
      ·simp (disch:=omega) only [gput_ne]
       exact e1
      ·simp (disch:=omega) only [gput_ne]
       exact EA.out
      ·simp (disch:=omega) only [gput_ne]
       exact eB
      ·simp (disch:=omega) only [gput_ne]
       exact EO.out
      ·simp (disch:=omega) only [gput_eq]
       rw [← HSET.out,HSTEP.out]
       try rw [← HP.out.1]
       try rw [← HP.out.2.1]
       try rw [← HP.out.2.2]
       first | (simp [*,b01]; done) | (simp [*,b01]; omega)
    ·have hltI:¬(k:Int) < (M.rows.length:Int):=by omega
     have hk2:k=M.rows.length:=by omega
     have HK2:=Hide.mk hk2
     clear hk2
     try simp (maxSteps:=999999) (disch:=first | assumption | omega | (simp; done) | fail) [Tryd.results13, *]
     refine ih.out (M.rows.length+1 - (r+1)) _ _ (by omega) ⟨r+1,n2+1,n2,g3,by omega,rfl,rfl,by omega,by omega,HG3.out,e0,e1,eA,eB,?_,by simp [*],by simp [*],by simp [*],by simp [*],by simp [*],by simp [*],by simp⟩
     rw [← intC_end]
     have h:=eP
     rw [HK2.out] at h
     exact h
   ·have hrtI:¬(r:Int)≤(M.rows.length:Int):=by omega
    have hr3:r=M.rows.length+1:=by omega
    have HR3:=Hide.mk hr3
    clear hr3
    try simp (maxSteps:=999999) (disch:=first | assumption | omega | (simp; done) | fail) [Tryd.results13, *]
    refine ⟨Or,rounds M SA noneS 8 (M.rows.length+1),g2,n2,rfl,by omega,fun q hq=>HG2.out q hq,by omega,hOn,?_,SA,noneS,HSL.out,rounds_sem M SA noneS HMM.out 8 a b (by omega)⟩
    have h:=eO
    rw [HR3.out] at h
    exact h
end Go.Ai
end
section
namespace Go.Ai
open Go.Proofs
set_option maxRecDepth 10000
set_option maxHeartbeats 40000000
theorem rsem9_w {M:MachM} (hM:M.ok) {m:Nat} (IH0:RSatW M m) (a b:Int) (subs:List NodeM) (hx:sizeN (.mk 9 a b subs)≤m+1) (hv:validM M.rows.length M.inp M.out (.mk 9 a b subs)=true) (g:Nat→Option Blk) (n:Nat) (ms xs:List AV) (hr:RepM g n M ms) (hx0:repN g n (.mk 9 a b subs) xs) :
  WC 6 Tryd.prog 13 [.agg ms,.agg xs] ⟨.fn g,n⟩ (RQ M (.mk 9 a b subs) g n):=by
 have IH:=Hide.mk IH0
 have HMM:=Hide.mk hM
 have HR:=Hide.mk hr
 obtain ⟨rv,svs,rfl,hrows,hrv⟩:=hr
 have h1r:=hrv.one
 have h1a:allOne [.lit (.int .i64 M.inp),.lit (.int .i64 M.out),rv]=true:=by simp [h1r]
 have hlen:=@lenV Tryd.prog _ _ _ _ _ hrv
 have hsl:=hrows.len
 have HROW:=Hide.mk hrows
 have HRV:=Hide.mk hrv
 have HOK:=Hide.mk (ok_row hM)
 have h64:M.rows.length≤64:=hM.2.2.2.2.2.1
 have hz64:(M.rows.length:Int)≤1048576:=by omega
 have hrep:=hx0
 obtain ⟨hop,sv,rfl,hsv⟩:=hx0
 have h1s:oneC sv=true:=by
  obtain ⟨_,_,_,e1,e2,_⟩:=repN_one hrep
  cases e1; exact e2
 have h1x:allOne [.lit (.int .u8 ((9:Nat) : Int)),.lit (.int .i64 a),.lit (.int .i64 b),sv]=true:=by simp [h1s]
 have h1y:allOne [.lit (.int .u8 9),.lit (.int .i64 a),.lit (.int .i64 b),sv]=true:=by simp [h1s]
 have h1e:allOne [.lit (.int .i64 (-1)),.lit (.int .i64 0)]=true:=by simp
 unfold validM at hv
 simp only [Bool.and_eq_true,decide_eq_true_eq] at hv
 obtain ⟨v1,v2,v3,v4,v5,v6,v7⟩:=hv
 have v2' : subs.length=1:=v2
 have hsz:sizeL subs≤m:=by unfold sizeN at hx; omega
 have HSV:Hide ((subs=[]∧(sv=.lit (.slice none 0 0)∨sv=.es))∨∃ a off r,a < n∧((∃ c,sv=.sl a off subs.length c)∨(∃ c,sv=.slq a off subs.length c))∧Row g a off r∧repL g n subs r):=⟨hsv⟩
 have hlS:∀ {H:Mem} {e' : Ev} {o:Oper} {c' : Call} {e:TypeId},lenS Tryd.prog H e' o c' (some (.slice e)) (some [sv])=.val (.lit (.int .i64 1)) H:=by
  intro H e' o c' e
  rcases HSV.out with ⟨h1,rfl | rfl⟩ | ⟨a2,off,r,_,⟨c2,rfl⟩ | ⟨c2,rfl⟩,_⟩
  ·rw [h1] at v2'; first | rfl | cases v2'
  ·rw [h1] at v2'; first | rfl | cases v2'
  ·rw [v2']; rfl
  ·rw [v2']; rfl
 clear hrows hrv IH0 v1 v2 v5 v6 hx hop hM
 obtain ⟨y,rfl⟩ : ∃ y,subs=[y]:=by
  match subs,v2' with
  | [y],_=>exact ⟨y,rfl⟩
 rcases hsv with ⟨h1,_⟩ | ⟨a2,off,r,ha2,hev,hrow,hrl⟩
 ·cases h1
 have hll:=repL_len hrl
 have hy0:=repL_at hrl 0 (by simp)
 have hc0:=hrow.agg (k:=0 * 4) (s:=4) (by rw [hll]; simp)
 have hy0' : repN g n y ((r.drop (0 * 4)).take 4):=hy0
 obtain ⟨k2,k3,sv2,hcy,h1c,hop2⟩:=repN_one hy0'
 rw [hcy] at hc0 hy0'
 have h1q:allOne [.lit (.int .u8 y.op),.lit (.int .i64 k2),.lit (.int .i64 k3),sv2]=true:=by simp [h1c]
 have hc0' : loadB (some (true,4)) (g a2) off=some (.agg [.lit (.int .u8 y.op),.lit (.int .i64 k2),.lit (.int .i64 k3),sv2]):=by simpa using hc0
 have hyv:=validL_mem v7 y (by simp)
 have hyz:sizeN y≤m:=Nat.le_trans (size_mem (by simp)) hsz
 have HY:=Hide.mk hy0'
 have HYV:=Hide.mk hyv
 clear hy0 hc0 hcy hy0' hyv hrow hrl hll hrep v7 v2' hsz HSV
 rcases hev with ⟨c2,rfl⟩ | ⟨c2,rfl⟩
 all_goals
  refine WC.enterP (noO_ok _ _) hG pl13 Tryd.func13 rfl (by decide +kernel) (Nat.le_of_ble_eq_true (by kernel_rfl)) ?_
  try simp (maxSteps:=999999) (disch:=first | assumption | omega | (simp; done) | fail) [Tryd.results13, *]
  refine WC.mono (IH.out y hyz HYV.out _ _ _ _ (HR.out.mono (by omega) fun q hq=>by simp (disch:=omega) only [gput_lt]) (repN_mono (by omega) (fun q hq=>by simp (disch:=omega) only [gput_lt]) HY.out)) ?_
  rintro _ ⟨Aa,SA,g1,n1,rfl,hn1,hg1,hA1,hA2,hA3,hsemA⟩
  have HG:Hide (∀ q,q < n→g1 q=g q):=⟨fun q hq=>by rw [hg1 q (by omega)]; simp (disch:=omega) only [gput_lt]⟩
  have f0:g1 n=some (.cells [.lit (.int .i64 M.inp),.lit (.int .i64 M.out),rv] true 0):=by rw [hg1 n (by omega)]; simp (disch:=omega) only [gput_lt,gput_eq]
  have f1:=(hg1 (n+1) (by omega)).trans ((gput_lt (by omega)).trans ((gput_lt (by omega)).trans gput_eq))
  have f3:g1 (n+1+1+1)=some (.cells (intC M.rows.length noneS) true 0):=by rw [hg1 (n+1+1+1) (by omega),intC_none]; simp (disch:=omega) only [gput_eq]; try rfl
  have HSA:=Hide.mk hsemA
  clear hg1 hsemA
  have HSL:Hide (semL M [y] SA noneS):=⟨⟨HSA.out,eqS.refl _ _⟩⟩
  obtain ⟨xv,f1x⟩ : ∃ xv,g1 (n+1)=some (.cells [.lit (.int .u8 ((9:Nat) : Int)),.lit (.int .i64 a),.lit (.int .i64 b),xv] true 0):=⟨_,f1⟩
  clear HSA
  try simp (maxSteps:=999999) (disch:=first | assumption | omega | (simp; done) | fail) [Tryd.results13, *]
  refine LX.ind (fun m gf H'=>∃ (k n' : Nat) (g' : Nat→Option Blk),k≤M.rows.length∧m=M.rows.length - k∧H'=⟨.fn g',n'⟩∧n1+1≤n'∧(∀ q,q < n→g' q=g q)∧g' n=some (.cells [.lit (.int .i64 M.inp),.lit (.int .i64 M.out),rv] true 0)∧g' (n+1)=some (.cells [.lit (.int .u8 9),.lit (.int .i64 a),.lit (.int .i64 b),xv] true 0)∧g' Aa=some (.cells (intC M.rows.length SA) true 0)∧g' (n+1+1+1)=some (.cells (intC M.rows.length noneS) true 0)∧g' n1=some (.cells (intC M.rows.length (upS allS k)) true 0)∧gf 2=some (.ptr n 0)∧gf 3=some (.ptr (n+1) 0)∧gf 5=some (.lit (.int .i64 M.rows.length))∧gf 6=some (.sl Aa 0 M.rows.length M.rows.length)∧gf 7=some (.sl (n+1+1+1) 0 M.rows.length M.rows.length)∧gf 8=some (.sl n1 0 M.rows.length M.rows.length)∧gf 9=some (.lit (.int .i64 k))) (m0:=M.rows.length) ?_ ?_
  ·refine ⟨0,_,_,Nat.zero_le _,rfl,rfl,Nat.le_refl _,fun q hq=>?_,?_,?_,?_,?_,?_,by simp [*],by simp [*],by simp [*],by simp [*],by simp [*],by simp [*],by simp⟩
   ·simp (disch:=omega) only [gput_lt]
    exact HG.out q hq
   ·simp (disch:=omega) only [gput_lt]
    exact f0
   ·simp (disch:=omega) only [gput_lt]
    exact f1x
   ·simp (disch:=omega) only [gput_lt]
    exact hA3
   ·simp (disch:=omega) only [gput_lt]
    exact f3
   ·rw [intC_zero]
    simp (disch:=omega) only [gput_eq]
    try rfl
  clear f0 f1x hA3 f3 HG f1
  rintro m gf H' ⟨k,nq,gq,hk,rfl,rfl,hnq,hgq,e0,e1,eA,eB,eO,w2,w3,w5,w6,w7,w8,w9⟩ ih
  have HGq:=Hide.mk hgq
  clear hgq
  refine LX.roundP (noO_ok _ _) hG pl13 (by decide +kernel) ?_
  by_cases hlt:k < M.rows.length
  ·have hltI:(k:Int) < (M.rows.length:Int):=by omega
   have hRA:=rahead_w HMM.out k hlt SA Aa
   have HRA:=Hide.mk hRA
   clear hRA
   have hul:=intC_len M.rows.length (upS allS k)
   have hset:=intC_set M.rows.length allS k hlt
   have HSET:=Hide.mk hset
   clear hset
   have hclA:=intC_len M.rows.length SA
   have hclB:=intC_len M.rows.length noneS
   have hatA:=intC_at M.rows.length SA k
   have hatB:=intC_at M.rows.length noneS k
   rw [if_pos hlt] at hatA hatB
   have HRM:Hide (∀ (g' : Nat→Option Blk) (n' : Nat),n≤n'→(∀ q,q < n→g' q=gq q)→RepM g' n' M [.lit (.int .i64 M.inp),.lit (.int .i64 M.out),rv]):=⟨fun g' n' h1 h2=>HR.out.mono h1 fun q hq=>by rw [h2 q hq]; exact HGq.out q hq⟩
   have hkA:k < (intC M.rows.length SA).length:=by omega
   have hkB:k < (intC M.rows.length noneS).length:=by omega
   have hgA:(intC M.rows.length SA)[k]'hkA=.lit (.int .i64 (b01 (SA k))):=by
    rw [List.getElem?_eq_getElem hkA] at hatA
    exact Option.some.inj hatA
   have hgB:(intC M.rows.length noneS)[k]'hkB=.lit (.int .i64 (b01 (noneS k))):=by
    rw [List.getElem?_eq_getElem hkB] at hatB
    exact Option.some.inj hatB
   have eA' : Hide (gq Aa=some (.cells (intC M.rows.length SA) true 0)):=⟨eA⟩
   clear hatA hatB
   generalize intC M.rows.length (upS allS k)=L at *
   have hkL:k < L.length:=by omega
   try simp (maxSteps:=999999) (disch:=first | assumption | omega | (simp; done) | fail) [Tryd.results13, *]
   refine WC.mono (HRA.out _ _ _ (HRM.out _ _ (by omega) fun q hq=>by simp (disch:=omega) only [gput_lt]) (by simp (disch:=omega) only [gput_lt]; exact eA'.out) (by omega)) ?_
   rintro _ ⟨so,ma,rfl,hsm1,hsm2,hpre,hpost,hends⟩
   clear hpre hpost hends
   try simp (maxSteps:=999999) (disch:=first | assumption | omega | (simp; done) | fail) [Tryd.results13, *]
   refine ih.out (M.rows.length - (k+1)) _ _ (by omega) ⟨k+1,nq+1,_,by omega,rfl,rfl,by omega,fun q hq=>?_,?_,?_,?_,?_,?_,by simp [*],by simp [*],by simp [*],by simp [*],by simp [*],by simp [*],by simp⟩
   ·simp (disch:=omega) only [gput_lt,gput_ne]
    exact HGq.out q hq
   ·simp (disch:=omega) only [gput_lt,gput_ne]
    exact e0
   ·simp (disch:=omega) only [gput_lt,gput_ne]
    exact e1
   ·simp (disch:=omega) only [gput_lt,gput_ne]
    exact eA'.out
   ·simp (disch:=omega) only [gput_lt,gput_ne]
    exact eB
   ·simp (disch:=omega) only [gput_lt,gput_ne,gput_eq]
    rw [← HSET.out]
    rfl
  ·have hltI:¬(k:Int) < (M.rows.length:Int):=by omega
   have hk2:k=M.rows.length:=by omega
   have HK2:=Hide.mk hk2
   clear hk2
   try simp (maxSteps:=999999) (disch:=first | assumption | omega | (simp; done) | fail) [Tryd.results13, *]
   have HOX:Hide (intC M.rows.length (upS allS k)=intC M.rows.length (rounds M SA noneS 9 0)):=⟨by rw [HK2.out,intC_end]; first | rfl | (rw [rounds_all _ _ _ _ (by omega)])⟩
   refine LX.ind (fun m gf H'=>∃ (r n' Or:Nat) (g' : Nat→Option Blk),r≤M.rows.length+1∧m=M.rows.length+1 - r∧H'=⟨.fn g',n'⟩∧n1≤Or∧Or < n'∧(∀ q,q < n→g' q=g q)∧g' n=some (.cells [.lit (.int .i64 M.inp),.lit (.int .i64 M.out),rv] true 0)∧g' (n+1)=some (.cells [.lit (.int .u8 9),.lit (.int .i64 a),.lit (.int .i64 b),xv] true 0)∧g' Aa=some (.cells (intC M.rows.length SA) true 0)∧g' (n+1+1+1)=some (.cells (intC M.rows.length noneS) true 0)∧g' Or=some (.cells (intC M.rows.length (rounds M SA noneS 9 r)) true 0)∧gf 2=some (.ptr n 0)∧gf 3=some (.ptr (n+1) 0)∧gf 5=some (.lit (.int .i64 M.rows.length))∧gf 6=some (.sl Aa 0 M.rows.length M.rows.length)∧gf 7=some (.sl (n+1+1+1) 0 M.rows.length M.rows.length)∧gf 8=some (.sl Or 0 M.rows.length M.rows.length)∧gf 13=some (.lit (.int .i64 r))) (m0:=M.rows.length+1) ?_ ?_
   ·exact ⟨0,nq,n1,gq,by omega,rfl,rfl,by omega,by omega,HGq.out,e0,e1,eA,eB,by rw [← HOX.out]; exact eO,by simp [*],by simp [*],by simp [*],by simp [*],by simp [*],by simp [*],by simp⟩
   clear ih eO HOX HK2 w2 w3 w5 w6 w7 w8 w9 e0 e1 eA eB HGq hnq hltI
   rintro m gf H' ⟨r,n2,Or,g2,hr2,rfl,rfl,hOr,hOn,hg2,e0,e1,eA,eB,eO,w2,w3,w5,w6,w7,w8,w13⟩ ih
   have HG2:=Hide.mk hg2
   clear hg2
   refine LX.roundP (noO_ok _ _) hG pl13 (by decide +kernel) ?_
   by_cases hrt:r≤M.rows.length
   ·have hrtI:(r:Int)≤(M.rows.length:Int):=by omega
    have hr65:r≤64:=by omega
    try simp (maxSteps:=999999) (disch:=first | assumption | omega | (simp; done) | fail) [Tryd.results13, *]
    refine LX.ind (fun m gf H'=>∃ (k:Nat) (g' : Nat→Option Blk),k≤M.rows.length∧m=M.rows.length - k∧H'=⟨.fn g',n2+1⟩∧(∀ q,q < n→g' q=g q)∧g' n=some (.cells [.lit (.int .i64 M.inp),.lit (.int .i64 M.out),rv] true 0)∧g' (n+1)=some (.cells [.lit (.int .u8 9),.lit (.int .i64 a),.lit (.int .i64 b),xv] true 0)∧g' Aa=some (.cells (intC M.rows.length SA) true 0)∧g' (n+1+1+1)=some (.cells (intC M.rows.length noneS) true 0)∧g' Or=some (.cells (intC M.rows.length (rounds M SA noneS 9 r)) true 0)∧g' n2=some (.cells (intC M.rows.length (upS (rounds M SA noneS 9 (r+1)) k)) true 0)∧gf 2=some (.ptr n 0)∧gf 3=some (.ptr (n+1) 0)∧gf 5=some (.lit (.int .i64 M.rows.length))∧gf 6=some (.sl Aa 0 M.rows.length M.rows.length)∧gf 7=some (.sl (n+1+1+1) 0 M.rows.length M.rows.length)∧gf 8=some (.sl Or 0 M.rows.length M.rows.length)∧gf 13=some (.lit (.int .i64 r))∧gf 14=some (.sl n2 0 M.rows.length M.rows.length)∧gf 15=some (.lit (.int .i64 k))) (m0:=M.rows.length) ?_ ?_
    ·refine ⟨0,_,Nat.zero_le _,rfl,rfl,fun q hq=>?_,?_,?_,?_,?_,?_,?_,by simp [*],by simp [*],by simp [*],by simp [*],by simp [*],by simp [*],by simp [*],by simp,by simp⟩
     ·simp (disch:=omega) only [gput_lt]
      exact HG2.out q hq
     ·simp (disch:=omega) only [gput_lt]
      exact e0
     ·simp (disch:=omega) only [gput_lt]
      exact e1
     ·simp (disch:=omega) only [gput_lt]
      exact eA
     ·simp (disch:=omega) only [gput_lt]
      exact eB
     ·simp (disch:=omega) only [gput_lt]
      exact eO
     ·rw [intC_zero]
      simp (disch:=omega) only [gput_eq]
      try rfl
    clear e0 e1 eA eB eO w2 w3 w5 w6 w7 w8 w13
    rintro m gf H' ⟨k,g3,hk,rfl,rfl,hg3,e0,e1,eA,eB,eO,eP,w2,w3,w5,w6,w7,w8,w13,w14,w15⟩ ihk
    have HG3:=Hide.mk hg3
    clear hg3
    refine LX.roundP (noO_ok _ _) hG pl13 (by decide +kernel) ?_
    by_cases hlt:k < M.rows.length
    ·have hltI:(k:Int) < (M.rows.length:Int):=by omega
     have HRA:=Hide.mk (rahead_w HMM.out k hlt (rounds M SA noneS 9 r) Or)
     have hul:=intC_len M.rows.length (upS (rounds M SA noneS 9 (r+1)) k)
     have HSET:=Hide.mk (intC_set M.rows.length (rounds M SA noneS 9 (r+1)) k hlt)
     have hclA:=intC_len M.rows.length SA
     have hclB:=intC_len M.rows.length noneS
     have hatA:=intC_at M.rows.length SA k
     have hatB:=intC_at M.rows.length noneS k
     rw [if_pos hlt] at hatA hatB
     have HRM:Hide (RepM g3 (n2+1) M [.lit (.int .i64 M.inp),.lit (.int .i64 M.out),rv]):=⟨HR.out.mono (by omega) HG3.out⟩
     have hkA:k < (intC M.rows.length SA).length:=by omega
     have hkB:k < (intC M.rows.length noneS).length:=by omega
     have hgA:(intC M.rows.length SA)[k]'hkA=.lit (.int .i64 (b01 (SA k))):=by
      rw [List.getElem?_eq_getElem hkA] at hatA
      exact Option.some.inj hatA
     have hgB:(intC M.rows.length noneS)[k]'hkB=.lit (.int .i64 (b01 (noneS k))):=by
      rw [List.getElem?_eq_getElem hkB] at hatB
      exact Option.some.inj hatB
     have HSTEP:=Hide.mk (step9 M SA noneS r k)
     have EA:=Hide.mk eA
     have EO:=Hide.mk eO
     clear hatA hatB
     generalize rounds M SA noneS 9 (r+1) k=sk at HSET HSTEP
     generalize intC M.rows.length (upS (rounds M SA noneS 9 (r+1)) k)=L at *
     have hkL:k < L.length:=by omega
     try simp (maxSteps:=999999) (disch:=first | assumption | omega | (simp; done) | fail) [Tryd.results13, *]
     refine WC.mono (HRA.out _ _ _ HRM.out EO.out (by omega)) ?_
     rintro _ ⟨so,ma,rfl,hsm1,hsm2,hpre,hpost,hends⟩
     have HP:=Hide.mk (And.intro hpre (And.intro hpost hends))
     clear hpre hpost hends
     cases hA:SA k <;> by_cases hz:ma=0 <;> by_cases hp:0 < so
     all_goals
      rw [hA] at hgA
      simp only [b01] at hgA
      first | have hzI:(ma:Int)=0:=by omega | have hzI:¬(ma:Int)=0:=by omega
      first | have hpI:(0:Int) < (so:Int):=by omega | have hpI:¬(0:Int) < (so:Int):=by omega
      try simp (maxSteps:=999999) (disch:=first | assumption | omega | (simp; done) | fail) [Tryd.results13, *]
      refine WC.mono (one_w _ _) ?_
      rintro _ rfl
      simp only [b01]
      try simp (maxSteps:=999999) (disch:=first | assumption | omega | (simp; done) | fail) [Tryd.results13, *]
      refine ihk.out (M.rows.length - (k+1)) _ _ (by omega) ⟨k+1,_,by omega,rfl,rfl,fun q hq=>?_,?_,?_,?_,?_,?_,?_,by simp [*],by simp [*],by simp [*],by simp [*],by simp [*],by simp [*],by simp [*],by simp [*],by simp⟩
      ·simp (disch:=omega) only [gput_ne]
       exact HG3.out q hq
      ·simp (disch:=omega) only [gput_ne]
       exact e0
      ·simp (disch:=omega) only [gput_ne]
       exact e1
      ·simp (disch:=omega) only [gput_ne]
       exact EA.out
      ·simp (disch:=omega) only [gput_ne]
       exact eB
      ·simp (disch:=omega) only [gput_ne]
       exact EO.out
      ·simp (disch:=omega) only [gput_eq]
       rw [← HSET.out,HSTEP.out]
       try rw [← HP.out.1]
       try rw [← HP.out.2.1]
       try rw [← HP.out.2.2]
       first | (simp [*,b01]; done) | (simp [*,b01]; omega)
    ·have hltI:¬(k:Int) < (M.rows.length:Int):=by omega
     have hk2:k=M.rows.length:=by omega
     have HK2:=Hide.mk hk2
     clear hk2
     try simp (maxSteps:=999999) (disch:=first | assumption | omega | (simp; done) | fail) [Tryd.results13, *]
     refine ih.out (M.rows.length+1 - (r+1)) _ _ (by omega) ⟨r+1,n2+1,n2,g3,by omega,rfl,rfl,by omega,by omega,HG3.out,e0,e1,eA,eB,?_,by simp [*],by simp [*],by simp [*],by simp [*],by simp [*],by simp [*],by simp⟩
     rw [← intC_end]
     have h:=eP
     rw [HK2.out] at h
     exact h
   ·have hrtI:¬(r:Int)≤(M.rows.length:Int):=by omega
    have hr3:r=M.rows.length+1:=by omega
    have HR3:=Hide.mk hr3
    clear hr3
    try simp (maxSteps:=999999) (disch:=first | assumption | omega | (simp; done) | fail) [Tryd.results13, *]
    refine ⟨Or,rounds M SA noneS 9 (M.rows.length+1),g2,n2,rfl,by omega,fun q hq=>HG2.out q hq,by omega,hOn,?_,SA,noneS,HSL.out,rounds_sem M SA noneS HMM.out 9 a b (by omega)⟩
    have h:=eO
    rw [HR3.out] at h
    exact h
end Go.Ai
end
section
namespace Go.Ai
open Go.Proofs
set_option maxRecDepth 10000
set_option maxHeartbeats 40000000
theorem rsem10_w {M:MachM} (hM:M.ok) {m:Nat} (IH0:RSatW M m) (a b:Int) (subs:List NodeM) (hx:sizeN (.mk 10 a b subs)≤m+1) (hv:validM M.rows.length M.inp M.out (.mk 10 a b subs)=true) (g:Nat→Option Blk) (n:Nat) (ms xs:List AV) (hr:RepM g n M ms) (hx0:repN g n (.mk 10 a b subs) xs) :
  WC 6 Tryd.prog 13 [.agg ms,.agg xs] ⟨.fn g,n⟩ (RQ M (.mk 10 a b subs) g n):=by
 have IH:=Hide.mk IH0
 have HMM:=Hide.mk hM
 have HR:=Hide.mk hr
 obtain ⟨rv,svs,rfl,hrows,hrv⟩:=hr
 have h1r:=hrv.one
 have h1a:allOne [.lit (.int .i64 M.inp),.lit (.int .i64 M.out),rv]=true:=by simp [h1r]
 have hlen:=@lenV Tryd.prog _ _ _ _ _ hrv
 have hsl:=hrows.len
 have HROW:=Hide.mk hrows
 have HRV:=Hide.mk hrv
 have HOK:=Hide.mk (ok_row hM)
 have h64:M.rows.length≤64:=hM.2.2.2.2.2.1
 have hz64:(M.rows.length:Int)≤1048576:=by omega
 have hrep:=hx0
 obtain ⟨hop,sv,rfl,hsv⟩:=hx0
 have h1s:oneC sv=true:=by
  obtain ⟨_,_,_,e1,e2,_⟩:=repN_one hrep
  cases e1; exact e2
 have h1x:allOne [.lit (.int .u8 ((10:Nat) : Int)),.lit (.int .i64 a),.lit (.int .i64 b),sv]=true:=by simp [h1s]
 have h1y:allOne [.lit (.int .u8 10),.lit (.int .i64 a),.lit (.int .i64 b),sv]=true:=by simp [h1s]
 have h1e:allOne [.lit (.int .i64 (-1)),.lit (.int .i64 0)]=true:=by simp
 unfold validM at hv
 simp only [Bool.and_eq_true,decide_eq_true_eq] at hv
 obtain ⟨v1,v2,v3,v4,v5,v6,v7⟩:=hv
 have v2' : subs.length=2:=v2
 have hsz:sizeL subs≤m:=by unfold sizeN at hx; omega
 have HSV:Hide ((subs=[]∧(sv=.lit (.slice none 0 0)∨sv=.es))∨∃ a off r,a < n∧((∃ c,sv=.sl a off subs.length c)∨(∃ c,sv=.slq a off subs.length c))∧Row g a off r∧repL g n subs r):=⟨hsv⟩
 have hlS:∀ {H:Mem} {e' : Ev} {o:Oper} {c' : Call} {e:TypeId},lenS Tryd.prog H e' o c' (some (.slice e)) (some [sv])=.val (.lit (.int .i64 2)) H:=by
  intro H e' o c' e
  rcases HSV.out with ⟨h1,rfl | rfl⟩ | ⟨a2,off,r,_,⟨c2,rfl⟩ | ⟨c2,rfl⟩,_⟩
  ·rw [h1] at v2'; first | rfl | cases v2'
  ·rw [h1] at v2'; first | rfl | cases v2'
  ·rw [v2']; rfl
  ·rw [v2']; rfl
 clear hrows hrv IH0 v1 v2 v5 v6 hx hop hM
 obtain ⟨y,z,rfl⟩ : ∃ y z,subs=[y,z]:=by
  match subs,v2' with
  | [y,z],_=>exact ⟨y,z,rfl⟩
 rcases hsv with ⟨h1,_⟩ | ⟨a2,off,r,ha2,hev,hrow,hrl⟩
 ·cases h1
 have hll:=repL_len hrl
 have hy0:=repL_at hrl 0 (by simp)
 have hc0:=hrow.agg (k:=0 * 4) (s:=4) (by rw [hll]; simp)
 have hy0' : repN g n y ((r.drop (0 * 4)).take 4):=hy0
 obtain ⟨k2,k3,sv2,hcy,h1c,hop2⟩:=repN_one hy0'
 rw [hcy] at hc0 hy0'
 have h1q:allOne [.lit (.int .u8 y.op),.lit (.int .i64 k2),.lit (.int .i64 k3),sv2]=true:=by simp [h1c]
 have hc0' : loadB (some (true,4)) (g a2) off=some (.agg [.lit (.int .u8 y.op),.lit (.int .i64 k2),.lit (.int .i64 k3),sv2]):=by simpa using hc0
 have hyv:=validL_mem v7 y (by simp)
 have hyz:sizeN y≤m:=Nat.le_trans (size_mem (by simp)) hsz
 have HY:=Hide.mk hy0'
 have HYV:=Hide.mk hyv
 have hz0:=repL_at hrl 1 (by simp)
 have hc1:=hrow.agg (k:=1 * 4) (s:=4) (by rw [hll]; simp)
 have hz0' : repN g n z ((r.drop (1 * 4)).take 4):=hz0
 obtain ⟨k4,k5,sv3,hcz,h1d,hop3⟩:=repN_one hz0'
 rw [hcz] at hc1 hz0'
 have h1w:allOne [.lit (.int .u8 z.op),.lit (.int .i64 k4),.lit (.int .i64 k5),sv3]=true:=by simp [h1d]
 have hc1' : loadB (some (true,4)) (g a2) (off+4)=some (.agg [.lit (.int .u8 z.op),.lit (.int .i64 k4),.lit (.int .i64 k5),sv3]):=by simpa using hc1
 have hzv:=validL_mem v7 z (by simp)
 have hzz:sizeN z≤m:=Nat.le_trans (size_mem (by simp)) hsz
 have HZ:=Hide.mk hz0'
 have HZV:=Hide.mk hzv
 clear hz0 hc1 hcz hz0' hzv
 clear hy0 hc0 hcy hy0' hyv hrow hrl hll hrep v7 v2' hsz HSV
 rcases hev with ⟨c2,rfl⟩ | ⟨c2,rfl⟩
 all_goals
  refine WC.enterP (noO_ok _ _) hG pl13 Tryd.func13 rfl (by decide +kernel) (Nat.le_of_ble_eq_true (by kernel_rfl)) ?_
  try simp (maxSteps:=999999) (disch:=first | assumption | omega | (simp; done) | fail) [Tryd.results13, *]
  refine WC.mono (IH.out y hyz HYV.out _ _ _ _ (HR.out.mono (by omega) fun q hq=>by simp (disch:=omega) only [gput_lt]) (repN_mono (by omega) (fun q hq=>by simp (disch:=omega) only [gput_lt]) HY.out)) ?_
  rintro _ ⟨Aa,SA,g1,n1,rfl,hn1,hg1,hA1,hA2,hA3,hsemA⟩
  have HG:Hide (∀ q,q < n→g1 q=g q):=⟨fun q hq=>by rw [hg1 q (by omega)]; simp (disch:=omega) only [gput_lt]⟩
  have f0:g1 n=some (.cells [.lit (.int .i64 M.inp),.lit (.int .i64 M.out),rv] true 0):=by rw [hg1 n (by omega)]; simp (disch:=omega) only [gput_lt,gput_eq]
  have f1:=(hg1 (n+1) (by omega)).trans ((gput_lt (by omega)).trans ((gput_lt (by omega)).trans gput_eq))
  have f3:g1 (n+1+1+1)=some (.cells (intC M.rows.length noneS) true 0):=by rw [hg1 (n+1+1+1) (by omega),intC_none]; simp (disch:=omega) only [gput_eq]; try rfl
  have HSA:=Hide.mk hsemA
  clear hg1 hsemA
  have hc1'' : loadB (some (true,4)) (g1 a2) (off+4)=some (.agg [.lit (.int .u8 z.op),.lit (.int .i64 k4),.lit (.int .i64 k5),sv3]):=by rw [HG.out a2 ha2]; exact hc1'
  try simp (maxSteps:=999999) (disch:=first | assumption | omega | (simp; done) | fail) [Tryd.results13, *]
  refine WC.mono (IH.out z hzz HZV.out _ _ _ _ (HR.out.mono (by omega) HG.out) (repN_mono (by omega) HG.out HZ.out)) ?_
  rintro _ ⟨Ab,SB,g2,n2,rfl,hn2,hg2,hB1,hB2,hB3,hsemB⟩
  have HG' : Hide (∀ q,q < n→g2 q=g q):=⟨fun q hq=>by rw [hg2 q (by omega)]; exact HG.out q hq⟩
  have f0':=(hg2 n (by omega)).trans f0
  have f1':=(hg2 (n+1) (by omega)).trans f1
  have hA3':=(hg2 Aa (by omega)).trans hA3
  have HSL:Hide (semL M [y,z] SA SB):=⟨⟨HSA.out,hsemB⟩⟩
  obtain ⟨xv,f1x⟩ : ∃ xv,g2 (n+1)=some (.cells [.lit (.int .u8 ((10:Nat) : Int)),.lit (.int .i64 a),.lit (.int .i64 b),xv] true 0):=⟨_,f1'⟩
  clear hg2 hsemB f0 f1 hA3 HSA HG f3
  try simp (maxSteps:=999999) (disch:=first | assumption | omega | (simp; done) | fail) [Tryd.results13, *]
  refine LX.ind (fun m gf H'=>∃ (k n' : Nat) (g' : Nat→Option Blk),k≤M.rows.length∧m=M.rows.length - k∧H'=⟨.fn g',n'⟩∧n2+1≤n'∧(∀ q,q < n→g' q=g q)∧g' n=some (.cells [.lit (.int .i64 M.inp),.lit (.int .i64 M.out),rv] true 0)∧g' (n+1)=some (.cells [.lit (.int .u8 10),.lit (.int .i64 a),.lit (.int .i64 b),xv] true 0)∧g' Aa=some (.cells (intC M.rows.length SA) true 0)∧g' Ab=some (.cells (intC M.rows.length SB) true 0)∧g' n2=some (.cells (intC M.rows.length (upS noneS k)) true 0)∧gf 2=some (.ptr n 0)∧gf 3=some (.ptr (n+1) 0)∧gf 5=some (.lit (.int .i64 M.rows.length))∧gf 6=some (.sl Aa 0 M.rows.length M.rows.length)∧gf 7=some (.sl Ab 0 M.rows.length M.rows.length)∧gf 8=some (.sl n2 0 M.rows.length M.rows.length)∧gf 9=some (.lit (.int .i64 k))) (m0:=M.rows.length) ?_ ?_
  ·refine ⟨0,_,_,Nat.zero_le _,rfl,rfl,Nat.le_refl _,fun q hq=>?_,?_,?_,?_,?_,?_,by simp [*],by simp [*],by simp [*],by simp [*],by simp [*],by simp [*],by simp⟩
   ·simp (disch:=omega) only [gput_lt]
    exact HG'.out q hq
   ·simp (disch:=omega) only [gput_lt]
    exact f0'
   ·simp (disch:=omega) only [gput_lt]
    exact f1x
   ·simp (disch:=omega) only [gput_lt]
    exact hA3'
   ·simp (disch:=omega) only [gput_lt]
    exact hB3
   ·rw [intC_zero]
    simp (disch:=omega) only [gput_eq]
    try rfl
  clear f0' f1x hA3' hB3 HG' f1'
  rintro m gf H' ⟨k,nq,gq,hk,rfl,rfl,hnq,hgq,e0,e1,eA,eB,eO,w2,w3,w5,w6,w7,w8,w9⟩ ih
  have HGq:=Hide.mk hgq
  clear hgq
  refine LX.roundP (noO_ok _ _) hG pl13 (by decide +kernel) ?_
  by_cases hlt:k < M.rows.length
  ·have hltI:(k:Int) < (M.rows.length:Int):=by omega
   have hRA:=rahead_w HMM.out k hlt SA Aa
   have HRA:=Hide.mk hRA
   clear hRA
   have HSAME:Hide (intC M.rows.length (upS noneS k)=intC M.rows.length (upS noneS (k+1))):=⟨by rw [up_none,up_none]⟩
   have hul:=intC_len M.rows.length (upS noneS k)
   have hset:=intC_set M.rows.length noneS k hlt
   have HSET:=Hide.mk hset
   clear hset
   have hclA:=intC_len M.rows.length SA
   have hclB:=intC_len M.rows.length SB
   have hatA:=intC_at M.rows.length SA k
   have hatB:=intC_at M.rows.length SB k
   rw [if_pos hlt] at hatA hatB
   have HRM:Hide (∀ (g' : Nat→Option Blk) (n' : Nat),n≤n'→(∀ q,q < n→g' q=gq q)→RepM g' n' M [.lit (.int .i64 M.inp),.lit (.int .i64 M.out),rv]):=⟨fun g' n' h1 h2=>HR.out.mono h1 fun q hq=>by rw [h2 q hq]; exact HGq.out q hq⟩
   have hkA:k < (intC M.rows.length SA).length:=by omega
   have hkB:k < (intC M.rows.length SB).length:=by omega
   have hgA:(intC M.rows.length SA)[k]'hkA=.lit (.int .i64 (b01 (SA k))):=by
    rw [List.getElem?_eq_getElem hkA] at hatA
    exact Option.some.inj hatA
   have hgB:(intC M.rows.length SB)[k]'hkB=.lit (.int .i64 (b01 (SB k))):=by
    rw [List.getElem?_eq_getElem hkB] at hatB
    exact Option.some.inj hatB
   have eA' : Hide (gq Aa=some (.cells (intC M.rows.length SA) true 0)):=⟨eA⟩
   clear hatA hatB
   generalize intC M.rows.length (upS noneS k)=L at *
   have hkL:k < L.length:=by omega
   try simp (maxSteps:=999999) (disch:=first | assumption | omega | (simp; done) | fail) [Tryd.results13, *]
   refine WC.mono (HRA.out _ _ _ (HRM.out _ _ (by omega) fun q hq=>by simp (disch:=omega) only [gput_lt]) (by simp (disch:=omega) only [gput_lt]; exact eA'.out) (by omega)) ?_
   rintro _ ⟨so,ma,rfl,hsm1,hsm2,hpre,hpost,hends⟩
   clear hpre hpost hends
   try simp (maxSteps:=999999) (disch:=first | assumption | omega | (simp; done) | fail) [Tryd.results13, *]
   refine ih.out (M.rows.length - (k+1)) _ _ (by omega) ⟨k+1,nq+1,_,by omega,rfl,rfl,by omega,fun q hq=>?_,?_,?_,?_,?_,?_,by simp [*],by simp [*],by simp [*],by simp [*],by simp [*],by simp [*],by simp⟩
   ·simp (disch:=omega) only [gput_lt,gput_ne]
    exact HGq.out q hq
   ·simp (disch:=omega) only [gput_lt,gput_ne]
    exact e0
   ·simp (disch:=omega) only [gput_lt,gput_ne]
    exact e1
   ·simp (disch:=omega) only [gput_lt,gput_ne]
    exact eA'.out
   ·simp (disch:=omega) only [gput_lt,gput_ne]
    exact eB
   ·simp (disch:=omega) only [gput_lt,gput_ne,gput_eq]
    rw [← HSAME.out]
    exact eO
  ·have hltI:¬(k:Int) < (M.rows.length:Int):=by omega
   have hk2:k=M.rows.length:=by omega
   have HK2:=Hide.mk hk2
   clear hk2
   try simp (maxSteps:=999999) (disch:=first | assumption | omega | (simp; done) | fail) [Tryd.results13, *]
   have HOX:Hide (intC M.rows.length (upS noneS k)=intC M.rows.length (rounds M SA SB 10 0)):=⟨by rw [HK2.out,intC_end]; first | rfl | (rw [rounds_all _ _ _ _ (by omega)])⟩
   refine LX.ind (fun m gf H'=>∃ (r n' Or:Nat) (g' : Nat→Option Blk),r≤M.rows.length+1∧m=M.rows.length+1 - r∧H'=⟨.fn g',n'⟩∧n2≤Or∧Or < n'∧(∀ q,q < n→g' q=g q)∧g' n=some (.cells [.lit (.int .i64 M.inp),.lit (.int .i64 M.out),rv] true 0)∧g' (n+1)=some (.cells [.lit (.int .u8 10),.lit (.int .i64 a),.lit (.int .i64 b),xv] true 0)∧g' Aa=some (.cells (intC M.rows.length SA) true 0)∧g' Ab=some (.cells (intC M.rows.length SB) true 0)∧g' Or=some (.cells (intC M.rows.length (rounds M SA SB 10 r)) true 0)∧gf 2=some (.ptr n 0)∧gf 3=some (.ptr (n+1) 0)∧gf 5=some (.lit (.int .i64 M.rows.length))∧gf 6=some (.sl Aa 0 M.rows.length M.rows.length)∧gf 7=some (.sl Ab 0 M.rows.length M.rows.length)∧gf 8=some (.sl Or 0 M.rows.length M.rows.length)∧gf 13=some (.lit (.int .i64 r))) (m0:=M.rows.length+1) ?_ ?_
   ·exact ⟨0,nq,n2,gq,by omega,rfl,rfl,by omega,by omega,HGq.out,e0,e1,eA,eB,by rw [← HOX.out]; exact eO,by simp [*],by simp [*],by simp [*],by simp [*],by simp [*],by simp [*],by simp⟩
   clear ih eO HOX HK2 w2 w3 w5 w6 w7 w8 w9 e0 e1 eA eB HGq hnq hltI
   rintro m gf H' ⟨r,n2,Or,g2,hr2,rfl,rfl,hOr,hOn,hg2,e0,e1,eA,eB,eO,w2,w3,w5,w6,w7,w8,w13⟩ ih
   have HG2:=Hide.mk hg2
   clear hg2
   refine LX.roundP (noO_ok _ _) hG pl13 (by decide +kernel) ?_
   by_cases hrt:r≤M.rows.length
   ·have hrtI:(r:Int)≤(M.rows.length:Int):=by omega
    have hr65:r≤64:=by omega
    try simp (maxSteps:=999999) (disch:=first | assumption | omega | (simp; done) | fail) [Tryd.results13, *]
    refine LX.ind (fun m gf H'=>∃ (k:Nat) (g' : Nat→Option Blk),k≤M.rows.length∧m=M.rows.length - k∧H'=⟨.fn g',n2+1⟩∧(∀ q,q < n→g' q=g q)∧g' n=some (.cells [.lit (.int .i64 M.inp),.lit (.int .i64 M.out),rv] true 0)∧g' (n+1)=some (.cells [.lit (.int .u8 10),.lit (.int .i64 a),.lit (.int .i64 b),xv] true 0)∧g' Aa=some (.cells (intC M.rows.length SA) true 0)∧g' Ab=some (.cells (intC M.rows.length SB) true 0)∧g' Or=some (.cells (intC M.rows.length (rounds M SA SB 10 r)) true 0)∧g' n2=some (.cells (intC M.rows.length (upS (rounds M SA SB 10 (r+1)) k)) true 0)∧gf 2=some (.ptr n 0)∧gf 3=some (.ptr (n+1) 0)∧gf 5=some (.lit (.int .i64 M.rows.length))∧gf 6=some (.sl Aa 0 M.rows.length M.rows.length)∧gf 7=some (.sl Ab 0 M.rows.length M.rows.length)∧gf 8=some (.sl Or 0 M.rows.length M.rows.length)∧gf 13=some (.lit (.int .i64 r))∧gf 14=some (.sl n2 0 M.rows.length M.rows.length)∧gf 15=some (.lit (.int .i64 k))) (m0:=M.rows.length) ?_ ?_
    ·refine ⟨0,_,Nat.zero_le _,rfl,rfl,fun q hq=>?_,?_,?_,?_,?_,?_,?_,by simp [*],by simp [*],by simp [*],by simp [*],by simp [*],by simp [*],by simp [*],by simp,by simp⟩
     ·simp (disch:=omega) only [gput_lt]
      exact HG2.out q hq
     ·simp (disch:=omega) only [gput_lt]
      exact e0
     ·simp (disch:=omega) only [gput_lt]
      exact e1
     ·simp (disch:=omega) only [gput_lt]
      exact eA
     ·simp (disch:=omega) only [gput_lt]
      exact eB
     ·simp (disch:=omega) only [gput_lt]
      exact eO
     ·rw [intC_zero]
      simp (disch:=omega) only [gput_eq]
      try rfl
    clear e0 e1 eA eB eO w2 w3 w5 w6 w7 w8 w13
    rintro m gf H' ⟨k,g3,hk,rfl,rfl,hg3,e0,e1,eA,eB,eO,eP,w2,w3,w5,w6,w7,w8,w13,w14,w15⟩ ihk
    have HG3:=Hide.mk hg3
    clear hg3
    refine LX.roundP (noO_ok _ _) hG pl13 (by decide +kernel) ?_
    by_cases hlt:k < M.rows.length
    ·have hltI:(k:Int) < (M.rows.length:Int):=by omega
     have HRA:=Hide.mk (rahead_w HMM.out k hlt (rounds M SA SB 10 r) Or)
     have hul:=intC_len M.rows.length (upS (rounds M SA SB 10 (r+1)) k)
     have HSET:=Hide.mk (intC_set M.rows.length (rounds M SA SB 10 (r+1)) k hlt)
     have hclA:=intC_len M.rows.length SA
     have hclB:=intC_len M.rows.length SB
     have hatA:=intC_at M.rows.length SA k
     have hatB:=intC_at M.rows.length SB k
     rw [if_pos hlt] at hatA hatB
     have HRM:Hide (RepM g3 (n2+1) M [.lit (.int .i64 M.inp),.lit (.int .i64 M.out),rv]):=⟨HR.out.mono (by omega) HG3.out⟩
     have hkA:k < (intC M.rows.length SA).length:=by omega
     have hkB:k < (intC M.rows.length SB).length:=by omega
     have hgA:(intC M.rows.length SA)[k]'hkA=.lit (.int .i64 (b01 (SA k))):=by
      rw [List.getElem?_eq_getElem hkA] at hatA
      exact Option.some.inj hatA
     have hgB:(intC M.rows.length SB)[k]'hkB=.lit (.int .i64 (b01 (SB k))):=by
      rw [List.getElem?_eq_getElem hkB] at hatB
      exact Option.some.inj hatB
     have HSTEP:=Hide.mk (step10 M SA SB r k)
     have EA:=Hide.mk eA
     have EO:=Hide.mk eO
     clear hatA hatB
     generalize rounds M SA SB 10 (r+1) k=sk at HSET HSTEP
     generalize intC M.rows.length (upS (rounds M SA SB 10 (r+1)) k)=L at *
     have hkL:k < L.length:=by omega
     try simp (maxSteps:=999999) (disch:=first | assumption | omega | (simp; done) | fail) [Tryd.results13, *]
     refine WC.mono (HRA.out _ _ _ HRM.out EO.out (by omega)) ?_
     rintro _ ⟨so,ma,rfl,hsm1,hsm2,hpre,hpost,hends⟩
     have HP:=Hide.mk (And.intro hpre (And.intro hpost hends))
     clear hpre hpost hends
     cases hB:SB k <;> cases hA:SA k <;> by_cases hp:0 < so
     all_goals
      rw [hB] at hgB
      simp only [b01] at hgB
      rw [hA] at hgA
      simp only [b01] at hgA
      first | have hpI:(0:Int) < (so:Int):=by omega | have hpI:¬(0:Int) < (so:Int):=by omega
      try simp (maxSteps:=999999) (disch:=first | assumption | omega | (simp; done) | fail) [Tryd.results13, *]
      refine WC.mono (one_w _ _) ?_
      rintro _ rfl
      simp only [b01]
      try simp (maxSteps:=999999) (disch:=first | assumption | omega | (simp; done) | fail) [Tryd.results13, *]
      refine ihk.out (M.rows.length - (k+1)) _ _ (by omega) ⟨k+1,_,by omega,rfl,rfl,fun q hq=>?_,?_,?_,?_,?_,?_,?_,by simp [*],by simp [*],by simp [*],by simp [*],by simp [*],by simp [*],by simp [*],by simp [*],by simp⟩
      ·simp (disch:=omega) only [gput_ne]
       exact HG3.out q hq
      ·simp (disch:=omega) only [gput_ne]
       exact e0
      ·simp (disch:=omega) only [gput_ne]
       exact e1
      ·simp (disch:=omega) only [gput_ne]
       exact EA.out
      ·simp (disch:=omega) only [gput_ne]
       exact eB
      ·simp (disch:=omega) only [gput_ne]
       exact EO.out
      ·simp (disch:=omega) only [gput_eq]
       rw [← HSET.out,HSTEP.out]
       try rw [← HP.out.1]
       try rw [← HP.out.2.1]
       try rw [← HP.out.2.2]
       first | (simp [*,b01]; done) | (simp [*,b01]; omega)
    ·have hltI:¬(k:Int) < (M.rows.length:Int):=by omega
     have hk2:k=M.rows.length:=by omega
     have HK2:=Hide.mk hk2
     clear hk2
     try simp (maxSteps:=999999) (disch:=first | assumption | omega | (simp; done) | fail) [Tryd.results13, *]
     refine ih.out (M.rows.length+1 - (r+1)) _ _ (by omega) ⟨r+1,n2+1,n2,g3,by omega,rfl,rfl,by omega,by omega,HG3.out,e0,e1,eA,eB,?_,by simp [*],by simp [*],by simp [*],by simp [*],by simp [*],by simp [*],by simp⟩
     rw [← intC_end]
     have h:=eP
     rw [HK2.out] at h
     exact h
   ·have hrtI:¬(r:Int)≤(M.rows.length:Int):=by omega
    have hr3:r=M.rows.length+1:=by omega
    have HR3:=Hide.mk hr3
    clear hr3
    try simp (maxSteps:=999999) (disch:=first | assumption | omega | (simp; done) | fail) [Tryd.results13, *]
    refine ⟨Or,rounds M SA SB 10 (M.rows.length+1),g2,n2,rfl,by omega,fun q hq=>HG2.out q hq,by omega,hOn,?_,SA,SB,HSL.out,rounds_sem M SA SB HMM.out 10 a b (by omega)⟩
    have h:=eO
    rw [HR3.out] at h
    exact h
end Go.Ai
end
section
namespace Go.Ai
open Go.Proofs
set_option maxRecDepth 10000
set_option maxHeartbeats 40000000
theorem rsem12_w {M:MachM} (hM:M.ok) {m:Nat} (IH0:RSatW M m) (a b:Int) (subs:List NodeM) (hx:sizeN (.mk 12 a b subs)≤m+1) (hv:validM M.rows.length M.inp M.out (.mk 12 a b subs)=true) (g:Nat→Option Blk) (n:Nat) (ms xs:List AV) (hr:RepM g n M ms) (hx0:repN g n (.mk 12 a b subs) xs) :
  WC 6 Tryd.prog 13 [.agg ms,.agg xs] ⟨.fn g,n⟩ (RQ M (.mk 12 a b subs) g n):=by
 have IH:=Hide.mk IH0
 have HMM:=Hide.mk hM
 have HR:=Hide.mk hr
 obtain ⟨rv,svs,rfl,hrows,hrv⟩:=hr
 have h1r:=hrv.one
 have h1a:allOne [.lit (.int .i64 M.inp),.lit (.int .i64 M.out),rv]=true:=by simp [h1r]
 have hlen:=@lenV Tryd.prog _ _ _ _ _ hrv
 have hsl:=hrows.len
 have HROW:=Hide.mk hrows
 have HRV:=Hide.mk hrv
 have HOK:=Hide.mk (ok_row hM)
 have h64:M.rows.length≤64:=hM.2.2.2.2.2.1
 have hz64:(M.rows.length:Int)≤1048576:=by omega
 have hrep:=hx0
 obtain ⟨hop,sv,rfl,hsv⟩:=hx0
 have h1s:oneC sv=true:=by
  obtain ⟨_,_,_,e1,e2,_⟩:=repN_one hrep
  cases e1; exact e2
 have h1x:allOne [.lit (.int .u8 ((12:Nat) : Int)),.lit (.int .i64 a),.lit (.int .i64 b),sv]=true:=by simp [h1s]
 have h1y:allOne [.lit (.int .u8 12),.lit (.int .i64 a),.lit (.int .i64 b),sv]=true:=by simp [h1s]
 have h1e:allOne [.lit (.int .i64 (-1)),.lit (.int .i64 0)]=true:=by simp
 unfold validM at hv
 simp only [Bool.and_eq_true,decide_eq_true_eq] at hv
 obtain ⟨v1,v2,v3,v4,v5,v6,v7⟩:=hv
 have v2' : subs.length=1:=v2
 have hsz:sizeL subs≤m:=by unfold sizeN at hx; omega
 have HSV:Hide ((subs=[]∧(sv=.lit (.slice none 0 0)∨sv=.es))∨∃ a off r,a < n∧((∃ c,sv=.sl a off subs.length c)∨(∃ c,sv=.slq a off subs.length c))∧Row g a off r∧repL g n subs r):=⟨hsv⟩
 have hlS:∀ {H:Mem} {e' : Ev} {o:Oper} {c' : Call} {e:TypeId},lenS Tryd.prog H e' o c' (some (.slice e)) (some [sv])=.val (.lit (.int .i64 1)) H:=by
  intro H e' o c' e
  rcases HSV.out with ⟨h1,rfl | rfl⟩ | ⟨a2,off,r,_,⟨c2,rfl⟩ | ⟨c2,rfl⟩,_⟩
  ·rw [h1] at v2'; first | rfl | cases v2'
  ·rw [h1] at v2'; first | rfl | cases v2'
  ·rw [v2']; rfl
  ·rw [v2']; rfl
 clear hrows hrv IH0 v1 v2 v5 v6 hx hop hM
 obtain ⟨y,rfl⟩ : ∃ y,subs=[y]:=by
  match subs,v2' with
  | [y],_=>exact ⟨y,rfl⟩
 rcases hsv with ⟨h1,_⟩ | ⟨a2,off,r,ha2,hev,hrow,hrl⟩
 ·cases h1
 have hll:=repL_len hrl
 have hy0:=repL_at hrl 0 (by simp)
 have hc0:=hrow.agg (k:=0 * 4) (s:=4) (by rw [hll]; simp)
 have hy0' : repN g n y ((r.drop (0 * 4)).take 4):=hy0
 obtain ⟨k2,k3,sv2,hcy,h1c,hop2⟩:=repN_one hy0'
 rw [hcy] at hc0 hy0'
 have h1q:allOne [.lit (.int .u8 y.op),.lit (.int .i64 k2),.lit (.int .i64 k3),sv2]=true:=by simp [h1c]
 have hc0' : loadB (some (true,4)) (g a2) off=some (.agg [.lit (.int .u8 y.op),.lit (.int .i64 k2),.lit (.int .i64 k3),sv2]):=by simpa using hc0
 have hyv:=validL_mem v7 y (by simp)
 have hyz:sizeN y≤m:=Nat.le_trans (size_mem (by simp)) hsz
 have HY:=Hide.mk hy0'
 have HYV:=Hide.mk hyv
 clear hy0 hc0 hcy hy0' hyv hrow hrl hll hrep v7 v2' hsz HSV
 rcases hev with ⟨c2,rfl⟩ | ⟨c2,rfl⟩
 all_goals
  refine WC.enterP (noO_ok _ _) hG pl13 Tryd.func13 rfl (by decide +kernel) (Nat.le_of_ble_eq_true (by kernel_rfl)) ?_
  try simp (maxSteps:=999999) (disch:=first | assumption | omega | (simp; done) | fail) [Tryd.results13, *]
  refine WC.mono (IH.out y hyz HYV.out _ _ _ _ (HR.out.mono (by omega) fun q hq=>by simp (disch:=omega) only [gput_lt]) (repN_mono (by omega) (fun q hq=>by simp (disch:=omega) only [gput_lt]) HY.out)) ?_
  rintro _ ⟨Aa,SA,g1,n1,rfl,hn1,hg1,hA1,hA2,hA3,hsemA⟩
  have HG:Hide (∀ q,q < n→g1 q=g q):=⟨fun q hq=>by rw [hg1 q (by omega)]; simp (disch:=omega) only [gput_lt]⟩
  have f0:g1 n=some (.cells [.lit (.int .i64 M.inp),.lit (.int .i64 M.out),rv] true 0):=by rw [hg1 n (by omega)]; simp (disch:=omega) only [gput_lt,gput_eq]
  have f1:=(hg1 (n+1) (by omega)).trans ((gput_lt (by omega)).trans ((gput_lt (by omega)).trans gput_eq))
  have f3:g1 (n+1+1+1)=some (.cells (intC M.rows.length noneS) true 0):=by rw [hg1 (n+1+1+1) (by omega),intC_none]; simp (disch:=omega) only [gput_eq]; try rfl
  have HSA:=Hide.mk hsemA
  clear hg1 hsemA
  have HSL:Hide (semL M [y] SA noneS):=⟨⟨HSA.out,eqS.refl _ _⟩⟩
  obtain ⟨xv,f1x⟩ : ∃ xv,g1 (n+1)=some (.cells [.lit (.int .u8 ((12:Nat) : Int)),.lit (.int .i64 a),.lit (.int .i64 b),xv] true 0):=⟨_,f1⟩
  clear HSA
  try simp (maxSteps:=999999) (disch:=first | assumption | omega | (simp; done) | fail) [Tryd.results13, *]
  refine LX.ind (fun m gf H'=>∃ (k n' : Nat) (g' : Nat→Option Blk),k≤M.rows.length∧m=M.rows.length - k∧H'=⟨.fn g',n'⟩∧n1+1≤n'∧(∀ q,q < n→g' q=g q)∧g' n=some (.cells [.lit (.int .i64 M.inp),.lit (.int .i64 M.out),rv] true 0)∧g' (n+1)=some (.cells [.lit (.int .u8 12),.lit (.int .i64 a),.lit (.int .i64 b),xv] true 0)∧g' Aa=some (.cells (intC M.rows.length SA) true 0)∧g' (n+1+1+1)=some (.cells (intC M.rows.length noneS) true 0)∧g' n1=some (.cells (intC M.rows.length (upS noneS k)) true 0)∧gf 2=some (.ptr n 0)∧gf 3=some (.ptr (n+1) 0)∧gf 5=some (.lit (.int .i64 M.rows.length))∧gf 6=some (.sl Aa 0 M.rows.length M.rows.length)∧gf 7=some (.sl (n+1+1+1) 0 M.rows.length M.rows.length)∧gf 8=some (.sl n1 0 M.rows.length M.rows.length)∧gf 9=some (.lit (.int .i64 k))) (m0:=M.rows.length) ?_ ?_
  ·refine ⟨0,_,_,Nat.zero_le _,rfl,rfl,Nat.le_refl _,fun q hq=>?_,?_,?_,?_,?_,?_,by simp [*],by simp [*],by simp [*],by simp [*],by simp [*],by simp [*],by simp⟩
   ·simp (disch:=omega) only [gput_lt]
    exact HG.out q hq
   ·simp (disch:=omega) only [gput_lt]
    exact f0
   ·simp (disch:=omega) only [gput_lt]
    exact f1x
   ·simp (disch:=omega) only [gput_lt]
    exact hA3
   ·simp (disch:=omega) only [gput_lt]
    exact f3
   ·rw [intC_zero]
    simp (disch:=omega) only [gput_eq]
    try rfl
  clear f0 f1x hA3 f3 HG f1
  rintro m gf H' ⟨k,nq,gq,hk,rfl,rfl,hnq,hgq,e0,e1,eA,eB,eO,w2,w3,w5,w6,w7,w8,w9⟩ ih
  have HGq:=Hide.mk hgq
  clear hgq
  refine LX.roundP (noO_ok _ _) hG pl13 (by decide +kernel) ?_
  by_cases hlt:k < M.rows.length
  ·have hltI:(k:Int) < (M.rows.length:Int):=by omega
   have hRA:=rahead_w HMM.out k hlt SA Aa
   have HRA:=Hide.mk hRA
   clear hRA
   have HSAME:Hide (intC M.rows.length (upS noneS k)=intC M.rows.length (upS noneS (k+1))):=⟨by rw [up_none,up_none]⟩
   have hul:=intC_len M.rows.length (upS noneS k)
   have hset:=intC_set M.rows.length noneS k hlt
   have HSET:=Hide.mk hset
   clear hset
   have hclA:=intC_len M.rows.length SA
   have hclB:=intC_len M.rows.length noneS
   have hatA:=intC_at M.rows.length SA k
   have hatB:=intC_at M.rows.length noneS k
   rw [if_pos hlt] at hatA hatB
   have HRM:Hide (∀ (g' : Nat→Option Blk) (n' : Nat),n≤n'→(∀ q,q < n→g' q=gq q)→RepM g' n' M [.lit (.int .i64 M.inp),.lit (.int .i64 M.out),rv]):=⟨fun g' n' h1 h2=>HR.out.mono h1 fun q hq=>by rw [h2 q hq]; exact HGq.out q hq⟩
   have hkA:k < (intC M.rows.length SA).length:=by omega
   have hkB:k < (intC M.rows.length noneS).length:=by omega
   have hgA:(intC M.rows.length SA)[k]'hkA=.lit (.int .i64 (b01 (SA k))):=by
    rw [List.getElem?_eq_getElem hkA] at hatA
    exact Option.some.inj hatA
   have hgB:(intC M.rows.length noneS)[k]'hkB=.lit (.int .i64 (b01 (noneS k))):=by
    rw [List.getElem?_eq_getElem hkB] at hatB
    exact Option.some.inj hatB
   have eA' : Hide (gq Aa=some (.cells (intC M.rows.length SA) true 0)):=⟨eA⟩
   clear hatA hatB
   generalize intC M.rows.length (upS noneS k)=L at *
   have hkL:k < L.length:=by omega
   try simp (maxSteps:=999999) (disch:=first | assumption | omega | (simp; done) | fail) [Tryd.results13, *]
   refine WC.mono (HRA.out _ _ _ (HRM.out _ _ (by omega) fun q hq=>by simp (disch:=omega) only [gput_lt]) (by simp (disch:=omega) only [gput_lt]; exact eA'.out) (by omega)) ?_
   rintro _ ⟨so,ma,rfl,hsm1,hsm2,hpre,hpost,hends⟩
   clear hpre hpost hends
   try simp (maxSteps:=999999) (disch:=first | assumption | omega | (simp; done) | fail) [Tryd.results13, *]
   refine ih.out (M.rows.length - (k+1)) _ _ (by omega) ⟨k+1,nq+1,_,by omega,rfl,rfl,by omega,fun q hq=>?_,?_,?_,?_,?_,?_,by simp [*],by simp [*],by simp [*],by simp [*],by simp [*],by simp [*],by simp⟩
   ·simp (disch:=omega) only [gput_lt,gput_ne]
    exact HGq.out q hq
   ·simp (disch:=omega) only [gput_lt,gput_ne]
    exact e0
   ·simp (disch:=omega) only [gput_lt,gput_ne]
    exact e1
   ·simp (disch:=omega) only [gput_lt,gput_ne]
    exact eA'.out
   ·simp (disch:=omega) only [gput_lt,gput_ne]
    exact eB
   ·simp (disch:=omega) only [gput_lt,gput_ne,gput_eq]
    rw [← HSAME.out]
    exact eO
  ·have hltI:¬(k:Int) < (M.rows.length:Int):=by omega
   have hk2:k=M.rows.length:=by omega
   have HK2:=Hide.mk hk2
   clear hk2
   try simp (maxSteps:=999999) (disch:=first | assumption | omega | (simp; done) | fail) [Tryd.results13, *]
   have HOX:Hide (intC M.rows.length (upS noneS k)=intC M.rows.length (rounds M SA noneS 12 0)):=⟨by rw [HK2.out,intC_end]; first | rfl | (rw [rounds_all _ _ _ _ (by omega)])⟩
   refine LX.ind (fun m gf H'=>∃ (r n' Or:Nat) (g' : Nat→Option Blk),r≤M.rows.length+1∧m=M.rows.length+1 - r∧H'=⟨.fn g',n'⟩∧n1≤Or∧Or < n'∧(∀ q,q < n→g' q=g q)∧g' n=some (.cells [.lit (.int .i64 M.inp),.lit (.int .i64 M.out),rv] true 0)∧g' (n+1)=some (.cells [.lit (.int .u8 12),.lit (.int .i64 a),.lit (.int .i64 b),xv] true 0)∧g' Aa=some (.cells (intC M.rows.length SA) true 0)∧g' (n+1+1+1)=some (.cells (intC M.rows.length noneS) true 0)∧g' Or=some (.cells (intC M.rows.length (rounds M SA noneS 12 r)) true 0)∧gf 2=some (.ptr n 0)∧gf 3=some (.ptr (n+1) 0)∧gf 5=some (.lit (.int .i64 M.rows.length))∧gf 6=some (.sl Aa 0 M.rows.length M.rows.length)∧gf 7=some (.sl (n+1+1+1) 0 M.rows.length M.rows.length)∧gf 8=some (.sl Or 0 M.rows.length M.rows.length)∧gf 13=some (.lit (.int .i64 r))) (m0:=M.rows.length+1) ?_ ?_
   ·exact ⟨0,nq,n1,gq,by omega,rfl,rfl,by omega,by omega,HGq.out,e0,e1,eA,eB,by rw [← HOX.out]; exact eO,by simp [*],by simp [*],by simp [*],by simp [*],by simp [*],by simp [*],by simp⟩
   clear ih eO HOX HK2 w2 w3 w5 w6 w7 w8 w9 e0 e1 eA eB HGq hnq hltI
   rintro m gf H' ⟨r,n2,Or,g2,hr2,rfl,rfl,hOr,hOn,hg2,e0,e1,eA,eB,eO,w2,w3,w5,w6,w7,w8,w13⟩ ih
   have HG2:=Hide.mk hg2
   clear hg2
   refine LX.roundP (noO_ok _ _) hG pl13 (by decide +kernel) ?_
   by_cases hrt:r≤M.rows.length
   ·have hrtI:(r:Int)≤(M.rows.length:Int):=by omega
    have hr65:r≤64:=by omega
    try simp (maxSteps:=999999) (disch:=first | assumption | omega | (simp; done) | fail) [Tryd.results13, *]
    refine LX.ind (fun m gf H'=>∃ (k:Nat) (g' : Nat→Option Blk),k≤M.rows.length∧m=M.rows.length - k∧H'=⟨.fn g',n2+1⟩∧(∀ q,q < n→g' q=g q)∧g' n=some (.cells [.lit (.int .i64 M.inp),.lit (.int .i64 M.out),rv] true 0)∧g' (n+1)=some (.cells [.lit (.int .u8 12),.lit (.int .i64 a),.lit (.int .i64 b),xv] true 0)∧g' Aa=some (.cells (intC M.rows.length SA) true 0)∧g' (n+1+1+1)=some (.cells (intC M.rows.length noneS) true 0)∧g' Or=some (.cells (intC M.rows.length (rounds M SA noneS 12 r)) true 0)∧g' n2=some (.cells (intC M.rows.length (upS (rounds M SA noneS 12 (r+1)) k)) true 0)∧gf 2=some (.ptr n 0)∧gf 3=some (.ptr (n+1) 0)∧gf 5=some (.lit (.int .i64 M.rows.length))∧gf 6=some (.sl Aa 0 M.rows.length M.rows.length)∧gf 7=some (.sl (n+1+1+1) 0 M.rows.length M.rows.length)∧gf 8=some (.sl Or 0 M.rows.length M.rows.length)∧gf 13=some (.lit (.int .i64 r))∧gf 14=some (.sl n2 0 M.rows.length M.rows.length)∧gf 15=some (.lit (.int .i64 k))) (m0:=M.rows.length) ?_ ?_
    ·refine ⟨0,_,Nat.zero_le _,rfl,rfl,fun q hq=>?_,?_,?_,?_,?_,?_,?_,by simp [*],by simp [*],by simp [*],by simp [*],by simp [*],by simp [*],by simp [*],by simp,by simp⟩
     ·simp (disch:=omega) only [gput_lt]
      exact HG2.out q hq
     ·simp (disch:=omega) only [gput_lt]
      exact e0
     ·simp (disch:=omega) only [gput_lt]
      exact e1
     ·simp (disch:=omega) only [gput_lt]
      exact eA
     ·simp (disch:=omega) only [gput_lt]
      exact eB
     ·simp (disch:=omega) only [gput_lt]
      exact eO
     ·rw [intC_zero]
      simp (disch:=omega) only [gput_eq]
      try rfl
    clear e0 e1 eA eB eO w2 w3 w5 w6 w7 w8 w13
    rintro m gf H' ⟨k,g3,hk,rfl,rfl,hg3,e0,e1,eA,eB,eO,eP,w2,w3,w5,w6,w7,w8,w13,w14,w15⟩ ihk
    have HG3:=Hide.mk hg3
    clear hg3
    refine LX.roundP (noO_ok _ _) hG pl13 (by decide +kernel) ?_
    by_cases hlt:k < M.rows.length
    ·have hltI:(k:Int) < (M.rows.length:Int):=by omega
     have HRA:=Hide.mk (rahead_w HMM.out k hlt (rounds M SA noneS 12 r) Or)
     have hul:=intC_len M.rows.length (upS (rounds M SA noneS 12 (r+1)) k)
     have HSET:=Hide.mk (intC_set M.rows.length (rounds M SA noneS 12 (r+1)) k hlt)
     have hclA:=intC_len M.rows.length SA
     have hclB:=intC_len M.rows.length noneS
     have hatA:=intC_at M.rows.length SA k
     have hatB:=intC_at M.rows.length noneS k
     rw [if_pos hlt] at hatA hatB
     have HRM:Hide (RepM g3 (n2+1) M [.lit (.int .i64 M.inp),.lit (.int .i64 M.out),rv]):=⟨HR.out.mono (by omega) HG3.out⟩
     have hkA:k < (intC M.rows.length SA).length:=by omega
     have hkB:k < (intC M.rows.length noneS).length:=by omega
     have hgA:(intC M.rows.length SA)[k]'hkA=.lit (.int .i64 (b01 (SA k))):=by
      rw [List.getElem?_eq_getElem hkA] at hatA
      exact Option.some.inj hatA
     have hgB:(intC M.rows.length noneS)[k]'hkB=.lit (.int .i64 (b01 (noneS k))):=by
      rw [List.getElem?_eq_getElem hkB] at hatB
      exact Option.some.inj hatB
     have HSTEP:=Hide.mk (step12 M SA noneS r k)
     have EA:=Hide.mk eA
     have EO:=Hide.mk eO
     clear hatA hatB
     generalize rounds M SA noneS 12 (r+1) k=sk at HSET HSTEP
     generalize intC M.rows.length (upS (rounds M SA noneS 12 (r+1)) k)=L at *
     have hkL:k < L.length:=by omega
     try simp (maxSteps:=999999) (disch:=first | assumption | omega | (simp; done) | fail) [Tryd.results13, *]
     refine WC.mono (HRA.out _ _ _ HRM.out EO.out (by omega)) ?_
     rintro _ ⟨so,ma,rfl,hsm1,hsm2,hpre,hpost,hends⟩
     have HP:=Hide.mk (And.intro hpre (And.intro hpost hends))
     clear hpre hpost hends
     cases hA:SA k <;> by_cases hm:0 < ma <;> by_cases hq:so=ma
     all_goals
      rw [hA] at hgA
      simp only [b01] at hgA
      first | have hmz:¬ma=0:=by omega | have hmz:ma=0:=by omega
      first | have hmI:(0:Int) < (ma:Int):=by omega | have hmI:¬(0:Int) < (ma:Int):=by omega
      first | have hqI:(so:Int)=(ma:Int):=by omega | have hqI:¬(so:Int)=(ma:Int):=by omega
      try simp (maxSteps:=999999) (disch:=first | assumption | omega | (simp; done) | fail) [Tryd.results13, *]
      refine WC.mono (one_w _ _) ?_
      rintro _ rfl
      simp only [b01]
      try simp (maxSteps:=999999) (disch:=first | assumption | omega | (simp; done) | fail) [Tryd.results13, *]
      refine ihk.out (M.rows.length - (k+1)) _ _ (by omega) ⟨k+1,_,by omega,rfl,rfl,fun q hq=>?_,?_,?_,?_,?_,?_,?_,by simp [*],by simp [*],by simp [*],by simp [*],by simp [*],by simp [*],by simp [*],by simp [*],by simp⟩
      ·simp (disch:=omega) only [gput_ne]
       exact HG3.out q hq
      ·simp (disch:=omega) only [gput_ne]
       exact e0
      ·simp (disch:=omega) only [gput_ne]
       exact e1
      ·simp (disch:=omega) only [gput_ne]
       exact EA.out
      ·simp (disch:=omega) only [gput_ne]
       exact eB
      ·simp (disch:=omega) only [gput_ne]
       exact EO.out
      ·simp (disch:=omega) only [gput_eq]
       rw [← HSET.out,HSTEP.out]
       try rw [← HP.out.1]
       try rw [← HP.out.2.1]
       try rw [← HP.out.2.2]
       first | (simp [*,b01]; done) | (simp [*,b01]; omega)
    ·have hltI:¬(k:Int) < (M.rows.length:Int):=by omega
     have hk2:k=M.rows.length:=by omega
     have HK2:=Hide.mk hk2
     clear hk2
     try simp (maxSteps:=999999) (disch:=first | assumption | omega | (simp; done) | fail) [Tryd.results13, *]
     refine ih.out (M.rows.length+1 - (r+1)) _ _ (by omega) ⟨r+1,n2+1,n2,g3,by omega,rfl,rfl,by omega,by omega,HG3.out,e0,e1,eA,eB,?_,by simp [*],by simp [*],by simp [*],by simp [*],by simp [*],by simp [*],by simp⟩
     rw [← intC_end]
     have h:=eP
     rw [HK2.out] at h
     exact h
   ·have hrtI:¬(r:Int)≤(M.rows.length:Int):=by omega
    have hr3:r=M.rows.length+1:=by omega
    have HR3:=Hide.mk hr3
    clear hr3
    try simp (maxSteps:=999999) (disch:=first | assumption | omega | (simp; done) | fail) [Tryd.results13, *]
    refine ⟨Or,rounds M SA noneS 12 (M.rows.length+1),g2,n2,rfl,by omega,fun q hq=>HG2.out q hq,by omega,hOn,?_,SA,noneS,HSL.out,rounds_sem M SA noneS HMM.out 12 a b (by omega)⟩
    have h:=eO
    rw [HR3.out] at h
    exact h
end Go.Ai
end
section
namespace Go.Ai
open Go.Proofs
set_option maxRecDepth 10000
set_option maxHeartbeats 40000000
theorem rsem13_w {M:MachM} (hM:M.ok) {m:Nat} (IH0:RSatW M m) (a b:Int) (subs:List NodeM) (hx:sizeN (.mk 13 a b subs)≤m+1) (hv:validM M.rows.length M.inp M.out (.mk 13 a b subs)=true) (g:Nat→Option Blk) (n:Nat) (ms xs:List AV) (hr:RepM g n M ms) (hx0:repN g n (.mk 13 a b subs) xs) :
  WC 6 Tryd.prog 13 [.agg ms,.agg xs] ⟨.fn g,n⟩ (RQ M (.mk 13 a b subs) g n):=by
 have IH:=Hide.mk IH0
 have HMM:=Hide.mk hM
 have HR:=Hide.mk hr
 obtain ⟨rv,svs,rfl,hrows,hrv⟩:=hr
 have h1r:=hrv.one
 have h1a:allOne [.lit (.int .i64 M.inp),.lit (.int .i64 M.out),rv]=true:=by simp [h1r]
 have hlen:=@lenV Tryd.prog _ _ _ _ _ hrv
 have hsl:=hrows.len
 have HROW:=Hide.mk hrows
 have HRV:=Hide.mk hrv
 have HOK:=Hide.mk (ok_row hM)
 have h64:M.rows.length≤64:=hM.2.2.2.2.2.1
 have hz64:(M.rows.length:Int)≤1048576:=by omega
 have hrep:=hx0
 obtain ⟨hop,sv,rfl,hsv⟩:=hx0
 have h1s:oneC sv=true:=by
  obtain ⟨_,_,_,e1,e2,_⟩:=repN_one hrep
  cases e1; exact e2
 have h1x:allOne [.lit (.int .u8 ((13:Nat) : Int)),.lit (.int .i64 a),.lit (.int .i64 b),sv]=true:=by simp [h1s]
 have h1y:allOne [.lit (.int .u8 13),.lit (.int .i64 a),.lit (.int .i64 b),sv]=true:=by simp [h1s]
 have h1e:allOne [.lit (.int .i64 (-1)),.lit (.int .i64 0)]=true:=by simp
 unfold validM at hv
 simp only [Bool.and_eq_true,decide_eq_true_eq] at hv
 obtain ⟨v1,v2,v3,v4,v5,v6,v7⟩:=hv
 have v2' : subs.length=1:=v2
 have hsz:sizeL subs≤m:=by unfold sizeN at hx; omega
 have HSV:Hide ((subs=[]∧(sv=.lit (.slice none 0 0)∨sv=.es))∨∃ a off r,a < n∧((∃ c,sv=.sl a off subs.length c)∨(∃ c,sv=.slq a off subs.length c))∧Row g a off r∧repL g n subs r):=⟨hsv⟩
 have hlS:∀ {H:Mem} {e' : Ev} {o:Oper} {c' : Call} {e:TypeId},lenS Tryd.prog H e' o c' (some (.slice e)) (some [sv])=.val (.lit (.int .i64 1)) H:=by
  intro H e' o c' e
  rcases HSV.out with ⟨h1,rfl | rfl⟩ | ⟨a2,off,r,_,⟨c2,rfl⟩ | ⟨c2,rfl⟩,_⟩
  ·rw [h1] at v2'; first | rfl | cases v2'
  ·rw [h1] at v2'; first | rfl | cases v2'
  ·rw [v2']; rfl
  ·rw [v2']; rfl
 clear hrows hrv IH0 v1 v2 v5 v6 hx hop hM
 obtain ⟨y,rfl⟩ : ∃ y,subs=[y]:=by
  match subs,v2' with
  | [y],_=>exact ⟨y,rfl⟩
 rcases hsv with ⟨h1,_⟩ | ⟨a2,off,r,ha2,hev,hrow,hrl⟩
 ·cases h1
 have hll:=repL_len hrl
 have hy0:=repL_at hrl 0 (by simp)
 have hc0:=hrow.agg (k:=0 * 4) (s:=4) (by rw [hll]; simp)
 have hy0' : repN g n y ((r.drop (0 * 4)).take 4):=hy0
 obtain ⟨k2,k3,sv2,hcy,h1c,hop2⟩:=repN_one hy0'
 rw [hcy] at hc0 hy0'
 have h1q:allOne [.lit (.int .u8 y.op),.lit (.int .i64 k2),.lit (.int .i64 k3),sv2]=true:=by simp [h1c]
 have hc0' : loadB (some (true,4)) (g a2) off=some (.agg [.lit (.int .u8 y.op),.lit (.int .i64 k2),.lit (.int .i64 k3),sv2]):=by simpa using hc0
 have hyv:=validL_mem v7 y (by simp)
 have hyz:sizeN y≤m:=Nat.le_trans (size_mem (by simp)) hsz
 have HY:=Hide.mk hy0'
 have HYV:=Hide.mk hyv
 clear hy0 hc0 hcy hy0' hyv hrow hrl hll hrep v7 v2' hsz HSV
 rcases hev with ⟨c2,rfl⟩ | ⟨c2,rfl⟩
 all_goals
  refine WC.enterP (noO_ok _ _) hG pl13 Tryd.func13 rfl (by decide +kernel) (Nat.le_of_ble_eq_true (by kernel_rfl)) ?_
  try simp (maxSteps:=999999) (disch:=first | assumption | omega | (simp; done) | fail) [Tryd.results13, *]
  refine WC.mono (IH.out y hyz HYV.out _ _ _ _ (HR.out.mono (by omega) fun q hq=>by simp (disch:=omega) only [gput_lt]) (repN_mono (by omega) (fun q hq=>by simp (disch:=omega) only [gput_lt]) HY.out)) ?_
  rintro _ ⟨Aa,SA,g1,n1,rfl,hn1,hg1,hA1,hA2,hA3,hsemA⟩
  have HG:Hide (∀ q,q < n→g1 q=g q):=⟨fun q hq=>by rw [hg1 q (by omega)]; simp (disch:=omega) only [gput_lt]⟩
  have f0:g1 n=some (.cells [.lit (.int .i64 M.inp),.lit (.int .i64 M.out),rv] true 0):=by rw [hg1 n (by omega)]; simp (disch:=omega) only [gput_lt,gput_eq]
  have f1:=(hg1 (n+1) (by omega)).trans ((gput_lt (by omega)).trans ((gput_lt (by omega)).trans gput_eq))
  have f3:g1 (n+1+1+1)=some (.cells (intC M.rows.length noneS) true 0):=by rw [hg1 (n+1+1+1) (by omega),intC_none]; simp (disch:=omega) only [gput_eq]; try rfl
  have HSA:=Hide.mk hsemA
  clear hg1 hsemA
  have HSL:Hide (semL M [y] SA noneS):=⟨⟨HSA.out,eqS.refl _ _⟩⟩
  obtain ⟨xv,f1x⟩ : ∃ xv,g1 (n+1)=some (.cells [.lit (.int .u8 ((13:Nat) : Int)),.lit (.int .i64 a),.lit (.int .i64 b),xv] true 0):=⟨_,f1⟩
  clear HSA
  try simp (maxSteps:=999999) (disch:=first | assumption | omega | (simp; done) | fail) [Tryd.results13, *]
  refine LX.ind (fun m gf H'=>∃ (k n' : Nat) (g' : Nat→Option Blk),k≤M.rows.length∧m=M.rows.length - k∧H'=⟨.fn g',n'⟩∧n1+1≤n'∧(∀ q,q < n→g' q=g q)∧g' n=some (.cells [.lit (.int .i64 M.inp),.lit (.int .i64 M.out),rv] true 0)∧g' (n+1)=some (.cells [.lit (.int .u8 13),.lit (.int .i64 a),.lit (.int .i64 b),xv] true 0)∧g' Aa=some (.cells (intC M.rows.length SA) true 0)∧g' (n+1+1+1)=some (.cells (intC M.rows.length noneS) true 0)∧g' n1=some (.cells (intC M.rows.length (upS allS k)) true 0)∧gf 2=some (.ptr n 0)∧gf 3=some (.ptr (n+1) 0)∧gf 5=some (.lit (.int .i64 M.rows.length))∧gf 6=some (.sl Aa 0 M.rows.length M.rows.length)∧gf 7=some (.sl (n+1+1+1) 0 M.rows.length M.rows.length)∧gf 8=some (.sl n1 0 M.rows.length M.rows.length)∧gf 9=some (.lit (.int .i64 k))) (m0:=M.rows.length) ?_ ?_
  ·refine ⟨0,_,_,Nat.zero_le _,rfl,rfl,Nat.le_refl _,fun q hq=>?_,?_,?_,?_,?_,?_,by simp [*],by simp [*],by simp [*],by simp [*],by simp [*],by simp [*],by simp⟩
   ·simp (disch:=omega) only [gput_lt]
    exact HG.out q hq
   ·simp (disch:=omega) only [gput_lt]
    exact f0
   ·simp (disch:=omega) only [gput_lt]
    exact f1x
   ·simp (disch:=omega) only [gput_lt]
    exact hA3
   ·simp (disch:=omega) only [gput_lt]
    exact f3
   ·rw [intC_zero]
    simp (disch:=omega) only [gput_eq]
    try rfl
  clear f0 f1x hA3 f3 HG f1
  rintro m gf H' ⟨k,nq,gq,hk,rfl,rfl,hnq,hgq,e0,e1,eA,eB,eO,w2,w3,w5,w6,w7,w8,w9⟩ ih
  have HGq:=Hide.mk hgq
  clear hgq
  refine LX.roundP (noO_ok _ _) hG pl13 (by decide +kernel) ?_
  by_cases hlt:k < M.rows.length
  ·have hltI:(k:Int) < (M.rows.length:Int):=by omega
   have hRA:=rahead_w HMM.out k hlt SA Aa
   have HRA:=Hide.mk hRA
   clear hRA
   have hul:=intC_len M.rows.length (upS allS k)
   have hset:=intC_set M.rows.length allS k hlt
   have HSET:=Hide.mk hset
   clear hset
   have hclA:=intC_len M.rows.length SA
   have hclB:=intC_len M.rows.length noneS
   have hatA:=intC_at M.rows.length SA k
   have hatB:=intC_at M.rows.length noneS k
   rw [if_pos hlt] at hatA hatB
   have HRM:Hide (∀ (g' : Nat→Option Blk) (n' : Nat),n≤n'→(∀ q,q < n→g' q=gq q)→RepM g' n' M [.lit (.int .i64 M.inp),.lit (.int .i64 M.out),rv]):=⟨fun g' n' h1 h2=>HR.out.mono h1 fun q hq=>by rw [h2 q hq]; exact HGq.out q hq⟩
   have hkA:k < (intC M.rows.length SA).length:=by omega
   have hkB:k < (intC M.rows.length noneS).length:=by omega
   have hgA:(intC M.rows.length SA)[k]'hkA=.lit (.int .i64 (b01 (SA k))):=by
    rw [List.getElem?_eq_getElem hkA] at hatA
    exact Option.some.inj hatA
   have hgB:(intC M.rows.length noneS)[k]'hkB=.lit (.int .i64 (b01 (noneS k))):=by
    rw [List.getElem?_eq_getElem hkB] at hatB
    exact Option.some.inj hatB
   have eA' : Hide (gq Aa=some (.cells (intC M.rows.length SA) true 0)):=⟨eA⟩
   clear hatA hatB
   generalize intC M.rows.length (upS allS k)=L at *
   have hkL:k < L.length:=by omega
   try simp (maxSteps:=999999) (disch:=first | assumption | omega | (simp; done) | fail) [Tryd.results13, *]
   refine WC.mono (HRA.out _ _ _ (HRM.out _ _ (by omega) fun q hq=>by simp (disch:=omega) only [gput_lt]) (by simp (disch:=omega) only [gput_lt]; exact eA'.out) (by omega)) ?_
   rintro _ ⟨so,ma,rfl,hsm1,hsm2,hpre,hpost,hends⟩
   clear hpre hpost hends
   try simp (maxSteps:=999999) (disch:=first | assumption | omega | (simp; done) | fail) [Tryd.results13, *]
   refine ih.out (M.rows.length - (k+1)) _ _ (by omega) ⟨k+1,nq+1,_,by omega,rfl,rfl,by omega,fun q hq=>?_,?_,?_,?_,?_,?_,by simp [*],by simp [*],by simp [*],by simp [*],by simp [*],by simp [*],by simp⟩
   ·simp (disch:=omega) only [gput_lt,gput_ne]
    exact HGq.out q hq
   ·simp (disch:=omega) only [gput_lt,gput_ne]
    exact e0
   ·simp (disch:=omega) only [gput_lt,gput_ne]
    exact e1
   ·simp (disch:=omega) only [gput_lt,gput_ne]
    exact eA'.out
   ·simp (disch:=omega) only [gput_lt,gput_ne]
    exact eB
   ·simp (disch:=omega) only [gput_lt,gput_ne,gput_eq]
    rw [← HSET.out]
    rfl
  ·have hltI:¬(k:Int) < (M.rows.length:Int):=by omega
   have hk2:k=M.rows.length:=by omega
   have HK2:=Hide.mk hk2
   clear hk2
   try simp (maxSteps:=999999) (disch:=first | assumption | omega | (simp; done) | fail) [Tryd.results13, *]
   have HOX:Hide (intC M.rows.length (upS allS k)=intC M.rows.length (rounds M SA noneS 13 0)):=⟨by rw [HK2.out,intC_end]; first | rfl | (rw [rounds_all _ _ _ _ (by omega)])⟩
   refine LX.ind (fun m gf H'=>∃ (r n' Or:Nat) (g' : Nat→Option Blk),r≤M.rows.length+1∧m=M.rows.length+1 - r∧H'=⟨.fn g',n'⟩∧n1≤Or∧Or < n'∧(∀ q,q < n→g' q=g q)∧g' n=some (.cells [.lit (.int .i64 M.inp),.lit (.int .i64 M.out),rv] true 0)∧g' (n+1)=some (.cells [.lit (.int .u8 13),.lit (.int .i64 a),.lit (.int .i64 b),xv] true 0)∧g' Aa=some (.cells (intC M.rows.length SA) true 0)∧g' (n+1+1+1)=some (.cells (intC M.rows.length noneS) true 0)∧g' Or=some (.cells (intC M.rows.length (rounds M SA noneS 13 r)) true 0)∧gf 2=some (.ptr n 0)∧gf 3=some (.ptr (n+1) 0)∧gf 5=some (.lit (.int .i64 M.rows.length))∧gf 6=some (.sl Aa 0 M.rows.length M.rows.length)∧gf 7=some (.sl (n+1+1+1) 0 M.rows.length M.rows.length)∧gf 8=some (.sl Or 0 M.rows.length M.rows.length)∧gf 13=some (.lit (.int .i64 r))) (m0:=M.rows.length+1) ?_ ?_
   ·exact ⟨0,nq,n1,gq,by omega,rfl,rfl,by omega,by omega,HGq.out,e0,e1,eA,eB,by rw [← HOX.out]; exact eO,by simp [*],by simp [*],by simp [*],by simp [*],by simp [*],by simp [*],by simp⟩
   clear ih eO HOX HK2 w2 w3 w5 w6 w7 w8 w9 e0 e1 eA eB HGq hnq hltI
   rintro m gf H' ⟨r,n2,Or,g2,hr2,rfl,rfl,hOr,hOn,hg2,e0,e1,eA,eB,eO,w2,w3,w5,w6,w7,w8,w13⟩ ih
   have HG2:=Hide.mk hg2
   clear hg2
   refine LX.roundP (noO_ok _ _) hG pl13 (by decide +kernel) ?_
   by_cases hrt:r≤M.rows.length
   ·have hrtI:(r:Int)≤(M.rows.length:Int):=by omega
    have hr65:r≤64:=by omega
    try simp (maxSteps:=999999) (disch:=first | assumption | omega | (simp; done) | fail) [Tryd.results13, *]
    refine LX.ind (fun m gf H'=>∃ (k:Nat) (g' : Nat→Option Blk),k≤M.rows.length∧m=M.rows.length - k∧H'=⟨.fn g',n2+1⟩∧(∀ q,q < n→g' q=g q)∧g' n=some (.cells [.lit (.int .i64 M.inp),.lit (.int .i64 M.out),rv] true 0)∧g' (n+1)=some (.cells [.lit (.int .u8 13),.lit (.int .i64 a),.lit (.int .i64 b),xv] true 0)∧g' Aa=some (.cells (intC M.rows.length SA) true 0)∧g' (n+1+1+1)=some (.cells (intC M.rows.length noneS) true 0)∧g' Or=some (.cells (intC M.rows.length (rounds M SA noneS 13 r)) true 0)∧g' n2=some (.cells (intC M.rows.length (upS (rounds M SA noneS 13 (r+1)) k)) true 0)∧gf 2=some (.ptr n 0)∧gf 3=some (.ptr (n+1) 0)∧gf 5=some (.lit (.int .i64 M.rows.length))∧gf 6=some (.sl Aa 0 M.rows.length M.rows.length)∧gf 7=some (.sl (n+1+1+1) 0 M.rows.length M.rows.length)∧gf 8=some (.sl Or 0 M.rows.length M.rows.length)∧gf 13=some (.lit (.int .i64 r))∧gf 14=some (.sl n2 0 M.rows.length M.rows.length)∧gf 15=some (.lit (.int .i64 k))) (m0:=M.rows.length) ?_ ?_
    ·refine ⟨0,_,Nat.zero_le _,rfl,rfl,fun q hq=>?_,?_,?_,?_,?_,?_,?_,by simp [*],by simp [*],by simp [*],by simp [*],by simp [*],by simp [*],by simp [*],by simp,by simp⟩
     ·simp (disch:=omega) only [gput_lt]
      exact HG2.out q hq
     ·simp (disch:=omega) only [gput_lt]
      exact e0
     ·simp (disch:=omega) only [gput_lt]
      exact e1
     ·simp (disch:=omega) only [gput_lt]
      exact eA
     ·simp (disch:=omega) only [gput_lt]
      exact eB
     ·simp (disch:=omega) only [gput_lt]
      exact eO
     ·rw [intC_zero]
      simp (disch:=omega) only [gput_eq]
      try rfl
    clear e0 e1 eA eB eO w2 w3 w5 w6 w7 w8 w13
    rintro m gf H' ⟨k,g3,hk,rfl,rfl,hg3,e0,e1,eA,eB,eO,eP,w2,w3,w5,w6,w7,w8,w13,w14,w15⟩ ihk
    have HG3:=Hide.mk hg3
    clear hg3
    refine LX.roundP (noO_ok _ _) hG pl13 (by decide +kernel) ?_
    by_cases hlt:k < M.rows.length
    ·have hltI:(k:Int) < (M.rows.length:Int):=by omega
     have HRA:=Hide.mk (rahead_w HMM.out k hlt (rounds M SA noneS 13 r) Or)
     have hul:=intC_len M.rows.length (upS (rounds M SA noneS 13 (r+1)) k)
     have HSET:=Hide.mk (intC_set M.rows.length (rounds M SA noneS 13 (r+1)) k hlt)
     have hclA:=intC_len M.rows.length SA
     have hclB:=intC_len M.rows.length noneS
     have hatA:=intC_at M.rows.length SA k
     have hatB:=intC_at M.rows.length noneS k
     rw [if_pos hlt] at hatA hatB
     have HRM:Hide (RepM g3 (n2+1) M [.lit (.int .i64 M.inp),.lit (.int .i64 M.out),rv]):=⟨HR.out.mono (by omega) HG3.out⟩
     have hkA:k < (intC M.rows.length SA).length:=by omega
     have hkB:k < (intC M.rows.length noneS).length:=by omega
     have hgA:(intC M.rows.length SA)[k]'hkA=.lit (.int .i64 (b01 (SA k))):=by
      rw [List.getElem?_eq_getElem hkA] at hatA
      exact Option.some.inj hatA
     have hgB:(intC M.rows.length noneS)[k]'hkB=.lit (.int .i64 (b01 (noneS k))):=by
      rw [List.getElem?_eq_getElem hkB] at hatB
      exact Option.some.inj hatB
     have HSTEP:=Hide.mk (step13 M SA noneS r k)
     have EA:=Hide.mk eA
     have EO:=Hide.mk eO
     clear hatA hatB
     generalize rounds M SA noneS 13 (r+1) k=sk at HSET HSTEP
     generalize intC M.rows.length (upS (rounds M SA noneS 13 (r+1)) k)=L at *
     have hkL:k < L.length:=by omega
     try simp (maxSteps:=999999) (disch:=first | assumption | omega | (simp; done) | fail) [Tryd.results13, *]
     refine WC.mono (HRA.out _ _ _ HRM.out EO.out (by omega)) ?_
     rintro _ ⟨so,ma,rfl,hsm1,hsm2,hpre,hpost,hends⟩
     have HP:=Hide.mk (And.intro hpre (And.intro hpost hends))
     clear hpre hpost hends
     cases hA:SA k <;> by_cases hq:so=ma
     all_goals
      rw [hA] at hgA
      simp only [b01] at hgA
      first | have hqI:(so:Int)=(ma:Int):=by omega | have hqI:¬(so:Int)=(ma:Int):=by omega
      try simp (maxSteps:=999999) (disch:=first | assumption | omega | (simp; done) | fail) [Tryd.results13, *]
      refine WC.mono (one_w _ _) ?_
      rintro _ rfl
      simp only [b01]
      try simp (maxSteps:=999999) (disch:=first | assumption | omega | (simp; done) | fail) [Tryd.results13, *]
      refine ihk.out (M.rows.length - (k+1)) _ _ (by omega) ⟨k+1,_,by omega,rfl,rfl,fun q hq=>?_,?_,?_,?_,?_,?_,?_,by simp [*],by simp [*],by simp [*],by simp [*],by simp [*],by simp [*],by simp [*],by simp [*],by simp⟩
      ·simp (disch:=omega) only [gput_ne]
       exact HG3.out q hq
      ·simp (disch:=omega) only [gput_ne]
       exact e0
      ·simp (disch:=omega) only [gput_ne]
       exact e1
      ·simp (disch:=omega) only [gput_ne]
       exact EA.out
      ·simp (disch:=omega) only [gput_ne]
       exact eB
      ·simp (disch:=omega) only [gput_ne]
       exact EO.out
      ·simp (disch:=omega) only [gput_eq]
       rw [← HSET.out,HSTEP.out]
       try rw [← HP.out.1]
       try rw [← HP.out.2.1]
       try rw [← HP.out.2.2]
       first | (simp [*,b01]; done) | (simp [*,b01]; omega)
    ·have hltI:¬(k:Int) < (M.rows.length:Int):=by omega
     have hk2:k=M.rows.length:=by omega
     have HK2:=Hide.mk hk2
     clear hk2
     try simp (maxSteps:=999999) (disch:=first | assumption | omega | (simp; done) | fail) [Tryd.results13, *]
     refine ih.out (M.rows.length+1 - (r+1)) _ _ (by omega) ⟨r+1,n2+1,n2,g3,by omega,rfl,rfl,by omega,by omega,HG3.out,e0,e1,eA,eB,?_,by simp [*],by simp [*],by simp [*],by simp [*],by simp [*],by simp [*],by simp⟩
     rw [← intC_end]
     have h:=eP
     rw [HK2.out] at h
     exact h
   ·have hrtI:¬(r:Int)≤(M.rows.length:Int):=by omega
    have hr3:r=M.rows.length+1:=by omega
    have HR3:=Hide.mk hr3
    clear hr3
    try simp (maxSteps:=999999) (disch:=first | assumption | omega | (simp; done) | fail) [Tryd.results13, *]
    refine ⟨Or,rounds M SA noneS 13 (M.rows.length+1),g2,n2,rfl,by omega,fun q hq=>HG2.out q hq,by omega,hOn,?_,SA,noneS,HSL.out,rounds_sem M SA noneS HMM.out 13 a b (by omega)⟩
    have h:=eO
    rw [HR3.out] at h
    exact h
end Go.Ai
end
