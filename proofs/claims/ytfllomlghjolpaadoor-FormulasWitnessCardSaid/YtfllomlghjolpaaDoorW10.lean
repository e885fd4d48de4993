/- A small verified interpreter over names, its proofs, and what was proved with it. No condition. -/
import Derived.Shelf.Strconv.AtoiAll
import Derived.Shelf.Strconv.Itoa3
import Derived.Test.YtfllomlghjolpaaDoorProg
import Derived.Test.YtfllomlghjolpaaDoorW08
import Derived.Test.YtfllomlghjolpaaDoorW06
import Derived.Test.YtfllomlghjolpaaDoorW05
import Derived.Test.YtfllomlghjolpaaDoorW09
set_option linter.all false
set_option linter.deprecated false
section
namespace Go.Ai
open Go.Proofs
set_option maxRecDepth 10000
set_option maxHeartbeats 40000000
theorem rsem14_w {M:MachM} (hM:M.ok) {m:Nat} (IH0:RSatW M m) (a b:Int) (subs:List NodeM) (hx:sizeN (.mk 14 a b subs)≤m+1) (hv:validM M.rows.length M.inp M.out (.mk 14 a b subs)=true) (g:Nat→Option Blk) (n:Nat) (ms xs:List AV) (hr:RepM g n M ms) (hx0:repN g n (.mk 14 a b subs) xs) :
  WC 6 Tryd.prog 13 [.agg ms,.agg xs] ⟨.fn g,n⟩ (RQ M (.mk 14 a b subs) g n):=by
 have IH:=Hide.mk IH0
 have HMM:=Hide.mk hM
 have HR:=Hide.mk hr
 obtain ⟨rv,svs,rfl,hrows,hrv⟩:=hr
 have h1r:=hrv.one
 have h1a:allOne [.lit (.int .i64 M.inp),.lit (.int .i64 M.out),rv]=true:=by simp [h1r]
 have hlen:=@lenV Tryd.prog _ _ _ _ _ hrv
 have hsl:=hrows.len
 have HROW:=Hide.mk hrows
 have HRV:=Hide.mk hrv
 have HOK:=Hide.mk (ok_row hM)
 have h64:M.rows.length≤64:=hM.2.2.2.2.2.1
 have hz64:(M.rows.length:Int)≤1048576:=by omega
 have hrep:=hx0
 obtain ⟨hop,sv,rfl,hsv⟩:=hx0
 have h1s:oneC sv=true:=by
  obtain ⟨_,_,_,e1,e2,_⟩:=repN_one hrep
  cases e1; exact e2
 have h1x:allOne [.lit (.int .u8 ((14:Nat) : Int)),.lit (.int .i64 a),.lit (.int .i64 b),sv]=true:=by simp [h1s]
 have h1y:allOne [.lit (.int .u8 14),.lit (.int .i64 a),.lit (.int .i64 b),sv]=true:=by simp [h1s]
 have h1e:allOne [.lit (.int .i64 (-1)),.lit (.int .i64 0)]=true:=by simp
 unfold validM at hv
 simp only [Bool.and_eq_true,decide_eq_true_eq] at hv
 obtain ⟨v1,v2,v3,v4,v5,v6,v7⟩:=hv
 have v2' : subs.length=2:=v2
 have hsz:sizeL subs≤m:=by unfold sizeN at hx; omega
 have HSV:Hide ((subs=[]∧(sv=.lit (.slice none 0 0)∨sv=.es))∨∃ a off r,a < n∧((∃ c,sv=.sl a off subs.length c)∨(∃ c,sv=.slq a off subs.length c))∧Row g a off r∧repL g n subs r):=⟨hsv⟩
 have hlS:∀ {H:Mem} {e' : Ev} {o:Oper} {c' : Call} {e:TypeId},lenS Tryd.prog H e' o c' (some (.slice e)) (some [sv])=.val (.lit (.int .i64 2)) H:=by
  intro H e' o c' e
  rcases HSV.out with ⟨h1,rfl | rfl⟩ | ⟨a2,off,r,_,⟨c2,rfl⟩ | ⟨c2,rfl⟩,_⟩
  ·rw [h1] at v2'; first | rfl | cases v2'
  ·rw [h1] at v2'; first | rfl | cases v2'
  ·rw [v2']; rfl
  ·rw [v2']; rfl
 clear hrows hrv IH0 v1 v2 v5 v6 hx hop hM
 obtain ⟨y,z,rfl⟩ : ∃ y z,subs=[y,z]:=by
  match subs,v2' with
  | [y,z],_=>exact ⟨y,z,rfl⟩
 rcases hsv with ⟨h1,_⟩ | ⟨a2,off,r,ha2,hev,hrow,hrl⟩
 ·cases h1
 have hll:=repL_len hrl
 have hy0:=repL_at hrl 0 (by simp)
 have hc0:=hrow.agg (k:=0 * 4) (s:=4) (by rw [hll]; simp)
 have hy0' : repN g n y ((r.drop (0 * 4)).take 4):=hy0
 obtain ⟨k2,k3,sv2,hcy,h1c,hop2⟩:=repN_one hy0'
 rw [hcy] at hc0 hy0'
 have h1q:allOne [.lit (.int .u8 y.op),.lit (.int .i64 k2),.lit (.int .i64 k3),sv2]=true:=by simp [h1c]
 have hc0' : loadB (some (true,4)) (g a2) off=some (.agg [.lit (.int .u8 y.op),.lit (.int .i64 k2),.lit (.int .i64 k3),sv2]):=by simpa using hc0
 have hyv:=validL_mem v7 y (by simp)
 have hyz:sizeN y≤m:=Nat.le_trans (size_mem (by simp)) hsz
 have HY:=Hide.mk hy0'
 have HYV:=Hide.mk hyv
 have hz0:=repL_at hrl 1 (by simp)
 have hc1:=hrow.agg (k:=1 * 4) (s:=4) (by rw [hll]; simp)
 have hz0' : repN g n z ((r.drop (1 * 4)).take 4):=hz0
 obtain ⟨k4,k5,sv3,hcz,h1d,hop3⟩:=repN_one hz0'
 rw [hcz] at hc1 hz0'
 have h1w:allOne [.lit (.int .u8 z.op),.lit (.int .i64 k4),.lit (.int .i64 k5),sv3]=true:=by simp [h1d]
 have hc1' : loadB (some (true,4)) (g a2) (off+4)=some (.agg [.lit (.int .u8 z.op),.lit (.int .i64 k4),.lit (.int .i64 k5),sv3]):=by simpa using hc1
 have hzv:=validL_mem v7 z (by simp)
 have hzz:sizeN z≤m:=Nat.le_trans (size_mem (by simp)) hsz
 have HZ:=Hide.mk hz0'
 have HZV:=Hide.mk hzv
 clear hz0 hc1 hcz hz0' hzv
 clear hy0 hc0 hcy hy0' hyv hrow hrl hll hrep v7 v2' hsz HSV
 rcases hev with ⟨c2,rfl⟩ | ⟨c2,rfl⟩
 all_goals
  refine WC.enterP (noO_ok _ _) hG pl13 Tryd.func13 rfl (by decide +kernel) (Nat.le_of_ble_eq_true (by kernel_rfl)) ?_
  try simp (maxSteps:=999999) (disch:=first | assumption | omega | (simp; done) | fail) [Tryd.results13, *]
  refine WC.mono (IH.out y hyz HYV.out _ _ _ _ (HR.out.mono (by omega) fun q hq=>by simp (disch:=omega) only [gput_lt]) (repN_mono (by omega) (fun q hq=>by simp (disch:=omega) only [gput_lt]) HY.out)) ?_
  rintro _ ⟨Aa,SA,g1,n1,rfl,hn1,hg1,hA1,hA2,hA3,hsemA⟩
  have HG:Hide (∀ q,q < n→g1 q=g q):=⟨fun q hq=>by rw [hg1 q (by omega)]; simp (disch:=omega) only [gput_lt]⟩
  have f0:g1 n=some (.cells [.lit (.int .i64 M.inp),.lit (.int .i64 M.out),rv] true 0):=by rw [hg1 n (by omega)]; simp (disch:=omega) only [gput_lt,gput_eq]
  have f1:=(hg1 (n+1) (by omega)).trans ((gput_lt (by omega)).trans ((gput_lt (by omega)).trans gput_eq))
  have f3:g1 (n+1+1+1)=some (.cells (intC M.rows.length noneS) true 0):=by rw [hg1 (n+1+1+1) (by omega),intC_none]; simp (disch:=omega) only [gput_eq]; try rfl
  have HSA:=Hide.mk hsemA
  clear hg1 hsemA
  have hc1'' : loadB (some (true,4)) (g1 a2) (off+4)=some (.agg [.lit (.int .u8 z.op),.lit (.int .i64 k4),.lit (.int .i64 k5),sv3]):=by rw [HG.out a2 ha2]; exact hc1'
  try simp (maxSteps:=999999) (disch:=first | assumption | omega | (simp; done) | fail) [Tryd.results13, *]
  refine WC.mono (IH.out z hzz HZV.out _ _ _ _ (HR.out.mono (by omega) HG.out) (repN_mono (by omega) HG.out HZ.out)) ?_
  rintro _ ⟨Ab,SB,g2,n2,rfl,hn2,hg2,hB1,hB2,hB3,hsemB⟩
  have HG' : Hide (∀ q,q < n→g2 q=g q):=⟨fun q hq=>by rw [hg2 q (by omega)]; exact HG.out q hq⟩
  have f0':=(hg2 n (by omega)).trans f0
  have f1':=(hg2 (n+1) (by omega)).trans f1
  have hA3':=(hg2 Aa (by omega)).trans hA3
  have HSL:Hide (semL M [y,z] SA SB):=⟨⟨HSA.out,hsemB⟩⟩
  obtain ⟨xv,f1x⟩ : ∃ xv,g2 (n+1)=some (.cells [.lit (.int .u8 ((14:Nat) : Int)),.lit (.int .i64 a),.lit (.int .i64 b),xv] true 0):=⟨_,f1'⟩
  clear hg2 hsemB f0 f1 hA3 HSA HG f3
  try simp (maxSteps:=999999) (disch:=first | assumption | omega | (simp; done) | fail) [Tryd.results13, *]
  refine LX.ind (fun m gf H'=>∃ (k n' : Nat) (g' : Nat→Option Blk),k≤M.rows.length∧m=M.rows.length - k∧H'=⟨.fn g',n'⟩∧n2+1≤n'∧(∀ q,q < n→g' q=g q)∧g' n=some (.cells [.lit (.int .i64 M.inp),.lit (.int .i64 M.out),rv] true 0)∧g' (n+1)=some (.cells [.lit (.int .u8 14),.lit (.int .i64 a),.lit (.int .i64 b),xv] true 0)∧g' Aa=some (.cells (intC M.rows.length SA) true 0)∧g' Ab=some (.cells (intC M.rows.length SB) true 0)∧g' n2=some (.cells (intC M.rows.length (upS noneS k)) true 0)∧gf 2=some (.ptr n 0)∧gf 3=some (.ptr (n+1) 0)∧gf 5=some (.lit (.int .i64 M.rows.length))∧gf 6=some (.sl Aa 0 M.rows.length M.rows.length)∧gf 7=some (.sl Ab 0 M.rows.length M.rows.length)∧gf 8=some (.sl n2 0 M.rows.length M.rows.length)∧gf 9=some (.lit (.int .i64 k))) (m0:=M.rows.length) ?_ ?_
  ·refine ⟨0,_,_,Nat.zero_le _,rfl,rfl,Nat.le_refl _,fun q hq=>?_,?_,?_,?_,?_,?_,by simp [*],by simp [*],by simp [*],by simp [*],by simp [*],by simp [*],by simp⟩
   ·simp (disch:=omega) only [gput_lt]
    exact HG'.out q hq
   ·simp (disch:=omega) only [gput_lt]
    exact f0'
   ·simp (disch:=omega) only [gput_lt]
    exact f1x
   ·simp (disch:=omega) only [gput_lt]
    exact hA3'
   ·simp (disch:=omega) only [gput_lt]
    exact hB3
   ·rw [intC_zero]
    simp (disch:=omega) only [gput_eq]
    try rfl
  clear f0' f1x hA3' hB3 HG' f1'
  rintro m gf H' ⟨k,nq,gq,hk,rfl,rfl,hnq,hgq,e0,e1,eA,eB,eO,w2,w3,w5,w6,w7,w8,w9⟩ ih
  have HGq:=Hide.mk hgq
  clear hgq
  refine LX.roundP (noO_ok _ _) hG pl13 (by decide +kernel) ?_
  by_cases hlt:k < M.rows.length
  ·have hltI:(k:Int) < (M.rows.length:Int):=by omega
   have hRA:=rahead_w HMM.out k hlt SA Aa
   have HRA:=Hide.mk hRA
   clear hRA
   have HSAME:Hide (intC M.rows.length (upS noneS k)=intC M.rows.length (upS noneS (k+1))):=⟨by rw [up_none,up_none]⟩
   have hul:=intC_len M.rows.length (upS noneS k)
   have hset:=intC_set M.rows.length noneS k hlt
   have HSET:=Hide.mk hset
   clear hset
   have hclA:=intC_len M.rows.length SA
   have hclB:=intC_len M.rows.length SB
   have hatA:=intC_at M.rows.length SA k
   have hatB:=intC_at M.rows.length SB k
   rw [if_pos hlt] at hatA hatB
   have HRM:Hide (∀ (g' : Nat→Option Blk) (n' : Nat),n≤n'→(∀ q,q < n→g' q=gq q)→RepM g' n' M [.lit (.int .i64 M.inp),.lit (.int .i64 M.out),rv]):=⟨fun g' n' h1 h2=>HR.out.mono h1 fun q hq=>by rw [h2 q hq]; exact HGq.out q hq⟩
   have hkA:k < (intC M.rows.length SA).length:=by omega
   have hkB:k < (intC M.rows.length SB).length:=by omega
   have hgA:(intC M.rows.length SA)[k]'hkA=.lit (.int .i64 (b01 (SA k))):=by
    rw [List.getElem?_eq_getElem hkA] at hatA
    exact Option.some.inj hatA
   have hgB:(intC M.rows.length SB)[k]'hkB=.lit (.int .i64 (b01 (SB k))):=by
    rw [List.getElem?_eq_getElem hkB] at hatB
    exact Option.some.inj hatB
   have eA' : Hide (gq Aa=some (.cells (intC M.rows.length SA) true 0)):=⟨eA⟩
   clear hatA hatB
   generalize intC M.rows.length (upS noneS k)=L at *
   have hkL:k < L.length:=by omega
   try simp (maxSteps:=999999) (disch:=first | assumption | omega | (simp; done) | fail) [Tryd.results13, *]
   refine WC.mono (HRA.out _ _ _ (HRM.out _ _ (by omega) fun q hq=>by simp (disch:=omega) only [gput_lt]) (by simp (disch:=omega) only [gput_lt]; exact eA'.out) (by omega)) ?_
   rintro _ ⟨so,ma,rfl,hsm1,hsm2,hpre,hpost,hends⟩
   clear hpre hpost hends
   try simp (maxSteps:=999999) (disch:=first | assumption | omega | (simp; done) | fail) [Tryd.results13, *]
   refine ih.out (M.rows.length - (k+1)) _ _ (by omega) ⟨k+1,nq+1,_,by omega,rfl,rfl,by omega,fun q hq=>?_,?_,?_,?_,?_,?_,by simp [*],by simp [*],by simp [*],by simp [*],by simp [*],by simp [*],by simp⟩
   ·simp (disch:=omega) only [gput_lt,gput_ne]
    exact HGq.out q hq
   ·simp (disch:=omega) only [gput_lt,gput_ne]
    exact e0
   ·simp (disch:=omega) only [gput_lt,gput_ne]
    exact e1
   ·simp (disch:=omega) only [gput_lt,gput_ne]
    exact eA'.out
   ·simp (disch:=omega) only [gput_lt,gput_ne]
    exact eB
   ·simp (disch:=omega) only [gput_lt,gput_ne,gput_eq]
    rw [← HSAME.out]
    exact eO
  ·have hltI:¬(k:Int) < (M.rows.length:Int):=by omega
   have hk2:k=M.rows.length:=by omega
   have HK2:=Hide.mk hk2
   clear hk2
   try simp (maxSteps:=999999) (disch:=first | assumption | omega | (simp; done) | fail) [Tryd.results13, *]
   have HOX:Hide (intC M.rows.length (upS noneS k)=intC M.rows.length (rounds M SA SB 14 0)):=⟨by rw [HK2.out,intC_end]; first | rfl | (rw [rounds_all _ _ _ _ (by omega)])⟩
   refine LX.ind (fun m gf H'=>∃ (r n' Or:Nat) (g' : Nat→Option Blk),r≤M.rows.length+1∧m=M.rows.length+1 - r∧H'=⟨.fn g',n'⟩∧n2≤Or∧Or < n'∧(∀ q,q < n→g' q=g q)∧g' n=some (.cells [.lit (.int .i64 M.inp),.lit (.int .i64 M.out),rv] true 0)∧g' (n+1)=some (.cells [.lit (.int .u8 14),.lit (.int .i64 a),.lit (.int .i64 b),xv] true 0)∧g' Aa=some (.cells (intC M.rows.length SA) true 0)∧g' Ab=some (.cells (intC M.rows.length SB) true 0)∧g' Or=some (.cells (intC M.rows.length (rounds M SA SB 14 r)) true 0)∧gf 2=some (.ptr n 0)∧gf 3=some (.ptr (n+1) 0)∧gf 5=some (.lit (.int .i64 M.rows.length))∧gf 6=some (.sl Aa 0 M.rows.length M.rows.length)∧gf 7=some (.sl Ab 0 M.rows.length M.rows.length)∧gf 8=some (.sl Or 0 M.rows.length M.rows.length)∧gf 13=some (.lit (.int .i64 r))) (m0:=M.rows.length+1) ?_ ?_
   ·exact ⟨0,nq,n2,gq,by omega,rfl,rfl,by omega,by omega,HGq.out,e0,e1,eA,eB,by rw [← HOX.out]; exact eO,by simp [*],by simp [*],by simp [*],by simp [*],by simp [*],by simp [*],by simp⟩
   clear ih eO HOX HK2 w2 w3 w5 w6 w7 w8 w9 e0 e1 eA eB HGq hnq hltI
   rintro m gf H' ⟨r,n2,Or,g2,hr2,rfl,rfl,hOr,hOn,hg2,e0,e1,eA,eB,eO,w2,w3,w5,w6,w7,w8,w13⟩ ih
   have HG2:=Hide.mk hg2
   clear hg2
   refine LX.roundP (noO_ok _ _) hG pl13 (by decide +kernel) ?_
   by_cases hrt:r≤M.rows.length
   ·have hrtI:(r:Int)≤(M.rows.length:Int):=by omega
    have hr65:r≤64:=by omega
    try simp (maxSteps:=999999) (disch:=first | assumption | omega | (simp; done) | fail) [Tryd.results13, *]
    refine LX.ind (fun m gf H'=>∃ (k:Nat) (g' : Nat→Option Blk),k≤M.rows.length∧m=M.rows.length - k∧H'=⟨.fn g',n2+1⟩∧(∀ q,q < n→g' q=g q)∧g' n=some (.cells [.lit (.int .i64 M.inp),.lit (.int .i64 M.out),rv] true 0)∧g' (n+1)=some (.cells [.lit (.int .u8 14),.lit (.int .i64 a),.lit (.int .i64 b),xv] true 0)∧g' Aa=some (.cells (intC M.rows.length SA) true 0)∧g' Ab=some (.cells (intC M.rows.length SB) true 0)∧g' Or=some (.cells (intC M.rows.length (rounds M SA SB 14 r)) true 0)∧g' n2=some (.cells (intC M.rows.length (upS (rounds M SA SB 14 (r+1)) k)) true 0)∧gf 2=some (.ptr n 0)∧gf 3=some (.ptr (n+1) 0)∧gf 5=some (.lit (.int .i64 M.rows.length))∧gf 6=some (.sl Aa 0 M.rows.length M.rows.length)∧gf 7=some (.sl Ab 0 M.rows.length M.rows.length)∧gf 8=some (.sl Or 0 M.rows.length M.rows.length)∧gf 13=some (.lit (.int .i64 r))∧gf 14=some (.sl n2 0 M.rows.length M.rows.length)∧gf 15=some (.lit (.int .i64 k))) (m0:=M.rows.length) ?_ ?_
    ·refine ⟨0,_,Nat.zero_le _,rfl,rfl,fun q hq=>?_,?_,?_,?_,?_,?_,?_,by simp [*],by simp [*],by simp [*],by simp [*],by simp [*],by simp [*],by simp [*],by simp,by simp⟩
     ·simp (disch:=omega) only [gput_lt]
      exact HG2.out q hq
     ·simp (disch:=omega) only [gput_lt]
      exact e0
     ·simp (disch:=omega) only [gput_lt]
      exact e1
     ·simp (disch:=omega) only [gput_lt]
      exact eA
     ·simp (disch:=omega) only [gput_lt]
      exact eB
     ·simp (disch:=omega) only [gput_lt]
      exact eO
     ·rw [intC_zero]
      simp (disch:=omega) only [gput_eq]
      try rfl
    clear e0 e1 eA eB eO w2 w3 w5 w6 w7 w8 w13
    rintro m gf H' ⟨k,g3,hk,rfl,rfl,hg3,e0,e1,eA,eB,eO,eP,w2,w3,w5,w6,w7,w8,w13,w14,w15⟩ ihk
    have HG3:=Hide.mk hg3
    clear hg3
    refine LX.roundP (noO_ok _ _) hG pl13 (by decide +kernel) ?_
    by_cases hlt:k < M.rows.length
    ·have hltI:(k:Int) < (M.rows.length:Int):=by omega
     have HRA:=Hide.mk (rahead_w HMM.out k hlt (rounds M SA SB 14 r) Or)
     have hul:=intC_len M.rows.length (upS (rounds M SA SB 14 (r+1)) k)
     have HSET:=Hide.mk (intC_set M.rows.length (rounds M SA SB 14 (r+1)) k hlt)
     have hclA:=intC_len M.rows.length SA
     have hclB:=intC_len M.rows.length SB
     have hatA:=intC_at M.rows.length SA k
     have hatB:=intC_at M.rows.length SB k
     rw [if_pos hlt] at hatA hatB
     have HRM:Hide (RepM g3 (n2+1) M [.lit (.int .i64 M.inp),.lit (.int .i64 M.out),rv]):=⟨HR.out.mono (by omega) HG3.out⟩
     have hkA:k < (intC M.rows.length SA).length:=by omega
     have hkB:k < (intC M.rows.length SB).length:=by omega
     have hgA:(intC M.rows.length SA)[k]'hkA=.lit (.int .i64 (b01 (SA k))):=by
      rw [List.getElem?_eq_getElem hkA] at hatA
      exact Option.some.inj hatA
     have hgB:(intC M.rows.length SB)[k]'hkB=.lit (.int .i64 (b01 (SB k))):=by
      rw [List.getElem?_eq_getElem hkB] at hatB
      exact Option.some.inj hatB
     have HSTEP:=Hide.mk (step14 M SA SB r k)
     have EA:=Hide.mk eA
     have EO:=Hide.mk eO
     clear hatA hatB
     generalize rounds M SA SB 14 (r+1) k=sk at HSET HSTEP
     generalize intC M.rows.length (upS (rounds M SA SB 14 (r+1)) k)=L at *
     have hkL:k < L.length:=by omega
     try simp (maxSteps:=999999) (disch:=first | assumption | omega | (simp; done) | fail) [Tryd.results13, *]
     refine WC.mono (HRA.out _ _ _ HRM.out EO.out (by omega)) ?_
     rintro _ ⟨so,ma,rfl,hsm1,hsm2,hpre,hpost,hends⟩
     have HP:=Hide.mk (And.intro hpre (And.intro hpost hends))
     clear hpre hpost hends
     cases hB:SB k <;> cases hA:SA k <;> by_cases hm:0 < ma <;> by_cases hq:so=ma
     all_goals
      rw [hB] at hgB
      simp only [b01] at hgB
      rw [hA] at hgA
      simp only [b01] at hgA
      first | have hmz:¬ma=0:=by omega | have hmz:ma=0:=by omega
      first | have hmI:(0:Int) < (ma:Int):=by omega | have hmI:¬(0:Int) < (ma:Int):=by omega
      first | have hqI:(so:Int)=(ma:Int):=by omega | have hqI:¬(so:Int)=(ma:Int):=by omega
      try simp (maxSteps:=999999) (disch:=first | assumption | omega | (simp; done) | fail) [Tryd.results13, *]
      refine WC.mono (one_w _ _) ?_
      rintro _ rfl
      simp only [b01]
      try simp (maxSteps:=999999) (disch:=first | assumption | omega | (simp; done) | fail) [Tryd.results13, *]
      refine ihk.out (M.rows.length - (k+1)) _ _ (by omega) ⟨k+1,_,by omega,rfl,rfl,fun q hq=>?_,?_,?_,?_,?_,?_,?_,by simp [*],by simp [*],by simp [*],by simp [*],by simp [*],by simp [*],by simp [*],by simp [*],by simp⟩
      ·simp (disch:=omega) only [gput_ne]
       exact HG3.out q hq
      ·simp (disch:=omega) only [gput_ne]
       exact e0
      ·simp (disch:=omega) only [gput_ne]
       exact e1
      ·simp (disch:=omega) only [gput_ne]
       exact EA.out
      ·simp (disch:=omega) only [gput_ne]
       exact eB
      ·simp (disch:=omega) only [gput_ne]
       exact EO.out
      ·simp (disch:=omega) only [gput_eq]
       rw [← HSET.out,HSTEP.out]
       try rw [← HP.out.1]
       try rw [← HP.out.2.1]
       try rw [← HP.out.2.2]
       first | (simp [*,b01]; done) | (simp [*,b01]; omega)
    ·have hltI:¬(k:Int) < (M.rows.length:Int):=by omega
     have hk2:k=M.rows.length:=by omega
     have HK2:=Hide.mk hk2
     clear hk2
     try simp (maxSteps:=999999) (disch:=first | assumption | omega | (simp; done) | fail) [Tryd.results13, *]
     refine ih.out (M.rows.length+1 - (r+1)) _ _ (by omega) ⟨r+1,n2+1,n2,g3,by omega,rfl,rfl,by omega,by omega,HG3.out,e0,e1,eA,eB,?_,by simp [*],by simp [*],by simp [*],by simp [*],by simp [*],by simp [*],by simp⟩
     rw [← intC_end]
     have h:=eP
     rw [HK2.out] at h
     exact h
   ·have hrtI:¬(r:Int)≤(M.rows.length:Int):=by omega
    have hr3:r=M.rows.length+1:=by omega
    have HR3:=Hide.mk hr3
    clear hr3
    try simp (maxSteps:=999999) (disch:=first | assumption | omega | (simp; done) | fail) [Tryd.results13, *]
    refine ⟨Or,rounds M SA SB 14 (M.rows.length+1),g2,n2,rfl,by omega,fun q hq=>HG2.out q hq,by omega,hOn,?_,SA,SB,HSL.out,rounds_sem M SA SB HMM.out 14 a b (by omega)⟩
    have h:=eO
    rw [HR3.out] at h
    exact h
end Go.Ai
end
section
namespace Go.Ai
open Go.Proofs
set_option maxRecDepth 10000
set_option maxHeartbeats 40000000
def edgesN (P:Nat→Bool) : Nat→Nat
 | 0=>0
 | k+1=>if P k=true then orN (edgesN P k) (bitN k) else edgesN P k
theorem edgesN_lt (P:Nat→Bool) : ∀ k,k≤64→edgesN P k < 18446744073709551616
 | 0,_=>by unfold edgesN; omega
 | k+1,h=>by
  have:=edgesN_lt P k (by omega)
  unfold edgesN
  split
  ·exact orN_lt this (bitN_lt (by omega))
  ·exact this
theorem edgesN_bit (P:Nat→Bool) (s:Nat) : ∀ k,(edgesN P k).testBit s=(decide (s < k) && P s)
 | 0=>by unfold edgesN; simp
 | k+1=>by
  have ih:=edgesN_bit P s k
  unfold edgesN
  split
  ·rename_i h
   rw [orN_bit,ih,bitN_bit]
   by_cases hs:s=k
   ·subst hs; rw [h]; simp
   ·rw [decide_eq_false (show ¬k=s by omega),show decide (s < k+1)=decide (s < k) by rw [decide_eq_decide]; omega]; simp
  ·rename_i h
   rw [ih]
   by_cases hs:s=k
   ·subst hs; rw [show P s=false by simpa using h]; simp
   ·rw [show decide (s < k+1)=decide (s < k) by rw [decide_eq_decide]; omega]
theorem edgesN_eq (P:Nat→Bool) (n:Nat) : eqS n (sOf (edgesN P n)) P:=fun s hs=>by
 show (edgesN P n).testBit s=_
 rw [edgesN_bit,decide_eq_true hs]; rfl
theorem op126 (a b:Int) (H:Mem) : WC 6 Tryd.prog 126 [.agg [.lit (.int .i64 a),.lit (.int .i64 b)]] H fun r=>r=.ret (.lit (.bool true)) H:=by
 refine WC.drop1 rfl (WC.mono (WC.ofFn (v:=.lit (.bool true)) ?_) fun r h=>⟨H,h,Nat.le_refl _,fun _ _=>rfl⟩)
 refine WC.drop1 rfl ?_
 refine WC.enterP (noO_ok _ _) hG [] Tryd.func126 rfl (by decide +kernel) (Nat.le_of_ble_eq_true (by kernel_rfl)) ?_
 have h1a:allOne [.lit (.int .i64 a),.lit (.int .i64 b)]=true:=by simp
 iterate 6 all_goals try first | with_reducible refine splitI (fun h=>?_) fun h=>?_ | with_reducible refine splitBI (fun h=>?_) fun h=>?_ | simp (maxSteps:=999999) (disch:=first | assumption | omega | (simp; done) | fail) [Tryd.results126, *]
 all_goals exact ⟨Nat.le_succ _,fun q hq=>gput_lt hq⟩
theorem edges_can {M:MachM} {nx:List Nat} {all:Nat} (hMr:∀ r∈M.rows,(r.length:Int)=M.inp) (i:Nat) (hi:(i:Int) < M.inp) (g:Nat→Option Blk) (n:Nat) (cs:List AV) (hr:GOK g n M nx all cs) :
  WC 6 Tryd.prog 125 [.agg cs,.lit (.func (.func 126) #[] #[]),.lit (.int .i64 i)] ⟨.fn g,n⟩ fun r=>r=.ret (.lit (.int .u64 ((edgesN (fun s=>!decide ((M.edge s i).1 = -1)) M.gr.n:Nat) : Int))) ⟨.fn g,n⟩:=by
 refine WC.drop1 rfl ?_
 obtain ⟨rv,nv,rfl,h1r,h1v⟩:=hr.one
 have h1a:allOne [.lit (.int .i64 M.inp),.lit (.int .i64 M.out),rv,nv,.lit (.int .u64 (all:Int))]=true:=by simp [h1r,h1v]
 have h64:=hr.grn.n64
 obtain ⟨⟨rv',nv',e1,⟨rv2,svs,e2,hrows,hrv⟩,_⟩,_⟩:=hr
 cases e1
 cases e2
 have hlen:=@lenV Tryd.prog _ _ _ _ _ hrv
 have hsl:=hrows.len
 have hgn:M.gr.n=M.rows.length:=rfl
 have HROW:=Hide.mk hrows
 have HRV:=Hide.mk hrv
 have HMR:=Hide.mk hMr
 generalize hP:(fun s=>!decide ((M.edge s i).1 = -1))=P
 rw [hgn] at h64 ⊢
 clear hrows hrv hMr hgn
 refine WC.enterP (noO_ok _ _) hG [] Tryd.func125 rfl (by decide +kernel) (Nat.le_of_ble_eq_true (by kernel_rfl)) ?_
 iterate 6 all_goals try first | with_reducible refine splitI (fun h=>?_) fun h=>?_ | with_reducible refine splitBI (fun h=>?_) fun h=>?_ | simp (maxSteps:=999999) (disch:=first | assumption | omega | (simp; done) | fail) [Tryd.results125, *]
 refine LX.ind (fun m gf H'=>∃ (k:Nat),k≤M.rows.length∧m=M.rows.length - k∧H'=⟨.fn (gput g n (some (.cells [.lit (.int .i64 M.inp),.lit (.int .i64 M.out),rv,nv,.lit (.int .u64 (all:Int))] true 0))),n+1⟩ ∧
  gf 1=some (.lit (.func (.func 126) #[] #[]))∧gf 2=some (.lit (.int .i64 i))∧gf 6=some (.lit (.int .u64 ((edgesN P k:Nat) : Int)))∧gf 11=some rv∧gf 12=some (.lit (.int .i64 M.rows.length))∧gf 13=some (.lit (.int .i64 k))) (m0:=M.rows.length) ?_ ?_
 ·exact ⟨0,by omega,rfl,rfl,by simp,by simp,by simp [edgesN],by simp,by simp,by simp⟩
 rintro m gf H' ⟨k,hk,rfl,rfl,w1,w2,w6,w11,w12,w13⟩ ih
 refine LX.roundP (noO_ok _ _) hG [] (by decide +kernel) ?_
 have hal:=edgesN_lt P k (by omega)
 by_cases hlt:k < M.rows.length
 ·have hltI:(k:Int) < (M.rows.length:Int):=by omega
  have hk63:k≤63:=by omega
  have hbk:=bitN_lt hk63
  have hR:=HROW.out.at k hlt (by omega)
  rcases HRV.out with ⟨h1,_⟩ | ⟨a2,off,ha2,hev,hrow⟩
  ·omega
  have hcell:=(hrow.mono (g':=gput g n (some (.cells [.lit (.int .i64 M.inp),.lit (.int .i64 M.out),rv,nv,.lit (.int .u64 (all:Int))] true 0))) (gput_lt ha2)).one (k:=k) (s:=1) (by omega)
  rw [gput_lt ha2] at hcell
  have hPk:P k=(!decide ((M.edge k i).1 = -1)):=by rw [← hP]
  have hil:=HMR.out _ (List.getElem_mem hlt)
  have hrk:=List.getElem?_eq_getElem hlt
  generalize svs[k]'(by omega)=sv at hR hcell
  have hilt:i < M.rows[k].length:=by omega
  generalize M.rows[k]=row at hR hil hrk hilt
  have hiltI:(i:Int) < (row.length:Int):=by omega
  rcases hR with ⟨h1,_⟩ | ⟨a3,off3,ha3,hev3,hrow3⟩
  ·omega
  have hrow3':=hrow3.mono (g':=gput g n (some (.cells [.lit (.int .i64 M.inp),.lit (.int .i64 M.out),rv,nv,.lit (.int .u64 (all:Int))] true 0))) (gput_lt ha3)
  have hto:=hrow3'.one (k:=i * 2) (s:=1) (by rw [rowC_len]; omega)
  have hagg:=hrow3'.agg (k:=i * 2) (s:=2) (by rw [rowC_len]; omega)
  have hc1:=(rowC_one row i hilt).1
  rw [List.getElem?_eq_getElem (by rw [rowC_len]; omega)] at hc1
  rw [Option.some.inj hc1,gput_lt ha3] at hto
  rw [rowC_at row i hilt,gput_lt ha3] at hagg
  have hed:=edge_at hrk (List.getElem?_eq_getElem hilt)
  generalize row[i]=e at hto hagg hed
  obtain ⟨to,out⟩:=e
  rw [hed] at hPk
  dsimp only at hto hagg hPk
  have HST:Hide (edgesN P (k+1)=if P k=true then orN (edgesN P k) (bitN k) else edgesN P k):=⟨rfl⟩
  have HPK:=Hide.mk hPk
  clear hPk hed hrk hc1 hrow3 hrow3' hrow hP hil
  by_cases ht:to = -1
  ·have hPf:P k=false:=by rw [HPK.out]; simp [ht]
   rw [if_neg (by rw [hPf]; decide)] at HST
   rcases hev with ⟨c2,rfl⟩ | ⟨c2,rfl⟩ <;> rcases hev3 with ⟨c3,rfl⟩ | ⟨c3,rfl⟩
   all_goals
    iterate 6 all_goals try first | with_reducible refine splitI (fun h=>?_) fun h=>?_ | with_reducible refine splitBI (fun h=>?_) fun h=>?_ | simp (maxSteps:=999999) (disch:=first | assumption | omega | (simp; done) | fail) [Tryd.results125, *]
    refine ih.out (M.rows.length - (k+1)) _ _ (by omega) ⟨k+1,by omega,rfl,rfl,by simp [*],by simp [*],?_,by simp [*],by simp [*],by simp⟩
    rw [HST.out]
    simp [*]
  ·have hPt:P k=true:=by rw [HPK.out]; simp [ht]
   rw [if_pos hPt] at HST
   rcases hev with ⟨c2,rfl⟩ | ⟨c2,rfl⟩ <;> rcases hev3 with ⟨c3,rfl⟩ | ⟨c3,rfl⟩
   all_goals
    iterate 6 all_goals try first | with_reducible refine splitI (fun h=>?_) fun h=>?_ | with_reducible refine splitBI (fun h=>?_) fun h=>?_ | simp (maxSteps:=999999) (disch:=first | assumption | omega | (simp; done) | fail) [Tryd.results125, *]
    refine WC.mono (op126 _ _ _) ?_
    rintro _ rfl
    iterate 6 all_goals try first | with_reducible refine splitI (fun h=>?_) fun h=>?_ | with_reducible refine splitBI (fun h=>?_) fun h=>?_ | simp (maxSteps:=999999) (disch:=first | assumption | omega | (simp; done) | fail) [Tryd.results125, *]
    refine ih.out (M.rows.length - (k+1)) _ _ (by omega) ⟨k+1,by omega,rfl,rfl,by simp [*],by simp [*],?_,by simp [*],by simp [*],by simp⟩
    rw [HST.out]
    simp [*]
 ·have hltI:¬(k:Int) < (M.rows.length:Int):=by omega
  have hk2:k=M.rows.length:=by omega
  iterate 6 all_goals try first | with_reducible refine splitI (fun h=>?_) fun h=>?_ | with_reducible refine splitBI (fun h=>?_) fun h=>?_ | simp (maxSteps:=999999) (disch:=first | assumption | omega | (simp; done) | fail) [Tryd.results125, *]
  exact ⟨Nat.le_succ n,fun b hb=>gput_lt hb⟩
theorem op128 (to out:Int) (p:Nat) (g:Nat→Option Blk) (n:Nat) (op:Nat) (a b:Int) (sv:AV) (hp:g p=some (.cells [.lit (.int .u8 op),.lit (.int .i64 a),.lit (.int .i64 b),sv] true 0)) (hpn:p < n) : WC 6 Tryd.prog 128 [.agg [.lit (.int .i64 to),.lit (.int .i64 out)],.ptr p 0] ⟨.fn g,n⟩ fun r=>r=.ret (.lit (.bool (decide (out=b)))) ⟨.fn g,n⟩:=by
 refine WC.drop1 rfl ?_
 have h1a:allOne [.lit (.int .i64 to),.lit (.int .i64 out)]=true:=by simp
 refine WC.enterP (noO_ok _ _) hG [] Tryd.func128 rfl (by decide +kernel) (Nat.le_of_ble_eq_true (by kernel_rfl)) ?_
 iterate 6 all_goals try first | with_reducible refine splitI (fun h=>?_) fun h=>?_ | with_reducible refine splitBI (fun h=>?_) fun h=>?_ | simp (maxSteps:=999999) (disch:=first | assumption | omega | (simp; done) | fail) [Tryd.results128, *]
 all_goals exact ⟨Nat.le_succ _,fun q hq=>gput_lt hq⟩
theorem edges_gives {M:MachM} {nx:List Nat} {all:Nat} (hMr:∀ r∈M.rows,(r.length:Int)=M.inp) (i:Nat) (hi:(i:Int) < M.inp) (p op:Nat) (a b:Int) (sv:AV) (g:Nat→Option Blk) (n:Nat) (cs:List AV) (hr:GOK g n M nx all cs) (hp:g p=some (.cells [.lit (.int .u8 op),.lit (.int .i64 a),.lit (.int .i64 b),sv] true 0)) (hpn:p < n) :
  WC 6 Tryd.prog 125 [.agg cs,.func (.func 128) [] [.ptr p 0],.lit (.int .i64 i)] ⟨.fn g,n⟩ fun r=>r=.ret (.lit (.int .u64 ((edgesN (fun s=>!decide ((M.edge s i).1 = -1) && decide ((M.edge s i).2=b)) M.gr.n:Nat) : Int))) ⟨.fn g,n⟩:=by
 refine WC.drop1 rfl ?_
 obtain ⟨rv,nv,rfl,h1r,h1v⟩:=hr.one
 have h1a:allOne [.lit (.int .i64 M.inp),.lit (.int .i64 M.out),rv,nv,.lit (.int .u64 (all:Int))]=true:=by simp [h1r,h1v]
 have h64:=hr.grn.n64
 obtain ⟨⟨rv',nv',e1,⟨rv2,svs,e2,hrows,hrv⟩,_⟩,_⟩:=hr
 cases e1
 cases e2
 have hlen:=@lenV Tryd.prog _ _ _ _ _ hrv
 have hsl:=hrows.len
 have hgn:M.gr.n=M.rows.length:=rfl
 have HROW:=Hide.mk hrows
 have HRV:=Hide.mk hrv
 have HMR:=Hide.mk hMr
 generalize hP:(fun s=>!decide ((M.edge s i).1 = -1) && decide ((M.edge s i).2=b))=P
 rw [hgn] at h64 ⊢
 clear hrows hrv hMr hgn
 refine WC.enterP (noO_ok _ _) hG [] Tryd.func125 rfl (by decide +kernel) (Nat.le_of_ble_eq_true (by kernel_rfl)) ?_
 iterate 6 all_goals try first | with_reducible refine splitI (fun h=>?_) fun h=>?_ | with_reducible refine splitBI (fun h=>?_) fun h=>?_ | simp (maxSteps:=999999) (disch:=first | assumption | omega | (simp; done) | fail) [Tryd.results125, *]
 refine LX.ind (fun m gf H'=>∃ (k:Nat),k≤M.rows.length∧m=M.rows.length - k∧H'=⟨.fn (gput g n (some (.cells [.lit (.int .i64 M.inp),.lit (.int .i64 M.out),rv,nv,.lit (.int .u64 (all:Int))] true 0))),n+1⟩ ∧
  gf 1=some (.func (.func 128) [] [.ptr p 0])∧gf 2=some (.lit (.int .i64 i))∧gf 6=some (.lit (.int .u64 ((edgesN P k:Nat) : Int)))∧gf 11=some rv∧gf 12=some (.lit (.int .i64 M.rows.length))∧gf 13=some (.lit (.int .i64 k))) (m0:=M.rows.length) ?_ ?_
 ·exact ⟨0,by omega,rfl,rfl,by simp,by simp,by simp [edgesN],by simp,by simp,by simp⟩
 rintro m gf H' ⟨k,hk,rfl,rfl,w1,w2,w6,w11,w12,w13⟩ ih
 refine LX.roundP (noO_ok _ _) hG [] (by decide +kernel) ?_
 have hal:=edgesN_lt P k (by omega)
 by_cases hlt:k < M.rows.length
 ·have hltI:(k:Int) < (M.rows.length:Int):=by omega
  have hk63:k≤63:=by omega
  have hbk:=bitN_lt hk63
  have hR:=HROW.out.at k hlt (by omega)
  rcases HRV.out with ⟨h1,_⟩ | ⟨a2,off,ha2,hev,hrow⟩
  ·omega
  have hcell:=(hrow.mono (g':=gput g n (some (.cells [.lit (.int .i64 M.inp),.lit (.int .i64 M.out),rv,nv,.lit (.int .u64 (all:Int))] true 0))) (gput_lt ha2)).one (k:=k) (s:=1) (by omega)
  rw [gput_lt ha2] at hcell
  have hPk:P k=(!decide ((M.edge k i).1 = -1) && decide ((M.edge k i).2=b)):=by rw [← hP]
  have hil:=HMR.out _ (List.getElem_mem hlt)
  have hrk:=List.getElem?_eq_getElem hlt
  generalize svs[k]'(by omega)=sv at hR hcell
  have hilt:i < M.rows[k].length:=by omega
  generalize M.rows[k]=row at hR hil hrk hilt
  have hiltI:(i:Int) < (row.length:Int):=by omega
  rcases hR with ⟨h1,_⟩ | ⟨a3,off3,ha3,hev3,hrow3⟩
  ·omega
  have hrow3':=hrow3.mono (g':=gput g n (some (.cells [.lit (.int .i64 M.inp),.lit (.int .i64 M.out),rv,nv,.lit (.int .u64 (all:Int))] true 0))) (gput_lt ha3)
  have hto:=hrow3'.one (k:=i * 2) (s:=1) (by rw [rowC_len]; omega)
  have hagg:=hrow3'.agg (k:=i * 2) (s:=2) (by rw [rowC_len]; omega)
  have hc1:=(rowC_one row i hilt).1
  rw [List.getElem?_eq_getElem (by rw [rowC_len]; omega)] at hc1
  rw [Option.some.inj hc1,gput_lt ha3] at hto
  rw [rowC_at row i hilt,gput_lt ha3] at hagg
  have hed:=edge_at hrk (List.getElem?_eq_getElem hilt)
  generalize row[i]=e at hto hagg hed
  obtain ⟨to,out⟩:=e
  rw [hed] at hPk
  dsimp only at hto hagg hPk
  have HST:Hide (edgesN P (k+1)=if P k=true then orN (edgesN P k) (bitN k) else edgesN P k):=⟨rfl⟩
  have HPK:=Hide.mk hPk
  clear hPk hed hrk hc1 hrow3 hrow3' hrow hP hil
  by_cases ht:to = -1
  ·have hPf:P k=false:=by rw [HPK.out]; simp [ht]
   rw [if_neg (by rw [hPf]; decide)] at HST
   rcases hev with ⟨c2,rfl⟩ | ⟨c2,rfl⟩ <;> rcases hev3 with ⟨c3,rfl⟩ | ⟨c3,rfl⟩
   all_goals
    iterate 6 all_goals try first | with_reducible refine splitI (fun h=>?_) fun h=>?_ | with_reducible refine splitBI (fun h=>?_) fun h=>?_ | simp (maxSteps:=999999) (disch:=first | assumption | omega | (simp; done) | fail) [Tryd.results125, *]
    refine ih.out (M.rows.length - (k+1)) _ _ (by omega) ⟨k+1,by omega,rfl,rfl,by simp [*],by simp [*],?_,by simp [*],by simp [*],by simp⟩
    rw [HST.out]
    simp [*]
  by_cases hob:out=b
  ·have hPt:P k=true:=by rw [HPK.out]; simp [ht,hob]
   rw [if_pos hPt] at HST
   rcases hev with ⟨c2,rfl⟩ | ⟨c2,rfl⟩ <;> rcases hev3 with ⟨c3,rfl⟩ | ⟨c3,rfl⟩
   all_goals
    iterate 6 all_goals try first | with_reducible refine splitI (fun h=>?_) fun h=>?_ | with_reducible refine splitBI (fun h=>?_) fun h=>?_ | simp (maxSteps:=999999) (disch:=first | assumption | omega | (simp; done) | fail) [Tryd.results125, *]
    refine WC.mono (op128 _ _ _ _ _ _ _ _ _ ((gput_lt hpn).trans hp) (by omega)) ?_
    rintro _ rfl
    iterate 6 all_goals try first | with_reducible refine splitI (fun h=>?_) fun h=>?_ | with_reducible refine splitBI (fun h=>?_) fun h=>?_ | simp (maxSteps:=999999) (disch:=first | assumption | omega | (simp; done) | fail) [Tryd.results125, *]
    refine ih.out (M.rows.length - (k+1)) _ _ (by omega) ⟨k+1,by omega,rfl,rfl,by simp [*],by simp [*],?_,by simp [*],by simp [*],by simp⟩
    rw [HST.out]
    simp [*]
  ·have hPt:P k=false:=by rw [HPK.out]; simp [hob]
   rw [if_neg (by rw [hPt]; decide)] at HST
   rcases hev with ⟨c2,rfl⟩ | ⟨c2,rfl⟩ <;> rcases hev3 with ⟨c3,rfl⟩ | ⟨c3,rfl⟩
   all_goals
    iterate 6 all_goals try first | with_reducible refine splitI (fun h=>?_) fun h=>?_ | with_reducible refine splitBI (fun h=>?_) fun h=>?_ | simp (maxSteps:=999999) (disch:=first | assumption | omega | (simp; done) | fail) [Tryd.results125, *]
    refine WC.mono (op128 _ _ _ _ _ _ _ _ _ ((gput_lt hpn).trans hp) (by omega)) ?_
    rintro _ rfl
    iterate 6 all_goals try first | with_reducible refine splitI (fun h=>?_) fun h=>?_ | with_reducible refine splitBI (fun h=>?_) fun h=>?_ | simp (maxSteps:=999999) (disch:=first | assumption | omega | (simp; done) | fail) [Tryd.results125, *]
    refine ih.out (M.rows.length - (k+1)) _ _ (by omega) ⟨k+1,by omega,rfl,rfl,by simp [*],by simp [*],?_,by simp [*],by simp [*],by simp⟩
    rw [HST.out]
    simp [*]
 ·have hltI:¬(k:Int) < (M.rows.length:Int):=by omega
  have hk2:k=M.rows.length:=by omega
  iterate 6 all_goals try first | with_reducible refine splitI (fun h=>?_) fun h=>?_ | with_reducible refine splitBI (fun h=>?_) fun h=>?_ | simp (maxSteps:=999999) (disch:=first | assumption | omega | (simp; done) | fail) [Tryd.results125, *]
  exact ⟨Nat.le_succ n,fun b hb=>gput_lt hb⟩
end Go.Ai
end
section
namespace Go.Ai
open Go.Proofs
set_option maxRecDepth 10000
set_option maxHeartbeats 40000000
variable {M:MachM} {nx:List Nat} {all:Nat}
theorem fE_cong {G:GraphM} (hG:G.ok) {a b a' b' L L' : SetS} (h:IsL G.n (G.fE a b) L) (ha:eqS G.n a a') (hb:eqS G.n b b') (hL:eqS G.n L L') : IsL G.n (G.fE a' b') L':=h.cong (fE_arg ha hb) (fun _ _=>fE_eq hG _ _) hL
theorem fA_cong {G:GraphM} (hG:G.ok) {a b a' b' L L' : SetS} (h:IsL G.n (G.fA a b) L) (ha:eqS G.n a a') (hb:eqS G.n b b') (hL:eqS G.n L L') : IsL G.n (G.fA a' b') L':=h.cong (fA_arg ha hb) (fun _ _=>fA_eq hG _ _) hL
theorem GrN.ndnd {G:GraphM} (h:GrN G nx all) {t:Nat} (ht:t < 18446744073709551616) : eqS G.n (notS (sOf (ndN all t))) (sOf t):=fun s hs=>by
 unfold notS
 rw [h.nd ht s hs]
 unfold notS
 simp
theorem sOf_or (a b:Nat) : sOf (orN a b)=fun s=>sOf a s || sOf b s:=by funext s; exact orN_bit a b s
theorem sOf_and (a b:Nat) : sOf (andN a b)=fun s=>sOf a s && sOf b s:=by funext s; exact andN_bit a b s
theorem sem0_w (op:Nat) (a b:Int) (sv:AV) (ta tb:Nat) (hta:ta < 18446744073709551616) (htb:tb < 18446744073709551616) (h1s:oneC sv=true) (g:Nat→Option Blk) (n:Nat) (cs:List AV) (hr:GOK g n M nx all cs) :
  WC 6 Tryd.prog 122 [.agg cs,.agg [.lit (.int .u8 op),.lit (.int .i64 a),.lit (.int .i64 b),sv],.lit (.int .u64 ta),.lit (.int .u64 tb)] ⟨.fn g,n⟩ fun r=>∃ z:Nat,r=.ret (.lit (.int .u64 (z:Int))) ⟨.fn g,n⟩∧z < 18446744073709551616∧opSem M 0 a b (sOf ta) (sOf tb) (sOf z):=by
 refine WC.mono (WC.drop (K:=fun v=>∃ z:Nat,v=.lit (.int .u64 (z:Int))∧z < 18446744073709551616∧opSem M 0 a b (sOf ta) (sOf tb) (sOf z)) ?_) ?_
 rotate_left
 ·rintro r ⟨v,rfl,z,rfl,h⟩
  exact ⟨z,rfl,h⟩
 obtain ⟨rv,nv,rfl,h1r,h1v⟩:=hr.one
 have h1a:allOne [.lit (.int .i64 M.inp),.lit (.int .i64 M.out),rv,nv,.lit (.int .u64 (all:Int))]=true:=by simp [h1r,h1v]
 have h1x:allOne [.lit (.int .u8 op),.lit (.int .i64 a),.lit (.int .i64 b),sv]=true:=by simp [h1s]
 have HR:=Hide.mk hr
 have HN:=Hide.mk hr.grn
 have HG:=Hide.mk hr.grn.ok
 have halt:=hr.grn.alt
 have hal:=fun t:Nat=>aheadN_lt nx t M.gr.n hr.grn.n64
 have HAL:=Hide.mk hal
 clear hr hal
 have hnd1:=ndN_lt (b:=ta) halt
 have hnd2:=ndN_lt (b:=tb) halt
 have hor:=orN_lt hta htb
 have hno:=ndN_lt (b:=orN ta tb) halt
 refine WC.enterP (noO_ok _ _) hG [] Tryd.func122 rfl (by decide +kernel) (Nat.le_of_ble_eq_true (by kernel_rfl)) ?_
 try simp (maxSteps:=999999) (disch:=first | assumption | omega | (simp; done) | fail) [Tryd.results122, *]
 refine ⟨_,_,⟨rfl,rfl⟩,rfl,⟨?_,fun q hq=>?_⟩,_,rfl,?_,?_⟩
 ·show n≤n+1+1
  omega
 ·show gput _ _ _ _=_
  have hq' : q < n:=hq
  rw [gput_lt (by omega),gput_lt (by omega)]
  rfl
 ·first | assumption | simp [*]
 ·exact HN.out.all_eq
theorem sem1_w (i:Nat) (hi:i < M.gr.n) (op:Nat) (b:Int) (sv:AV) (ta tb:Nat) (hta:ta < 18446744073709551616) (htb:tb < 18446744073709551616) (h1s:oneC sv=true) (g:Nat→Option Blk) (n:Nat) (cs:List AV) (hr:GOK g n M nx all cs) :
  WC 6 Tryd.prog 123 [.agg cs,.agg [.lit (.int .u8 op),.lit (.int .i64 i),.lit (.int .i64 b),sv],.lit (.int .u64 ta),.lit (.int .u64 tb)] ⟨.fn g,n⟩ fun r=>∃ z:Nat,r=.ret (.lit (.int .u64 (z:Int))) ⟨.fn g,n⟩∧z < 18446744073709551616∧opSem M 1 i b (sOf ta) (sOf tb) (sOf z):=by
 refine WC.mono (WC.drop (K:=fun v=>∃ z:Nat,v=.lit (.int .u64 (z:Int))∧z < 18446744073709551616∧opSem M 1 i b (sOf ta) (sOf tb) (sOf z)) ?_) ?_
 rotate_left
 ·rintro r ⟨v,rfl,z,rfl,h⟩
  exact ⟨z,rfl,h⟩
 obtain ⟨rv,nv,rfl,h1r,h1v⟩:=hr.one
 have h1a:allOne [.lit (.int .i64 M.inp),.lit (.int .i64 M.out),rv,nv,.lit (.int .u64 (all:Int))]=true:=by simp [h1r,h1v]
 have h1x:allOne [.lit (.int .u8 op),.lit (.int .i64 i),.lit (.int .i64 b),sv]=true:=by simp [h1s]
 have HR:=Hide.mk hr
 have HN:=Hide.mk hr.grn
 have HG:=Hide.mk hr.grn.ok
 have halt:=hr.grn.alt
 have hal:=fun t:Nat=>aheadN_lt nx t M.gr.n hr.grn.n64
 have HAL:=Hide.mk hal
 clear hr hal
 have hnd1:=ndN_lt (b:=ta) halt
 have hnd2:=ndN_lt (b:=tb) halt
 have hor:=orN_lt hta htb
 have hno:=ndN_lt (b:=orN ta tb) halt
 have hi63:i≤63:=by have:=HN.out.n64; omega
 have hbi:=bitN_lt hi63
 refine WC.enterP (noO_ok _ _) hG [] Tryd.func123 rfl (by decide +kernel) (Nat.le_of_ble_eq_true (by kernel_rfl)) ?_
 try simp (maxSteps:=999999) (disch:=first | assumption | omega | (simp; done) | fail) [Tryd.results123, *]
 refine ⟨_,_,⟨rfl,rfl⟩,rfl,⟨?_,fun q hq=>?_⟩,_,rfl,?_,?_⟩
 ·show n≤n+1+1
  omega
 ·show gput _ _ _ _=_
  have hq' : q < n:=hq
  rw [gput_lt (by omega),gput_lt (by omega)]
  rfl
 ·first | assumption | simp [*]
 ·exact fun s hs=>by show (bitN i).testBit s=decide (((s:Nat) : Int)=(i:Int)); rw [bitN_bit,decide_eq_decide]; omega
theorem sem4_w (op:Nat) (a b:Int) (sv:AV) (ta tb:Nat) (hta:ta < 18446744073709551616) (htb:tb < 18446744073709551616) (h1s:oneC sv=true) (g:Nat→Option Blk) (n:Nat) (cs:List AV) (hr:GOK g n M nx all cs) :
  WC 6 Tryd.prog 129 [.agg cs,.agg [.lit (.int .u8 op),.lit (.int .i64 a),.lit (.int .i64 b),sv],.lit (.int .u64 ta),.lit (.int .u64 tb)] ⟨.fn g,n⟩ fun r=>∃ z:Nat,r=.ret (.lit (.int .u64 (z:Int))) ⟨.fn g,n⟩∧z < 18446744073709551616∧opSem M 4 a b (sOf ta) (sOf tb) (sOf z):=by
 refine WC.mono (WC.drop (K:=fun v=>∃ z:Nat,v=.lit (.int .u64 (z:Int))∧z < 18446744073709551616∧opSem M 4 a b (sOf ta) (sOf tb) (sOf z)) ?_) ?_
 rotate_left
 ·rintro r ⟨v,rfl,z,rfl,h⟩
  exact ⟨z,rfl,h⟩
 obtain ⟨rv,nv,rfl,h1r,h1v⟩:=hr.one
 have h1a:allOne [.lit (.int .i64 M.inp),.lit (.int .i64 M.out),rv,nv,.lit (.int .u64 (all:Int))]=true:=by simp [h1r,h1v]
 have h1x:allOne [.lit (.int .u8 op),.lit (.int .i64 a),.lit (.int .i64 b),sv]=true:=by simp [h1s]
 have HR:=Hide.mk hr
 have HN:=Hide.mk hr.grn
 have HG:=Hide.mk hr.grn.ok
 have halt:=hr.grn.alt
 have hal:=fun t:Nat=>aheadN_lt nx t M.gr.n hr.grn.n64
 have HAL:=Hide.mk hal
 clear hr hal
 have hnd1:=ndN_lt (b:=ta) halt
 have hnd2:=ndN_lt (b:=tb) halt
 have hor:=orN_lt hta htb
 have hno:=ndN_lt (b:=orN ta tb) halt
 refine WC.enterP (noO_ok _ _) hG [] Tryd.func129 rfl (by decide +kernel) (Nat.le_of_ble_eq_true (by kernel_rfl)) ?_
 try simp (maxSteps:=999999) (disch:=first | assumption | omega | (simp; done) | fail) [Tryd.results129, *]
 refine ⟨_,_,⟨rfl,rfl⟩,rfl,⟨?_,fun q hq=>?_⟩,_,rfl,?_,?_⟩
 ·show n≤n+1+1
  omega
 ·show gput _ _ _ _=_
  have hq' : q < n:=hq
  rw [gput_lt (by omega),gput_lt (by omega)]
  rfl
 ·first | assumption | simp [*]
 ·exact HN.out.nd hta
theorem sem5_w (op:Nat) (a b:Int) (sv:AV) (ta tb:Nat) (hta:ta < 18446744073709551616) (htb:tb < 18446744073709551616) (h1s:oneC sv=true) (g:Nat→Option Blk) (n:Nat) (cs:List AV) (hr:GOK g n M nx all cs) :
  WC 6 Tryd.prog 130 [.agg cs,.agg [.lit (.int .u8 op),.lit (.int .i64 a),.lit (.int .i64 b),sv],.lit (.int .u64 ta),.lit (.int .u64 tb)] ⟨.fn g,n⟩ fun r=>∃ z:Nat,r=.ret (.lit (.int .u64 (z:Int))) ⟨.fn g,n⟩∧z < 18446744073709551616∧opSem M 5 a b (sOf ta) (sOf tb) (sOf z):=by
 refine WC.mono (WC.drop (K:=fun v=>∃ z:Nat,v=.lit (.int .u64 (z:Int))∧z < 18446744073709551616∧opSem M 5 a b (sOf ta) (sOf tb) (sOf z)) ?_) ?_
 rotate_left
 ·rintro r ⟨v,rfl,z,rfl,h⟩
  exact ⟨z,rfl,h⟩
 obtain ⟨rv,nv,rfl,h1r,h1v⟩:=hr.one
 have h1a:allOne [.lit (.int .i64 M.inp),.lit (.int .i64 M.out),rv,nv,.lit (.int .u64 (all:Int))]=true:=by simp [h1r,h1v]
 have h1x:allOne [.lit (.int .u8 op),.lit (.int .i64 a),.lit (.int .i64 b),sv]=true:=by simp [h1s]
 have HR:=Hide.mk hr
 have HN:=Hide.mk hr.grn
 have HG:=Hide.mk hr.grn.ok
 have halt:=hr.grn.alt
 have hal:=fun t:Nat=>aheadN_lt nx t M.gr.n hr.grn.n64
 have HAL:=Hide.mk hal
 clear hr hal
 have hnd1:=ndN_lt (b:=ta) halt
 have hnd2:=ndN_lt (b:=tb) halt
 have hor:=orN_lt hta htb
 have hno:=ndN_lt (b:=orN ta tb) halt
 refine WC.enterP (noO_ok _ _) hG [] Tryd.func130 rfl (by decide +kernel) (Nat.le_of_ble_eq_true (by kernel_rfl)) ?_
 try simp (maxSteps:=999999) (disch:=first | assumption | omega | (simp; done) | fail) [Tryd.results130, *]
 refine ⟨_,_,⟨rfl,rfl⟩,rfl,⟨?_,fun q hq=>?_⟩,_,rfl,?_,?_⟩
 ·show n≤n+1+1
  omega
 ·show gput _ _ _ _=_
  have hq' : q < n:=hq
  rw [gput_lt (by omega),gput_lt (by omega)]
  rfl
 ·first | assumption | simp [*]
 ·rw [sOf_and]; exact eqS.refl _ _
theorem sem6_w (op:Nat) (a b:Int) (sv:AV) (ta tb:Nat) (hta:ta < 18446744073709551616) (htb:tb < 18446744073709551616) (h1s:oneC sv=true) (g:Nat→Option Blk) (n:Nat) (cs:List AV) (hr:GOK g n M nx all cs) :
  WC 6 Tryd.prog 131 [.agg cs,.agg [.lit (.int .u8 op),.lit (.int .i64 a),.lit (.int .i64 b),sv],.lit (.int .u64 ta),.lit (.int .u64 tb)] ⟨.fn g,n⟩ fun r=>∃ z:Nat,r=.ret (.lit (.int .u64 (z:Int))) ⟨.fn g,n⟩∧z < 18446744073709551616∧opSem M 6 a b (sOf ta) (sOf tb) (sOf z):=by
 refine WC.mono (WC.drop (K:=fun v=>∃ z:Nat,v=.lit (.int .u64 (z:Int))∧z < 18446744073709551616∧opSem M 6 a b (sOf ta) (sOf tb) (sOf z)) ?_) ?_
 rotate_left
 ·rintro r ⟨v,rfl,z,rfl,h⟩
  exact ⟨z,rfl,h⟩
 obtain ⟨rv,nv,rfl,h1r,h1v⟩:=hr.one
 have h1a:allOne [.lit (.int .i64 M.inp),.lit (.int .i64 M.out),rv,nv,.lit (.int .u64 (all:Int))]=true:=by simp [h1r,h1v]
 have h1x:allOne [.lit (.int .u8 op),.lit (.int .i64 a),.lit (.int .i64 b),sv]=true:=by simp [h1s]
 have HR:=Hide.mk hr
 have HN:=Hide.mk hr.grn
 have HG:=Hide.mk hr.grn.ok
 have halt:=hr.grn.alt
 have hal:=fun t:Nat=>aheadN_lt nx t M.gr.n hr.grn.n64
 have HAL:=Hide.mk hal
 clear hr hal
 have hnd1:=ndN_lt (b:=ta) halt
 have hnd2:=ndN_lt (b:=tb) halt
 have hor:=orN_lt hta htb
 have hno:=ndN_lt (b:=orN ta tb) halt
 refine WC.enterP (noO_ok _ _) hG [] Tryd.func131 rfl (by decide +kernel) (Nat.le_of_ble_eq_true (by kernel_rfl)) ?_
 try simp (maxSteps:=999999) (disch:=first | assumption | omega | (simp; done) | fail) [Tryd.results131, *]
 refine ⟨_,_,⟨rfl,rfl⟩,rfl,⟨?_,fun q hq=>?_⟩,_,rfl,?_,?_⟩
 ·show n≤n+1+1
  omega
 ·show gput _ _ _ _=_
  have hq' : q < n:=hq
  rw [gput_lt (by omega),gput_lt (by omega)]
  rfl
 ·first | assumption | simp [*]
 ·rw [sOf_or]; exact eqS.refl _ _
theorem sem7_w (op:Nat) (a b:Int) (sv:AV) (ta tb:Nat) (hta:ta < 18446744073709551616) (htb:tb < 18446744073709551616) (h1s:oneC sv=true) (g:Nat→Option Blk) (n:Nat) (cs:List AV) (hr:GOK g n M nx all cs) :
  WC 6 Tryd.prog 132 [.agg cs,.agg [.lit (.int .u8 op),.lit (.int .i64 a),.lit (.int .i64 b),sv],.lit (.int .u64 ta),.lit (.int .u64 tb)] ⟨.fn g,n⟩ fun r=>∃ z:Nat,r=.ret (.lit (.int .u64 (z:Int))) ⟨.fn g,n⟩∧z < 18446744073709551616∧opSem M 7 a b (sOf ta) (sOf tb) (sOf z):=by
 refine WC.mono (WC.drop (K:=fun v=>∃ z:Nat,v=.lit (.int .u64 (z:Int))∧z < 18446744073709551616∧opSem M 7 a b (sOf ta) (sOf tb) (sOf z)) ?_) ?_
 rotate_left
 ·rintro r ⟨v,rfl,z,rfl,h⟩
  exact ⟨z,rfl,h⟩
 obtain ⟨rv,nv,rfl,h1r,h1v⟩:=hr.one
 have h1a:allOne [.lit (.int .i64 M.inp),.lit (.int .i64 M.out),rv,nv,.lit (.int .u64 (all:Int))]=true:=by simp [h1r,h1v]
 have h1x:allOne [.lit (.int .u8 op),.lit (.int .i64 a),.lit (.int .i64 b),sv]=true:=by simp [h1s]
 have HR:=Hide.mk hr
 have HN:=Hide.mk hr.grn
 have HG:=Hide.mk hr.grn.ok
 have halt:=hr.grn.alt
 have hal:=fun t:Nat=>aheadN_lt nx t M.gr.n hr.grn.n64
 have HAL:=Hide.mk hal
 clear hr hal
 have hnd1:=ndN_lt (b:=ta) halt
 have hnd2:=ndN_lt (b:=tb) halt
 have hor:=orN_lt hta htb
 have hno:=ndN_lt (b:=orN ta tb) halt
 refine WC.enterP (noO_ok _ _) hG [] Tryd.func132 rfl (by decide +kernel) (Nat.le_of_ble_eq_true (by kernel_rfl)) ?_
 try simp (maxSteps:=999999) (disch:=first | assumption | omega | (simp; done) | fail) [Tryd.results132, *]
 refine WC.mono (aheadG_w ta hta _ _ _ (HR.out.mono (by omega) fun q hq=>(by simp (disch:=omega) only [gput_lt]))) ?_
 rintro _ rfl
 try simp (maxSteps:=999999) (disch:=first | assumption | omega | (simp; done) | fail) [Tryd.results132, *]
 have hq:=HAL.out ta
 refine ⟨_,_,⟨rfl,rfl⟩,rfl,⟨?_,fun q hq=>?_⟩,_,rfl,?_,?_⟩
 ·show n≤n+1+1
  omega
 ·show gput _ _ _ _=_
  have hq' : q < n:=hq
  rw [gput_lt (by omega),gput_lt (by omega)]
  rfl
 ·first | assumption | simp [*]
 ·exact HN.out.ahead ta
theorem sem8_w (op:Nat) (a b:Int) (sv:AV) (ta tb:Nat) (hta:ta < 18446744073709551616) (htb:tb < 18446744073709551616) (h1s:oneC sv=true) (g:Nat→Option Blk) (n:Nat) (cs:List AV) (hr:GOK g n M nx all cs) :
  WC 6 Tryd.prog 133 [.agg cs,.agg [.lit (.int .u8 op),.lit (.int .i64 a),.lit (.int .i64 b),sv],.lit (.int .u64 ta),.lit (.int .u64 tb)] ⟨.fn g,n⟩ fun r=>∃ z:Nat,r=.ret (.lit (.int .u64 (z:Int))) ⟨.fn g,n⟩∧z < 18446744073709551616∧opSem M 8 a b (sOf ta) (sOf tb) (sOf z):=by
 refine WC.mono (WC.drop (K:=fun v=>∃ z:Nat,v=.lit (.int .u64 (z:Int))∧z < 18446744073709551616∧opSem M 8 a b (sOf ta) (sOf tb) (sOf z)) ?_) ?_
 rotate_left
 ·rintro r ⟨v,rfl,z,rfl,h⟩
  exact ⟨z,rfl,h⟩
 obtain ⟨rv,nv,rfl,h1r,h1v⟩:=hr.one
 have h1a:allOne [.lit (.int .i64 M.inp),.lit (.int .i64 M.out),rv,nv,.lit (.int .u64 (all:Int))]=true:=by simp [h1r,h1v]
 have h1x:allOne [.lit (.int .u8 op),.lit (.int .i64 a),.lit (.int .i64 b),sv]=true:=by simp [h1s]
 have HR:=Hide.mk hr
 have HN:=Hide.mk hr.grn
 have HG:=Hide.mk hr.grn.ok
 have halt:=hr.grn.alt
 have hal:=fun t:Nat=>aheadN_lt nx t M.gr.n hr.grn.n64
 have HAL:=Hide.mk hal
 clear hr hal
 have hnd1:=ndN_lt (b:=ta) halt
 have hnd2:=ndN_lt (b:=tb) halt
 have hor:=orN_lt hta htb
 have hno:=ndN_lt (b:=orN ta tb) halt
 refine WC.enterP (noO_ok _ _) hG [] Tryd.func133 rfl (by decide +kernel) (Nat.le_of_ble_eq_true (by kernel_rfl)) ?_
 try simp (maxSteps:=999999) (disch:=first | assumption | omega | (simp; done) | fail) [Tryd.results133, *]
 refine WC.mono (until_w all ta halt hta _ _ _ (HR.out.mono (by omega) fun q hq=>(by simp (disch:=omega) only [gput_lt]))) ?_
 rintro _ ⟨q,rfl,hq,HL⟩
 try simp (maxSteps:=999999) (disch:=first | assumption | omega | (simp; done) | fail) [Tryd.results133, *]
 refine ⟨_,_,⟨rfl,rfl⟩,rfl,⟨?_,fun q hq=>?_⟩,_,rfl,?_,?_⟩
 ·show n≤n+1+1
  omega
 ·show gput _ _ _ _=_
  have hq' : q < n:=hq
  rw [gput_lt (by omega),gput_lt (by omega)]
  rfl
 ·first | assumption | simp [*]
 ·exact fE_cong HG.out HL HN.out.all_eq (eqS.refl _ _) (eqS.refl _ _)
theorem sem9_w (op:Nat) (a b:Int) (sv:AV) (ta tb:Nat) (hta:ta < 18446744073709551616) (htb:tb < 18446744073709551616) (h1s:oneC sv=true) (g:Nat→Option Blk) (n:Nat) (cs:List AV) (hr:GOK g n M nx all cs) :
  WC 6 Tryd.prog 135 [.agg cs,.agg [.lit (.int .u8 op),.lit (.int .i64 a),.lit (.int .i64 b),sv],.lit (.int .u64 ta),.lit (.int .u64 tb)] ⟨.fn g,n⟩ fun r=>∃ z:Nat,r=.ret (.lit (.int .u64 (z:Int))) ⟨.fn g,n⟩∧z < 18446744073709551616∧opSem M 9 a b (sOf ta) (sOf tb) (sOf z):=by
 refine WC.mono (WC.drop (K:=fun v=>∃ z:Nat,v=.lit (.int .u64 (z:Int))∧z < 18446744073709551616∧opSem M 9 a b (sOf ta) (sOf tb) (sOf z)) ?_) ?_
 rotate_left
 ·rintro r ⟨v,rfl,z,rfl,h⟩
  exact ⟨z,rfl,h⟩
 obtain ⟨rv,nv,rfl,h1r,h1v⟩:=hr.one
 have h1a:allOne [.lit (.int .i64 M.inp),.lit (.int .i64 M.out),rv,nv,.lit (.int .u64 (all:Int))]=true:=by simp [h1r,h1v]
 have h1x:allOne [.lit (.int .u8 op),.lit (.int .i64 a),.lit (.int .i64 b),sv]=true:=by simp [h1s]
 have HR:=Hide.mk hr
 have HN:=Hide.mk hr.grn
 have HG:=Hide.mk hr.grn.ok
 have halt:=hr.grn.alt
 have hal:=fun t:Nat=>aheadN_lt nx t M.gr.n hr.grn.n64
 have HAL:=Hide.mk hal
 clear hr hal
 have hnd1:=ndN_lt (b:=ta) halt
 have hnd2:=ndN_lt (b:=tb) halt
 have hor:=orN_lt hta htb
 have hno:=ndN_lt (b:=orN ta tb) halt
 refine WC.enterP (noO_ok _ _) hG [] Tryd.func135 rfl (by decide +kernel) (Nat.le_of_ble_eq_true (by kernel_rfl)) ?_
 try simp (maxSteps:=999999) (disch:=first | assumption | omega | (simp; done) | fail) [Tryd.results135, *]
 refine WC.mono (always_w ta hta _ _ _ (HR.out.mono (by omega) fun q hq=>(by simp (disch:=omega) only [gput_lt]))) ?_
 rintro _ ⟨q,rfl,hq,HL⟩
 try simp (maxSteps:=999999) (disch:=first | assumption | omega | (simp; done) | fail) [Tryd.results135, *]
 refine ⟨_,_,⟨rfl,rfl⟩,rfl,⟨?_,fun q hq=>?_⟩,_,rfl,?_,?_⟩
 ·show n≤n+1+1
  omega
 ·show gput _ _ _ _=_
  have hq' : q < n:=hq
  rw [gput_lt (by omega),gput_lt (by omega)]
  rfl
 ·first | assumption | simp [*]
 ·exact HL
theorem sem10_w (op:Nat) (a b:Int) (sv:AV) (ta tb:Nat) (hta:ta < 18446744073709551616) (htb:tb < 18446744073709551616) (h1s:oneC sv=true) (g:Nat→Option Blk) (n:Nat) (cs:List AV) (hr:GOK g n M nx all cs) :
  WC 6 Tryd.prog 137 [.agg cs,.agg [.lit (.int .u8 op),.lit (.int .i64 a),.lit (.int .i64 b),sv],.lit (.int .u64 ta),.lit (.int .u64 tb)] ⟨.fn g,n⟩ fun r=>∃ z:Nat,r=.ret (.lit (.int .u64 (z:Int))) ⟨.fn g,n⟩∧z < 18446744073709551616∧opSem M 10 a b (sOf ta) (sOf tb) (sOf z):=by
 refine WC.mono (WC.drop (K:=fun v=>∃ z:Nat,v=.lit (.int .u64 (z:Int))∧z < 18446744073709551616∧opSem M 10 a b (sOf ta) (sOf tb) (sOf z)) ?_) ?_
 rotate_left
 ·rintro r ⟨v,rfl,z,rfl,h⟩
  exact ⟨z,rfl,h⟩
 obtain ⟨rv,nv,rfl,h1r,h1v⟩:=hr.one
 have h1a:allOne [.lit (.int .i64 M.inp),.lit (.int .i64 M.out),rv,nv,.lit (.int .u64 (all:Int))]=true:=by simp [h1r,h1v]
 have h1x:allOne [.lit (.int .u8 op),.lit (.int .i64 a),.lit (.int .i64 b),sv]=true:=by simp [h1s]
 have HR:=Hide.mk hr
 have HN:=Hide.mk hr.grn
 have HG:=Hide.mk hr.grn.ok
 have halt:=hr.grn.alt
 have hal:=fun t:Nat=>aheadN_lt nx t M.gr.n hr.grn.n64
 have HAL:=Hide.mk hal
 clear hr hal
 have hnd1:=ndN_lt (b:=ta) halt
 have hnd2:=ndN_lt (b:=tb) halt
 have hor:=orN_lt hta htb
 have hno:=ndN_lt (b:=orN ta tb) halt
 refine WC.enterP (noO_ok _ _) hG [] Tryd.func137 rfl (by decide +kernel) (Nat.le_of_ble_eq_true (by kernel_rfl)) ?_
 try simp (maxSteps:=999999) (disch:=first | assumption | omega | (simp; done) | fail) [Tryd.results137, *]
 refine WC.mono (until_w ta tb hta htb _ _ _ (HR.out.mono (by omega) fun q hq=>(by simp (disch:=omega) only [gput_lt]))) ?_
 rintro _ ⟨q,rfl,hq,HL⟩
 try simp (maxSteps:=999999) (disch:=first | assumption | omega | (simp; done) | fail) [Tryd.results137, *]
 refine ⟨_,_,⟨rfl,rfl⟩,rfl,⟨?_,fun q hq=>?_⟩,_,rfl,?_,?_⟩
 ·show n≤n+1+1
  omega
 ·show gput _ _ _ _=_
  have hq' : q < n:=hq
  rw [gput_lt (by omega),gput_lt (by omega)]
  rfl
 ·first | assumption | simp [*]
 ·exact HL
theorem sem11_w (op:Nat) (a b:Int) (sv:AV) (ta tb:Nat) (hta:ta < 18446744073709551616) (htb:tb < 18446744073709551616) (h1s:oneC sv=true) (g:Nat→Option Blk) (n:Nat) (cs:List AV) (hr:GOK g n M nx all cs) :
  WC 6 Tryd.prog 138 [.agg cs,.agg [.lit (.int .u8 op),.lit (.int .i64 a),.lit (.int .i64 b),sv],.lit (.int .u64 ta),.lit (.int .u64 tb)] ⟨.fn g,n⟩ fun r=>∃ z:Nat,r=.ret (.lit (.int .u64 (z:Int))) ⟨.fn g,n⟩∧z < 18446744073709551616∧opSem M 11 a b (sOf ta) (sOf tb) (sOf z):=by
 refine WC.mono (WC.drop (K:=fun v=>∃ z:Nat,v=.lit (.int .u64 (z:Int))∧z < 18446744073709551616∧opSem M 11 a b (sOf ta) (sOf tb) (sOf z)) ?_) ?_
 rotate_left
 ·rintro r ⟨v,rfl,z,rfl,h⟩
  exact ⟨z,rfl,h⟩
 obtain ⟨rv,nv,rfl,h1r,h1v⟩:=hr.one
 have h1a:allOne [.lit (.int .i64 M.inp),.lit (.int .i64 M.out),rv,nv,.lit (.int .u64 (all:Int))]=true:=by simp [h1r,h1v]
 have h1x:allOne [.lit (.int .u8 op),.lit (.int .i64 a),.lit (.int .i64 b),sv]=true:=by simp [h1s]
 have HR:=Hide.mk hr
 have HN:=Hide.mk hr.grn
 have HG:=Hide.mk hr.grn.ok
 have halt:=hr.grn.alt
 have hal:=fun t:Nat=>aheadN_lt nx t M.gr.n hr.grn.n64
 have HAL:=Hide.mk hal
 clear hr hal
 have hnd1:=ndN_lt (b:=ta) halt
 have hnd2:=ndN_lt (b:=tb) halt
 have hor:=orN_lt hta htb
 have hno:=ndN_lt (b:=orN ta tb) halt
 refine WC.enterP (noO_ok _ _) hG pl138 Tryd.func138 rfl (by decide +kernel) (Nat.le_of_ble_eq_true (by kernel_rfl)) ?_
 try simp (maxSteps:=999999) (disch:=first | assumption | omega | (simp; done) | fail) [Tryd.results138, *]
 have hnd:=ndN_lt (b:=ta) halt
 refine WC.mono (aheadG_w (ndN all ta) hnd _ _ _ (HR.out.mono (by omega) fun q hq=>(by simp (disch:=omega) only [gput_lt]))) ?_
 rintro _ rfl
 have hq:=HAL.out (ndN all ta)
 have hz:=ndN_lt (b:=aheadN nx (ndN all ta) M.gr.n) halt
 try simp (maxSteps:=999999) (disch:=first | assumption | omega | (simp; done) | fail) [Tryd.results138, *]
 refine ⟨_,_,⟨rfl,rfl⟩,rfl,⟨?_,fun q hq=>?_⟩,_,rfl,?_,?_⟩
 ·show n≤n+1+1
  omega
 ·show gput _ _ _ _=_
  have hq' : q < n:=hq
  rw [gput_lt (by omega),gput_lt (by omega)]
  rfl
 ·first | assumption | simp [*]
 ·intro s hs
  rw [HN.out.nd hq s hs]
  unfold notS
  rw [HN.out.ahead (ndN all ta) s hs,pre_eq HG.out (HN.out.nd hta) s hs,not_pre]
  simp
theorem sem12_w (op:Nat) (a b:Int) (sv:AV) (ta tb:Nat) (hta:ta < 18446744073709551616) (htb:tb < 18446744073709551616) (h1s:oneC sv=true) (g:Nat→Option Blk) (n:Nat) (cs:List AV) (hr:GOK g n M nx all cs) :
  WC 6 Tryd.prog 139 [.agg cs,.agg [.lit (.int .u8 op),.lit (.int .i64 a),.lit (.int .i64 b),sv],.lit (.int .u64 ta),.lit (.int .u64 tb)] ⟨.fn g,n⟩ fun r=>∃ z:Nat,r=.ret (.lit (.int .u64 (z:Int))) ⟨.fn g,n⟩∧z < 18446744073709551616∧opSem M 12 a b (sOf ta) (sOf tb) (sOf z):=by
 refine WC.mono (WC.drop (K:=fun v=>∃ z:Nat,v=.lit (.int .u64 (z:Int))∧z < 18446744073709551616∧opSem M 12 a b (sOf ta) (sOf tb) (sOf z)) ?_) ?_
 rotate_left
 ·rintro r ⟨v,rfl,z,rfl,h⟩
  exact ⟨z,rfl,h⟩
 obtain ⟨rv,nv,rfl,h1r,h1v⟩:=hr.one
 have h1a:allOne [.lit (.int .i64 M.inp),.lit (.int .i64 M.out),rv,nv,.lit (.int .u64 (all:Int))]=true:=by simp [h1r,h1v]
 have h1x:allOne [.lit (.int .u8 op),.lit (.int .i64 a),.lit (.int .i64 b),sv]=true:=by simp [h1s]
 have HR:=Hide.mk hr
 have HN:=Hide.mk hr.grn
 have HG:=Hide.mk hr.grn.ok
 have halt:=hr.grn.alt
 have hal:=fun t:Nat=>aheadN_lt nx t M.gr.n hr.grn.n64
 have HAL:=Hide.mk hal
 clear hr hal
 have hnd1:=ndN_lt (b:=ta) halt
 have hnd2:=ndN_lt (b:=tb) halt
 have hor:=orN_lt hta htb
 have hno:=ndN_lt (b:=orN ta tb) halt
 refine WC.enterP (noO_ok _ _) hG pl139 Tryd.func139 rfl (by decide +kernel) (Nat.le_of_ble_eq_true (by kernel_rfl)) ?_
 try simp (maxSteps:=999999) (disch:=first | assumption | omega | (simp; done) | fail) [Tryd.results139, *]
 have hnd:=ndN_lt (b:=ta) halt
 refine WC.mono (always_w (ndN all ta) hnd _ _ _ (HR.out.mono (by omega) fun q hq=>(by simp (disch:=omega) only [gput_lt]))) ?_
 rintro _ ⟨q,rfl,hq,HL⟩
 have hz:=ndN_lt (b:=q) halt
 try simp (maxSteps:=999999) (disch:=first | assumption | omega | (simp; done) | fail) [Tryd.results139, *]
 refine ⟨_,_,⟨rfl,rfl⟩,rfl,⟨?_,fun q hq=>?_⟩,_,rfl,?_,?_⟩
 ·show n≤n+1+1
  omega
 ·show gput _ _ _ _=_
  have hq' : q < n:=hq
  rw [gput_lt (by omega),gput_lt (by omega)]
  rfl
 ·first | assumption | simp [*]
 ·exact fA_cong HG.out HL (eqS.refl _ _) (HN.out.ndnd hta) (HN.out.nd hq).symm
theorem sem13_w (op:Nat) (a b:Int) (sv:AV) (ta tb:Nat) (hta:ta < 18446744073709551616) (htb:tb < 18446744073709551616) (h1s:oneC sv=true) (g:Nat→Option Blk) (n:Nat) (cs:List AV) (hr:GOK g n M nx all cs) :
  WC 6 Tryd.prog 140 [.agg cs,.agg [.lit (.int .u8 op),.lit (.int .i64 a),.lit (.int .i64 b),sv],.lit (.int .u64 ta),.lit (.int .u64 tb)] ⟨.fn g,n⟩ fun r=>∃ z:Nat,r=.ret (.lit (.int .u64 (z:Int))) ⟨.fn g,n⟩∧z < 18446744073709551616∧opSem M 13 a b (sOf ta) (sOf tb) (sOf z):=by
 refine WC.mono (WC.drop (K:=fun v=>∃ z:Nat,v=.lit (.int .u64 (z:Int))∧z < 18446744073709551616∧opSem M 13 a b (sOf ta) (sOf tb) (sOf z)) ?_) ?_
 rotate_left
 ·rintro r ⟨v,rfl,z,rfl,h⟩
  exact ⟨z,rfl,h⟩
 obtain ⟨rv,nv,rfl,h1r,h1v⟩:=hr.one
 have h1a:allOne [.lit (.int .i64 M.inp),.lit (.int .i64 M.out),rv,nv,.lit (.int .u64 (all:Int))]=true:=by simp [h1r,h1v]
 have h1x:allOne [.lit (.int .u8 op),.lit (.int .i64 a),.lit (.int .i64 b),sv]=true:=by simp [h1s]
 have HR:=Hide.mk hr
 have HN:=Hide.mk hr.grn
 have HG:=Hide.mk hr.grn.ok
 have halt:=hr.grn.alt
 have hal:=fun t:Nat=>aheadN_lt nx t M.gr.n hr.grn.n64
 have HAL:=Hide.mk hal
 clear hr hal
 have hnd1:=ndN_lt (b:=ta) halt
 have hnd2:=ndN_lt (b:=tb) halt
 have hor:=orN_lt hta htb
 have hno:=ndN_lt (b:=orN ta tb) halt
 refine WC.enterP (noO_ok _ _) hG pl140 Tryd.func140 rfl (by decide +kernel) (Nat.le_of_ble_eq_true (by kernel_rfl)) ?_
 try simp (maxSteps:=999999) (disch:=first | assumption | omega | (simp; done) | fail) [Tryd.results140, *]
 have hnd:=ndN_lt (b:=ta) halt
 refine WC.mono (until_w all (ndN all ta) halt hnd _ _ _ (HR.out.mono (by omega) fun q hq=>(by simp (disch:=omega) only [gput_lt]))) ?_
 rintro _ ⟨q,rfl,hq,HL⟩
 have hz:=ndN_lt (b:=q) halt
 try simp (maxSteps:=999999) (disch:=first | assumption | omega | (simp; done) | fail) [Tryd.results140, *]
 refine ⟨_,_,⟨rfl,rfl⟩,rfl,⟨?_,fun q hq=>?_⟩,_,rfl,?_,?_⟩
 ·show n≤n+1+1
  omega
 ·show gput _ _ _ _=_
  have hq' : q < n:=hq
  rw [gput_lt (by omega),gput_lt (by omega)]
  rfl
 ·first | assumption | simp [*]
 ·exact fE_cong HG.out HL HN.out.all_eq (HN.out.nd hta) (HN.out.ndnd hq).symm
theorem sem14_w (op:Nat) (a b:Int) (sv:AV) (ta tb:Nat) (hta:ta < 18446744073709551616) (htb:tb < 18446744073709551616) (h1s:oneC sv=true) (g:Nat→Option Blk) (n:Nat) (cs:List AV) (hr:GOK g n M nx all cs) :
  WC 6 Tryd.prog 141 [.agg cs,.agg [.lit (.int .u8 op),.lit (.int .i64 a),.lit (.int .i64 b),sv],.lit (.int .u64 ta),.lit (.int .u64 tb)] ⟨.fn g,n⟩ fun r=>∃ z:Nat,r=.ret (.lit (.int .u64 (z:Int))) ⟨.fn g,n⟩∧z < 18446744073709551616∧opSem M 14 a b (sOf ta) (sOf tb) (sOf z):=by
 refine WC.mono (WC.drop (K:=fun v=>∃ z:Nat,v=.lit (.int .u64 (z:Int))∧z < 18446744073709551616∧opSem M 14 a b (sOf ta) (sOf tb) (sOf z)) ?_) ?_
 rotate_left
 ·rintro r ⟨v,rfl,z,rfl,h⟩
  exact ⟨z,rfl,h⟩
 obtain ⟨rv,nv,rfl,h1r,h1v⟩:=hr.one
 have h1a:allOne [.lit (.int .i64 M.inp),.lit (.int .i64 M.out),rv,nv,.lit (.int .u64 (all:Int))]=true:=by simp [h1r,h1v]
 have h1x:allOne [.lit (.int .u8 op),.lit (.int .i64 a),.lit (.int .i64 b),sv]=true:=by simp [h1s]
 have HR:=Hide.mk hr
 have HN:=Hide.mk hr.grn
 have HG:=Hide.mk hr.grn.ok
 have halt:=hr.grn.alt
 have hal:=fun t:Nat=>aheadN_lt nx t M.gr.n hr.grn.n64
 have HAL:=Hide.mk hal
 clear hr hal
 have hnd1:=ndN_lt (b:=ta) halt
 have hnd2:=ndN_lt (b:=tb) halt
 have hor:=orN_lt hta htb
 have hno:=ndN_lt (b:=orN ta tb) halt
 refine WC.enterP (noO_ok _ _) hG pl141 Tryd.func141 rfl (by decide +kernel) (Nat.le_of_ble_eq_true (by kernel_rfl)) ?_
 try simp (maxSteps:=999999) (disch:=first | assumption | omega | (simp; done) | fail) [Tryd.results141, *]
 have hnd:=ndN_lt (b:=tb) halt
 have hor:=orN_lt hta htb
 have hno:=ndN_lt (b:=orN ta tb) halt
 refine WC.mono (always_w (ndN all tb) hnd _ _ _ (HR.out.mono (by omega) fun q hq=>(by simp (disch:=omega) only [gput_lt]))) ?_
 rintro _ ⟨p,rfl,hp,ha0⟩
 have HA:=Hide.mk ha0
 clear ha0
 try simp (maxSteps:=999999) (disch:=first | assumption | omega | (simp; done) | fail) [Tryd.results141, *]
 refine WC.mono (until_w (ndN all tb) (ndN all (orN ta tb)) hnd hno _ _ _ (HR.out.mono (by omega) fun q hq=>(by simp (disch:=omega) only [gput_lt]))) ?_
 rintro _ ⟨q,rfl,hq,he0⟩
 have HE:=Hide.mk he0
 clear he0
 have hpq:=orN_lt hp hq
 have hz:=ndN_lt (b:=orN p q) halt
 try simp (maxSteps:=999999) (disch:=first | assumption | omega | (simp; done) | fail) [Tryd.results141, *]
 refine ⟨_,_,⟨rfl,rfl⟩,rfl,⟨?_,fun q hq=>?_⟩,_,rfl,?_,?_⟩
 ·show n≤n+1+1
  omega
 ·show gput _ _ _ _=_
  have hq' : q < n:=hq
  rw [gput_lt (by omega),gput_lt (by omega)]
  rfl
 ·first | assumption | simp [*]
 ·have hL:=iter_lfp (n:=M.gr.n) (F:=M.gr.fA (sOf ta) (sOf tb)) (fun X Y=>M.gr.fA_mono HG.out _ _)
  have hA:=fA_cong HG.out HA.out (eqS.refl _ _) (HN.out.ndnd htb) (eqS.refl _ _)
  have hE:=fE_cong HG.out HE.out (HN.out.nd htb) (HN.out.nd hor) (eqS.refl _ _)
  rw [sOf_or] at hE
  have h1:=until_all HG.out hL hA hE
  refine fA_cong HG.out hL (eqS.refl _ _) (eqS.refl _ _) fun s hs=>?_
  rw [h1 s hs,HN.out.nd hpq s hs,sOf_or]
  show (!sOf p s && !sOf q s) = !(sOf p s || sOf q s)
  cases sOf p s <;> cases sOf q s <;> rfl
theorem sem2_w (hMr:∀ r∈M.rows,(r.length:Int)=M.inp) (hMe:∀ s i:Nat,s < M.gr.n→(i:Int) < M.inp → -1≤(M.edge s i).1) (i:Nat) (hi:(i:Int) < M.inp) (op:Nat) (b:Int) (sv:AV) (ta tb:Nat) (hta:ta < 18446744073709551616) (htb:tb < 18446744073709551616) (h1s:oneC sv=true) (g:Nat→Option Blk) (n:Nat) (cs:List AV) (hr:GOK g n M nx all cs) :
  WC 6 Tryd.prog 124 [.agg cs,.agg [.lit (.int .u8 op),.lit (.int .i64 i),.lit (.int .i64 b),sv],.lit (.int .u64 ta),.lit (.int .u64 tb)] ⟨.fn g,n⟩ fun r=>∃ z:Nat,r=.ret (.lit (.int .u64 (z:Int))) ⟨.fn g,n⟩∧z < 18446744073709551616∧opSem M 2 i b (sOf ta) (sOf tb) (sOf z):=by
 refine WC.mono (WC.drop (K:=fun v=>∃ z:Nat,v=.lit (.int .u64 (z:Int))∧z < 18446744073709551616∧opSem M 2 i b (sOf ta) (sOf tb) (sOf z)) ?_) ?_
 rotate_left
 ·rintro r ⟨v,rfl,z,rfl,h⟩
  exact ⟨z,rfl,h⟩
 obtain ⟨rv,nv,rfl,h1r,h1v⟩:=hr.one
 have h1a:allOne [.lit (.int .i64 M.inp),.lit (.int .i64 M.out),rv,nv,.lit (.int .u64 (all:Int))]=true:=by simp [h1r,h1v]
 have h1x:allOne [.lit (.int .u8 op),.lit (.int .i64 i),.lit (.int .i64 b),sv]=true:=by simp [h1s]
 have HR:=Hide.mk hr
 have HN:=Hide.mk hr.grn
 have HG:=Hide.mk hr.grn.ok
 have halt:=hr.grn.alt
 have hal:=fun t:Nat=>aheadN_lt nx t M.gr.n hr.grn.n64
 have HAL:=Hide.mk hal
 clear hr hal
 have hnd1:=ndN_lt (b:=ta) halt
 have hnd2:=ndN_lt (b:=tb) halt
 have hor:=orN_lt hta htb
 have hno:=ndN_lt (b:=orN ta tb) halt
 refine WC.enterP (noO_ok _ _) hG [] Tryd.func124 rfl (by decide +kernel) (Nat.le_of_ble_eq_true (by kernel_rfl)) ?_
 try simp (maxSteps:=999999) (disch:=first | assumption | omega | (simp; done) | fail) [Tryd.results124, *]
 refine WC.mono (edges_can hMr i hi _ _ _ (HR.out.mono (by omega) fun q hq=>(by simp (disch:=omega) only [gput_lt]))) ?_
 rintro _ rfl
 have hq:=edgesN_lt (fun s=>!decide ((M.edge s i).1 = -1)) M.gr.n HN.out.n64
 try simp (maxSteps:=999999) (disch:=first | assumption | omega | (simp; done) | fail) [Tryd.results124, *]
 refine ⟨_,_,⟨rfl,rfl⟩,rfl,⟨?_,fun q hq=>?_⟩,_,rfl,?_,?_⟩
 ·show n≤n+1+1
  omega
 ·show gput _ _ _ _=_
  have hq' : q < n:=hq
  rw [gput_lt (by omega),gput_lt (by omega)]
  rfl
 ·first | assumption | simp [*]
 ·intro s hs
  rw [edgesN_eq _ _ s hs]
  have h1:=hMe s i hs hi
  show (!decide ((M.edge s i).1 = -1))=decide (0≤(M.edge s ((i:Nat) : Int).toNat).1)
  rw [Int.toNat_natCast]
  by_cases h2:(M.edge s i).1 = -1
  ·rw [h2]; decide
  ·rw [decide_eq_false h2,decide_eq_true (by omega)]; rfl
theorem sem3_w (hMr:∀ r∈M.rows,(r.length:Int)=M.inp) (hMe:∀ s i:Nat,s < M.gr.n→(i:Int) < M.inp → -1≤(M.edge s i).1) (i:Nat) (hi:(i:Int) < M.inp) (op:Nat) (b:Int) (sv:AV) (ta tb:Nat) (hta:ta < 18446744073709551616) (htb:tb < 18446744073709551616) (h1s:oneC sv=true) (g:Nat→Option Blk) (n:Nat) (cs:List AV) (hr:GOK g n M nx all cs) :
  WC 6 Tryd.prog 127 [.agg cs,.agg [.lit (.int .u8 op),.lit (.int .i64 i),.lit (.int .i64 b),sv],.lit (.int .u64 ta),.lit (.int .u64 tb)] ⟨.fn g,n⟩ fun r=>∃ z:Nat,r=.ret (.lit (.int .u64 (z:Int))) ⟨.fn g,n⟩∧z < 18446744073709551616∧opSem M 3 i b (sOf ta) (sOf tb) (sOf z):=by
 refine WC.mono (WC.drop (K:=fun v=>∃ z:Nat,v=.lit (.int .u64 (z:Int))∧z < 18446744073709551616∧opSem M 3 i b (sOf ta) (sOf tb) (sOf z)) ?_) ?_
 rotate_left
 ·rintro r ⟨v,rfl,z,rfl,h⟩
  exact ⟨z,rfl,h⟩
 obtain ⟨rv,nv,rfl,h1r,h1v⟩:=hr.one
 have h1a:allOne [.lit (.int .i64 M.inp),.lit (.int .i64 M.out),rv,nv,.lit (.int .u64 (all:Int))]=true:=by simp [h1r,h1v]
 have h1x:allOne [.lit (.int .u8 op),.lit (.int .i64 i),.lit (.int .i64 b),sv]=true:=by simp [h1s]
 have HR:=Hide.mk hr
 have HN:=Hide.mk hr.grn
 have HG:=Hide.mk hr.grn.ok
 have halt:=hr.grn.alt
 have hal:=fun t:Nat=>aheadN_lt nx t M.gr.n hr.grn.n64
 have HAL:=Hide.mk hal
 clear hr hal
 have hnd1:=ndN_lt (b:=ta) halt
 have hnd2:=ndN_lt (b:=tb) halt
 have hor:=orN_lt hta htb
 have hno:=ndN_lt (b:=orN ta tb) halt
 refine WC.enterP (noO_ok _ _) hG [] Tryd.func127 rfl (by decide +kernel) (Nat.le_of_ble_eq_true (by kernel_rfl)) ?_
 try simp (maxSteps:=999999) (disch:=first | assumption | omega | (simp; done) | fail) [Tryd.results127, *]
 refine WC.mono (edges_gives hMr i hi (n+1) op i b sv _ _ _ (HR.out.mono (by omega) fun q hq=>(by simp (disch:=omega) only [gput_lt])) (by simp) (by omega)) ?_
 rintro _ rfl
 have hq:=edgesN_lt (fun s=>!decide ((M.edge s i).1 = -1) && decide ((M.edge s i).2=b)) M.gr.n HN.out.n64
 try simp (maxSteps:=999999) (disch:=first | assumption | omega | (simp; done) | fail) [Tryd.results127, *]
 refine ⟨_,_,⟨rfl,rfl⟩,rfl,⟨?_,fun q hq=>?_⟩,_,rfl,?_,?_⟩
 ·show n≤n+1+1
  omega
 ·show gput _ _ _ _=_
  have hq' : q < n:=hq
  rw [gput_lt (by omega),gput_lt (by omega)]
  rfl
 ·first | assumption | simp [*]
 ·intro s hs
  rw [edgesN_eq _ _ s hs]
  have h1:=hMe s i hs hi
  show (!decide ((M.edge s i).1 = -1) && decide ((M.edge s i).2=b))=(decide (0≤(M.edge s ((i:Nat) : Int).toNat).1) && decide ((M.edge s ((i:Nat) : Int).toNat).2=b))
  rw [Int.toNat_natCast]
  by_cases h2:(M.edge s i).1 = -1
  ·rw [h2]; rfl
  ·rw [decide_eq_false h2,decide_eq_true (show 0≤(M.edge s i).1 by omega)]; rfl
end Go.Ai
end
section
namespace Go.Ai
open Go.Proofs
set_option maxRecDepth 10000
set_option maxHeartbeats 40000000
def SatW (M:MachM) (nx:List Nat) (all:Nat) (m:Nat) : Prop:=∀ (x:NodeM),sizeN x≤m→validM M.rows.length M.inp M.out x=true→∀ (g:Nat→Option Blk) (n:Nat) (cs xs:List AV),g 0=some opsB→0 < n→GOK g n M nx all cs→repN g n x xs →
 WC 6 Tryd.prog 31 [.agg cs,.agg xs] ⟨.fn g,n⟩ fun r=>∃ z:Nat,r=.ret (.lit (.int .u64 (z:Int))) ⟨.fn g,n⟩∧z < 18446744073709551616∧semN M x (sOf z)
theorem ops_fn0:loadB (some (false,1)) (some opsB) 3=some (.lit (.func (.func 122) #[] #[])):=rfl
theorem ops_fn1:loadB (some (false,1)) (some opsB) 7=some (.lit (.func (.func 123) #[] #[])):=rfl
theorem ops_fn2:loadB (some (false,1)) (some opsB) 11=some (.lit (.func (.func 124) #[] #[])):=rfl
theorem ops_fn3:loadB (some (false,1)) (some opsB) 15=some (.lit (.func (.func 127) #[] #[])):=rfl
theorem ops_fn4:loadB (some (false,1)) (some opsB) 19=some (.lit (.func (.func 129) #[] #[])):=rfl
theorem ops_fn5:loadB (some (false,1)) (some opsB) 23=some (.lit (.func (.func 130) #[] #[])):=rfl
theorem ops_fn6:loadB (some (false,1)) (some opsB) 27=some (.lit (.func (.func 131) #[] #[])):=rfl
theorem ops_fn7:loadB (some (false,1)) (some opsB) 31=some (.lit (.func (.func 132) #[] #[])):=rfl
theorem ops_fn8:loadB (some (false,1)) (some opsB) 35=some (.lit (.func (.func 133) #[] #[])):=rfl
theorem ops_fn9:loadB (some (false,1)) (some opsB) 39=some (.lit (.func (.func 135) #[] #[])):=rfl
theorem ops_fn10:loadB (some (false,1)) (some opsB) 43=some (.lit (.func (.func 137) #[] #[])):=rfl
theorem ops_fn11:loadB (some (false,1)) (some opsB) 47=some (.lit (.func (.func 138) #[] #[])):=rfl
theorem ops_fn12:loadB (some (false,1)) (some opsB) 51=some (.lit (.func (.func 139) #[] #[])):=rfl
theorem ops_fn13:loadB (some (false,1)) (some opsB) 55=some (.lit (.func (.func 140) #[] #[])):=rfl
theorem ops_fn14:loadB (some (false,1)) (some opsB) 59=some (.lit (.func (.func 141) #[] #[])):=rfl
theorem sat_w {M:MachM} (hM:M.ok) {nx:List Nat} {all:Nat} : ∀ (m:Nat),SatW M nx all m:=by
 intro m
 induction m with
 | zero=>intro x hx; cases x; unfold sizeN at hx; omega
 | succ m ihm =>
  intro x hx hv g n cs xs hops hn hr hx0
  refine WC.mono (WC.drop (K:=fun v=>∃ z:Nat,v=.lit (.int .u64 (z:Int))∧z < 18446744073709551616∧semN M x (sOf z)) ?_) ?_
  rotate_left
  ·rintro r ⟨v,rfl,z,rfl,h⟩
   exact ⟨z,rfl,h⟩
  have IH:=Hide.mk ihm
  clear ihm
  have HMR:=Hide.mk (ok_row hM)
  have HME:=Hide.mk (ok_edge1 hM)
  obtain ⟨rv,nv,rfl,h1r,h1v⟩:=hr.one
  have h1a:allOne [.lit (.int .i64 M.inp),.lit (.int .i64 M.out),rv,nv,.lit (.int .u64 (all:Int))]=true:=by simp [h1r,h1v]
  cases x with
  | mk op a b subs =>
  have hrep:=hx0
  obtain ⟨hop,sv,rfl,hsv⟩:=hx0
  have h1s:oneC sv=true:=by
   obtain ⟨_,_,_,e1,e2,_⟩:=repN_one hrep
   cases e1; exact e2
  have h1x:allOne [.lit (.int .u8 op),.lit (.int .i64 a),.lit (.int .i64 b),sv]=true:=by simp [h1s]
  unfold validM at hv
  simp only [Bool.and_eq_true,decide_eq_true_eq] at hv
  obtain ⟨v1,v2,v3,v4,v5,v6,v7⟩:=hv
  have hsz:sizeL subs≤m:=by unfold sizeN at hx; omega
  have hsub2:subs.length≤2:=by rw [v2]; unfold subsM; split <;> (try split) <;> omega
  have HV7:=Hide.mk v7
  have HV2:=Hide.mk v2
  have HV5:=Hide.mk v5
  have HSV:Hide ((subs=[]∧(sv=.lit (.slice none 0 0)∨sv=.es))∨∃ a off r,a < n∧((∃ c,sv=.sl a off subs.length c)∨(∃ c,sv=.slq a off subs.length c))∧Row g a off r∧repL g n subs r):=⟨hsv⟩
  have hlen:∀ {H:Mem} {e' : Ev} {o:Oper} {c' : Call} {e:TypeId},lenS Tryd.prog H e' o c' (some (.slice e)) (some [sv])=.val (.lit (.int .i64 subs.length)) H:=by
   intro H e' o c' e
   rcases HSV.out with ⟨h1,rfl | rfl⟩ | ⟨a2,off,r,_,⟨c2,rfl⟩ | ⟨c2,rfl⟩,_⟩
   ·rw [h1]; rfl
   ·rw [h1]; rfl
   ·rfl
   ·rfl
  have HR:=Hide.mk hr
  clear hr hsv hrep v2 v5 v7 hx
  refine WC.enterP (noO_ok _ _) hG pl31 Tryd.func31 rfl (by decide +kernel) (Nat.le_of_ble_eq_true (by kernel_rfl)) ?_
  try simp (maxSteps:=999999) (disch:=first | assumption | omega | (simp; done) | fail) [Tryd.results31, *]
  refine LX.ind (fun m' gf H'=>∃ (k n' : Nat) (g' : Nat→Option Blk) (t0 t1:Nat),k≤subs.length∧m'=subs.length - k∧H'=⟨.fn g',n'⟩∧n+1+1+1≤n'∧(∀ q,q < n→g' q=g q) ∧
   g' n=some (.cells [.lit (.int .i64 M.inp),.lit (.int .i64 M.out),rv,nv,.lit (.int .u64 (all:Int))] true 0)∧g' (n+1)=some (.cells [.lit (.int .u8 op),.lit (.int .i64 a),.lit (.int .i64 b),sv] true 0) ∧
   g' (n+1+1)=some (.cells [.lit (.int .u64 (t0:Int)),.lit (.int .u64 (t1:Int))] true 0)∧t0 < 18446744073709551616∧t1 < 18446744073709551616 ∧
   (k=0→t0=0)∧(k≤1→t1=0)∧(∀ y,subs[0]?=some y→0 < k→semN M y (sOf t0))∧(∀ y,subs[1]?=some y→1 < k→semN M y (sOf t1)) ∧
   gf 2=some (.ptr n 0)∧gf 3=some (.ptr (n+1) 0)∧gf 5=some (.ptr (n+1+1) 0)∧gf 9=some sv∧gf 10=some (.lit (.int .i64 subs.length))∧gf 11=some (.lit (.int .i64 k))) (m0:=subs.length) ?_ ?_
  ·refine ⟨0,_,_,0,0,Nat.zero_le _,rfl,rfl,Nat.le_refl _,fun q hq=>?_,?_,?_,?_,by omega,by omega,fun _=>rfl,fun _=>rfl,fun _ _ h=>absurd h (by omega),fun _ _ h=>absurd h (by omega),by simp,by simp,by simp,by simp,by simp,by simp⟩
   ·simp (disch:=omega) only [gput_lt]
   ·simp (disch:=omega) only [gput_lt,gput_eq]
   ·simp (disch:=omega) only [gput_lt,gput_eq]
   ·simp (disch:=omega) only [gput_eq]
    try rfl
  rintro m' gf H' ⟨k,n',g',t0,t1,hk,rfl,rfl,hn',hg',e0,e1,e2,ht0,ht1,hz0,hz1,hs0,hs1,w2,w3,w5,w9,w10,w11⟩ ih
  have HG:=Hide.mk hg'
  have HZ:=Hide.mk (And.intro hz0 (And.intro hz1 (And.intro hs0 hs1)))
  clear hg' hz0 hz1 hs0 hs1
  refine LX.roundP (noO_ok _ _) hG pl31 (by decide +kernel) ?_
  by_cases hlt:k < subs.length
  ·have hltI:(k:Int) < (subs.length:Int):=by omega
   rcases HSV.out with ⟨h1,_⟩ | ⟨a2,off,r,ha2,hev,hrow,hrl⟩
   ·rw [h1] at hlt; simp at hlt
   have hy0:=repL_at hrl k hlt
   have hll:=repL_len hrl
   have hcell:=(hrow.mono (HG.out a2 ha2)).agg (k:=k * 4) (s:=4) (by omega)
   have hys:subs[k]?=some subs[k]:=List.getElem?_eq_getElem hlt
   have hyv:=validL_mem HV7.out _ (List.getElem_mem hlt)
   have hyz:sizeN subs[k]≤m:=Nat.le_trans (size_mem (List.getElem_mem hlt)) hsz
   generalize subs[k]=y at hy0 hys hyv hyz
   obtain ⟨k2,k3,sv2,hcy,h1c,hop2⟩:=repN_one hy0
   rw [hcy] at hcell hy0
   have h1y:allOne [.lit (.int .u8 y.op),.lit (.int .i64 k2),.lit (.int .i64 k3),sv2]=true:=by simp [h1c]
   have HY:=Hide.mk hy0
   have HYS:=Hide.mk (And.intro hys hyv)
   clear hy0 hys hyv hcy hrl hrow hll
   have hk2:k=0∨k=1:=by omega
   rcases hk2 with rfl | rfl
   ·rcases hev with ⟨c2,rfl⟩ | ⟨c2,rfl⟩
    all_goals
     have w11' : gf 11=some (.lit (.int .i64 0)):=w11
     have hltI' : (0:Int) < (subs.length:Int):=hltI
     have hcell' : loadB (some (true,4)) (g' a2) off=some (.agg [.lit (.int .u8 y.op),.lit (.int .i64 k2),.lit (.int .i64 k3),sv2]):=by simpa using hcell
     clear w11 hltI hcell
     try simp (maxSteps:=999999) (disch:=first | assumption | omega | (simp; done) | fail) [Tryd.results31, *]
     refine WC.mono (IH.out y hyz HYS.out.2 _ _ _ _ (by simp (disch:=omega) only [gput_lt]; rw [HG.out 0 hn]; exact hops) (by omega) (HR.out.mono (by omega) fun q hq=>by simp (disch:=omega) only [gput_lt]; exact HG.out q hq) (repN_mono (by omega) (fun q hq=>by simp (disch:=omega) only [gput_lt]; exact HG.out q hq) HY.out)) ?_
     rintro _ ⟨z,rfl,hz,hsem⟩
     have HSEM:=Hide.mk hsem
     clear hsem
     try simp (maxSteps:=999999) (disch:=first | assumption | omega | (simp; done) | fail) [Tryd.results31, *]
     refine ih.out (subs.length - (0+1)) _ _ (by omega) ⟨0+1,n'+1,_,z,t1,by omega,rfl,rfl,by omega,fun q hq=>?_,?_,?_,?_,hz,ht1,fun h=>absurd h (by omega),fun _=>HZ.out.2.1 (by omega),fun u hu _=>?_,fun u hu h=>absurd h (by omega),by simp [*],by simp [*],by simp [*],by simp [*],by simp [*],by simp⟩
     ·simp (disch:=omega) only [gput_lt,gput_ne]
      exact HG.out q hq
     ·simp (disch:=omega) only [gput_lt,gput_ne]
      exact e0
     ·simp (disch:=omega) only [gput_lt,gput_ne]
      exact e1
     ·simp (disch:=omega) only [gput_ne,gput_eq]
      try rfl
     ·rw [HYS.out.1] at hu
      cases hu
      exact HSEM.out
   ·rcases hev with ⟨c2,rfl⟩ | ⟨c2,rfl⟩
    all_goals
     have w11' : gf 11=some (.lit (.int .i64 1)):=w11
     have hltI' : (1:Int) < (subs.length:Int):=hltI
     have hcell' : loadB (some (true,4)) (g' a2) (off+4)=some (.agg [.lit (.int .u8 y.op),.lit (.int .i64 k2),.lit (.int .i64 k3),sv2]):=by simpa using hcell
     clear w11 hltI hcell
     try simp (maxSteps:=999999) (disch:=first | assumption | omega | (simp; done) | fail) [Tryd.results31, *]
     refine WC.mono (IH.out y hyz HYS.out.2 _ _ _ _ (by simp (disch:=omega) only [gput_lt]; rw [HG.out 0 hn]; exact hops) (by omega) (HR.out.mono (by omega) fun q hq=>by simp (disch:=omega) only [gput_lt]; exact HG.out q hq) (repN_mono (by omega) (fun q hq=>by simp (disch:=omega) only [gput_lt]; exact HG.out q hq) HY.out)) ?_
     rintro _ ⟨z,rfl,hz,hsem⟩
     have HSEM:=Hide.mk hsem
     clear hsem
     try simp (maxSteps:=999999) (disch:=first | assumption | omega | (simp; done) | fail) [Tryd.results31, *]
     refine ih.out (subs.length - (1+1)) _ _ (by omega) ⟨1+1,n'+1,_,t0,z,by omega,rfl,rfl,by omega,fun q hq=>?_,?_,?_,?_,ht0,hz,fun h=>absurd h (by omega),fun h=>absurd h (by omega),fun u hu _=>HZ.out.2.2.1 u hu (by omega),fun u hu _=>?_,by simp [*],by simp [*],by simp [*],by simp [*],by simp [*],by simp⟩
     ·simp (disch:=omega) only [gput_lt,gput_ne]
      exact HG.out q hq
     ·simp (disch:=omega) only [gput_lt,gput_ne]
      exact e0
     ·simp (disch:=omega) only [gput_lt,gput_ne]
      exact e1
     ·simp (disch:=omega) only [gput_ne,gput_eq]
      try rfl
     ·rw [HYS.out.1] at hu
      cases hu
      exact HSEM.out
  ·have hltI:¬(k:Int) < (subs.length:Int):=by omega
   have hSL:Hide (semL M subs (sOf t0) (sOf t1)):=⟨by
    obtain ⟨z1,z2,z3,z4⟩:=HZ.out
    have hno:sOf 0=noneS:=by funext s; exact Nat.zero_testBit s
    match subs,hk,hltI,hsub2,z1,z2,z3,z4 with
    | [],hk,hltI,_,z1,z2,z3,z4 =>
     simp at hk
     rw [z1 hk,z2 (by omega),hno]
     exact ⟨eqS.refl _ _,eqS.refl _ _⟩
    | [x],hk,hltI,_,z1,z2,z3,z4 =>
     simp at hltI
     have h1:k=1:=by simp at hk; omega
     rw [z2 (by omega),hno]
     exact ⟨z3 x rfl (by omega),eqS.refl _ _⟩
    | x :: y :: l,hk,hltI,hs,z1,z2,z3,z4 =>
     simp at hltI hk hs
     exact ⟨z3 x rfl (by omega),z4 y rfl (by omega)⟩⟩
   have hops':=(HG.out 0 hn).trans hops
   have hge:Hide (Ge ⟨.fn g,n⟩ ⟨.fn g',n'⟩):=⟨⟨by show n≤n'; omega,fun q hq=>HG.out q hq⟩⟩
   have HRG:Hide (GOK g' n' M nx all [.lit (.int .i64 M.inp),.lit (.int .i64 M.out),rv,nv,.lit (.int .u64 (all:Int))]):=⟨HR.out.mono (by omega) fun q hq=>HG.out q hq⟩
   have hin:1≤M.inp:=hM.1
   clear hlen HSV IH HZ
   have hop15:=op_cases v1
   rcases hop15 with rfl | rfl | rfl | rfl | rfl | rfl | rfl | rfl | rfl | rfl | rfl | rfl | rfl | rfl | rfl
   ·have hfn:=ops_fn0
    try simp (maxSteps:=999999) (disch:=first | assumption | omega | (simp; done) | fail) [Tryd.results31, *]
    refine WC.mono (sem0_w 0 a b sv t0 t1 ht0 ht1 h1s _ _ _ HRG.out) ?_
    rintro _ ⟨z,rfl,hz,hsem⟩
    have HSEM:=Hide.mk hsem
    clear hsem
    try simp (maxSteps:=999999) (disch:=first | assumption | omega | (simp; done) | fail) [Tryd.results31, *]
    exact ⟨_,_,⟨rfl,rfl⟩,rfl,hge.out,z,rfl,hz,_,_,hSL.out,HSEM.out⟩
   ·have hfn:=ops_fn1
    have hv5:a < (M.rows.length:Int):=HV5.out
    obtain ⟨i,rfl⟩ : ∃ i:Nat,a=i:=⟨a.toNat,by omega⟩
    try simp (maxSteps:=999999) (disch:=first | assumption | omega | (simp; done) | fail) [Tryd.results31, *]
    refine WC.mono (sem1_w i (by show i < M.rows.length; omega) 1 b sv t0 t1 ht0 ht1 h1s _ _ _ HRG.out) ?_
    rintro _ ⟨z,rfl,hz,hsem⟩
    have HSEM:=Hide.mk hsem
    clear hsem
    try simp (maxSteps:=999999) (disch:=first | assumption | omega | (simp; done) | fail) [Tryd.results31, *]
    exact ⟨_,_,⟨rfl,rfl⟩,rfl,hge.out,z,rfl,hz,_,_,hSL.out,HSEM.out⟩
   ·have hfn:=ops_fn2
    have hv5:a < M.inp:=HV5.out
    obtain ⟨i,rfl⟩ : ∃ i:Nat,a=i:=⟨a.toNat,by omega⟩
    try simp (maxSteps:=999999) (disch:=first | assumption | omega | (simp; done) | fail) [Tryd.results31, *]
    refine WC.mono (sem2_w HMR.out HME.out i hv5 2 b sv t0 t1 ht0 ht1 h1s _ _ _ HRG.out) ?_
    rintro _ ⟨z,rfl,hz,hsem⟩
    have HSEM:=Hide.mk hsem
    clear hsem
    try simp (maxSteps:=999999) (disch:=first | assumption | omega | (simp; done) | fail) [Tryd.results31, *]
    exact ⟨_,_,⟨rfl,rfl⟩,rfl,hge.out,z,rfl,hz,_,_,hSL.out,HSEM.out⟩
   ·have hfn:=ops_fn3
    have hv5:a < M.inp:=HV5.out
    obtain ⟨i,rfl⟩ : ∃ i:Nat,a=i:=⟨a.toNat,by omega⟩
    try simp (maxSteps:=999999) (disch:=first | assumption | omega | (simp; done) | fail) [Tryd.results31, *]
    refine WC.mono (sem3_w HMR.out HME.out i hv5 3 b sv t0 t1 ht0 ht1 h1s _ _ _ HRG.out) ?_
    rintro _ ⟨z,rfl,hz,hsem⟩
    have HSEM:=Hide.mk hsem
    clear hsem
    try simp (maxSteps:=999999) (disch:=first | assumption | omega | (simp; done) | fail) [Tryd.results31, *]
    exact ⟨_,_,⟨rfl,rfl⟩,rfl,hge.out,z,rfl,hz,_,_,hSL.out,HSEM.out⟩
   ·have hfn:=ops_fn4
    try simp (maxSteps:=999999) (disch:=first | assumption | omega | (simp; done) | fail) [Tryd.results31, *]
    refine WC.mono (sem4_w 4 a b sv t0 t1 ht0 ht1 h1s _ _ _ HRG.out) ?_
    rintro _ ⟨z,rfl,hz,hsem⟩
    have HSEM:=Hide.mk hsem
    clear hsem
    try simp (maxSteps:=999999) (disch:=first | assumption | omega | (simp; done) | fail) [Tryd.results31, *]
    exact ⟨_,_,⟨rfl,rfl⟩,rfl,hge.out,z,rfl,hz,_,_,hSL.out,HSEM.out⟩
   ·have hfn:=ops_fn5
    try simp (maxSteps:=999999) (disch:=first | assumption | omega | (simp; done) | fail) [Tryd.results31, *]
    refine WC.mono (sem5_w 5 a b sv t0 t1 ht0 ht1 h1s _ _ _ HRG.out) ?_
    rintro _ ⟨z,rfl,hz,hsem⟩
    have HSEM:=Hide.mk hsem
    clear hsem
    try simp (maxSteps:=999999) (disch:=first | assumption | omega | (simp; done) | fail) [Tryd.results31, *]
    exact ⟨_,_,⟨rfl,rfl⟩,rfl,hge.out,z,rfl,hz,_,_,hSL.out,HSEM.out⟩
   ·have hfn:=ops_fn6
    try simp (maxSteps:=999999) (disch:=first | assumption | omega | (simp; done) | fail) [Tryd.results31, *]
    refine WC.mono (sem6_w 6 a b sv t0 t1 ht0 ht1 h1s _ _ _ HRG.out) ?_
    rintro _ ⟨z,rfl,hz,hsem⟩
    have HSEM:=Hide.mk hsem
    clear hsem
    try simp (maxSteps:=999999) (disch:=first | assumption | omega | (simp; done) | fail) [Tryd.results31, *]
    exact ⟨_,_,⟨rfl,rfl⟩,rfl,hge.out,z,rfl,hz,_,_,hSL.out,HSEM.out⟩
   ·have hfn:=ops_fn7
    try simp (maxSteps:=999999) (disch:=first | assumption | omega | (simp; done) | fail) [Tryd.results31, *]
    refine WC.mono (sem7_w 7 a b sv t0 t1 ht0 ht1 h1s _ _ _ HRG.out) ?_
    rintro _ ⟨z,rfl,hz,hsem⟩
    have HSEM:=Hide.mk hsem
    clear hsem
    try simp (maxSteps:=999999) (disch:=first | assumption | omega | (simp; done) | fail) [Tryd.results31, *]
    exact ⟨_,_,⟨rfl,rfl⟩,rfl,hge.out,z,rfl,hz,_,_,hSL.out,HSEM.out⟩
   ·have hfn:=ops_fn8
    try simp (maxSteps:=999999) (disch:=first | assumption | omega | (simp; done) | fail) [Tryd.results31, *]
    refine WC.mono (sem8_w 8 a b sv t0 t1 ht0 ht1 h1s _ _ _ HRG.out) ?_
    rintro _ ⟨z,rfl,hz,hsem⟩
    have HSEM:=Hide.mk hsem
    clear hsem
    try simp (maxSteps:=999999) (disch:=first | assumption | omega | (simp; done) | fail) [Tryd.results31, *]
    exact ⟨_,_,⟨rfl,rfl⟩,rfl,hge.out,z,rfl,hz,_,_,hSL.out,HSEM.out⟩
   ·have hfn:=ops_fn9
    try simp (maxSteps:=999999) (disch:=first | assumption | omega | (simp; done) | fail) [Tryd.results31, *]
    refine WC.mono (sem9_w 9 a b sv t0 t1 ht0 ht1 h1s _ _ _ HRG.out) ?_
    rintro _ ⟨z,rfl,hz,hsem⟩
    have HSEM:=Hide.mk hsem
    clear hsem
    try simp (maxSteps:=999999) (disch:=first | assumption | omega | (simp; done) | fail) [Tryd.results31, *]
    exact ⟨_,_,⟨rfl,rfl⟩,rfl,hge.out,z,rfl,hz,_,_,hSL.out,HSEM.out⟩
   ·have hfn:=ops_fn10
    try simp (maxSteps:=999999) (disch:=first | assumption | omega | (simp; done) | fail) [Tryd.results31, *]
    refine WC.mono (sem10_w 10 a b sv t0 t1 ht0 ht1 h1s _ _ _ HRG.out) ?_
    rintro _ ⟨z,rfl,hz,hsem⟩
    have HSEM:=Hide.mk hsem
    clear hsem
    try simp (maxSteps:=999999) (disch:=first | assumption | omega | (simp; done) | fail) [Tryd.results31, *]
    exact ⟨_,_,⟨rfl,rfl⟩,rfl,hge.out,z,rfl,hz,_,_,hSL.out,HSEM.out⟩
   ·have hfn:=ops_fn11
    try simp (maxSteps:=999999) (disch:=first | assumption | omega | (simp; done) | fail) [Tryd.results31, *]
    refine WC.mono (sem11_w 11 a b sv t0 t1 ht0 ht1 h1s _ _ _ HRG.out) ?_
    rintro _ ⟨z,rfl,hz,hsem⟩
    have HSEM:=Hide.mk hsem
    clear hsem
    try simp (maxSteps:=999999) (disch:=first | assumption | omega | (simp; done) | fail) [Tryd.results31, *]
    exact ⟨_,_,⟨rfl,rfl⟩,rfl,hge.out,z,rfl,hz,_,_,hSL.out,HSEM.out⟩
   ·have hfn:=ops_fn12
    try simp (maxSteps:=999999) (disch:=first | assumption | omega | (simp; done) | fail) [Tryd.results31, *]
    refine WC.mono (sem12_w 12 a b sv t0 t1 ht0 ht1 h1s _ _ _ HRG.out) ?_
    rintro _ ⟨z,rfl,hz,hsem⟩
    have HSEM:=Hide.mk hsem
    clear hsem
    try simp (maxSteps:=999999) (disch:=first | assumption | omega | (simp; done) | fail) [Tryd.results31, *]
    exact ⟨_,_,⟨rfl,rfl⟩,rfl,hge.out,z,rfl,hz,_,_,hSL.out,HSEM.out⟩
   ·have hfn:=ops_fn13
    try simp (maxSteps:=999999) (disch:=first | assumption | omega | (simp; done) | fail) [Tryd.results31, *]
    refine WC.mono (sem13_w 13 a b sv t0 t1 ht0 ht1 h1s _ _ _ HRG.out) ?_
    rintro _ ⟨z,rfl,hz,hsem⟩
    have HSEM:=Hide.mk hsem
    clear hsem
    try simp (maxSteps:=999999) (disch:=first | assumption | omega | (simp; done) | fail) [Tryd.results31, *]
    exact ⟨_,_,⟨rfl,rfl⟩,rfl,hge.out,z,rfl,hz,_,_,hSL.out,HSEM.out⟩
   ·have hfn:=ops_fn14
    try simp (maxSteps:=999999) (disch:=first | assumption | omega | (simp; done) | fail) [Tryd.results31, *]
    refine WC.mono (sem14_w 14 a b sv t0 t1 ht0 ht1 h1s _ _ _ HRG.out) ?_
    rintro _ ⟨z,rfl,hz,hsem⟩
    have HSEM:=Hide.mk hsem
    clear hsem
    try simp (maxSteps:=999999) (disch:=first | assumption | omega | (simp; done) | fail) [Tryd.results31, *]
    exact ⟨_,_,⟨rfl,rfl⟩,rfl,hge.out,z,rfl,hz,_,_,hSL.out,HSEM.out⟩
end Go.Ai
end
section
namespace Go.Ai
open Go.Proofs
set_option maxRecDepth 10000
set_option maxHeartbeats 40000000
theorem stood70:Tryd.prog.stoodInHeld 70=false:=by kernel_rfl
theorem equal_int {P:Program} {d:Nat} {t:TypeId} {k:IntKind} {a b:Int} (ht:P.underlying t=some (.int k)) : pureV P (Op.equalIn (d+1) t (.int k a) (.int k b))=some (a == b):=by
 unfold Op.equalIn
 refine (pureV_then (m:=underlying t) (pureV_underlying ht)).trans ?_
 dsimp only
 rw [if_pos rfl]
 rfl
theorem equal_edge (a b c d:Int) : pureV Tryd.prog (Op.equal 70 (.agg #[.int .i64 a,.int .i64 b]) (.agg #[.int .i64 c,.int .i64 d]))=some (a == c && b == d):=by
 unfold Op.equal
 show pureV Tryd.prog (Op.equalIn (9998+1+1) 70 _ _)=_
 rw [Op.equalIn]
 refine (pureV_then (m:=underlying 70) (pureV_underlying Tryd.underlying70)).trans ?_
 dsimp only
 refine (pureV_then (m:=program) (a:=Tryd.prog) rfl).trans ?_
 rw [if_neg (by rw [stood70]; decide)]
 have p0:∀ x y:Int,pureV Tryd.prog (part 3 #[Value.int IntKind.i64 x,Value.int IntKind.i64 y] 0)=some (.int .i64 x):=fun x y=>rfl
 have p1:∀ x y:Int,pureV Tryd.prog (part 3 #[Value.int IntKind.i64 x,Value.int IntKind.i64 y] 1)=some (.int .i64 y):=fun x y=>rfl
 simp only [List.forIn_toArray,List.forIn_cons,List.forIn_nil]
 have key:∀ (nm:String) (u v:Int) (m1 m2:Sem Value),nm ≠ "_"→pureV Tryd.prog m1=some (.int .i64 u)→pureV Tryd.prog m2=some (.int .i64 v) →
   pureV Tryd.prog (if nm ≠ "_" then do
    let x ← m1
    let y ← m2
    let z ← Op.equalIn (9998+1) 3 x y
    if (!z)=true then pure (ForInStep.done (some false,())) else pure (ForInStep.yield ((none:Option Bool),()))
   else pure (ForInStep.yield (none,())))=some (if (u == v)=true then ForInStep.yield (none,()) else ForInStep.done (some false,())):=by
  intro nm u v m1 m2 hn h1 h2
  rw [if_pos hn]
  refine (pureV_then h1).trans ((pureV_then h2).trans ((pureV_then (equal_int Tryd.underlying3)).trans ?_))
  cases (u == v) <;> rfl
 refine (pureV_then (a:=if (a == c && b == d)=true then ((none:Option Bool),()) else (some false,())) ?_).trans ?_
 ·refine (pureV_then (key "To" a c _ _ (by decide) (p0 a b) (p0 c d))).trans ?_
  cases (a == c)
  ·rfl
  ·refine (pureV_then (key "Out" b d _ _ (by decide) (p1 a b) (p1 c d))).trans ?_
   cases (b == d) <;> rfl
 ·cases (a == c) <;> cases (b == d) <;> rfl
theorem bin_edge {H:Mem} {ev:Ev} {d:Option Tmp} {ty rt:TypeId} {p:String} {af:Array Edge} {g:Option (Nat×Bool)} {x y:Operand} {a b a' b' : Int} (hx:ev x=some (.agg [.lit (.int .i64 a),.lit (.int .i64 b)])) (hy:ev y=some (.agg [.lit (.int .i64 a'),.lit (.int .i64 b')])) :
  binS Tryd.prog H ev ⟨d,.binOp .eql 70 x y rt,ty,p,af,g⟩ .eql 70 (some (.agg [.lit (.int .i64 a),.lit (.int .i64 b)])) (some (.agg [.lit (.int .i64 a'),.lit (.int .i64 b')]))=.val (.lit (.bool (decide (a=a') && decide (b=b')))) H:=by
 show oBin Tryd.prog H ev ⟨d,.binOp .eql 70 x y rt,ty,p,af,g⟩ .eql 70 (some (.agg [.lit (.int .i64 a),.lit (.int .i64 b)])) (some (.agg [.lit (.int .i64 a'),.lit (.int .i64 b')]))=_
 refine oBin_generic rfl ?_
 have h1:(Op.operands (.binOp .eql 70 x y rt)).toList=[x,y]:=rfl
 unfold generic
 dsimp only
 rw [h1]
 have l1:toLit (.agg [.lit (.int .i64 a),.lit (.int .i64 b)])=some (.agg #[.int .i64 a,.int .i64 b]):=rfl
 have l2:toLit (.agg [.lit (.int .i64 a'),.lit (.int .i64 b')])=some (.agg #[.int .i64 a',.int .i64 b']):=rfl
 simp only [List.all_cons,List.all_nil,hx,hy,l1,l2,Bool.and_true,if_true]
 have h2:∀ ρ:Operand→Value,ρ x=.agg #[.int .i64 a,.int .i64 b]→ρ y=.agg #[.int .i64 a',.int .i64 b']→pureV Tryd.prog (execOp ρ ⟨d,.binOp .eql 70 x y rt,ty,p,af,g⟩)=some (.value (.bool (decide (a=a') && decide (b=b')))):=by
  intro ρ e1 e2
  refine execOp_bin e1 e2 ?_ ?_
  ·unfold eqGuard; kernel_rfl
  ·show pureV Tryd.prog (do pure (Value.bool (← Op.equal 70 _ _)))=_
   exact (pureV_then (equal_edge a b a' b')).trans rfl
 rw [h2 _ (by simp only [hx,l1]) (by simp only [hy,l2])]
attribute [simp] bin_edge
theorem none_w (g:Nat→Option Blk) (n:Nat) : WC 6 Tryd.prog 70 [] ⟨.fn g,n⟩ fun r=>r=.ret (.agg [.lit (.int .i64 (-1)),.lit (.int .i64 (-1))]) ⟨.fn (gput g n (some (.cells [.lit (.int .i64 (-1)),.lit (.int .i64 (-1))] true 0))),n+1⟩:=by
 have h1a:allOne [.lit (.int .i64 (-1)),.lit (.int .i64 (-1))]=true:=by simp
 refine WC.enterP (noO_ok _ _) hG [] Tryd.func70 rfl (by decide +kernel) (Nat.le_of_ble_eq_true (by kernel_rfl)) ?_
 iterate 6 all_goals try first | with_reducible refine splitI (fun h=>?_) fun h=>?_ | with_reducible refine splitBI (fun h=>?_) fun h=>?_ | simp (maxSteps:=999999) (disch:=first | assumption | omega | (simp; done) | fail) [Tryd.results70, *]
theorem fits_w {M:MachM} (e:Int×Int) (g:Nat→Option Blk) (n:Nat) (ms:List AV) (hr:RepM g n M ms) :
  WC 6 Tryd.prog 54 [.agg ms,.agg [.lit (.int .i64 e.1),.lit (.int .i64 e.2)]] ⟨.fn g,n⟩ fun r=>r=.ret (.lit (.bool (edgeOK M.rows.length M.out e))) ⟨.fn g,n⟩:=by
 refine WC.drop1 rfl ?_
 obtain ⟨rv,svs,rfl,hrows,hrv⟩:=hr
 have h1r:=hrv.one
 have h1a:allOne [.lit (.int .i64 M.inp),.lit (.int .i64 M.out),rv]=true:=by simp [h1r]
 have hlen:=@lenV Tryd.prog _ _ _ _ _ hrv
 obtain ⟨to,out⟩:=e
 have h1e:allOne [.lit (.int .i64 to),.lit (.int .i64 out)]=true:=by simp
 clear hrows hrv
 refine WC.enterP (noO_ok _ _) hG pl54 Tryd.func54 rfl (by decide +kernel) (Nat.le_of_ble_eq_true (by kernel_rfl)) ?_
 by_cases t1:to = -1
 ·by_cases t2:out = -1
  ·iterate 6 all_goals try first | with_reducible refine splitI (fun h=>?_) fun h=>?_ | with_reducible refine splitBI (fun h=>?_) fun h=>?_ | simp (maxSteps:=999999) (disch:=first | assumption | omega | (simp; done) | fail) [Tryd.results54, *]
   refine WC.mono (none_w _ _) ?_
   rintro _ rfl
   iterate 6 all_goals try first | with_reducible refine splitI (fun h=>?_) fun h=>?_ | with_reducible refine splitBI (fun h=>?_) fun h=>?_ | simp (maxSteps:=999999) (disch:=first | assumption | omega | (simp; done) | fail) [Tryd.results54, *]
   refine ⟨_,⟨?_,rfl⟩,by show n≤n+1+1+1; omega,fun q hq=>?_⟩
   ·unfold edgeOK; simp [*]
   ·have hq' : q < n:=hq
    show gput _ _ _ _=g q
    simp (disch:=omega) only [gput_lt]
  ·have t3:¬(0:Int)≤to:=by omega
   iterate 6 all_goals try first | with_reducible refine splitI (fun h=>?_) fun h=>?_ | with_reducible refine splitBI (fun h=>?_) fun h=>?_ | simp (maxSteps:=999999) (disch:=first | assumption | omega | (simp; done) | fail) [Tryd.results54, *]
   refine WC.mono (none_w _ _) ?_
   rintro _ rfl
   iterate 6 all_goals try first | with_reducible refine splitI (fun h=>?_) fun h=>?_ | with_reducible refine splitBI (fun h=>?_) fun h=>?_ | simp (maxSteps:=999999) (disch:=first | assumption | omega | (simp; done) | fail) [Tryd.results54, *]
   refine ⟨_,⟨?_,rfl⟩,by show n≤n+1+1+1; omega,fun q hq=>?_⟩
   ·unfold edgeOK; simp [*]
   ·have hq' : q < n:=hq
    show gput _ _ _ _=g q
    simp (disch:=omega) only [gput_lt]
 have t1' : ¬(to = -1∧out = -1):=fun h=>t1 h.1
 by_cases t3:0≤to
 ·by_cases t4:to < (M.rows.length:Int)
  ·by_cases t5:0≤out
   ·by_cases t6:out < M.out
    ·iterate 6 all_goals try first | with_reducible refine splitI (fun h=>?_) fun h=>?_ | with_reducible refine splitBI (fun h=>?_) fun h=>?_ | simp (maxSteps:=999999) (disch:=first | assumption | omega | (simp; done) | fail) [Tryd.results54, *]
     refine WC.mono (none_w _ _) ?_
     rintro _ rfl
     iterate 6 all_goals try first | with_reducible refine splitI (fun h=>?_) fun h=>?_ | with_reducible refine splitBI (fun h=>?_) fun h=>?_ | simp (maxSteps:=999999) (disch:=first | assumption | omega | (simp; done) | fail) [Tryd.results54, *]
     refine ⟨_,⟨?_,rfl⟩,by show n≤n+1+1+1; omega,fun q hq=>?_⟩
     ·unfold edgeOK; simp [*]
     ·have hq' : q < n:=hq
      show gput _ _ _ _=g q
      simp (disch:=omega) only [gput_lt]
    ·iterate 6 all_goals try first | with_reducible refine splitI (fun h=>?_) fun h=>?_ | with_reducible refine splitBI (fun h=>?_) fun h=>?_ | simp (maxSteps:=999999) (disch:=first | assumption | omega | (simp; done) | fail) [Tryd.results54, *]
     refine WC.mono (none_w _ _) ?_
     rintro _ rfl
     iterate 6 all_goals try first | with_reducible refine splitI (fun h=>?_) fun h=>?_ | with_reducible refine splitBI (fun h=>?_) fun h=>?_ | simp (maxSteps:=999999) (disch:=first | assumption | omega | (simp; done) | fail) [Tryd.results54, *]
     refine ⟨_,⟨?_,rfl⟩,by show n≤n+1+1+1; omega,fun q hq=>?_⟩
     ·unfold edgeOK; simp [*]
     ·have hq' : q < n:=hq
      show gput _ _ _ _=g q
      simp (disch:=omega) only [gput_lt]
   ·iterate 6 all_goals try first | with_reducible refine splitI (fun h=>?_) fun h=>?_ | with_reducible refine splitBI (fun h=>?_) fun h=>?_ | simp (maxSteps:=999999) (disch:=first | assumption | omega | (simp; done) | fail) [Tryd.results54, *]
    refine WC.mono (none_w _ _) ?_
    rintro _ rfl
    iterate 6 all_goals try first | with_reducible refine splitI (fun h=>?_) fun h=>?_ | with_reducible refine splitBI (fun h=>?_) fun h=>?_ | simp (maxSteps:=999999) (disch:=first | assumption | omega | (simp; done) | fail) [Tryd.results54, *]
    refine ⟨_,⟨?_,rfl⟩,by show n≤n+1+1+1; omega,fun q hq=>?_⟩
    ·unfold edgeOK; simp [*]
    ·have hq' : q < n:=hq
     show gput _ _ _ _=g q
     simp (disch:=omega) only [gput_lt]
  ·iterate 6 all_goals try first | with_reducible refine splitI (fun h=>?_) fun h=>?_ | with_reducible refine splitBI (fun h=>?_) fun h=>?_ | simp (maxSteps:=999999) (disch:=first | assumption | omega | (simp; done) | fail) [Tryd.results54, *]
   refine WC.mono (none_w _ _) ?_
   rintro _ rfl
   iterate 6 all_goals try first | with_reducible refine splitI (fun h=>?_) fun h=>?_ | with_reducible refine splitBI (fun h=>?_) fun h=>?_ | simp (maxSteps:=999999) (disch:=first | assumption | omega | (simp; done) | fail) [Tryd.results54, *]
   refine ⟨_,⟨?_,rfl⟩,by show n≤n+1+1+1; omega,fun q hq=>?_⟩
   ·unfold edgeOK; simp [*]
   ·have hq' : q < n:=hq
    show gput _ _ _ _=g q
    simp (disch:=omega) only [gput_lt]
 ·iterate 6 all_goals try first | with_reducible refine splitI (fun h=>?_) fun h=>?_ | with_reducible refine splitBI (fun h=>?_) fun h=>?_ | simp (maxSteps:=999999) (disch:=first | assumption | omega | (simp; done) | fail) [Tryd.results54, *]
  refine WC.mono (none_w _ _) ?_
  rintro _ rfl
  iterate 6 all_goals try first | with_reducible refine splitI (fun h=>?_) fun h=>?_ | with_reducible refine splitBI (fun h=>?_) fun h=>?_ | simp (maxSteps:=999999) (disch:=first | assumption | omega | (simp; done) | fail) [Tryd.results54, *]
  refine ⟨_,⟨?_,rfl⟩,by show n≤n+1+1+1; omega,fun q hq=>?_⟩
  ·unfold edgeOK; simp [*]
  ·have hq' : q < n:=hq
   show gput _ _ _ _=g q
   simp (disch:=omega) only [gput_lt]
theorem mC1_w {M:MachM} (e:Int×Int) (p:Nat) (g:Nat→Option Blk) (n:Nat) (ms:List AV) (hr:RepM g n M ms) (hp:g p=some (.cells ms true 0)) (hpn:p < n) :
  WC 6 Tryd.prog 53 [.agg [.lit (.int .i64 e.1),.lit (.int .i64 e.2)],.ptr p 0] ⟨.fn g,n⟩ fun r=>r=.ret (.lit (.bool (!edgeOK M.rows.length M.out e))) ⟨.fn g,n⟩:=by
 refine WC.drop1 rfl ?_
 have h1e:allOne [.lit (.int .i64 e.1),.lit (.int .i64 e.2)]=true:=by simp
 have HR:=Hide.mk hr
 obtain ⟨rv,hms,h1r⟩:=hr.one
 subst hms
 have h1a:allOne [.lit (.int .i64 M.inp),.lit (.int .i64 M.out),rv]=true:=by simp [h1r]
 clear hr
 refine WC.enterP (noO_ok _ _) hG [] Tryd.func53 rfl (by decide +kernel) (Nat.le_of_ble_eq_true (by kernel_rfl)) ?_
 iterate 6 all_goals try first | with_reducible refine splitI (fun h=>?_) fun h=>?_ | with_reducible refine splitBI (fun h=>?_) fun h=>?_ | simp (maxSteps:=999999) (disch:=first | assumption | omega | (simp; done) | fail) [Tryd.results53, *]
 refine WC.mono (fits_w e _ _ _ (HR.out.mono (by omega) fun q hq=>gput_lt hq)) ?_
 rintro _ rfl
 iterate 6 all_goals try first | with_reducible refine splitI (fun h=>?_) fun h=>?_ | with_reducible refine splitBI (fun h=>?_) fun h=>?_ | simp (maxSteps:=999999) (disch:=first | assumption | omega | (simp; done) | fail) [Tryd.results53, *]
 all_goals exact ⟨Nat.le_succ n,fun b hb=>gput_lt hb⟩
theorem iFunc_w {M:MachM} (row:List (Int×Int)) (hrl:row.length≤1000000) (sv:AV) (p:Nat) (g:Nat→Option Blk) (n:Nat) (ms:List AV) (hr:RepM g n M ms) (hp:g p=some (.cells ms true 0)) (hpn:p < n) (hsv:SliceV g n sv row.length (rowC row)) :
  WC 6 Tryd.prog 69 [sv,.func (.func 53) [] [.ptr p 0]] ⟨.fn g,n⟩ fun r=>∃ z:Int,r=.ret (.lit (.int .i64 z)) ⟨.fn g,n⟩∧decide (0≤z)=row.any fun e=>!edgeOK M.rows.length M.out e:=by
 have hlen:=@lenV Tryd.prog _ _ _ _ _ hsv
 have HR:=Hide.mk hr
 have HS:=Hide.mk hsv
 have HP:=Hide.mk hp
 clear hr hsv hp
 refine WC.enterP (noO_ok _ _) hG [] Tryd.func69 rfl (by decide +kernel) (Nat.le_of_ble_eq_true (by kernel_rfl)) ?_
 iterate 6 all_goals try first | with_reducible refine splitI (fun h=>?_) fun h=>?_ | with_reducible refine splitBI (fun h=>?_) fun h=>?_ | simp (maxSteps:=999999) (disch:=first | assumption | omega | (simp; done) | fail) [Tryd.results69, *]
 refine LX.ind (fun m gf H'=>∃ (k:Nat),k≤row.length∧m=row.length - k∧H'=⟨.fn g,n⟩∧(∀ e∈row.take k,edgeOK M.rows.length M.out e=true) ∧
  gf 0=some sv∧gf 1=some (.func (.func 53) [] [.ptr p 0])∧gf 7=some (.lit (.int .i64 row.length))∧gf 8=some (.lit (.int .i64 k))) (m0:=row.length) ?_ ?_
 ·exact ⟨0,Nat.zero_le _,rfl,rfl,by simp,by simp,by simp,by simp,by simp⟩
 rintro m gf H' ⟨k,hk,rfl,rfl,hpre,w0,w1,w7,w8⟩ ih
 have HPRE:=Hide.mk hpre
 clear hpre
 refine LX.roundP (noO_ok _ _) hG [] (by decide +kernel) ?_
 by_cases hlt:k < row.length
 ·have hltI:(k:Int) < (row.length:Int):=by omega
  rcases HS.out with ⟨h1,_⟩ | ⟨a2,off,ha2,hev,hrow⟩
  ·omega
  have hagg:=hrow.agg (k:=k * 2) (s:=2) (by rw [rowC_len]; omega)
  rw [rowC_at row k hlt] at hagg
  have htk:row.take (k+1)=row.take k++[row[k]]:=by rw [List.take_succ,List.getElem?_eq_getElem hlt]; rfl
  have hmem:=List.getElem_mem hlt
  have HT:=Hide.mk htk
  have HM:=Hide.mk hmem
  clear htk hmem hrow
  generalize row[k]=e at *
  have hmc:=mC1_w (M:=M) e p g n ms HR.out HP.out hpn
  have HMC:=Hide.mk hmc
  clear hmc
  cases hok:edgeOK M.rows.length M.out e with
  | true =>
   rcases hev with ⟨c2,rfl⟩ | ⟨c2,rfl⟩
   all_goals
    iterate 6 all_goals try first | with_reducible refine splitI (fun h=>?_) fun h=>?_ | with_reducible refine splitBI (fun h=>?_) fun h=>?_ | simp (maxSteps:=999999) (disch:=first | assumption | omega | (simp; done) | fail) [Tryd.results69, *]
    refine WC.mono HMC.out ?_
    rintro _ rfl
    rw [hok]
    iterate 6 all_goals try first | with_reducible refine splitI (fun h=>?_) fun h=>?_ | with_reducible refine splitBI (fun h=>?_) fun h=>?_ | simp (maxSteps:=999999) (disch:=first | assumption | omega | (simp; done) | fail) [Tryd.results69, *]
    refine ih.out (row.length - (k+1)) _ _ (by omega) ⟨k+1,by omega,rfl,rfl,fun e' he'=>?_,by simp [*],by simp [*],by simp [*],by simp⟩
    rw [HT.out] at he'
    rcases List.mem_append.1 he' with h | h
    ·exact HPRE.out e' h
    ·rw [List.mem_singleton.1 h]; exact hok
  | false =>
   rcases hev with ⟨c2,rfl⟩ | ⟨c2,rfl⟩
   all_goals
    iterate 6 all_goals try first | with_reducible refine splitI (fun h=>?_) fun h=>?_ | with_reducible refine splitBI (fun h=>?_) fun h=>?_ | simp (maxSteps:=999999) (disch:=first | assumption | omega | (simp; done) | fail) [Tryd.results69, *]
    refine WC.mono HMC.out ?_
    rintro _ rfl
    rw [hok]
    iterate 6 all_goals try first | with_reducible refine splitI (fun h=>?_) fun h=>?_ | with_reducible refine splitBI (fun h=>?_) fun h=>?_ | simp (maxSteps:=999999) (disch:=first | assumption | omega | (simp; done) | fail) [Tryd.results69, *]
    exact ⟨e.1,e.2,HM.out,hok⟩
 ·have hltI:¬(k:Int) < (row.length:Int):=by omega
  have hk2:k=row.length:=by omega
  have HK2:=Hide.mk hk2
  clear hk2
  iterate 6 all_goals try first | with_reducible refine splitI (fun h=>?_) fun h=>?_ | with_reducible refine splitBI (fun h=>?_) fun h=>?_ | simp (maxSteps:=999999) (disch:=first | assumption | omega | (simp; done) | fail) [Tryd.results69, *]
  have h0:=HPRE.out
  rw [HK2.out,List.take_length] at h0
  exact fun a b hab=>h0 _ hab
theorem cFunc_w {M:MachM} (row:List (Int×Int)) (hrl:row.length≤1000000) (sv:AV) (p:Nat) (g:Nat→Option Blk) (n:Nat) (ms:List AV) (hr:RepM g n M ms) (hp:g p=some (.cells ms true 0)) (hpn:p < n) (hsv:SliceV g n sv row.length (rowC row)) :
  WC 6 Tryd.prog 52 [sv,.func (.func 53) [] [.ptr p 0]] ⟨.fn g,n⟩ fun r=>r=.ret (.lit (.bool (row.any fun e=>!edgeOK M.rows.length M.out e))) ⟨.fn g,n⟩:=by
 have HI:=Hide.mk (iFunc_w row hrl sv p g n ms hr hp hpn hsv)
 clear hr hp hsv
 refine WC.enterP (noO_ok _ _) hG [] Tryd.func52 rfl (by decide +kernel) (Nat.le_of_ble_eq_true (by kernel_rfl)) ?_
 iterate 6 all_goals try first | with_reducible refine splitI (fun h=>?_) fun h=>?_ | with_reducible refine splitBI (fun h=>?_) fun h=>?_ | simp (maxSteps:=999999) (disch:=first | assumption | omega | (simp; done) | fail) [Tryd.results52, *]
 refine WC.mono HI.out ?_
 rintro _ ⟨z,rfl,hz⟩
 generalize (row.any fun e=>!edgeOK M.rows.length M.out e)=bb at *
 cases bb with
 | true =>
  have hz1:0≤z:=of_decide_eq_true hz
  clear hz
  iterate 6 all_goals try first | with_reducible refine splitI (fun h=>?_) fun h=>?_ | with_reducible refine splitBI (fun h=>?_) fun h=>?_ | simp (maxSteps:=999999) (disch:=first | assumption | omega | (simp; done) | fail) [Tryd.results52, *]
 | false =>
  have hz1:¬0≤z:=of_decide_eq_false hz
  clear hz
  iterate 6 all_goals try first | with_reducible refine splitI (fun h=>?_) fun h=>?_ | with_reducible refine splitBI (fun h=>?_) fun h=>?_ | simp (maxSteps:=999999) (disch:=first | assumption | omega | (simp; done) | fail) [Tryd.results52, *]
def mErr (M:MachM) : Int :=
 if M.inp > 16∨M.out > 16∨M.rows.length > 64 then 3 else if M.inp < 1∨M.out < 1∨M.rows.length < 1 then 1
 else if (∀ r∈M.rows,(r.length:Int)=M.inp∧(r.any fun e=>!edgeOK M.rows.length M.out e)=false) then 0 else 1
theorem mErr_ok {M:MachM} : mErr M=0↔M.ok:=by
 unfold mErr MachM.ok
 split
 ·constructor
  ·intro h; cases h
  ·intro h; omega
 split
 ·constructor
  ·intro h; cases h
  ·intro h; omega
 split
 ·rename_i h1 h2 h3
  refine ⟨fun _=>⟨by omega,by omega,by omega,by omega,by omega,by omega,fun r hr=>⟨(h3 r hr).1,fun e he=>?_⟩⟩,fun _=>rfl⟩
  have h4:=(h3 r hr).2
  rw [List.any_eq_false] at h4
  simpa using h4 e he
 ·rename_i h1 h2 h3
  constructor
  ·intro h; cases h
  ·intro h
   exfalso
   refine h3 fun r hr=>⟨(h.2.2.2.2.2.2 r hr).1,?_⟩
   rw [List.any_eq_false]
   intro e he
   rw [(h.2.2.2.2.2.2 r hr).2 e he]; decide
theorem mCheck_w {M:MachM} (hrl:∀ r∈M.rows,r.length≤1000000) (g:Nat→Option Blk) (n:Nat) (ms:List AV) (hr:RepM g n M ms) :
  WC 6 Tryd.prog 26 [.agg ms] ⟨.fn g,n⟩ fun r=>r=.ret (.lit (.int .i64 (mErr M))) ⟨.fn g,n⟩:=by
 refine WC.drop1 rfl ?_
 have HR:=Hide.mk hr
 obtain ⟨rv,svs,rfl,hrows,hrv⟩:=hr
 have h1r:=hrv.one
 have h1a:allOne [.lit (.int .i64 M.inp),.lit (.int .i64 M.out),rv]=true:=by simp [h1r]
 have hlen:=@lenV Tryd.prog _ _ _ _ _ hrv
 have HROW:=Hide.mk hrows
 have HRV:=Hide.mk hrv
 have HRL:=Hide.mk hrl
 have hsl:=hrows.len
 clear hrows hrv hrl
 refine WC.enterP (noO_ok _ _) hG [] Tryd.func26 rfl (by decide +kernel) (Nat.le_of_ble_eq_true (by kernel_rfl)) ?_
 by_cases a1:(16:Int) < M.inp
 ·have hm:mErr M=3:=by unfold mErr; rw [if_pos (by omega)]
  rw [hm]
  iterate 6 all_goals try first | with_reducible refine splitI (fun h=>?_) fun h=>?_ | with_reducible refine splitBI (fun h=>?_) fun h=>?_ | simp (maxSteps:=999999) (disch:=first | assumption | omega | (simp; done) | fail) [Tryd.results26, *]
  exact ⟨Nat.le_succ n,fun b hb=>gput_lt hb⟩
 by_cases a2:(16:Int) < M.out
 ·have hm:mErr M=3:=by unfold mErr; rw [if_pos (by omega)]
  rw [hm]
  iterate 6 all_goals try first | with_reducible refine splitI (fun h=>?_) fun h=>?_ | with_reducible refine splitBI (fun h=>?_) fun h=>?_ | simp (maxSteps:=999999) (disch:=first | assumption | omega | (simp; done) | fail) [Tryd.results26, *]
  exact ⟨Nat.le_succ n,fun b hb=>gput_lt hb⟩
 by_cases a3:(64:Int) < (M.rows.length:Int)
 ·have hm:mErr M=3:=by unfold mErr; rw [if_pos (by omega)]
  rw [hm]
  iterate 6 all_goals try first | with_reducible refine splitI (fun h=>?_) fun h=>?_ | with_reducible refine splitBI (fun h=>?_) fun h=>?_ | simp (maxSteps:=999999) (disch:=first | assumption | omega | (simp; done) | fail) [Tryd.results26, *]
  exact ⟨Nat.le_succ n,fun b hb=>gput_lt hb⟩
 by_cases b1:M.inp < 1
 ·have hm:mErr M=1:=by unfold mErr; rw [if_neg (by omega),if_pos (by omega)]
  rw [hm]
  iterate 6 all_goals try first | with_reducible refine splitI (fun h=>?_) fun h=>?_ | with_reducible refine splitBI (fun h=>?_) fun h=>?_ | simp (maxSteps:=999999) (disch:=first | assumption | omega | (simp; done) | fail) [Tryd.results26, *]
  exact ⟨Nat.le_succ n,fun b hb=>gput_lt hb⟩
 by_cases b2:M.out < 1
 ·have hm:mErr M=1:=by unfold mErr; rw [if_neg (by omega),if_pos (by omega)]
  rw [hm]
  iterate 6 all_goals try first | with_reducible refine splitI (fun h=>?_) fun h=>?_ | with_reducible refine splitBI (fun h=>?_) fun h=>?_ | simp (maxSteps:=999999) (disch:=first | assumption | omega | (simp; done) | fail) [Tryd.results26, *]
  exact ⟨Nat.le_succ n,fun b hb=>gput_lt hb⟩
 by_cases b3:(M.rows.length:Int) < 1
 ·have hm:mErr M=1:=by unfold mErr; rw [if_neg (by omega),if_pos (by omega)]
  rw [hm]
  iterate 6 all_goals try first | with_reducible refine splitI (fun h=>?_) fun h=>?_ | with_reducible refine splitBI (fun h=>?_) fun h=>?_ | simp (maxSteps:=999999) (disch:=first | assumption | omega | (simp; done) | fail) [Tryd.results26, *]
  exact ⟨Nat.le_succ n,fun b hb=>gput_lt hb⟩
 have hgo:mErr M=if (∀ r∈M.rows,(r.length:Int)=M.inp∧(r.any fun e=>!edgeOK M.rows.length M.out e)=false) then 0 else 1:=by unfold mErr; rw [if_neg (by omega),if_neg (by omega)]
 have HGO:=Hide.mk hgo
 clear hgo
 iterate 6 all_goals try first | with_reducible refine splitI (fun h=>?_) fun h=>?_ | with_reducible refine splitBI (fun h=>?_) fun h=>?_ | simp (maxSteps:=999999) (disch:=first | assumption | omega | (simp; done) | fail) [Tryd.results26, *]
 refine LX.ind (fun m gf H'=>∃ (k:Nat),k≤M.rows.length∧m=M.rows.length - k∧H'=⟨.fn (gput g n (some (.cells [.lit (.int .i64 M.inp),.lit (.int .i64 M.out),rv] true 0))),n+1⟩∧(∀ r∈M.rows.take k,(r.length:Int)=M.inp∧(r.any fun e=>!edgeOK M.rows.length M.out e)=false) ∧
  gf 1=some (.ptr n 0)∧gf 34=some rv∧gf 35=some (.lit (.int .i64 M.rows.length))∧gf 36=some (.lit (.int .i64 k))) (m0:=M.rows.length) ?_ ?_
 ·exact ⟨0,Nat.zero_le _,rfl,rfl,by simp,by simp,by simp,by simp,by simp⟩
 rintro m gf H' ⟨k,hk,rfl,rfl,hpre,w1,w34,w35,w36⟩ ih
 have HPRE:=Hide.mk hpre
 clear hpre
 refine LX.roundP (noO_ok _ _) hG [] (by decide +kernel) ?_
 by_cases hlt:k < M.rows.length
 ·have hltI:(k:Int) < (M.rows.length:Int):=by omega
  have hR:=HROW.out.at k hlt (by omega)
  rcases HRV.out with ⟨h1,_⟩ | ⟨a2',off,ha2,hev,hrow⟩
  ·omega
  have hcell:=(hrow.mono (g':=gput g n (some (.cells [.lit (.int .i64 M.inp),.lit (.int .i64 M.out),rv] true 0))) (gput_lt ha2)).one (k:=k) (s:=1) (by omega)
  rw [gput_lt ha2] at hcell
  have htk:M.rows.take (k+1)=M.rows.take k++[M.rows[k]]:=by rw [List.take_succ,List.getElem?_eq_getElem hlt]; rfl
  have hmem:=List.getElem_mem hlt
  have hrl:=HRL.out _ hmem
  have HT:=Hide.mk htk
  have HM:=Hide.mk hmem
  clear htk hmem hrow
  generalize svs[k]'(by omega)=sv at hR hcell
  generalize M.rows[k]=row at hR HT HM hrl
  have hlen2:=@lenV Tryd.prog _ _ _ _ _ hR
  have hcf:=cFunc_w (M:=M) row hrl sv n (gput g n (some (.cells [.lit (.int .i64 M.inp),.lit (.int .i64 M.out),rv] true 0))) (n+1) _ (HR.out.mono (by omega) fun q hq=>gput_lt hq) gput_eq (by omega) (hR.mono (by omega) fun q hq=>gput_lt hq)
  have HCF:=Hide.mk hcf
  clear hcf hR
  by_cases hli:(row.length:Int)=M.inp
  ·cases hok:(row.any fun e=>!edgeOK M.rows.length M.out e) with
   | true =>
    rcases hev with ⟨c2,rfl⟩ | ⟨c2,rfl⟩
    all_goals
     iterate 6 all_goals try first | with_reducible refine splitI (fun h=>?_) fun h=>?_ | with_reducible refine splitBI (fun h=>?_) fun h=>?_ | simp (maxSteps:=999999) (disch:=first | assumption | omega | (simp; done) | fail) [Tryd.results26, *]
     refine WC.mono HCF.out ?_
     rintro _ rfl
     rw [hok]
     have hm:mErr M=1:=by rw [HGO.out,if_neg (fun h=>by have:=(h row HM.out).2; rw [hok] at this; cases this)]
     rw [hm]
     iterate 6 all_goals try first | with_reducible refine splitI (fun h=>?_) fun h=>?_ | with_reducible refine splitBI (fun h=>?_) fun h=>?_ | simp (maxSteps:=999999) (disch:=first | assumption | omega | (simp; done) | fail) [Tryd.results26, *]
     exact ⟨Nat.le_succ n,fun b hb=>gput_lt hb⟩
   | false =>
    rcases hev with ⟨c2,rfl⟩ | ⟨c2,rfl⟩
    all_goals
     iterate 6 all_goals try first | with_reducible refine splitI (fun h=>?_) fun h=>?_ | with_reducible refine splitBI (fun h=>?_) fun h=>?_ | simp (maxSteps:=999999) (disch:=first | assumption | omega | (simp; done) | fail) [Tryd.results26, *]
     refine WC.mono HCF.out ?_
     rintro _ rfl
     rw [hok]
     iterate 6 all_goals try first | with_reducible refine splitI (fun h=>?_) fun h=>?_ | with_reducible refine splitBI (fun h=>?_) fun h=>?_ | simp (maxSteps:=999999) (disch:=first | assumption | omega | (simp; done) | fail) [Tryd.results26, *]
     refine ih.out (M.rows.length - (k+1)) _ _ (by omega) ⟨k+1,by omega,rfl,rfl,fun e' he'=>?_,by simp [*],by simp [*],by simp [*],by simp⟩
     rw [HT.out] at he'
     rcases List.mem_append.1 he' with h | h
     ·exact HPRE.out e' h
     ·rw [List.mem_singleton.1 h]; exact ⟨hli,hok⟩
  ·rcases hev with ⟨c2,rfl⟩ | ⟨c2,rfl⟩
   all_goals
    have hm:mErr M=1:=by rw [HGO.out,if_neg (fun h=>hli (h row HM.out).1)]
    rw [hm]
    iterate 6 all_goals try first | with_reducible refine splitI (fun h=>?_) fun h=>?_ | with_reducible refine splitBI (fun h=>?_) fun h=>?_ | simp (maxSteps:=999999) (disch:=first | assumption | omega | (simp; done) | fail) [Tryd.results26, *]
    exact ⟨Nat.le_succ n,fun b hb=>gput_lt hb⟩
 ·have hltI:¬(k:Int) < (M.rows.length:Int):=by omega
  have hk2:k=M.rows.length:=by omega
  have hm:mErr M=0:=by
   rw [HGO.out,if_pos]
   have h0:=HPRE.out
   rw [hk2,List.take_length] at h0
   exact h0
  rw [hm]
  clear hk2
  iterate 6 all_goals try first | with_reducible refine splitI (fun h=>?_) fun h=>?_ | with_reducible refine splitBI (fun h=>?_) fun h=>?_ | simp (maxSteps:=999999) (disch:=first | assumption | omega | (simp; done) | fail) [Tryd.results26, *]
  exact ⟨Nat.le_succ n,fun b hb=>gput_lt hb⟩
end Go.Ai
end
section
namespace Go.Ai
open Go.Proofs
set_option maxRecDepth 10000
set_option maxHeartbeats 40000000
end Go.Ai
end
section
namespace Go.Ai
open Go.Proofs
set_option maxRecDepth 10000
set_option maxHeartbeats 40000000
theorem ops_subs (op:Nat) (h:op < 15) : loadB (some (false,1)) (some opsB) (op * 4)=some (.lit (.int .i64 (subsM op:Nat))):=by
 have:op=0∨op=1∨op=2∨op=3∨op=4∨op=5∨op=6∨op=7∨op=8∨op=9∨op=10∨op=11∨op=12∨op=13∨op=14:=by omega
 rcases this with rfl | rfl | rfl | rfl | rfl | rfl | rfl | rfl | rfl | rfl | rfl | rfl | rfl | rfl | rfl <;> rfl
theorem valid_yes (st inp out:Int) : ∀ (m:Nat),m≤1000000→∀ (x:NodeM),sizeN x≤m→validM st inp out x=true→∀ (g:Nat→Option Blk) (n:Nat) (cs:List AV),g 0=some opsB→0 < n→repN g n x cs →
    WC 6 Tryd.prog 56 [.agg cs,.lit (.int .i64 st),.lit (.int .i64 inp),.lit (.int .i64 out)] ⟨.fn g,n⟩ fun r=>r=.ret (.lit (.bool true)) ⟨.fn g,n⟩:=by
  intro m
  induction m with
  | zero=>intro _ x hx; cases x; unfold sizeN at hx; omega
  | succ m ihm =>
    intro hm x hx hv g n cs hops hn0 hr
    have IH:=Hide.mk ihm
    clear ihm
    refine WC.drop1 rfl ?_
    cases x with
    | mk op a b subs =>
      obtain ⟨hop,sv,rfl,hsv⟩:=hr
      simp only [validM,Bool.and_eq_true,decide_eq_true_eq] at hv
      obtain ⟨v1,v2,v3,v4,v5,v6,v7⟩:=hv
      have hld:=ops_subs op v1
      obtain ⟨sv',hq⟩ : ∃ sv',Hide (sv'=sv):=⟨_,⟨rfl⟩⟩
      have hsz:sizeL subs≤m:=by unfold sizeN at hx; omega
      have hlen:subs.length≤1000000:=Nat.le_trans (len_size subs) (by omega)
      have V7:=Hide.mk v7
      have v1I:¬(15:Int)≤(op:Int):=by omega
      have v1J:(op:Int) < 15:=by omega
      have v3I:¬a < 0:=by omega
      have v4I:¬b < 0:=by omega
      have hdec:(op=1∧a < st∧b < 1)∨(op=2∧a < inp∧b < 1)∨(op=3∧a < inp∧b < out)∨(¬(op:Int)=1∧¬(op:Int)=2∧¬(op:Int)=3∧a < 1∧b < 1):=by
        by_cases h1:op=1
        · subst h1; exact .inl ⟨rfl,by simpa using v5,by simpa using v6⟩
        by_cases h2:op=2
        · subst h2; exact .inr (.inl ⟨rfl,by simpa using v5,by simpa using v6⟩)
        by_cases h3:op=3
        · subst h3; exact .inr (.inr (.inl ⟨rfl,by simpa using v5,by simpa using v6⟩))
        · rw [if_neg h1,if_neg (by omega)] at v5
          rw [if_neg h3] at v6
          exact .inr (.inr (.inr ⟨by omega,by omega,by omega,v5,v6⟩))
      clear v5 v6 v7
      rw [← v2] at hld
      clear v2
      rcases hsv with ⟨hsub,rfl | rfl⟩ | ⟨ad,off,r,han,⟨c,rfl⟩ | ⟨c,rfl⟩,hrow,hrep⟩
      all_goals rcases hdec with ⟨rfl,d1,d2⟩ | ⟨rfl,d1,d2⟩ | ⟨rfl,d1,d2⟩ | ⟨d3,d4,d5,d1,d2⟩
      all_goals have d1I:=Int.not_le.2 d1
      all_goals have d2I:=Int.not_le.2 d2
      all_goals refine WC.enterP (noO_ok _ _) hG pl56 Tryd.func56 rfl (by decide +kernel) (Nat.le_of_ble_eq_true (by kernel_rfl)) ?_
      all_goals try simp (maxSteps:=999999) (disch:=first | assumption | omega | (simp; done) | fail) [Tryd.results56, *]
      all_goals
        refine LX.ind (fun m gf H'=>∃ (k n' : Nat) (g' : Nat→Option Blk),k≤subs.length∧m=subs.length - k∧H'=⟨.fn g',n'⟩∧n < n'∧(∀ b,b < n→g' b=g b) ∧
          gf 1=some (.lit (.int .i64 st))∧gf 2=some (.lit (.int .i64 inp))∧gf 3=some (.lit (.int .i64 out))∧gf 61=some sv'∧gf 62=some (.lit (.int .i64 subs.length))∧gf 63=some (.lit (.int .i64 k))∧validL st inp out (subs.drop k)=true) (m0:=subs.length) ?_ ?_
        · exact ⟨0,n+1,_,Nat.zero_le _,rfl,rfl,by omega,fun b hb=>gput_lt hb,by simp,by simp,by simp,by simp [hq.out],by simp [*],by simp,V7.out⟩
        rintro m' gf H' ⟨k,n',g',hk,rfl,rfl,hn',hg',w1,w2,w3,w61,w62,w63,hc⟩ ih
        refine LX.roundP (noO_ok _ _) hG pl56 (by decide +kernel) ?_
        rw [hq.out] at w61
        have HG:=Hide.mk hg'
        have HC:=Hide.mk hc
        clear hg' hc
        by_cases hlt:k < subs.length
        · first
          | (exfalso; rw [hsub] at hlt; simp at hlt; done)
          | (have hy0:=repL_at hrep k hlt
             have hrl:=repL_len hrep
             have hrow':=(hrow.mono (HG.out ad han)).agg (k:=k * 4) (s:=4) (by omega)
             have hdrop:subs.drop k=subs[k] :: subs.drop (k+1):=List.drop_eq_getElem_cons hlt
             have hszy:sizeN subs[k]≤m:=Nat.le_trans (size_mem (List.getElem_mem hlt)) hsz
             have hvk:=HC.out
             rw [hdrop,validL,Bool.and_eq_true] at hvk
             generalize subs[k]=y at hy0 hdrop hszy hvk
             obtain ⟨hvy,hvr⟩:=hvk
             obtain ⟨k2,k3,sv2,hcy,h1c,hop2⟩:=repN_one hy0
             rw [hcy] at hrow' hy0
             have h1a:allOne [.lit (.int .u8 y.op),.lit (.int .i64 k2),.lit (.int .i64 k3),sv2]=true:=by simp [h1c]
             have HY:=Hide.mk hy0
             have HD:=Hide.mk hdrop
             have HR:=Hide.mk hrep
             have HR2:=Hide.mk hrow
             have HVY:=Hide.mk hvy
             have HVR:=Hide.mk hvr
             have hlt' : (k:Int) < (subs.length:Int):=by omega
             clear hy0 hdrop hrep hrow hcy hrl hvy hvr
             try simp (maxSteps:=999999) (disch:=first | assumption | omega | (simp; done) | fail) [Tryd.results56, *]
             refine WC.mono (IH.out (by omega) y hszy HVY.out _ _ _ (by rw [gput_lt (by omega)]; exact (HG.out 0 hn0).trans hops) (by omega) (repN_mono (b':=n'+1) (by omega) (fun a ha=>(gput_lt (by omega)).trans (HG.out a ha)) HY.out)) ?_
             rintro _ rfl
             try simp (maxSteps:=999999) (disch:=first | assumption | omega | (simp; done) | fail) [Tryd.results56, *]
             exact ih.out (subs.length - (k+1)) _ _ (by omega) ⟨k+1,n'+1,_,hlt,rfl,rfl,by omega,fun b hb=>(gput_lt (by omega)).trans (HG.out b hb),by simp [*],by simp [*],by simp [*],by simp [*,hq.out],by simp [*],by simp [*],HVR.out⟩)
        · have hkn:k=subs.length:=by omega
          subst hkn
          first | clear hsub | clear hrep hrow
          try simp (maxSteps:=999999) (disch:=first | assumption | omega | (simp; done) | fail) [Tryd.results56, *]
          all_goals first
            | (exfalso; omega)
            | exact ⟨_,⟨rfl,rfl⟩,⟨Nat.le_of_lt hn',fun b hb=>HG.out b hb⟩⟩
            | exact ⟨Nat.le_of_lt hn',fun b hb=>HG.out b hb⟩
end Go.Ai
end
section
namespace Go.Ai
open Go.Proofs
set_option maxRecDepth 10000
set_option maxHeartbeats 40000000
theorem small_w:∀ (m:Nat),m≤1000000→∀ (x:NodeM),sizeN x≤m→∀ (g:Nat→Option Blk) (n p:Nat) (cs:List AV) (left:Int),repN g n x cs→p < n→g p=some (.cells [.lit (.int .i64 left)] true 0)→0≤left→left≤1000000 →
    WC 6 Tryd.prog 43 [.agg cs,.ptr p 0] ⟨.fn g,n⟩ fun r=>r=.ret (.lit (.bool (smallM x left).1)) ⟨.fn (gput g p (some (.cells [.lit (.int .i64 (smallM x left).2)] true 0))),n⟩:=by
  intro m
  induction m with
  | zero=>intro _ x hx; cases x; unfold sizeN at hx; omega
  | succ m ihm =>
    intro hm x hx g n p cs left hr hp hgp h0 h1
    have IH:=Hide.mk ihm
    clear ihm
    refine WC.drop2 rfl rfl ?_
    cases x with
    | mk op k kb subs =>
      obtain ⟨hop,sv,rfl,hsv⟩:=hr
      rw [smallM]
      obtain ⟨sv',hq⟩ : ∃ sv',Hide (sv'=sv):=⟨_,⟨rfl⟩⟩
      have hsz:sizeL subs≤m:=by unfold sizeN at hx; omega
      have hlen:subs.length≤1000000:=Nat.le_trans (len_size subs) (by omega)
      rcases hsv with ⟨hsub,rfl | rfl⟩ | ⟨a,off,r,han,⟨c,rfl⟩ | ⟨c,rfl⟩,hrow,hrep⟩
      all_goals refine WC.enterP (noO_ok _ _) hG [] Tryd.func43 rfl (by decide +kernel) (Nat.le_of_ble_eq_true (by kernel_rfl)) ?_
      all_goals iterate 14 (all_goals try (first | with_reducible refine splitI (fun h=>?_) (fun h=>?_) | with_reducible refine splitBI (fun h=>?_) (fun h=>?_) | simp (disch:=first | assumption | omega | (simp; done) | fail) [Tryd.results43, *]))
      all_goals
        refine LX.ind (fun m gf H'=>∃ (k n' : Nat) (g' : Nat→Option Blk) (left' : Int),k≤subs.length∧m=subs.length - k∧H'=⟨.fn g',n'⟩∧n≤n'∧(∀ b,b < n→b≠p→g' b=g b)∧g' p=some (.cells [.lit (.int .i64 left')] true 0) ∧
          -1≤left'∧left'≤1000000∧gf 1=some (.ptr p 0)∧gf 13=some sv'∧gf 14=some (.lit (.int .i64 subs.length))∧gf 15=some (.lit (.int .i64 k))∧smallL subs (left - 1)=smallL (subs.drop k) left') (m0:=subs.length) ?_ ?_
        · refine ⟨0,_,_,left - 1,Nat.zero_le _,rfl,rfl,by omega,fun b hb hne=>?_,?_,by omega,by omega,by simp,by simp [hq.out],by simp [*],by simp,rfl⟩
          · unfold gput; rw [if_neg hne,if_neg (Nat.ne_of_lt hb)]
          · unfold gput; rw [if_pos rfl]
        rintro m' gf H' ⟨k,n',g',left',hk,rfl,rfl,hn',hg',hgp',hl0,hl1,g1,g13,g14,g15,hc⟩ ih
        refine LX.roundP (noO_ok _ _) hG [] (by decide +kernel) ?_
        rw [hq.out] at g13
        have HG:=Hide.mk hg'
        have HC:=Hide.mk hc
        clear hg' hc
        by_cases hlt:k < subs.length
        · first
          | (exfalso; rw [hsub] at hlt; simp at hlt; done)
          | (have hy0:=repL_at hrep k hlt
             have hrl:=repL_len hrep
             have hap:a≠p:=row_ne hrow hgp (by omega)
             have hrow':=(hrow.mono (HG.out a han hap)).agg (k:=k * 4) (s:=4) (by omega)
             have hdrop:subs.drop k=subs[k] :: subs.drop (k+1):=List.drop_eq_getElem_cons hlt
             have hszy:sizeN subs[k]≤m:=Nat.le_trans (size_mem (List.getElem_mem hlt)) hsz
             generalize subs[k]=y at hy0 hdrop hszy
             obtain ⟨k2,k3,sv2,hcy,h1c,hop2⟩:=repN_one hy0
             rw [hcy] at hrow' hy0
             have h1a:allOne [.lit (.int .u8 y.op),.lit (.int .i64 k2),.lit (.int .i64 k3),sv2]=true:=by simp [h1c]
             have HY:=Hide.mk hy0
             have HD:=Hide.mk hdrop
             have HR:=Hide.mk hrep
             have HR2:=Hide.mk hrow
             clear hy0 hdrop hrep hrow hcy hrl
             iterate 14 (all_goals try (first | with_reducible refine splitI (fun h=>?_) (fun h=>?_) | with_reducible refine splitBI (fun h=>?_) (fun h=>?_) | simp (disch:=first | assumption | omega | (simp; done) | fail) [Tryd.results43, *]))
             · refine ⟨_,_,⟨?_,rfl,rfl⟩,by omega,fun b hb hne=>(gput_lt (by omega)).trans (HG.out b hb hne),?_⟩
               · rw [HC.out,HD.out,smallL,if_pos h]
               · rw [gput_lt (by omega),hgp',HC.out,HD.out,smallL,if_pos h]
             · have hge:¬left' < 0:=h
               have hlo:=smallM_lo y left' (by omega)
               refine (IH.out (by omega) y hszy _ _ p _ left' (repN_put (b':=n'+1) (by omega) (fun a ha hne=>(gput_lt (by omega)).trans (HG.out a ha hne)) hgp ((gput_lt (by omega)).trans hgp') HY.out) (by omega) ((gput_lt (by omega)).trans hgp') (by omega) hl1).mono ?_
               rintro _ rfl
               iterate 10 (all_goals try (first | with_reducible refine splitI (fun h=>?_) (fun h=>?_) | with_reducible refine splitBI (fun h=>?_) (fun h=>?_) | simp (disch:=first | assumption | omega | (simp; done) | fail) [Tryd.results43, *]))
               · refine ih.out (subs.length - (k+1)) _ _ (by omega) ⟨k+1,n'+1,_,(smallM y left').2,hlt,rfl,rfl,by omega,fun b hb hne=>?_,?_,hlo.1,by omega,by simp [*],by simp [*,hq.out],by simp [*],by simp,?_⟩
                 · unfold gput; rw [if_neg hne]; dsimp only; rw [if_neg (by omega)]; exact HG.out b hb hne
                 · unfold gput; rw [if_pos rfl]
                 · rw [HC.out,HD.out,smallL_true hge h]
               · refine ⟨_,_,⟨?_,rfl,rfl⟩,by omega,fun b hb hne=>?_,?_⟩
                 · rw [HC.out,HD.out,smallL_false hge h]
                 · unfold gput; rw [if_neg hne]; dsimp only; rw [if_neg (by omega)]; exact HG.out b hb hne
                 · unfold gput; rw [if_pos rfl,HC.out,HD.out,smallL_false hge h])
        · have HDN:=Hide.mk (List.drop_eq_nil_of_le (by omega) : subs.drop k=[])
          have hkn:k=subs.length:=by omega
          subst hkn
          first | clear hsub | clear hrep hrow
          iterate 10 (all_goals try (first | with_reducible refine splitI (fun h=>?_) (fun h=>?_) | with_reducible refine splitBI (fun h=>?_) (fun h=>?_) | simp (disch:=first | assumption | omega | (simp; done) | fail) [Tryd.results43, *]))
          all_goals
            refine ⟨_,_,⟨?_,rfl,rfl⟩,hn',fun b hb hne=>HG.out b hb hne,?_⟩
            · rw [HC.out,HDN.out,smallL]; simp [h]
            · rw [hgp',HC.out,HDN.out,smallL]
end Go.Ai
end
section
namespace Go.Ai
open Go.Proofs
set_option maxRecDepth 10000
set_option maxHeartbeats 40000000
theorem checked_yes (st inp out:Int) (x:NodeM) (hx:sizeN x≤1000000) (hv:validM st inp out x=true) (hsm:(smallM x 64).1=true) (g:Nat→Option Blk) (n:Nat) (cs:List AV) (hops:g 0=some opsB) (hn0:0 < n) (hr:repN g n x cs) :
  WC 6 Tryd.prog 38 [.agg cs,.lit (.int .i64 st),.lit (.int .i64 inp),.lit (.int .i64 out)] ⟨.fn g,n⟩ fun r=>∃ g' n',r=.ret (.lit (.int .i64 0)) ⟨.fn g',n'⟩∧n≤n'∧∀ b,b < n→g' b=g b:=by
 obtain ⟨k2,k3,sv2,hcy,h1c,hop2⟩:=repN_one hr
 subst hcy
 have h1a:allOne [.lit (.int .u8 x.op),.lit (.int .i64 k2),.lit (.int .i64 k3),sv2]=true:=by simp [h1c]
 have HR:=Hide.mk hr
 clear hr
 refine WC.enterP (noO_ok _ _) hG [] Tryd.func38 rfl (by decide +kernel) (Nat.le_of_ble_eq_true (by kernel_rfl)) ?_
 try simp (maxSteps:=999999) (disch:=first | assumption | omega | (simp; done) | fail) [Tryd.results38, *]
 refine WC.mono (small_w 1000000 (Nat.le_refl _) x hx _ _ (n+1) _ 64 (repN_mono (by omega) (fun a ha=>(by simp (disch:=omega) only [gput_lt])) HR.out) (by omega) (by simp) (by omega) (by omega)) ?_
 rintro _ rfl
 rw [hsm]
 try simp (maxSteps:=999999) (disch:=first | assumption | omega | (simp; done) | fail) [Tryd.results38, *]
 refine WC.mono (valid_yes st inp out 1000000 (Nat.le_refl _) x hx hv _ _ _ (by simp (disch:=omega) only [gput_lt,gput_ne]; exact hops) (by omega) (repN_mono (by omega) (fun a ha=>by simp (disch:=omega) only [gput_lt,gput_ne]) HR.out)) ?_
 rintro _ rfl
 try simp (maxSteps:=999999) (disch:=first | assumption | omega | (simp; done) | fail) [Tryd.results38, *]
 refine ⟨_,_,⟨rfl,rfl⟩,by omega,fun b hb=>?_⟩
 simp (disch:=omega) only [gput_lt,gput_ne]
end Go.Ai
end
section
namespace Go.Ai
open Go.Proofs
set_option maxRecDepth 10000
set_option maxHeartbeats 40000000
theorem ok_len {M:MachM} (hM:M.ok) : ∀ r∈M.rows,r.length≤1000000:=fun r hr=>by
 have h1:=ok_row hM r hr
 have h2:M.inp≤16:=hM.2.1
 omega
theorem Check_yes {M:MachM} (hM:M.ok) (x:NodeM) (hx:sizeN x≤1000000) (hv:validM M.rows.length M.inp M.out x=true) (hsm:(smallM x 64).1=true) (g:Nat→Option Blk) (n:Nat) (ms xs:List AV) (hops:g 0=some opsB) (hn0:0 < n) (hr:RepM g n M ms) (hx0:repN g n x xs) :
  WC 6 Tryd.prog 28 [.agg ms,.agg xs] ⟨.fn g,n⟩ fun r=>∃ g' n',r=.ret (.lit (.int .i64 0)) ⟨.fn g',n'⟩∧n≤n'∧∀ b,b < n→g' b=g b:=by
 have HR:=Hide.mk hr
 have HX:=Hide.mk hx0
 have h0:=mErr_ok.2 hM
 obtain ⟨rv,svs,rfl,hrows,hrv⟩:=hr
 have h1r:=hrv.one
 have h1a:allOne [.lit (.int .i64 M.inp),.lit (.int .i64 M.out),rv]=true:=by simp [h1r]
 have hlen:=@lenV Tryd.prog _ _ _ _ _ hrv
 obtain ⟨k2,k3,sv2,hcy,h1c,hop2⟩:=repN_one hx0
 subst hcy
 have h1b:allOne [.lit (.int .u8 x.op),.lit (.int .i64 k2),.lit (.int .i64 k3),sv2]=true:=by simp [h1c]
 have HM:=Hide.mk (ok_len hM)
 clear hrows hrv hx0
 refine WC.enterP (noO_ok _ _) hG [] Tryd.func28 rfl (by decide +kernel) (Nat.le_of_ble_eq_true (by kernel_rfl)) ?_
 try simp (maxSteps:=999999) (disch:=first | assumption | omega | (simp; done) | fail) [Tryd.results28, *]
 refine WC.mono (mCheck_w HM.out _ _ _ (HR.out.mono (by omega) fun q hq=>by simp (disch:=omega) only [gput_lt])) ?_
 rintro _ rfl
 rw [h0]
 try simp (maxSteps:=999999) (disch:=first | assumption | omega | (simp; done) | fail) [Tryd.results28, *]
 refine WC.mono (checked_yes _ _ _ x hx hv hsm _ _ _ (by simp (disch:=omega) only [gput_lt]; exact hops) (by omega) (repN_mono (by omega) (fun a ha=>(by simp (disch:=omega) only [gput_lt])) HX.out)) ?_
 rintro _ ⟨g1,n1,rfl,hn1,hg1⟩
 have HG:=Hide.mk hg1
 clear hg1
 try simp (maxSteps:=999999) (disch:=first | assumption | omega | (simp; done) | fail) [Tryd.results28, *]
 refine ⟨_,_,⟨rfl,rfl⟩,by omega,fun b hb=>?_⟩
 rw [HG.out b (by omega)]
 simp (disch:=omega) only [gput_lt]
end Go.Ai
end
section
namespace Go.Ai
open Go.Proofs
set_option maxRecDepth 10000
set_option maxHeartbeats 40000000
theorem rSat_w {M:MachM} (hM:M.ok) : ∀ m,RSatW M m:=by
 intro m
 induction m with
 | zero=>intro x hx; cases x; unfold sizeN at hx; omega
 | succ m ih =>
  intro x hx hv g n ms xs hr hx0
  cases x with
  | mk op a b subs =>
  have v1:op < 15:=by
   have h:=hv
   unfold validM at h
   simp only [Bool.and_eq_true,decide_eq_true_eq] at h
   exact h.1
  rcases op_cases v1 with rfl | rfl | rfl | rfl | rfl | rfl | rfl | rfl | rfl | rfl | rfl | rfl | rfl | rfl | rfl
  ·exact rsem0_w hM ih a b subs hx hv g n ms xs hr hx0
  ·exact rsem1_w hM ih a b subs hx hv g n ms xs hr hx0
  ·exact rsem2_w hM ih a b subs hx hv g n ms xs hr hx0
  ·exact rsem3_w hM ih a b subs hx hv g n ms xs hr hx0
  ·exact rsem4_w hM ih a b subs hx hv g n ms xs hr hx0
  ·exact rsem5_w hM ih a b subs hx hv g n ms xs hr hx0
  ·exact rsem6_w hM ih a b subs hx hv g n ms xs hr hx0
  ·exact rsem7_w hM ih a b subs hx hv g n ms xs hr hx0
  ·exact rsem8_w hM ih a b subs hx hv g n ms xs hr hx0
  ·exact rsem9_w hM ih a b subs hx hv g n ms xs hr hx0
  ·exact rsem10_w hM ih a b subs hx hv g n ms xs hr hx0
  ·exact rsem11_w hM ih a b subs hx hv g n ms xs hr hx0
  ·exact rsem12_w hM ih a b subs hx hv g n ms xs hr hx0
  ·exact rsem13_w hM ih a b subs hx hv g n ms xs hr hx0
  ·exact rsem14_w hM ih a b subs hx hv g n ms xs hr hx0
end Go.Ai
end
section
namespace Go.Ai
open Go.Proofs
set_option maxRecDepth 10000
set_option maxHeartbeats 40000000
end Go.Ai
end
section
namespace Go.Proofs
open Go.Shelf
end Go.Proofs
end
section
namespace Go.Ai
open Go.Proofs
set_option maxRecDepth 10000
set_option maxHeartbeats 40000000
end Go.Ai
end
section
namespace Go.Ai
open Go.Proofs
set_option maxRecDepth 10000
set_option maxHeartbeats 40000000
def zB:AV:=.lit (.int .u8 0)
end Go.Ai
end
section
namespace Go.Ai
open Go.Proofs
set_option maxRecDepth 10000
theorem Sim.old {B G:Nat} {ρ:Rn} {H:Mem} {w w' : World} (s:Sim B G ρ H w) (h:RowKit.Below w.heap.size w w') : Sim B G ρ H w' :=
 s.other h.size fun a x b o k hx hr=>h.block b (s.at hx hr).lt
end Go.Ai
end
section
namespace Go.Ai
open Go.Proofs
set_option maxRecDepth 10000
set_option maxHeartbeats 40000000
def parB (s:ByteArray) (k:Nat) : Blk:=.cells [.lit (.string s),.lit (.string (tokB s k)),.lit (.int .i64 (k:Nat))] true 0
structure PAt (s:ByteArray) (p:Nat) (g:Nat→Option Blk) (n k:Nat) : Prop where
 ops:g 0=some opsB
 pw:g 1=some (.cells bP false 0)
 e2:g 2=some (.cells bX false 0)
 e3:g 3=some (.cells bY false 0)
 p0:3 < p
 pn:p < n
 cell:g p=some (parB s k)
 le:k≤s.size
theorem PAt.step {s:ByteArray} {p n n' k k' : Nat} {g g' : Nat→Option Blk} (h:PAt s p g n k) (hn:n≤n') (hg:∀ a,a < n→a≠p→g' a=g a) (hc:g' p=some (parB s k')) (hk:k'≤s.size) : PAt s p g' n' k':=by
 have h1:=h.p0
 have h2:=h.pn
 exact ⟨(hg 0 (by omega) (by omega)).trans h.ops,(hg 1 (by omega) (by omega)).trans h.pw,(hg 2 (by omega) (by omega)).trans h.e2,(hg 3 (by omega) (by omega)).trans h.e3,h1,by omega,hc,hk⟩
theorem PAt.keep {s:ByteArray} {p n n' k:Nat} {g g' : Nat→Option Blk} (h:PAt s p g n k) (hn:n≤n') (hg:∀ a,a < n→g' a=g a) : PAt s p g' n' k :=
 h.step hn (fun a ha _=>hg a ha) ((hg p h.pn).trans h.cell) h.le
end Go.Ai
end
section
namespace Go.Ai
open Go.Proofs
set_option maxRecDepth 10000
set_option maxHeartbeats 40000000
end Go.Ai
end
section
namespace Go.Ai
open Go.Proofs
set_option maxRecDepth 10000
set_option maxHeartbeats 40000000
end Go.Ai
end
section
namespace Go.Ai
open Go.Proofs
set_option maxRecDepth 10000
set_option maxHeartbeats 40000000
end Go.Ai
end
section
namespace Go.Ai
open Go.Proofs
set_option maxRecDepth 10000
set_option maxHeartbeats 40000000
end Go.Ai
end
section
namespace Go.Ai
open Go.Proofs
set_option maxRecDepth 10000
set_option maxHeartbeats 40000000
end Go.Ai
end
section
namespace Go.Ai
open Go.Proofs
set_option maxRecDepth 10000
set_option maxHeartbeats 40000000
def ResAt (pos:List Nat) (res:ParR) (x:NodeM) (j:Nat) (e:Int) : Prop :=
 match res with
 | .ok y k=>e=1∧x=y∧pos[j]?=some k
 | .err k=>e=0∧pos[j]?=some k
theorem ResAt.ok {pos:List Nat} {res:ParR} {x:NodeM} {j:Nat} (h:ResAt pos res x j 1) : ∃ y k,res=.ok y k∧x=y∧pos[j]?=some k:=by
 cases res with
 | ok y k=>exact ⟨y,k,rfl,h.2.1,h.2.2⟩
 | err k=>exact absurd h.1 (by decide)
end Go.Ai
end
section
namespace Go.Ai
open Go.Proofs
set_option maxRecDepth 10000
end Go.Ai
end
section
namespace Go.Ai
open Go.Proofs
set_option maxRecDepth 10000
set_option maxHeartbeats 4000000
section
variable {P:Program} {O:CallF} {L:LoopF} {ops:Array Oper} {l:List Oper} {fr:Fr} {u:Mode} {H H' : Mem} {d:Option Tmp} {op:Op} {t:TypeId} {p:String} {af:Array Edge}
end
section
variable {P:Program} {W:WF} {Q:Out→Prop} {fr:Fr} {H:Mem} {ev:Ev} {d:Option Tmp} {ty:TypeId} {p:String} {af:Array Edge} {g:Option (Nat×Bool)}
end
end Go.Ai
end
