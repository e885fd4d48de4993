/- A small verified interpreter over names, its proofs, and what was proved with it. No condition. -/
import Derived.Test.YtfllomlghjolpaaDoorS08
import Derived.Test.YtfllomlghjolpaaDoorS06
import Derived.Test.YtfllomlghjolpaaDoorS07
set_option linter.all false
set_option linter.deprecated false
section
namespace Go.Ai
open Go.Proofs
set_option maxRecDepth 10000
set_option maxHeartbeats 40000000
theorem rsem12_w {M:MachM} (hM:M.ok) {m:Nat} (IH0:RSatW M m) (a b:Int) (subs:List NodeM) (hx:sizeN (.mk 12 a b subs)≤m+1) (hv:validM M.rows.length M.inp M.out (.mk 12 a b subs)=true) (g:Nat→Option Blk) (n:Nat) (ms xs:List AV) (hr:RepM g n M ms) (hx0:repN g n (.mk 12 a b subs) xs) :
    WC 6 Tryd.prog 13 [.agg ms,.agg xs] ⟨.fn g,n⟩ (RQ M (.mk 12 a b subs) g n):=by
  have IH:=Hide.mk IH0
  have HMM:=Hide.mk hM
  have HR:=Hide.mk hr
  obtain ⟨rv,svs,rfl,hrows,hrv⟩:=hr
  have h1r:=hrv.one
  have h1a:allOne [.lit (.int .i64 M.inp),.lit (.int .i64 M.out),rv]=true:=by simp [h1r]
  have hlen:=@lenV Tryd.prog _ _ _ _ _ hrv
  have hsl:=hrows.len
  have HROW:=Hide.mk hrows
  have HRV:=Hide.mk hrv
  have HOK:=Hide.mk (ok_row hM)
  have h64:M.rows.length≤64:=hM.2.2.2.2.2.1
  have hz64:(M.rows.length:Int)≤1048576:=by omega
  have hrep:=hx0
  obtain ⟨hop,sv,rfl,hsv⟩:=hx0
  have h1s:oneC sv=true:=by
    obtain ⟨_,_,_,e1,e2,_⟩:=repN_one hrep
    cases e1; exact e2
  have h1x:allOne [.lit (.int .u8 ((12:Nat) : Int)),.lit (.int .i64 a),.lit (.int .i64 b),sv]=true:=by simp [h1s]
  have h1y:allOne [.lit (.int .u8 12),.lit (.int .i64 a),.lit (.int .i64 b),sv]=true:=by simp [h1s]
  have h1e:allOne [.lit (.int .i64 (-1)),.lit (.int .i64 0)]=true:=by simp
  unfold validM at hv
  simp only [Bool.and_eq_true,decide_eq_true_eq] at hv
  obtain ⟨v1,v2,v3,v4,v5,v6,v7⟩:=hv
  have v2' : subs.length=1:=v2
  have hsz:sizeL subs≤m:=by unfold sizeN at hx; omega
  have HSV:Hide ((subs=[]∧(sv=.lit (.slice none 0 0)∨sv=.es))∨∃ a off r,a < n∧((∃ c,sv=.sl a off subs.length c)∨(∃ c,sv=.slq a off subs.length c))∧Row g a off r∧repL g n subs r):=⟨hsv⟩
  have hlS:∀ {H:Mem} {e' : Ev} {o:Oper} {c' : Call} {e:TypeId},lenS Tryd.prog H e' o c' (some (.slice e)) (some [sv])=.val (.lit (.int .i64 1)) H:=by
    intro H e' o c' e
    rcases HSV.out with ⟨h1,rfl | rfl⟩ | ⟨a2,off,r,_,⟨c2,rfl⟩ | ⟨c2,rfl⟩,_⟩
    · rw [h1] at v2'; first | rfl | cases v2'
    · rw [h1] at v2'; first | rfl | cases v2'
    · rw [v2']; rfl
    · rw [v2']; rfl
  clear hrows hrv IH0 v1 v2 v5 v6 hx hop hM
  obtain ⟨y,rfl⟩ : ∃ y,subs=[y]:=by
    match subs,v2' with
    | [y],_=>exact ⟨y,rfl⟩
  rcases hsv with ⟨h1,_⟩ | ⟨a2,off,r,ha2,hev,hrow,hrl⟩
  · cases h1
  have hll:=repL_len hrl
  have hy0:=repL_at hrl 0 (by simp)
  have hc0:=hrow.agg (k:=0 * 4) (s:=4) (by rw [hll]; simp)
  have hy0' : repN g n y ((r.drop (0 * 4)).take 4):=hy0
  obtain ⟨k2,k3,sv2,hcy,h1c,hop2⟩:=repN_one hy0'
  rw [hcy] at hc0 hy0'
  have h1q:allOne [.lit (.int .u8 y.op),.lit (.int .i64 k2),.lit (.int .i64 k3),sv2]=true:=by simp [h1c]
  have hc0' : loadB (some (true,4)) (g a2) off=some (.agg [.lit (.int .u8 y.op),.lit (.int .i64 k2),.lit (.int .i64 k3),sv2]):=by simpa using hc0
  have hyv:=validL_mem v7 y (by simp)
  have hyz:sizeN y≤m:=Nat.le_trans (size_mem (by simp)) hsz
  have HY:=Hide.mk hy0'
  have HYV:=Hide.mk hyv
  clear hy0 hc0 hcy hy0' hyv hrow hrl hll hrep v7 v2' hsz HSV
  rcases hev with ⟨c2,rfl⟩ | ⟨c2,rfl⟩
  all_goals
    refine WC.enterP (noO_ok _ _) hG pl13 Tryd.func13 rfl (by decide +kernel) (Nat.le_of_ble_eq_true (by kernel_rfl)) ?_
    iterate 6 (all_goals try (first | with_reducible refine splitI (fun h=>?_) (fun h=>?_) | with_reducible refine splitBI (fun h=>?_) (fun h=>?_) | simp (config:={ maxSteps:=1000000 }) (disch:=first | assumption | omega | (simp; done) | fail) [Tryd.results13, *]))
    refine WC.mono (IH.out y hyz HYV.out _ _ _ _ (HR.out.mono (by omega) fun q hq=>by simp (disch:=omega) only [gput_lt]) (repN_mono (by omega) (fun q hq=>by simp (disch:=omega) only [gput_lt]) HY.out)) ?_
    rintro _ ⟨Aa,SA,g1,n1,rfl,hn1,hg1,hA1,hA2,hA3,hsemA⟩
    have HG:Hide (∀ q,q < n→g1 q=g q):=⟨fun q hq=>by rw [hg1 q (by omega)]; simp (disch:=omega) only [gput_lt]⟩
    have f0:g1 n=some (.cells [.lit (.int .i64 M.inp),.lit (.int .i64 M.out),rv] true 0):=by rw [hg1 n (by omega)]; simp (disch:=omega) only [gput_lt,gput_eq]
    have f1:=(hg1 (n+1) (by omega)).trans ((gput_lt (by omega)).trans ((gput_lt (by omega)).trans gput_eq))
    have f3:g1 (n+1+1+1)=some (.cells (intC M.rows.length noneS) true 0):=by rw [hg1 (n+1+1+1) (by omega),intC_none]; simp (disch:=omega) only [gput_eq]; try rfl
    have HSA:=Hide.mk hsemA
    clear hg1 hsemA
    have HSL:Hide (semL M [y] SA noneS):=⟨⟨HSA.out,eqS.refl _ _⟩⟩
    obtain ⟨xv,f1x⟩ : ∃ xv,g1 (n+1)=some (.cells [.lit (.int .u8 ((12:Nat) : Int)),.lit (.int .i64 a),.lit (.int .i64 b),xv] true 0):=⟨_,f1⟩
    clear HSA
    iterate 6 (all_goals try (first | with_reducible refine splitI (fun h=>?_) (fun h=>?_) | with_reducible refine splitBI (fun h=>?_) (fun h=>?_) | simp (config:={ maxSteps:=1000000 }) (disch:=first | assumption | omega | (simp; done) | fail) [Tryd.results13, *]))
    refine LX.ind (fun m gf H'=>∃ (k n' : Nat) (g' : Nat→Option Blk),k≤M.rows.length∧m=M.rows.length - k∧H'=⟨.fn g',n'⟩∧n1+1≤n'∧(∀ q,q < n→g' q=g q)∧g' n=some (.cells [.lit (.int .i64 M.inp),.lit (.int .i64 M.out),rv] true 0)∧g' (n+1)=some (.cells [.lit (.int .u8 12),.lit (.int .i64 a),.lit (.int .i64 b),xv] true 0)∧g' Aa=some (.cells (intC M.rows.length SA) true 0)∧g' (n+1+1+1)=some (.cells (intC M.rows.length noneS) true 0)∧g' n1=some (.cells (intC M.rows.length (upS noneS k)) true 0)∧gf 2=some (.ptr n 0)∧gf 3=some (.ptr (n+1) 0)∧gf 5=some (.lit (.int .i64 M.rows.length))∧gf 6=some (.sl Aa 0 M.rows.length M.rows.length)∧gf 7=some (.sl (n+1+1+1) 0 M.rows.length M.rows.length)∧gf 8=some (.sl n1 0 M.rows.length M.rows.length)∧gf 9=some (.lit (.int .i64 k))) (m0:=M.rows.length) ?_ ?_
    · refine ⟨0,_,_,Nat.zero_le _,rfl,rfl,Nat.le_refl _,fun q hq=>?_,?_,?_,?_,?_,?_,by simp [*],by simp [*],by simp [*],by simp [*],by simp [*],by simp [*],by simp⟩
      · simp (disch:=omega) only [gput_lt]
        exact HG.out q hq
      · simp (disch:=omega) only [gput_lt]
        exact f0
      · simp (disch:=omega) only [gput_lt]
        exact f1x
      · simp (disch:=omega) only [gput_lt]
        exact hA3
      · simp (disch:=omega) only [gput_lt]
        exact f3
      · rw [intC_zero]
        simp (disch:=omega) only [gput_eq]
        try rfl
    clear f0 f1x hA3 f3 HG f1
    rintro m gf H' ⟨k,nq,gq,hk,rfl,rfl,hnq,hgq,e0,e1,eA,eB,eO,w2,w3,w5,w6,w7,w8,w9⟩ ih
    have HGq:=Hide.mk hgq
    clear hgq
    refine LX.roundP (noO_ok _ _) hG pl13 (by decide +kernel) ?_
    by_cases hlt:k < M.rows.length
    · have hltI:(k:Int) < (M.rows.length:Int):=by omega
      have hRA:=rahead_w HMM.out k hlt SA Aa
      have HRA:=Hide.mk hRA
      clear hRA
      have HSAME:Hide (intC M.rows.length (upS noneS k)=intC M.rows.length (upS noneS (k+1))):=⟨by rw [up_none,up_none]⟩
      have hul:=intC_len M.rows.length (upS noneS k)
      have hset:=intC_set M.rows.length noneS k hlt
      have HSET:=Hide.mk hset
      clear hset
      have hclA:=intC_len M.rows.length SA
      have hclB:=intC_len M.rows.length noneS
      have hatA:=intC_at M.rows.length SA k
      have hatB:=intC_at M.rows.length noneS k
      rw [if_pos hlt] at hatA hatB
      have HRM:Hide (∀ (g' : Nat→Option Blk) (n' : Nat),n≤n'→(∀ q,q < n→g' q=gq q)→RepM g' n' M [.lit (.int .i64 M.inp),.lit (.int .i64 M.out),rv]):=⟨fun g' n' h1 h2=>HR.out.mono h1 fun q hq=>by rw [h2 q hq]; exact HGq.out q hq⟩
      have hkA:k < (intC M.rows.length SA).length:=by omega
      have hkB:k < (intC M.rows.length noneS).length:=by omega
      have hgA:(intC M.rows.length SA)[k]'hkA=.lit (.int .i64 (b01 (SA k))):=by
        rw [List.getElem?_eq_getElem hkA] at hatA
        exact Option.some.inj hatA
      have hgB:(intC M.rows.length noneS)[k]'hkB=.lit (.int .i64 (b01 (noneS k))):=by
        rw [List.getElem?_eq_getElem hkB] at hatB
        exact Option.some.inj hatB
      have eA' : Hide (gq Aa=some (.cells (intC M.rows.length SA) true 0)):=⟨eA⟩
      clear hatA hatB
      generalize intC M.rows.length (upS noneS k)=L at *
      have hkL:k < L.length:=by omega
      iterate 6 (all_goals try (first | with_reducible refine splitI (fun h=>?_) (fun h=>?_) | with_reducible refine splitBI (fun h=>?_) (fun h=>?_) | simp (config:={ maxSteps:=1000000 }) (disch:=first | assumption | omega | (simp; done) | fail) [Tryd.results13, *]))
      refine WC.mono (HRA.out _ _ _ (HRM.out _ _ (by omega) fun q hq=>by simp (disch:=omega) only [gput_lt]) (by simp (disch:=omega) only [gput_lt]; exact eA'.out) (by omega)) ?_
      rintro _ ⟨so,ma,rfl,hsm1,hsm2,hpre,hpost,hends⟩
      clear hpre hpost hends
      iterate 6 (all_goals try (first | with_reducible refine splitI (fun h=>?_) (fun h=>?_) | with_reducible refine splitBI (fun h=>?_) (fun h=>?_) | simp (config:={ maxSteps:=1000000 }) (disch:=first | assumption | omega | (simp; done) | fail) [Tryd.results13, *]))
      refine ih.out (M.rows.length - (k+1)) _ _ (by omega) ⟨k+1,nq+1,_,by omega,rfl,rfl,by omega,fun q hq=>?_,?_,?_,?_,?_,?_,by simp [*],by simp [*],by simp [*],by simp [*],by simp [*],by simp [*],by simp⟩
      · simp (disch:=omega) only [gput_lt,gput_ne]
        exact HGq.out q hq
      · simp (disch:=omega) only [gput_lt,gput_ne]
        exact e0
      · simp (disch:=omega) only [gput_lt,gput_ne]
        exact e1
      · simp (disch:=omega) only [gput_lt,gput_ne]
        exact eA'.out
      · simp (disch:=omega) only [gput_lt,gput_ne]
        exact eB
      · simp (disch:=omega) only [gput_lt,gput_ne,gput_eq]
        rw [← HSAME.out]
        exact eO
    · have hltI:¬(k:Int) < (M.rows.length:Int):=by omega
      have hk2:k=M.rows.length:=by omega
      have HK2:=Hide.mk hk2
      clear hk2
      iterate 6 (all_goals try (first | with_reducible refine splitI (fun h=>?_) (fun h=>?_) | with_reducible refine splitBI (fun h=>?_) (fun h=>?_) | simp (config:={ maxSteps:=1000000 }) (disch:=first | assumption | omega | (simp; done) | fail) [Tryd.results13, *]))
      have HOX:Hide (intC M.rows.length (upS noneS k)=intC M.rows.length (rounds M SA noneS 12 0)):=⟨by rw [HK2.out,intC_end]; first | rfl | (rw [rounds_all _ _ _ _ (by omega)])⟩
      refine LX.ind (fun m gf H'=>∃ (r n' Or:Nat) (g' : Nat→Option Blk),r≤M.rows.length+1∧m=M.rows.length+1 - r∧H'=⟨.fn g',n'⟩∧n1≤Or∧Or < n'∧(∀ q,q < n→g' q=g q)∧g' n=some (.cells [.lit (.int .i64 M.inp),.lit (.int .i64 M.out),rv] true 0)∧g' (n+1)=some (.cells [.lit (.int .u8 12),.lit (.int .i64 a),.lit (.int .i64 b),xv] true 0)∧g' Aa=some (.cells (intC M.rows.length SA) true 0)∧g' (n+1+1+1)=some (.cells (intC M.rows.length noneS) true 0)∧g' Or=some (.cells (intC M.rows.length (rounds M SA noneS 12 r)) true 0)∧gf 2=some (.ptr n 0)∧gf 3=some (.ptr (n+1) 0)∧gf 5=some (.lit (.int .i64 M.rows.length))∧gf 6=some (.sl Aa 0 M.rows.length M.rows.length)∧gf 7=some (.sl (n+1+1+1) 0 M.rows.length M.rows.length)∧gf 8=some (.sl Or 0 M.rows.length M.rows.length)∧gf 13=some (.lit (.int .i64 r))) (m0:=M.rows.length+1) ?_ ?_
      · exact ⟨0,nq,n1,gq,by omega,rfl,rfl,by omega,by omega,HGq.out,e0,e1,eA,eB,by rw [← HOX.out]; exact eO,by simp [*],by simp [*],by simp [*],by simp [*],by simp [*],by simp [*],by simp⟩
      clear ih eO HOX HK2 w2 w3 w5 w6 w7 w8 w9 e0 e1 eA eB HGq hnq hltI
      rintro m gf H' ⟨r,n2,Or,g2,hr2,rfl,rfl,hOr,hOn,hg2,e0,e1,eA,eB,eO,w2,w3,w5,w6,w7,w8,w13⟩ ih
      have HG2:=Hide.mk hg2
      clear hg2
      refine LX.roundP (noO_ok _ _) hG pl13 (by decide +kernel) ?_
      by_cases hrt:r≤M.rows.length
      · have hrtI:(r:Int)≤(M.rows.length:Int):=by omega
        have hr65:r≤64:=by omega
        iterate 6 (all_goals try (first | with_reducible refine splitI (fun h=>?_) (fun h=>?_) | with_reducible refine splitBI (fun h=>?_) (fun h=>?_) | simp (config:={ maxSteps:=1000000 }) (disch:=first | assumption | omega | (simp; done) | fail) [Tryd.results13, *]))
        refine LX.ind (fun m gf H'=>∃ (k:Nat) (g' : Nat→Option Blk),k≤M.rows.length∧m=M.rows.length - k∧H'=⟨.fn g',n2+1⟩∧(∀ q,q < n→g' q=g q)∧g' n=some (.cells [.lit (.int .i64 M.inp),.lit (.int .i64 M.out),rv] true 0)∧g' (n+1)=some (.cells [.lit (.int .u8 12),.lit (.int .i64 a),.lit (.int .i64 b),xv] true 0)∧g' Aa=some (.cells (intC M.rows.length SA) true 0)∧g' (n+1+1+1)=some (.cells (intC M.rows.length noneS) true 0)∧g' Or=some (.cells (intC M.rows.length (rounds M SA noneS 12 r)) true 0)∧g' n2=some (.cells (intC M.rows.length (upS (rounds M SA noneS 12 (r+1)) k)) true 0)∧gf 2=some (.ptr n 0)∧gf 3=some (.ptr (n+1) 0)∧gf 5=some (.lit (.int .i64 M.rows.length))∧gf 6=some (.sl Aa 0 M.rows.length M.rows.length)∧gf 7=some (.sl (n+1+1+1) 0 M.rows.length M.rows.length)∧gf 8=some (.sl Or 0 M.rows.length M.rows.length)∧gf 13=some (.lit (.int .i64 r))∧gf 14=some (.sl n2 0 M.rows.length M.rows.length)∧gf 15=some (.lit (.int .i64 k))) (m0:=M.rows.length) ?_ ?_
        · refine ⟨0,_,Nat.zero_le _,rfl,rfl,fun q hq=>?_,?_,?_,?_,?_,?_,?_,by simp [*],by simp [*],by simp [*],by simp [*],by simp [*],by simp [*],by simp [*],by simp,by simp⟩
          · simp (disch:=omega) only [gput_lt]
            exact HG2.out q hq
          · simp (disch:=omega) only [gput_lt]
            exact e0
          · simp (disch:=omega) only [gput_lt]
            exact e1
          · simp (disch:=omega) only [gput_lt]
            exact eA
          · simp (disch:=omega) only [gput_lt]
            exact eB
          · simp (disch:=omega) only [gput_lt]
            exact eO
          · rw [intC_zero]
            simp (disch:=omega) only [gput_eq]
            try rfl
        clear e0 e1 eA eB eO w2 w3 w5 w6 w7 w8 w13
        rintro m gf H' ⟨k,g3,hk,rfl,rfl,hg3,e0,e1,eA,eB,eO,eP,w2,w3,w5,w6,w7,w8,w13,w14,w15⟩ ihk
        have HG3:=Hide.mk hg3
        clear hg3
        refine LX.roundP (noO_ok _ _) hG pl13 (by decide +kernel) ?_
        by_cases hlt:k < M.rows.length
        · have hltI:(k:Int) < (M.rows.length:Int):=by omega
          have HRA:=Hide.mk (rahead_w HMM.out k hlt (rounds M SA noneS 12 r) Or)
          have hul:=intC_len M.rows.length (upS (rounds M SA noneS 12 (r+1)) k)
          have HSET:=Hide.mk (intC_set M.rows.length (rounds M SA noneS 12 (r+1)) k hlt)
          have hclA:=intC_len M.rows.length SA
          have hclB:=intC_len M.rows.length noneS
          have hatA:=intC_at M.rows.length SA k
          have hatB:=intC_at M.rows.length noneS k
          rw [if_pos hlt] at hatA hatB
          have HRM:Hide (RepM g3 (n2+1) M [.lit (.int .i64 M.inp),.lit (.int .i64 M.out),rv]):=⟨HR.out.mono (by omega) HG3.out⟩
          have hkA:k < (intC M.rows.length SA).length:=by omega
          have hkB:k < (intC M.rows.length noneS).length:=by omega
          have hgA:(intC M.rows.length SA)[k]'hkA=.lit (.int .i64 (b01 (SA k))):=by
            rw [List.getElem?_eq_getElem hkA] at hatA
            exact Option.some.inj hatA
          have hgB:(intC M.rows.length noneS)[k]'hkB=.lit (.int .i64 (b01 (noneS k))):=by
            rw [List.getElem?_eq_getElem hkB] at hatB
            exact Option.some.inj hatB
          have HSTEP:=Hide.mk (step12 M SA noneS r k)
          have EA:=Hide.mk eA
          have EO:=Hide.mk eO
          clear hatA hatB
          generalize rounds M SA noneS 12 (r+1) k=sk at HSET HSTEP
          generalize intC M.rows.length (upS (rounds M SA noneS 12 (r+1)) k)=L at *
          have hkL:k < L.length:=by omega
          iterate 6 (all_goals try (first | with_reducible refine splitI (fun h=>?_) (fun h=>?_) | with_reducible refine splitBI (fun h=>?_) (fun h=>?_) | simp (config:={ maxSteps:=1000000 }) (disch:=first | assumption | omega | (simp; done) | fail) [Tryd.results13, *]))
          refine WC.mono (HRA.out _ _ _ HRM.out EO.out (by omega)) ?_
          rintro _ ⟨so,ma,rfl,hsm1,hsm2,hpre,hpost,hends⟩
          have HP:=Hide.mk (And.intro hpre (And.intro hpost hends))
          clear hpre hpost hends
          cases hA:SA k <;> by_cases hm:0 < ma <;> by_cases hq:so=ma
          all_goals
            rw [hA] at hgA
            simp only [b01] at hgA
            first | have hmz:¬ma=0:=by omega | have hmz:ma=0:=by omega
            first | have hmI:(0:Int) < (ma:Int):=by omega | have hmI:¬(0:Int) < (ma:Int):=by omega
            first | have hqI:(so:Int)=(ma:Int):=by omega | have hqI:¬(so:Int)=(ma:Int):=by omega
            iterate 6 (all_goals try (first | with_reducible refine splitI (fun h=>?_) (fun h=>?_) | with_reducible refine splitBI (fun h=>?_) (fun h=>?_) | simp (config:={ maxSteps:=1000000 }) (disch:=first | assumption | omega | (simp; done) | fail) [Tryd.results13, *]))
            refine WC.mono (one_w _ _) ?_
            rintro _ rfl
            simp only [b01]
            iterate 6 (all_goals try (first | with_reducible refine splitI (fun h=>?_) (fun h=>?_) | with_reducible refine splitBI (fun h=>?_) (fun h=>?_) | simp (config:={ maxSteps:=1000000 }) (disch:=first | assumption | omega | (simp; done) | fail) [Tryd.results13, *]))
            refine ihk.out (M.rows.length - (k+1)) _ _ (by omega) ⟨k+1,_,by omega,rfl,rfl,fun q hq=>?_,?_,?_,?_,?_,?_,?_,by simp [*],by simp [*],by simp [*],by simp [*],by simp [*],by simp [*],by simp [*],by simp [*],by simp⟩
            · simp (disch:=omega) only [gput_ne]
              exact HG3.out q hq
            · simp (disch:=omega) only [gput_ne]
              exact e0
            · simp (disch:=omega) only [gput_ne]
              exact e1
            · simp (disch:=omega) only [gput_ne]
              exact EA.out
            · simp (disch:=omega) only [gput_ne]
              exact eB
            · simp (disch:=omega) only [gput_ne]
              exact EO.out
            · simp (disch:=omega) only [gput_eq]
              rw [← HSET.out,HSTEP.out]
              try rw [← HP.out.1]
              try rw [← HP.out.2.1]
              try rw [← HP.out.2.2]
              first | (simp [*,b01]; done) | (simp [*,b01]; omega)
        · have hltI:¬(k:Int) < (M.rows.length:Int):=by omega
          have hk2:k=M.rows.length:=by omega
          have HK2:=Hide.mk hk2
          clear hk2
          iterate 6 (all_goals try (first | with_reducible refine splitI (fun h=>?_) (fun h=>?_) | with_reducible refine splitBI (fun h=>?_) (fun h=>?_) | simp (config:={ maxSteps:=1000000 }) (disch:=first | assumption | omega | (simp; done) | fail) [Tryd.results13, *]))
          refine ih.out (M.rows.length+1 - (r+1)) _ _ (by omega) ⟨r+1,n2+1,n2,g3,by omega,rfl,rfl,by omega,by omega,HG3.out,e0,e1,eA,eB,?_,by simp [*],by simp [*],by simp [*],by simp [*],by simp [*],by simp [*],by simp⟩
          rw [← intC_end]
          have h:=eP
          rw [HK2.out] at h
          exact h
      · have hrtI:¬(r:Int)≤(M.rows.length:Int):=by omega
        have hr3:r=M.rows.length+1:=by omega
        have HR3:=Hide.mk hr3
        clear hr3
        iterate 6 (all_goals try (first | with_reducible refine splitI (fun h=>?_) (fun h=>?_) | with_reducible refine splitBI (fun h=>?_) (fun h=>?_) | simp (config:={ maxSteps:=1000000 }) (disch:=first | assumption | omega | (simp; done) | fail) [Tryd.results13, *]))
        refine ⟨Or,rounds M SA noneS 12 (M.rows.length+1),g2,n2,rfl,by omega,fun q hq=>HG2.out q hq,by omega,hOn,?_,SA,noneS,HSL.out,rounds_sem M SA noneS HMM.out 12 a b (by omega)⟩
        have h:=eO
        rw [HR3.out] at h
        exact h
end Go.Ai
end
section
namespace Go.Ai
open Go.Proofs
set_option maxRecDepth 10000
set_option maxHeartbeats 40000000
theorem rsem13_w {M:MachM} (hM:M.ok) {m:Nat} (IH0:RSatW M m) (a b:Int) (subs:List NodeM) (hx:sizeN (.mk 13 a b subs)≤m+1) (hv:validM M.rows.length M.inp M.out (.mk 13 a b subs)=true) (g:Nat→Option Blk) (n:Nat) (ms xs:List AV) (hr:RepM g n M ms) (hx0:repN g n (.mk 13 a b subs) xs) :
    WC 6 Tryd.prog 13 [.agg ms,.agg xs] ⟨.fn g,n⟩ (RQ M (.mk 13 a b subs) g n):=by
  have IH:=Hide.mk IH0
  have HMM:=Hide.mk hM
  have HR:=Hide.mk hr
  obtain ⟨rv,svs,rfl,hrows,hrv⟩:=hr
  have h1r:=hrv.one
  have h1a:allOne [.lit (.int .i64 M.inp),.lit (.int .i64 M.out),rv]=true:=by simp [h1r]
  have hlen:=@lenV Tryd.prog _ _ _ _ _ hrv
  have hsl:=hrows.len
  have HROW:=Hide.mk hrows
  have HRV:=Hide.mk hrv
  have HOK:=Hide.mk (ok_row hM)
  have h64:M.rows.length≤64:=hM.2.2.2.2.2.1
  have hz64:(M.rows.length:Int)≤1048576:=by omega
  have hrep:=hx0
  obtain ⟨hop,sv,rfl,hsv⟩:=hx0
  have h1s:oneC sv=true:=by
    obtain ⟨_,_,_,e1,e2,_⟩:=repN_one hrep
    cases e1; exact e2
  have h1x:allOne [.lit (.int .u8 ((13:Nat) : Int)),.lit (.int .i64 a),.lit (.int .i64 b),sv]=true:=by simp [h1s]
  have h1y:allOne [.lit (.int .u8 13),.lit (.int .i64 a),.lit (.int .i64 b),sv]=true:=by simp [h1s]
  have h1e:allOne [.lit (.int .i64 (-1)),.lit (.int .i64 0)]=true:=by simp
  unfold validM at hv
  simp only [Bool.and_eq_true,decide_eq_true_eq] at hv
  obtain ⟨v1,v2,v3,v4,v5,v6,v7⟩:=hv
  have v2' : subs.length=1:=v2
  have hsz:sizeL subs≤m:=by unfold sizeN at hx; omega
  have HSV:Hide ((subs=[]∧(sv=.lit (.slice none 0 0)∨sv=.es))∨∃ a off r,a < n∧((∃ c,sv=.sl a off subs.length c)∨(∃ c,sv=.slq a off subs.length c))∧Row g a off r∧repL g n subs r):=⟨hsv⟩
  have hlS:∀ {H:Mem} {e' : Ev} {o:Oper} {c' : Call} {e:TypeId},lenS Tryd.prog H e' o c' (some (.slice e)) (some [sv])=.val (.lit (.int .i64 1)) H:=by
    intro H e' o c' e
    rcases HSV.out with ⟨h1,rfl | rfl⟩ | ⟨a2,off,r,_,⟨c2,rfl⟩ | ⟨c2,rfl⟩,_⟩
    · rw [h1] at v2'; first | rfl | cases v2'
    · rw [h1] at v2'; first | rfl | cases v2'
    · rw [v2']; rfl
    · rw [v2']; rfl
  clear hrows hrv IH0 v1 v2 v5 v6 hx hop hM
  obtain ⟨y,rfl⟩ : ∃ y,subs=[y]:=by
    match subs,v2' with
    | [y],_=>exact ⟨y,rfl⟩
  rcases hsv with ⟨h1,_⟩ | ⟨a2,off,r,ha2,hev,hrow,hrl⟩
  · cases h1
  have hll:=repL_len hrl
  have hy0:=repL_at hrl 0 (by simp)
  have hc0:=hrow.agg (k:=0 * 4) (s:=4) (by rw [hll]; simp)
  have hy0' : repN g n y ((r.drop (0 * 4)).take 4):=hy0
  obtain ⟨k2,k3,sv2,hcy,h1c,hop2⟩:=repN_one hy0'
  rw [hcy] at hc0 hy0'
  have h1q:allOne [.lit (.int .u8 y.op),.lit (.int .i64 k2),.lit (.int .i64 k3),sv2]=true:=by simp [h1c]
  have hc0' : loadB (some (true,4)) (g a2) off=some (.agg [.lit (.int .u8 y.op),.lit (.int .i64 k2),.lit (.int .i64 k3),sv2]):=by simpa using hc0
  have hyv:=validL_mem v7 y (by simp)
  have hyz:sizeN y≤m:=Nat.le_trans (size_mem (by simp)) hsz
  have HY:=Hide.mk hy0'
  have HYV:=Hide.mk hyv
  clear hy0 hc0 hcy hy0' hyv hrow hrl hll hrep v7 v2' hsz HSV
  rcases hev with ⟨c2,rfl⟩ | ⟨c2,rfl⟩
  all_goals
    refine WC.enterP (noO_ok _ _) hG pl13 Tryd.func13 rfl (by decide +kernel) (Nat.le_of_ble_eq_true (by kernel_rfl)) ?_
    iterate 6 (all_goals try (first | with_reducible refine splitI (fun h=>?_) (fun h=>?_) | with_reducible refine splitBI (fun h=>?_) (fun h=>?_) | simp (config:={ maxSteps:=1000000 }) (disch:=first | assumption | omega | (simp; done) | fail) [Tryd.results13, *]))
    refine WC.mono (IH.out y hyz HYV.out _ _ _ _ (HR.out.mono (by omega) fun q hq=>by simp (disch:=omega) only [gput_lt]) (repN_mono (by omega) (fun q hq=>by simp (disch:=omega) only [gput_lt]) HY.out)) ?_
    rintro _ ⟨Aa,SA,g1,n1,rfl,hn1,hg1,hA1,hA2,hA3,hsemA⟩
    have HG:Hide (∀ q,q < n→g1 q=g q):=⟨fun q hq=>by rw [hg1 q (by omega)]; simp (disch:=omega) only [gput_lt]⟩
    have f0:g1 n=some (.cells [.lit (.int .i64 M.inp),.lit (.int .i64 M.out),rv] true 0):=by rw [hg1 n (by omega)]; simp (disch:=omega) only [gput_lt,gput_eq]
    have f1:=(hg1 (n+1) (by omega)).trans ((gput_lt (by omega)).trans ((gput_lt (by omega)).trans gput_eq))
    have f3:g1 (n+1+1+1)=some (.cells (intC M.rows.length noneS) true 0):=by rw [hg1 (n+1+1+1) (by omega),intC_none]; simp (disch:=omega) only [gput_eq]; try rfl
    have HSA:=Hide.mk hsemA
    clear hg1 hsemA
    have HSL:Hide (semL M [y] SA noneS):=⟨⟨HSA.out,eqS.refl _ _⟩⟩
    obtain ⟨xv,f1x⟩ : ∃ xv,g1 (n+1)=some (.cells [.lit (.int .u8 ((13:Nat) : Int)),.lit (.int .i64 a),.lit (.int .i64 b),xv] true 0):=⟨_,f1⟩
    clear HSA
    iterate 6 (all_goals try (first | with_reducible refine splitI (fun h=>?_) (fun h=>?_) | with_reducible refine splitBI (fun h=>?_) (fun h=>?_) | simp (config:={ maxSteps:=1000000 }) (disch:=first | assumption | omega | (simp; done) | fail) [Tryd.results13, *]))
    refine LX.ind (fun m gf H'=>∃ (k n' : Nat) (g' : Nat→Option Blk),k≤M.rows.length∧m=M.rows.length - k∧H'=⟨.fn g',n'⟩∧n1+1≤n'∧(∀ q,q < n→g' q=g q)∧g' n=some (.cells [.lit (.int .i64 M.inp),.lit (.int .i64 M.out),rv] true 0)∧g' (n+1)=some (.cells [.lit (.int .u8 13),.lit (.int .i64 a),.lit (.int .i64 b),xv] true 0)∧g' Aa=some (.cells (intC M.rows.length SA) true 0)∧g' (n+1+1+1)=some (.cells (intC M.rows.length noneS) true 0)∧g' n1=some (.cells (intC M.rows.length (upS allS k)) true 0)∧gf 2=some (.ptr n 0)∧gf 3=some (.ptr (n+1) 0)∧gf 5=some (.lit (.int .i64 M.rows.length))∧gf 6=some (.sl Aa 0 M.rows.length M.rows.length)∧gf 7=some (.sl (n+1+1+1) 0 M.rows.length M.rows.length)∧gf 8=some (.sl n1 0 M.rows.length M.rows.length)∧gf 9=some (.lit (.int .i64 k))) (m0:=M.rows.length) ?_ ?_
    · refine ⟨0,_,_,Nat.zero_le _,rfl,rfl,Nat.le_refl _,fun q hq=>?_,?_,?_,?_,?_,?_,by simp [*],by simp [*],by simp [*],by simp [*],by simp [*],by simp [*],by simp⟩
      · simp (disch:=omega) only [gput_lt]
        exact HG.out q hq
      · simp (disch:=omega) only [gput_lt]
        exact f0
      · simp (disch:=omega) only [gput_lt]
        exact f1x
      · simp (disch:=omega) only [gput_lt]
        exact hA3
      · simp (disch:=omega) only [gput_lt]
        exact f3
      · rw [intC_zero]
        simp (disch:=omega) only [gput_eq]
        try rfl
    clear f0 f1x hA3 f3 HG f1
    rintro m gf H' ⟨k,nq,gq,hk,rfl,rfl,hnq,hgq,e0,e1,eA,eB,eO,w2,w3,w5,w6,w7,w8,w9⟩ ih
    have HGq:=Hide.mk hgq
    clear hgq
    refine LX.roundP (noO_ok _ _) hG pl13 (by decide +kernel) ?_
    by_cases hlt:k < M.rows.length
    · have hltI:(k:Int) < (M.rows.length:Int):=by omega
      have hRA:=rahead_w HMM.out k hlt SA Aa
      have HRA:=Hide.mk hRA
      clear hRA
      have hul:=intC_len M.rows.length (upS allS k)
      have hset:=intC_set M.rows.length allS k hlt
      have HSET:=Hide.mk hset
      clear hset
      have hclA:=intC_len M.rows.length SA
      have hclB:=intC_len M.rows.length noneS
      have hatA:=intC_at M.rows.length SA k
      have hatB:=intC_at M.rows.length noneS k
      rw [if_pos hlt] at hatA hatB
      have HRM:Hide (∀ (g' : Nat→Option Blk) (n' : Nat),n≤n'→(∀ q,q < n→g' q=gq q)→RepM g' n' M [.lit (.int .i64 M.inp),.lit (.int .i64 M.out),rv]):=⟨fun g' n' h1 h2=>HR.out.mono h1 fun q hq=>by rw [h2 q hq]; exact HGq.out q hq⟩
      have hkA:k < (intC M.rows.length SA).length:=by omega
      have hkB:k < (intC M.rows.length noneS).length:=by omega
      have hgA:(intC M.rows.length SA)[k]'hkA=.lit (.int .i64 (b01 (SA k))):=by
        rw [List.getElem?_eq_getElem hkA] at hatA
        exact Option.some.inj hatA
      have hgB:(intC M.rows.length noneS)[k]'hkB=.lit (.int .i64 (b01 (noneS k))):=by
        rw [List.getElem?_eq_getElem hkB] at hatB
        exact Option.some.inj hatB
      have eA' : Hide (gq Aa=some (.cells (intC M.rows.length SA) true 0)):=⟨eA⟩
      clear hatA hatB
      generalize intC M.rows.length (upS allS k)=L at *
      have hkL:k < L.length:=by omega
      iterate 6 (all_goals try (first | with_reducible refine splitI (fun h=>?_) (fun h=>?_) | with_reducible refine splitBI (fun h=>?_) (fun h=>?_) | simp (config:={ maxSteps:=1000000 }) (disch:=first | assumption | omega | (simp; done) | fail) [Tryd.results13, *]))
      refine WC.mono (HRA.out _ _ _ (HRM.out _ _ (by omega) fun q hq=>by simp (disch:=omega) only [gput_lt]) (by simp (disch:=omega) only [gput_lt]; exact eA'.out) (by omega)) ?_
      rintro _ ⟨so,ma,rfl,hsm1,hsm2,hpre,hpost,hends⟩
      clear hpre hpost hends
      iterate 6 (all_goals try (first | with_reducible refine splitI (fun h=>?_) (fun h=>?_) | with_reducible refine splitBI (fun h=>?_) (fun h=>?_) | simp (config:={ maxSteps:=1000000 }) (disch:=first | assumption | omega | (simp; done) | fail) [Tryd.results13, *]))
      refine ih.out (M.rows.length - (k+1)) _ _ (by omega) ⟨k+1,nq+1,_,by omega,rfl,rfl,by omega,fun q hq=>?_,?_,?_,?_,?_,?_,by simp [*],by simp [*],by simp [*],by simp [*],by simp [*],by simp [*],by simp⟩
      · simp (disch:=omega) only [gput_lt,gput_ne]
        exact HGq.out q hq
      · simp (disch:=omega) only [gput_lt,gput_ne]
        exact e0
      · simp (disch:=omega) only [gput_lt,gput_ne]
        exact e1
      · simp (disch:=omega) only [gput_lt,gput_ne]
        exact eA'.out
      · simp (disch:=omega) only [gput_lt,gput_ne]
        exact eB
      · simp (disch:=omega) only [gput_lt,gput_ne,gput_eq]
        rw [← HSET.out]
        rfl
    · have hltI:¬(k:Int) < (M.rows.length:Int):=by omega
      have hk2:k=M.rows.length:=by omega
      have HK2:=Hide.mk hk2
      clear hk2
      iterate 6 (all_goals try (first | with_reducible refine splitI (fun h=>?_) (fun h=>?_) | with_reducible refine splitBI (fun h=>?_) (fun h=>?_) | simp (config:={ maxSteps:=1000000 }) (disch:=first | assumption | omega | (simp; done) | fail) [Tryd.results13, *]))
      have HOX:Hide (intC M.rows.length (upS allS k)=intC M.rows.length (rounds M SA noneS 13 0)):=⟨by rw [HK2.out,intC_end]; first | rfl | (rw [rounds_all _ _ _ _ (by omega)])⟩
      refine LX.ind (fun m gf H'=>∃ (r n' Or:Nat) (g' : Nat→Option Blk),r≤M.rows.length+1∧m=M.rows.length+1 - r∧H'=⟨.fn g',n'⟩∧n1≤Or∧Or < n'∧(∀ q,q < n→g' q=g q)∧g' n=some (.cells [.lit (.int .i64 M.inp),.lit (.int .i64 M.out),rv] true 0)∧g' (n+1)=some (.cells [.lit (.int .u8 13),.lit (.int .i64 a),.lit (.int .i64 b),xv] true 0)∧g' Aa=some (.cells (intC M.rows.length SA) true 0)∧g' (n+1+1+1)=some (.cells (intC M.rows.length noneS) true 0)∧g' Or=some (.cells (intC M.rows.length (rounds M SA noneS 13 r)) true 0)∧gf 2=some (.ptr n 0)∧gf 3=some (.ptr (n+1) 0)∧gf 5=some (.lit (.int .i64 M.rows.length))∧gf 6=some (.sl Aa 0 M.rows.length M.rows.length)∧gf 7=some (.sl (n+1+1+1) 0 M.rows.length M.rows.length)∧gf 8=some (.sl Or 0 M.rows.length M.rows.length)∧gf 13=some (.lit (.int .i64 r))) (m0:=M.rows.length+1) ?_ ?_
      · exact ⟨0,nq,n1,gq,by omega,rfl,rfl,by omega,by omega,HGq.out,e0,e1,eA,eB,by rw [← HOX.out]; exact eO,by simp [*],by simp [*],by simp [*],by simp [*],by simp [*],by simp [*],by simp⟩
      clear ih eO HOX HK2 w2 w3 w5 w6 w7 w8 w9 e0 e1 eA eB HGq hnq hltI
      rintro m gf H' ⟨r,n2,Or,g2,hr2,rfl,rfl,hOr,hOn,hg2,e0,e1,eA,eB,eO,w2,w3,w5,w6,w7,w8,w13⟩ ih
      have HG2:=Hide.mk hg2
      clear hg2
      refine LX.roundP (noO_ok _ _) hG pl13 (by decide +kernel) ?_
      by_cases hrt:r≤M.rows.length
      · have hrtI:(r:Int)≤(M.rows.length:Int):=by omega
        have hr65:r≤64:=by omega
        iterate 6 (all_goals try (first | with_reducible refine splitI (fun h=>?_) (fun h=>?_) | with_reducible refine splitBI (fun h=>?_) (fun h=>?_) | simp (config:={ maxSteps:=1000000 }) (disch:=first | assumption | omega | (simp; done) | fail) [Tryd.results13, *]))
        refine LX.ind (fun m gf H'=>∃ (k:Nat) (g' : Nat→Option Blk),k≤M.rows.length∧m=M.rows.length - k∧H'=⟨.fn g',n2+1⟩∧(∀ q,q < n→g' q=g q)∧g' n=some (.cells [.lit (.int .i64 M.inp),.lit (.int .i64 M.out),rv] true 0)∧g' (n+1)=some (.cells [.lit (.int .u8 13),.lit (.int .i64 a),.lit (.int .i64 b),xv] true 0)∧g' Aa=some (.cells (intC M.rows.length SA) true 0)∧g' (n+1+1+1)=some (.cells (intC M.rows.length noneS) true 0)∧g' Or=some (.cells (intC M.rows.length (rounds M SA noneS 13 r)) true 0)∧g' n2=some (.cells (intC M.rows.length (upS (rounds M SA noneS 13 (r+1)) k)) true 0)∧gf 2=some (.ptr n 0)∧gf 3=some (.ptr (n+1) 0)∧gf 5=some (.lit (.int .i64 M.rows.length))∧gf 6=some (.sl Aa 0 M.rows.length M.rows.length)∧gf 7=some (.sl (n+1+1+1) 0 M.rows.length M.rows.length)∧gf 8=some (.sl Or 0 M.rows.length M.rows.length)∧gf 13=some (.lit (.int .i64 r))∧gf 14=some (.sl n2 0 M.rows.length M.rows.length)∧gf 15=some (.lit (.int .i64 k))) (m0:=M.rows.length) ?_ ?_
        · refine ⟨0,_,Nat.zero_le _,rfl,rfl,fun q hq=>?_,?_,?_,?_,?_,?_,?_,by simp [*],by simp [*],by simp [*],by simp [*],by simp [*],by simp [*],by simp [*],by simp,by simp⟩
          · simp (disch:=omega) only [gput_lt]
            exact HG2.out q hq
          · simp (disch:=omega) only [gput_lt]
            exact e0
          · simp (disch:=omega) only [gput_lt]
            exact e1
          · simp (disch:=omega) only [gput_lt]
            exact eA
          · simp (disch:=omega) only [gput_lt]
            exact eB
          · simp (disch:=omega) only [gput_lt]
            exact eO
          · rw [intC_zero]
            simp (disch:=omega) only [gput_eq]
            try rfl
        clear e0 e1 eA eB eO w2 w3 w5 w6 w7 w8 w13
        rintro m gf H' ⟨k,g3,hk,rfl,rfl,hg3,e0,e1,eA,eB,eO,eP,w2,w3,w5,w6,w7,w8,w13,w14,w15⟩ ihk
        have HG3:=Hide.mk hg3
        clear hg3
        refine LX.roundP (noO_ok _ _) hG pl13 (by decide +kernel) ?_
        by_cases hlt:k < M.rows.length
        · have hltI:(k:Int) < (M.rows.length:Int):=by omega
          have HRA:=Hide.mk (rahead_w HMM.out k hlt (rounds M SA noneS 13 r) Or)
          have hul:=intC_len M.rows.length (upS (rounds M SA noneS 13 (r+1)) k)
          have HSET:=Hide.mk (intC_set M.rows.length (rounds M SA noneS 13 (r+1)) k hlt)
          have hclA:=intC_len M.rows.length SA
          have hclB:=intC_len M.rows.length noneS
          have hatA:=intC_at M.rows.length SA k
          have hatB:=intC_at M.rows.length noneS k
          rw [if_pos hlt] at hatA hatB
          have HRM:Hide (RepM g3 (n2+1) M [.lit (.int .i64 M.inp),.lit (.int .i64 M.out),rv]):=⟨HR.out.mono (by omega) HG3.out⟩
          have hkA:k < (intC M.rows.length SA).length:=by omega
          have hkB:k < (intC M.rows.length noneS).length:=by omega
          have hgA:(intC M.rows.length SA)[k]'hkA=.lit (.int .i64 (b01 (SA k))):=by
            rw [List.getElem?_eq_getElem hkA] at hatA
            exact Option.some.inj hatA
          have hgB:(intC M.rows.length noneS)[k]'hkB=.lit (.int .i64 (b01 (noneS k))):=by
            rw [List.getElem?_eq_getElem hkB] at hatB
            exact Option.some.inj hatB
          have HSTEP:=Hide.mk (step13 M SA noneS r k)
          have EA:=Hide.mk eA
          have EO:=Hide.mk eO
          clear hatA hatB
          generalize rounds M SA noneS 13 (r+1) k=sk at HSET HSTEP
          generalize intC M.rows.length (upS (rounds M SA noneS 13 (r+1)) k)=L at *
          have hkL:k < L.length:=by omega
          iterate 6 (all_goals try (first | with_reducible refine splitI (fun h=>?_) (fun h=>?_) | with_reducible refine splitBI (fun h=>?_) (fun h=>?_) | simp (config:={ maxSteps:=1000000 }) (disch:=first | assumption | omega | (simp; done) | fail) [Tryd.results13, *]))
          refine WC.mono (HRA.out _ _ _ HRM.out EO.out (by omega)) ?_
          rintro _ ⟨so,ma,rfl,hsm1,hsm2,hpre,hpost,hends⟩
          have HP:=Hide.mk (And.intro hpre (And.intro hpost hends))
          clear hpre hpost hends
          cases hA:SA k <;> by_cases hq:so=ma
          all_goals
            rw [hA] at hgA
            simp only [b01] at hgA
            first | have hqI:(so:Int)=(ma:Int):=by omega | have hqI:¬(so:Int)=(ma:Int):=by omega
            iterate 6 (all_goals try (first | with_reducible refine splitI (fun h=>?_) (fun h=>?_) | with_reducible refine splitBI (fun h=>?_) (fun h=>?_) | simp (config:={ maxSteps:=1000000 }) (disch:=first | assumption | omega | (simp; done) | fail) [Tryd.results13, *]))
            refine WC.mono (one_w _ _) ?_
            rintro _ rfl
            simp only [b01]
            iterate 6 (all_goals try (first | with_reducible refine splitI (fun h=>?_) (fun h=>?_) | with_reducible refine splitBI (fun h=>?_) (fun h=>?_) | simp (config:={ maxSteps:=1000000 }) (disch:=first | assumption | omega | (simp; done) | fail) [Tryd.results13, *]))
            refine ihk.out (M.rows.length - (k+1)) _ _ (by omega) ⟨k+1,_,by omega,rfl,rfl,fun q hq=>?_,?_,?_,?_,?_,?_,?_,by simp [*],by simp [*],by simp [*],by simp [*],by simp [*],by simp [*],by simp [*],by simp [*],by simp⟩
            · simp (disch:=omega) only [gput_ne]
              exact HG3.out q hq
            · simp (disch:=omega) only [gput_ne]
              exact e0
            · simp (disch:=omega) only [gput_ne]
              exact e1
            · simp (disch:=omega) only [gput_ne]
              exact EA.out
            · simp (disch:=omega) only [gput_ne]
              exact eB
            · simp (disch:=omega) only [gput_ne]
              exact EO.out
            · simp (disch:=omega) only [gput_eq]
              rw [← HSET.out,HSTEP.out]
              try rw [← HP.out.1]
              try rw [← HP.out.2.1]
              try rw [← HP.out.2.2]
              first | (simp [*,b01]; done) | (simp [*,b01]; omega)
        · have hltI:¬(k:Int) < (M.rows.length:Int):=by omega
          have hk2:k=M.rows.length:=by omega
          have HK2:=Hide.mk hk2
          clear hk2
          iterate 6 (all_goals try (first | with_reducible refine splitI (fun h=>?_) (fun h=>?_) | with_reducible refine splitBI (fun h=>?_) (fun h=>?_) | simp (config:={ maxSteps:=1000000 }) (disch:=first | assumption | omega | (simp; done) | fail) [Tryd.results13, *]))
          refine ih.out (M.rows.length+1 - (r+1)) _ _ (by omega) ⟨r+1,n2+1,n2,g3,by omega,rfl,rfl,by omega,by omega,HG3.out,e0,e1,eA,eB,?_,by simp [*],by simp [*],by simp [*],by simp [*],by simp [*],by simp [*],by simp⟩
          rw [← intC_end]
          have h:=eP
          rw [HK2.out] at h
          exact h
      · have hrtI:¬(r:Int)≤(M.rows.length:Int):=by omega
        have hr3:r=M.rows.length+1:=by omega
        have HR3:=Hide.mk hr3
        clear hr3
        iterate 6 (all_goals try (first | with_reducible refine splitI (fun h=>?_) (fun h=>?_) | with_reducible refine splitBI (fun h=>?_) (fun h=>?_) | simp (config:={ maxSteps:=1000000 }) (disch:=first | assumption | omega | (simp; done) | fail) [Tryd.results13, *]))
        refine ⟨Or,rounds M SA noneS 13 (M.rows.length+1),g2,n2,rfl,by omega,fun q hq=>HG2.out q hq,by omega,hOn,?_,SA,noneS,HSL.out,rounds_sem M SA noneS HMM.out 13 a b (by omega)⟩
        have h:=eO
        rw [HR3.out] at h
        exact h
end Go.Ai
end
section
namespace Go.Ai
open Go.Proofs
set_option maxRecDepth 10000
set_option maxHeartbeats 40000000
theorem rsem14_w {M:MachM} (hM:M.ok) {m:Nat} (IH0:RSatW M m) (a b:Int) (subs:List NodeM) (hx:sizeN (.mk 14 a b subs)≤m+1) (hv:validM M.rows.length M.inp M.out (.mk 14 a b subs)=true) (g:Nat→Option Blk) (n:Nat) (ms xs:List AV) (hr:RepM g n M ms) (hx0:repN g n (.mk 14 a b subs) xs) :
    WC 6 Tryd.prog 13 [.agg ms,.agg xs] ⟨.fn g,n⟩ (RQ M (.mk 14 a b subs) g n):=by
  have IH:=Hide.mk IH0
  have HMM:=Hide.mk hM
  have HR:=Hide.mk hr
  obtain ⟨rv,svs,rfl,hrows,hrv⟩:=hr
  have h1r:=hrv.one
  have h1a:allOne [.lit (.int .i64 M.inp),.lit (.int .i64 M.out),rv]=true:=by simp [h1r]
  have hlen:=@lenV Tryd.prog _ _ _ _ _ hrv
  have hsl:=hrows.len
  have HROW:=Hide.mk hrows
  have HRV:=Hide.mk hrv
  have HOK:=Hide.mk (ok_row hM)
  have h64:M.rows.length≤64:=hM.2.2.2.2.2.1
  have hz64:(M.rows.length:Int)≤1048576:=by omega
  have hrep:=hx0
  obtain ⟨hop,sv,rfl,hsv⟩:=hx0
  have h1s:oneC sv=true:=by
    obtain ⟨_,_,_,e1,e2,_⟩:=repN_one hrep
    cases e1; exact e2
  have h1x:allOne [.lit (.int .u8 ((14:Nat) : Int)),.lit (.int .i64 a),.lit (.int .i64 b),sv]=true:=by simp [h1s]
  have h1y:allOne [.lit (.int .u8 14),.lit (.int .i64 a),.lit (.int .i64 b),sv]=true:=by simp [h1s]
  have h1e:allOne [.lit (.int .i64 (-1)),.lit (.int .i64 0)]=true:=by simp
  unfold validM at hv
  simp only [Bool.and_eq_true,decide_eq_true_eq] at hv
  obtain ⟨v1,v2,v3,v4,v5,v6,v7⟩:=hv
  have v2' : subs.length=2:=v2
  have hsz:sizeL subs≤m:=by unfold sizeN at hx; omega
  have HSV:Hide ((subs=[]∧(sv=.lit (.slice none 0 0)∨sv=.es))∨∃ a off r,a < n∧((∃ c,sv=.sl a off subs.length c)∨(∃ c,sv=.slq a off subs.length c))∧Row g a off r∧repL g n subs r):=⟨hsv⟩
  have hlS:∀ {H:Mem} {e' : Ev} {o:Oper} {c' : Call} {e:TypeId},lenS Tryd.prog H e' o c' (some (.slice e)) (some [sv])=.val (.lit (.int .i64 2)) H:=by
    intro H e' o c' e
    rcases HSV.out with ⟨h1,rfl | rfl⟩ | ⟨a2,off,r,_,⟨c2,rfl⟩ | ⟨c2,rfl⟩,_⟩
    · rw [h1] at v2'; first | rfl | cases v2'
    · rw [h1] at v2'; first | rfl | cases v2'
    · rw [v2']; rfl
    · rw [v2']; rfl
  clear hrows hrv IH0 v1 v2 v5 v6 hx hop hM
  obtain ⟨y,z,rfl⟩ : ∃ y z,subs=[y,z]:=by
    match subs,v2' with
    | [y,z],_=>exact ⟨y,z,rfl⟩
  rcases hsv with ⟨h1,_⟩ | ⟨a2,off,r,ha2,hev,hrow,hrl⟩
  · cases h1
  have hll:=repL_len hrl
  have hy0:=repL_at hrl 0 (by simp)
  have hc0:=hrow.agg (k:=0 * 4) (s:=4) (by rw [hll]; simp)
  have hy0' : repN g n y ((r.drop (0 * 4)).take 4):=hy0
  obtain ⟨k2,k3,sv2,hcy,h1c,hop2⟩:=repN_one hy0'
  rw [hcy] at hc0 hy0'
  have h1q:allOne [.lit (.int .u8 y.op),.lit (.int .i64 k2),.lit (.int .i64 k3),sv2]=true:=by simp [h1c]
  have hc0' : loadB (some (true,4)) (g a2) off=some (.agg [.lit (.int .u8 y.op),.lit (.int .i64 k2),.lit (.int .i64 k3),sv2]):=by simpa using hc0
  have hyv:=validL_mem v7 y (by simp)
  have hyz:sizeN y≤m:=Nat.le_trans (size_mem (by simp)) hsz
  have HY:=Hide.mk hy0'
  have HYV:=Hide.mk hyv
  have hz0:=repL_at hrl 1 (by simp)
  have hc1:=hrow.agg (k:=1 * 4) (s:=4) (by rw [hll]; simp)
  have hz0' : repN g n z ((r.drop (1 * 4)).take 4):=hz0
  obtain ⟨k4,k5,sv3,hcz,h1d,hop3⟩:=repN_one hz0'
  rw [hcz] at hc1 hz0'
  have h1w:allOne [.lit (.int .u8 z.op),.lit (.int .i64 k4),.lit (.int .i64 k5),sv3]=true:=by simp [h1d]
  have hc1' : loadB (some (true,4)) (g a2) (off+4)=some (.agg [.lit (.int .u8 z.op),.lit (.int .i64 k4),.lit (.int .i64 k5),sv3]):=by simpa using hc1
  have hzv:=validL_mem v7 z (by simp)
  have hzz:sizeN z≤m:=Nat.le_trans (size_mem (by simp)) hsz
  have HZ:=Hide.mk hz0'
  have HZV:=Hide.mk hzv
  clear hz0 hc1 hcz hz0' hzv
  clear hy0 hc0 hcy hy0' hyv hrow hrl hll hrep v7 v2' hsz HSV
  rcases hev with ⟨c2,rfl⟩ | ⟨c2,rfl⟩
  all_goals
    refine WC.enterP (noO_ok _ _) hG pl13 Tryd.func13 rfl (by decide +kernel) (Nat.le_of_ble_eq_true (by kernel_rfl)) ?_
    iterate 6 (all_goals try (first | with_reducible refine splitI (fun h=>?_) (fun h=>?_) | with_reducible refine splitBI (fun h=>?_) (fun h=>?_) | simp (config:={ maxSteps:=1000000 }) (disch:=first | assumption | omega | (simp; done) | fail) [Tryd.results13, *]))
    refine WC.mono (IH.out y hyz HYV.out _ _ _ _ (HR.out.mono (by omega) fun q hq=>by simp (disch:=omega) only [gput_lt]) (repN_mono (by omega) (fun q hq=>by simp (disch:=omega) only [gput_lt]) HY.out)) ?_
    rintro _ ⟨Aa,SA,g1,n1,rfl,hn1,hg1,hA1,hA2,hA3,hsemA⟩
    have HG:Hide (∀ q,q < n→g1 q=g q):=⟨fun q hq=>by rw [hg1 q (by omega)]; simp (disch:=omega) only [gput_lt]⟩
    have f0:g1 n=some (.cells [.lit (.int .i64 M.inp),.lit (.int .i64 M.out),rv] true 0):=by rw [hg1 n (by omega)]; simp (disch:=omega) only [gput_lt,gput_eq]
    have f1:=(hg1 (n+1) (by omega)).trans ((gput_lt (by omega)).trans ((gput_lt (by omega)).trans gput_eq))
    have f3:g1 (n+1+1+1)=some (.cells (intC M.rows.length noneS) true 0):=by rw [hg1 (n+1+1+1) (by omega),intC_none]; simp (disch:=omega) only [gput_eq]; try rfl
    have HSA:=Hide.mk hsemA
    clear hg1 hsemA
    have hc1'' : loadB (some (true,4)) (g1 a2) (off+4)=some (.agg [.lit (.int .u8 z.op),.lit (.int .i64 k4),.lit (.int .i64 k5),sv3]):=by rw [HG.out a2 ha2]; exact hc1'
    iterate 6 (all_goals try (first | with_reducible refine splitI (fun h=>?_) (fun h=>?_) | with_reducible refine splitBI (fun h=>?_) (fun h=>?_) | simp (config:={ maxSteps:=1000000 }) (disch:=first | assumption | omega | (simp; done) | fail) [Tryd.results13, *]))
    refine WC.mono (IH.out z hzz HZV.out _ _ _ _ (HR.out.mono (by omega) HG.out) (repN_mono (by omega) HG.out HZ.out)) ?_
    rintro _ ⟨Ab,SB,g2,n2,rfl,hn2,hg2,hB1,hB2,hB3,hsemB⟩
    have HG' : Hide (∀ q,q < n→g2 q=g q):=⟨fun q hq=>by rw [hg2 q (by omega)]; exact HG.out q hq⟩
    have f0':=(hg2 n (by omega)).trans f0
    have f1':=(hg2 (n+1) (by omega)).trans f1
    have hA3':=(hg2 Aa (by omega)).trans hA3
    have HSL:Hide (semL M [y,z] SA SB):=⟨⟨HSA.out,hsemB⟩⟩
    obtain ⟨xv,f1x⟩ : ∃ xv,g2 (n+1)=some (.cells [.lit (.int .u8 ((14:Nat) : Int)),.lit (.int .i64 a),.lit (.int .i64 b),xv] true 0):=⟨_,f1'⟩
    clear hg2 hsemB f0 f1 hA3 HSA HG f3
    iterate 6 (all_goals try (first | with_reducible refine splitI (fun h=>?_) (fun h=>?_) | with_reducible refine splitBI (fun h=>?_) (fun h=>?_) | simp (config:={ maxSteps:=1000000 }) (disch:=first | assumption | omega | (simp; done) | fail) [Tryd.results13, *]))
    refine LX.ind (fun m gf H'=>∃ (k n' : Nat) (g' : Nat→Option Blk),k≤M.rows.length∧m=M.rows.length - k∧H'=⟨.fn g',n'⟩∧n2+1≤n'∧(∀ q,q < n→g' q=g q)∧g' n=some (.cells [.lit (.int .i64 M.inp),.lit (.int .i64 M.out),rv] true 0)∧g' (n+1)=some (.cells [.lit (.int .u8 14),.lit (.int .i64 a),.lit (.int .i64 b),xv] true 0)∧g' Aa=some (.cells (intC M.rows.length SA) true 0)∧g' Ab=some (.cells (intC M.rows.length SB) true 0)∧g' n2=some (.cells (intC M.rows.length (upS noneS k)) true 0)∧gf 2=some (.ptr n 0)∧gf 3=some (.ptr (n+1) 0)∧gf 5=some (.lit (.int .i64 M.rows.length))∧gf 6=some (.sl Aa 0 M.rows.length M.rows.length)∧gf 7=some (.sl Ab 0 M.rows.length M.rows.length)∧gf 8=some (.sl n2 0 M.rows.length M.rows.length)∧gf 9=some (.lit (.int .i64 k))) (m0:=M.rows.length) ?_ ?_
    · refine ⟨0,_,_,Nat.zero_le _,rfl,rfl,Nat.le_refl _,fun q hq=>?_,?_,?_,?_,?_,?_,by simp [*],by simp [*],by simp [*],by simp [*],by simp [*],by simp [*],by simp⟩
      · simp (disch:=omega) only [gput_lt]
        exact HG'.out q hq
      · simp (disch:=omega) only [gput_lt]
        exact f0'
      · simp (disch:=omega) only [gput_lt]
        exact f1x
      · simp (disch:=omega) only [gput_lt]
        exact hA3'
      · simp (disch:=omega) only [gput_lt]
        exact hB3
      · rw [intC_zero]
        simp (disch:=omega) only [gput_eq]
        try rfl
    clear f0' f1x hA3' hB3 HG' f1'
    rintro m gf H' ⟨k,nq,gq,hk,rfl,rfl,hnq,hgq,e0,e1,eA,eB,eO,w2,w3,w5,w6,w7,w8,w9⟩ ih
    have HGq:=Hide.mk hgq
    clear hgq
    refine LX.roundP (noO_ok _ _) hG pl13 (by decide +kernel) ?_
    by_cases hlt:k < M.rows.length
    · have hltI:(k:Int) < (M.rows.length:Int):=by omega
      have hRA:=rahead_w HMM.out k hlt SA Aa
      have HRA:=Hide.mk hRA
      clear hRA
      have HSAME:Hide (intC M.rows.length (upS noneS k)=intC M.rows.length (upS noneS (k+1))):=⟨by rw [up_none,up_none]⟩
      have hul:=intC_len M.rows.length (upS noneS k)
      have hset:=intC_set M.rows.length noneS k hlt
      have HSET:=Hide.mk hset
      clear hset
      have hclA:=intC_len M.rows.length SA
      have hclB:=intC_len M.rows.length SB
      have hatA:=intC_at M.rows.length SA k
      have hatB:=intC_at M.rows.length SB k
      rw [if_pos hlt] at hatA hatB
      have HRM:Hide (∀ (g' : Nat→Option Blk) (n' : Nat),n≤n'→(∀ q,q < n→g' q=gq q)→RepM g' n' M [.lit (.int .i64 M.inp),.lit (.int .i64 M.out),rv]):=⟨fun g' n' h1 h2=>HR.out.mono h1 fun q hq=>by rw [h2 q hq]; exact HGq.out q hq⟩
      have hkA:k < (intC M.rows.length SA).length:=by omega
      have hkB:k < (intC M.rows.length SB).length:=by omega
      have hgA:(intC M.rows.length SA)[k]'hkA=.lit (.int .i64 (b01 (SA k))):=by
        rw [List.getElem?_eq_getElem hkA] at hatA
        exact Option.some.inj hatA
      have hgB:(intC M.rows.length SB)[k]'hkB=.lit (.int .i64 (b01 (SB k))):=by
        rw [List.getElem?_eq_getElem hkB] at hatB
        exact Option.some.inj hatB
      have eA' : Hide (gq Aa=some (.cells (intC M.rows.length SA) true 0)):=⟨eA⟩
      clear hatA hatB
      generalize intC M.rows.length (upS noneS k)=L at *
      have hkL:k < L.length:=by omega
      iterate 6 (all_goals try (first | with_reducible refine splitI (fun h=>?_) (fun h=>?_) | with_reducible refine splitBI (fun h=>?_) (fun h=>?_) | simp (config:={ maxSteps:=1000000 }) (disch:=first | assumption | omega | (simp; done) | fail) [Tryd.results13, *]))
      refine WC.mono (HRA.out _ _ _ (HRM.out _ _ (by omega) fun q hq=>by simp (disch:=omega) only [gput_lt]) (by simp (disch:=omega) only [gput_lt]; exact eA'.out) (by omega)) ?_
      rintro _ ⟨so,ma,rfl,hsm1,hsm2,hpre,hpost,hends⟩
      clear hpre hpost hends
      iterate 6 (all_goals try (first | with_reducible refine splitI (fun h=>?_) (fun h=>?_) | with_reducible refine splitBI (fun h=>?_) (fun h=>?_) | simp (config:={ maxSteps:=1000000 }) (disch:=first | assumption | omega | (simp; done) | fail) [Tryd.results13, *]))
      refine ih.out (M.rows.length - (k+1)) _ _ (by omega) ⟨k+1,nq+1,_,by omega,rfl,rfl,by omega,fun q hq=>?_,?_,?_,?_,?_,?_,by simp [*],by simp [*],by simp [*],by simp [*],by simp [*],by simp [*],by simp⟩
      · simp (disch:=omega) only [gput_lt,gput_ne]
        exact HGq.out q hq
      · simp (disch:=omega) only [gput_lt,gput_ne]
        exact e0
      · simp (disch:=omega) only [gput_lt,gput_ne]
        exact e1
      · simp (disch:=omega) only [gput_lt,gput_ne]
        exact eA'.out
      · simp (disch:=omega) only [gput_lt,gput_ne]
        exact eB
      · simp (disch:=omega) only [gput_lt,gput_ne,gput_eq]
        rw [← HSAME.out]
        exact eO
    · have hltI:¬(k:Int) < (M.rows.length:Int):=by omega
      have hk2:k=M.rows.length:=by omega
      have HK2:=Hide.mk hk2
      clear hk2
      iterate 6 (all_goals try (first | with_reducible refine splitI (fun h=>?_) (fun h=>?_) | with_reducible refine splitBI (fun h=>?_) (fun h=>?_) | simp (config:={ maxSteps:=1000000 }) (disch:=first | assumption | omega | (simp; done) | fail) [Tryd.results13, *]))
      have HOX:Hide (intC M.rows.length (upS noneS k)=intC M.rows.length (rounds M SA SB 14 0)):=⟨by rw [HK2.out,intC_end]; first | rfl | (rw [rounds_all _ _ _ _ (by omega)])⟩
      refine LX.ind (fun m gf H'=>∃ (r n' Or:Nat) (g' : Nat→Option Blk),r≤M.rows.length+1∧m=M.rows.length+1 - r∧H'=⟨.fn g',n'⟩∧n2≤Or∧Or < n'∧(∀ q,q < n→g' q=g q)∧g' n=some (.cells [.lit (.int .i64 M.inp),.lit (.int .i64 M.out),rv] true 0)∧g' (n+1)=some (.cells [.lit (.int .u8 14),.lit (.int .i64 a),.lit (.int .i64 b),xv] true 0)∧g' Aa=some (.cells (intC M.rows.length SA) true 0)∧g' Ab=some (.cells (intC M.rows.length SB) true 0)∧g' Or=some (.cells (intC M.rows.length (rounds M SA SB 14 r)) true 0)∧gf 2=some (.ptr n 0)∧gf 3=some (.ptr (n+1) 0)∧gf 5=some (.lit (.int .i64 M.rows.length))∧gf 6=some (.sl Aa 0 M.rows.length M.rows.length)∧gf 7=some (.sl Ab 0 M.rows.length M.rows.length)∧gf 8=some (.sl Or 0 M.rows.length M.rows.length)∧gf 13=some (.lit (.int .i64 r))) (m0:=M.rows.length+1) ?_ ?_
      · exact ⟨0,nq,n2,gq,by omega,rfl,rfl,by omega,by omega,HGq.out,e0,e1,eA,eB,by rw [← HOX.out]; exact eO,by simp [*],by simp [*],by simp [*],by simp [*],by simp [*],by simp [*],by simp⟩
      clear ih eO HOX HK2 w2 w3 w5 w6 w7 w8 w9 e0 e1 eA eB HGq hnq hltI
      rintro m gf H' ⟨r,n2,Or,g2,hr2,rfl,rfl,hOr,hOn,hg2,e0,e1,eA,eB,eO,w2,w3,w5,w6,w7,w8,w13⟩ ih
      have HG2:=Hide.mk hg2
      clear hg2
      refine LX.roundP (noO_ok _ _) hG pl13 (by decide +kernel) ?_
      by_cases hrt:r≤M.rows.length
      · have hrtI:(r:Int)≤(M.rows.length:Int):=by omega
        have hr65:r≤64:=by omega
        iterate 6 (all_goals try (first | with_reducible refine splitI (fun h=>?_) (fun h=>?_) | with_reducible refine splitBI (fun h=>?_) (fun h=>?_) | simp (config:={ maxSteps:=1000000 }) (disch:=first | assumption | omega | (simp; done) | fail) [Tryd.results13, *]))
        refine LX.ind (fun m gf H'=>∃ (k:Nat) (g' : Nat→Option Blk),k≤M.rows.length∧m=M.rows.length - k∧H'=⟨.fn g',n2+1⟩∧(∀ q,q < n→g' q=g q)∧g' n=some (.cells [.lit (.int .i64 M.inp),.lit (.int .i64 M.out),rv] true 0)∧g' (n+1)=some (.cells [.lit (.int .u8 14),.lit (.int .i64 a),.lit (.int .i64 b),xv] true 0)∧g' Aa=some (.cells (intC M.rows.length SA) true 0)∧g' Ab=some (.cells (intC M.rows.length SB) true 0)∧g' Or=some (.cells (intC M.rows.length (rounds M SA SB 14 r)) true 0)∧g' n2=some (.cells (intC M.rows.length (upS (rounds M SA SB 14 (r+1)) k)) true 0)∧gf 2=some (.ptr n 0)∧gf 3=some (.ptr (n+1) 0)∧gf 5=some (.lit (.int .i64 M.rows.length))∧gf 6=some (.sl Aa 0 M.rows.length M.rows.length)∧gf 7=some (.sl Ab 0 M.rows.length M.rows.length)∧gf 8=some (.sl Or 0 M.rows.length M.rows.length)∧gf 13=some (.lit (.int .i64 r))∧gf 14=some (.sl n2 0 M.rows.length M.rows.length)∧gf 15=some (.lit (.int .i64 k))) (m0:=M.rows.length) ?_ ?_
        · refine ⟨0,_,Nat.zero_le _,rfl,rfl,fun q hq=>?_,?_,?_,?_,?_,?_,?_,by simp [*],by simp [*],by simp [*],by simp [*],by simp [*],by simp [*],by simp [*],by simp,by simp⟩
          · simp (disch:=omega) only [gput_lt]
            exact HG2.out q hq
          · simp (disch:=omega) only [gput_lt]
            exact e0
          · simp (disch:=omega) only [gput_lt]
            exact e1
          · simp (disch:=omega) only [gput_lt]
            exact eA
          · simp (disch:=omega) only [gput_lt]
            exact eB
          · simp (disch:=omega) only [gput_lt]
            exact eO
          · rw [intC_zero]
            simp (disch:=omega) only [gput_eq]
            try rfl
        clear e0 e1 eA eB eO w2 w3 w5 w6 w7 w8 w13
        rintro m gf H' ⟨k,g3,hk,rfl,rfl,hg3,e0,e1,eA,eB,eO,eP,w2,w3,w5,w6,w7,w8,w13,w14,w15⟩ ihk
        have HG3:=Hide.mk hg3
        clear hg3
        refine LX.roundP (noO_ok _ _) hG pl13 (by decide +kernel) ?_
        by_cases hlt:k < M.rows.length
        · have hltI:(k:Int) < (M.rows.length:Int):=by omega
          have HRA:=Hide.mk (rahead_w HMM.out k hlt (rounds M SA SB 14 r) Or)
          have hul:=intC_len M.rows.length (upS (rounds M SA SB 14 (r+1)) k)
          have HSET:=Hide.mk (intC_set M.rows.length (rounds M SA SB 14 (r+1)) k hlt)
          have hclA:=intC_len M.rows.length SA
          have hclB:=intC_len M.rows.length SB
          have hatA:=intC_at M.rows.length SA k
          have hatB:=intC_at M.rows.length SB k
          rw [if_pos hlt] at hatA hatB
          have HRM:Hide (RepM g3 (n2+1) M [.lit (.int .i64 M.inp),.lit (.int .i64 M.out),rv]):=⟨HR.out.mono (by omega) HG3.out⟩
          have hkA:k < (intC M.rows.length SA).length:=by omega
          have hkB:k < (intC M.rows.length SB).length:=by omega
          have hgA:(intC M.rows.length SA)[k]'hkA=.lit (.int .i64 (b01 (SA k))):=by
            rw [List.getElem?_eq_getElem hkA] at hatA
            exact Option.some.inj hatA
          have hgB:(intC M.rows.length SB)[k]'hkB=.lit (.int .i64 (b01 (SB k))):=by
            rw [List.getElem?_eq_getElem hkB] at hatB
            exact Option.some.inj hatB
          have HSTEP:=Hide.mk (step14 M SA SB r k)
          have EA:=Hide.mk eA
          have EO:=Hide.mk eO
          clear hatA hatB
          generalize rounds M SA SB 14 (r+1) k=sk at HSET HSTEP
          generalize intC M.rows.length (upS (rounds M SA SB 14 (r+1)) k)=L at *
          have hkL:k < L.length:=by omega
          iterate 6 (all_goals try (first | with_reducible refine splitI (fun h=>?_) (fun h=>?_) | with_reducible refine splitBI (fun h=>?_) (fun h=>?_) | simp (config:={ maxSteps:=1000000 }) (disch:=first | assumption | omega | (simp; done) | fail) [Tryd.results13, *]))
          refine WC.mono (HRA.out _ _ _ HRM.out EO.out (by omega)) ?_
          rintro _ ⟨so,ma,rfl,hsm1,hsm2,hpre,hpost,hends⟩
          have HP:=Hide.mk (And.intro hpre (And.intro hpost hends))
          clear hpre hpost hends
          cases hB:SB k <;> cases hA:SA k <;> by_cases hm:0 < ma <;> by_cases hq:so=ma
          all_goals
            rw [hB] at hgB
            simp only [b01] at hgB
            rw [hA] at hgA
            simp only [b01] at hgA
            first | have hmz:¬ma=0:=by omega | have hmz:ma=0:=by omega
            first | have hmI:(0:Int) < (ma:Int):=by omega | have hmI:¬(0:Int) < (ma:Int):=by omega
            first | have hqI:(so:Int)=(ma:Int):=by omega | have hqI:¬(so:Int)=(ma:Int):=by omega
            iterate 6 (all_goals try (first | with_reducible refine splitI (fun h=>?_) (fun h=>?_) | with_reducible refine splitBI (fun h=>?_) (fun h=>?_) | simp (config:={ maxSteps:=1000000 }) (disch:=first | assumption | omega | (simp; done) | fail) [Tryd.results13, *]))
            refine WC.mono (one_w _ _) ?_
            rintro _ rfl
            simp only [b01]
            iterate 6 (all_goals try (first | with_reducible refine splitI (fun h=>?_) (fun h=>?_) | with_reducible refine splitBI (fun h=>?_) (fun h=>?_) | simp (config:={ maxSteps:=1000000 }) (disch:=first | assumption | omega | (simp; done) | fail) [Tryd.results13, *]))
            refine ihk.out (M.rows.length - (k+1)) _ _ (by omega) ⟨k+1,_,by omega,rfl,rfl,fun q hq=>?_,?_,?_,?_,?_,?_,?_,by simp [*],by simp [*],by simp [*],by simp [*],by simp [*],by simp [*],by simp [*],by simp [*],by simp⟩
            · simp (disch:=omega) only [gput_ne]
              exact HG3.out q hq
            · simp (disch:=omega) only [gput_ne]
              exact e0
            · simp (disch:=omega) only [gput_ne]
              exact e1
            · simp (disch:=omega) only [gput_ne]
              exact EA.out
            · simp (disch:=omega) only [gput_ne]
              exact eB
            · simp (disch:=omega) only [gput_ne]
              exact EO.out
            · simp (disch:=omega) only [gput_eq]
              rw [← HSET.out,HSTEP.out]
              try rw [← HP.out.1]
              try rw [← HP.out.2.1]
              try rw [← HP.out.2.2]
              first | (simp [*,b01]; done) | (simp [*,b01]; omega)
        · have hltI:¬(k:Int) < (M.rows.length:Int):=by omega
          have hk2:k=M.rows.length:=by omega
          have HK2:=Hide.mk hk2
          clear hk2
          iterate 6 (all_goals try (first | with_reducible refine splitI (fun h=>?_) (fun h=>?_) | with_reducible refine splitBI (fun h=>?_) (fun h=>?_) | simp (config:={ maxSteps:=1000000 }) (disch:=first | assumption | omega | (simp; done) | fail) [Tryd.results13, *]))
          refine ih.out (M.rows.length+1 - (r+1)) _ _ (by omega) ⟨r+1,n2+1,n2,g3,by omega,rfl,rfl,by omega,by omega,HG3.out,e0,e1,eA,eB,?_,by simp [*],by simp [*],by simp [*],by simp [*],by simp [*],by simp [*],by simp⟩
          rw [← intC_end]
          have h:=eP
          rw [HK2.out] at h
          exact h
      · have hrtI:¬(r:Int)≤(M.rows.length:Int):=by omega
        have hr3:r=M.rows.length+1:=by omega
        have HR3:=Hide.mk hr3
        clear hr3
        iterate 6 (all_goals try (first | with_reducible refine splitI (fun h=>?_) (fun h=>?_) | with_reducible refine splitBI (fun h=>?_) (fun h=>?_) | simp (config:={ maxSteps:=1000000 }) (disch:=first | assumption | omega | (simp; done) | fail) [Tryd.results13, *]))
        refine ⟨Or,rounds M SA SB 14 (M.rows.length+1),g2,n2,rfl,by omega,fun q hq=>HG2.out q hq,by omega,hOn,?_,SA,SB,HSL.out,rounds_sem M SA SB HMM.out 14 a b (by omega)⟩
        have h:=eO
        rw [HR3.out] at h
        exact h
end Go.Ai
end
section
namespace Go.Ai
open Go.Proofs
set_option maxRecDepth 10000
set_option maxHeartbeats 40000000
def edgesN (P:Nat→Bool) : Nat→Nat
  | 0=>0
  | k+1=>if P k=true then orN (edgesN P k) (bitN k) else edgesN P k
theorem edgesN_lt (P:Nat→Bool) : ∀ k,k≤64→edgesN P k < 18446744073709551616
  | 0,_=>by unfold edgesN; omega
  | k+1,h=>by
    have:=edgesN_lt P k (by omega)
    unfold edgesN
    split
    · exact orN_lt this (bitN_lt (by omega))
    · exact this
theorem edgesN_bit (P:Nat→Bool) (s:Nat) : ∀ k,(edgesN P k).testBit s=(decide (s < k) && P s)
  | 0=>by unfold edgesN; simp
  | k+1=>by
    have ih:=edgesN_bit P s k
    unfold edgesN
    split
    · rename_i h
      rw [orN_bit,ih,bitN_bit]
      by_cases hs:s=k
      · subst hs; rw [h]; simp
      · rw [decide_eq_false (show ¬k=s by omega),show decide (s < k+1)=decide (s < k) by rw [decide_eq_decide]; omega]; simp
    · rename_i h
      rw [ih]
      by_cases hs:s=k
      · subst hs; rw [show P s=false by simpa using h]; simp
      · rw [show decide (s < k+1)=decide (s < k) by rw [decide_eq_decide]; omega]
theorem edgesN_eq (P:Nat→Bool) (n:Nat) : eqS n (sOf (edgesN P n)) P:=fun s hs=>by
  show (edgesN P n).testBit s=_
  rw [edgesN_bit,decide_eq_true hs]; rfl
theorem op126 (a b:Int) (H:Mem) : WC 6 Tryd.prog 126 [.agg [.lit (.int .i64 a),.lit (.int .i64 b)]] H fun r=>r=.ret (.lit (.bool true)) H:=by
  refine WC.drop1 rfl (WC.mono (WC.ofFn (v:=.lit (.bool true)) ?_) fun r h=>⟨H,h,Nat.le_refl _,fun _ _=>rfl⟩)
  refine WC.drop1 rfl ?_
  refine WC.enterP (noO_ok _ _) hG [] Tryd.func126 rfl (by decide +kernel) (Nat.le_of_ble_eq_true (by kernel_rfl)) ?_
  have h1a:allOne [.lit (.int .i64 a),.lit (.int .i64 b)]=true:=by simp
  iterate 6 (all_goals try (first | with_reducible refine splitI (fun h=>?_) (fun h=>?_) | with_reducible refine splitBI (fun h=>?_) (fun h=>?_) | simp (config:={ maxSteps:=1000000 }) (disch:=first | assumption | omega | (simp; done) | fail) [Tryd.results126, *]))
  all_goals exact ⟨Nat.le_succ _,fun q hq=>gput_lt hq⟩
theorem edges_can {M:MachM} {nx:List Nat} {all:Nat} (hMr:∀ r∈M.rows,(r.length:Int)=M.inp) (i:Nat) (hi:(i:Int) < M.inp) (g:Nat→Option Blk) (n:Nat) (cs:List AV) (hr:GOK g n M nx all cs) :
    WC 6 Tryd.prog 125 [.agg cs,.lit (.func (.func 126) #[] #[]),.lit (.int .i64 i)] ⟨.fn g,n⟩ fun r=>r=.ret (.lit (.int .u64 ((edgesN (fun s=>!decide ((M.edge s i).1 = -1)) M.gr.n:Nat) : Int))) ⟨.fn g,n⟩:=by
  refine WC.drop1 rfl ?_
  obtain ⟨rv,nv,rfl,h1r,h1v⟩:=hr.one
  have h1a:allOne [.lit (.int .i64 M.inp),.lit (.int .i64 M.out),rv,nv,.lit (.int .u64 (all:Int))]=true:=by simp [h1r,h1v]
  have h64:=hr.grn.n64
  obtain ⟨⟨rv',nv',e1,⟨rv2,svs,e2,hrows,hrv⟩,_⟩,_⟩:=hr
  cases e1
  cases e2
  have hlen:=@lenV Tryd.prog _ _ _ _ _ hrv
  have hsl:=hrows.len
  have hgn:M.gr.n=M.rows.length:=rfl
  have HROW:=Hide.mk hrows
  have HRV:=Hide.mk hrv
  have HMR:=Hide.mk hMr
  generalize hP:(fun s=>!decide ((M.edge s i).1 = -1))=P
  rw [hgn] at h64 ⊢
  clear hrows hrv hMr hgn
  refine WC.enterP (noO_ok _ _) hG [] Tryd.func125 rfl (by decide +kernel) (Nat.le_of_ble_eq_true (by kernel_rfl)) ?_
  iterate 6 (all_goals try (first | with_reducible refine splitI (fun h=>?_) (fun h=>?_) | with_reducible refine splitBI (fun h=>?_) (fun h=>?_) | simp (config:={ maxSteps:=1000000 }) (disch:=first | assumption | omega | (simp; done) | fail) [Tryd.results125, *]))
  refine LX.ind (fun m gf H'=>∃ (k:Nat),k≤M.rows.length∧m=M.rows.length - k∧H'=⟨.fn (gput g n (some (.cells [.lit (.int .i64 M.inp),.lit (.int .i64 M.out),rv,nv,.lit (.int .u64 (all:Int))] true 0))),n+1⟩ ∧
    gf 1=some (.lit (.func (.func 126) #[] #[]))∧gf 2=some (.lit (.int .i64 i))∧gf 6=some (.lit (.int .u64 ((edgesN P k:Nat) : Int)))∧gf 11=some rv∧gf 12=some (.lit (.int .i64 M.rows.length))∧gf 13=some (.lit (.int .i64 k))) (m0:=M.rows.length) ?_ ?_
  · exact ⟨0,by omega,rfl,rfl,by simp,by simp,by simp [edgesN],by simp,by simp,by simp⟩
  rintro m gf H' ⟨k,hk,rfl,rfl,w1,w2,w6,w11,w12,w13⟩ ih
  refine LX.roundP (noO_ok _ _) hG [] (by decide +kernel) ?_
  have hal:=edgesN_lt P k (by omega)
  by_cases hlt:k < M.rows.length
  · have hltI:(k:Int) < (M.rows.length:Int):=by omega
    have hk63:k≤63:=by omega
    have hbk:=bitN_lt hk63
    have hR:=HROW.out.at k hlt (by omega)
    rcases HRV.out with ⟨h1,_⟩ | ⟨a2,off,ha2,hev,hrow⟩
    · omega
    have hcell:=(hrow.mono (g':=gput g n (some (.cells [.lit (.int .i64 M.inp),.lit (.int .i64 M.out),rv,nv,.lit (.int .u64 (all:Int))] true 0))) (gput_lt ha2)).one (k:=k) (s:=1) (by omega)
    rw [gput_lt ha2] at hcell
    have hPk:P k=(!decide ((M.edge k i).1 = -1)):=by rw [← hP]
    have hil:=HMR.out _ (List.getElem_mem hlt)
    have hrk:=List.getElem?_eq_getElem hlt
    generalize svs[k]'(by omega)=sv at hR hcell
    have hilt:i < M.rows[k].length:=by omega
    generalize M.rows[k]=row at hR hil hrk hilt
    have hiltI:(i:Int) < (row.length:Int):=by omega
    rcases hR with ⟨h1,_⟩ | ⟨a3,off3,ha3,hev3,hrow3⟩
    · omega
    have hrow3':=hrow3.mono (g':=gput g n (some (.cells [.lit (.int .i64 M.inp),.lit (.int .i64 M.out),rv,nv,.lit (.int .u64 (all:Int))] true 0))) (gput_lt ha3)
    have hto:=hrow3'.one (k:=i * 2) (s:=1) (by rw [rowC_len]; omega)
    have hagg:=hrow3'.agg (k:=i * 2) (s:=2) (by rw [rowC_len]; omega)
    have hc1:=(rowC_one row i hilt).1
    rw [List.getElem?_eq_getElem (by rw [rowC_len]; omega)] at hc1
    rw [Option.some.inj hc1,gput_lt ha3] at hto
    rw [rowC_at row i hilt,gput_lt ha3] at hagg
    have hed:=edge_at hrk (List.getElem?_eq_getElem hilt)
    generalize row[i]=e at hto hagg hed
    obtain ⟨to,out⟩:=e
    rw [hed] at hPk
    dsimp only at hto hagg hPk
    have HST:Hide (edgesN P (k+1)=if P k=true then orN (edgesN P k) (bitN k) else edgesN P k):=⟨rfl⟩
    have HPK:=Hide.mk hPk
    clear hPk hed hrk hc1 hrow3 hrow3' hrow hP hil
    by_cases ht:to = -1
    · have hPf:P k=false:=by rw [HPK.out]; simp [ht]
      rw [if_neg (by rw [hPf]; decide)] at HST
      rcases hev with ⟨c2,rfl⟩ | ⟨c2,rfl⟩ <;> rcases hev3 with ⟨c3,rfl⟩ | ⟨c3,rfl⟩
      all_goals
        iterate 6 (all_goals try (first | with_reducible refine splitI (fun h=>?_) (fun h=>?_) | with_reducible refine splitBI (fun h=>?_) (fun h=>?_) | simp (config:={ maxSteps:=1000000 }) (disch:=first | assumption | omega | (simp; done) | fail) [Tryd.results125, *]))
        refine ih.out (M.rows.length - (k+1)) _ _ (by omega) ⟨k+1,by omega,rfl,rfl,by simp [*],by simp [*],?_,by simp [*],by simp [*],by simp⟩
        rw [HST.out]
        simp [*]
    · have hPt:P k=true:=by rw [HPK.out]; simp [ht]
      rw [if_pos hPt] at HST
      rcases hev with ⟨c2,rfl⟩ | ⟨c2,rfl⟩ <;> rcases hev3 with ⟨c3,rfl⟩ | ⟨c3,rfl⟩
      all_goals
        iterate 6 (all_goals try (first | with_reducible refine splitI (fun h=>?_) (fun h=>?_) | with_reducible refine splitBI (fun h=>?_) (fun h=>?_) | simp (config:={ maxSteps:=1000000 }) (disch:=first | assumption | omega | (simp; done) | fail) [Tryd.results125, *]))
        refine WC.mono (op126 _ _ _) ?_
        rintro _ rfl
        iterate 6 (all_goals try (first | with_reducible refine splitI (fun h=>?_) (fun h=>?_) | with_reducible refine splitBI (fun h=>?_) (fun h=>?_) | simp (config:={ maxSteps:=1000000 }) (disch:=first | assumption | omega | (simp; done) | fail) [Tryd.results125, *]))
        refine ih.out (M.rows.length - (k+1)) _ _ (by omega) ⟨k+1,by omega,rfl,rfl,by simp [*],by simp [*],?_,by simp [*],by simp [*],by simp⟩
        rw [HST.out]
        simp [*]
  · have hltI:¬(k:Int) < (M.rows.length:Int):=by omega
    have hk2:k=M.rows.length:=by omega
    iterate 6 (all_goals try (first | with_reducible refine splitI (fun h=>?_) (fun h=>?_) | with_reducible refine splitBI (fun h=>?_) (fun h=>?_) | simp (config:={ maxSteps:=1000000 }) (disch:=first | assumption | omega | (simp; done) | fail) [Tryd.results125, *]))
    exact ⟨Nat.le_succ n,fun b hb=>gput_lt hb⟩
theorem op128 (to out:Int) (p:Nat) (g:Nat→Option Blk) (n:Nat) (op:Nat) (a b:Int) (sv:AV) (hp:g p=some (.cells [.lit (.int .u8 op),.lit (.int .i64 a),.lit (.int .i64 b),sv] true 0)) (hpn:p < n) : WC 6 Tryd.prog 128 [.agg [.lit (.int .i64 to),.lit (.int .i64 out)],.ptr p 0] ⟨.fn g,n⟩ fun r=>r=.ret (.lit (.bool (decide (out=b)))) ⟨.fn g,n⟩:=by
  refine WC.drop1 rfl ?_
  have h1a:allOne [.lit (.int .i64 to),.lit (.int .i64 out)]=true:=by simp
  refine WC.enterP (noO_ok _ _) hG [] Tryd.func128 rfl (by decide +kernel) (Nat.le_of_ble_eq_true (by kernel_rfl)) ?_
  iterate 6 (all_goals try (first | with_reducible refine splitI (fun h=>?_) (fun h=>?_) | with_reducible refine splitBI (fun h=>?_) (fun h=>?_) | simp (config:={ maxSteps:=1000000 }) (disch:=first | assumption | omega | (simp; done) | fail) [Tryd.results128, *]))
  all_goals exact ⟨Nat.le_succ _,fun q hq=>gput_lt hq⟩
theorem edges_gives {M:MachM} {nx:List Nat} {all:Nat} (hMr:∀ r∈M.rows,(r.length:Int)=M.inp) (i:Nat) (hi:(i:Int) < M.inp) (p op:Nat) (a b:Int) (sv:AV) (g:Nat→Option Blk) (n:Nat) (cs:List AV) (hr:GOK g n M nx all cs) (hp:g p=some (.cells [.lit (.int .u8 op),.lit (.int .i64 a),.lit (.int .i64 b),sv] true 0)) (hpn:p < n) :
    WC 6 Tryd.prog 125 [.agg cs,.func (.func 128) [] [.ptr p 0],.lit (.int .i64 i)] ⟨.fn g,n⟩ fun r=>r=.ret (.lit (.int .u64 ((edgesN (fun s=>!decide ((M.edge s i).1 = -1) && decide ((M.edge s i).2=b)) M.gr.n:Nat) : Int))) ⟨.fn g,n⟩:=by
  refine WC.drop1 rfl ?_
  obtain ⟨rv,nv,rfl,h1r,h1v⟩:=hr.one
  have h1a:allOne [.lit (.int .i64 M.inp),.lit (.int .i64 M.out),rv,nv,.lit (.int .u64 (all:Int))]=true:=by simp [h1r,h1v]
  have h64:=hr.grn.n64
  obtain ⟨⟨rv',nv',e1,⟨rv2,svs,e2,hrows,hrv⟩,_⟩,_⟩:=hr
  cases e1
  cases e2
  have hlen:=@lenV Tryd.prog _ _ _ _ _ hrv
  have hsl:=hrows.len
  have hgn:M.gr.n=M.rows.length:=rfl
  have HROW:=Hide.mk hrows
  have HRV:=Hide.mk hrv
  have HMR:=Hide.mk hMr
  generalize hP:(fun s=>!decide ((M.edge s i).1 = -1) && decide ((M.edge s i).2=b))=P
  rw [hgn] at h64 ⊢
  clear hrows hrv hMr hgn
  refine WC.enterP (noO_ok _ _) hG [] Tryd.func125 rfl (by decide +kernel) (Nat.le_of_ble_eq_true (by kernel_rfl)) ?_
  iterate 6 (all_goals try (first | with_reducible refine splitI (fun h=>?_) (fun h=>?_) | with_reducible refine splitBI (fun h=>?_) (fun h=>?_) | simp (config:={ maxSteps:=1000000 }) (disch:=first | assumption | omega | (simp; done) | fail) [Tryd.results125, *]))
  refine LX.ind (fun m gf H'=>∃ (k:Nat),k≤M.rows.length∧m=M.rows.length - k∧H'=⟨.fn (gput g n (some (.cells [.lit (.int .i64 M.inp),.lit (.int .i64 M.out),rv,nv,.lit (.int .u64 (all:Int))] true 0))),n+1⟩ ∧
    gf 1=some (.func (.func 128) [] [.ptr p 0])∧gf 2=some (.lit (.int .i64 i))∧gf 6=some (.lit (.int .u64 ((edgesN P k:Nat) : Int)))∧gf 11=some rv∧gf 12=some (.lit (.int .i64 M.rows.length))∧gf 13=some (.lit (.int .i64 k))) (m0:=M.rows.length) ?_ ?_
  · exact ⟨0,by omega,rfl,rfl,by simp,by simp,by simp [edgesN],by simp,by simp,by simp⟩
  rintro m gf H' ⟨k,hk,rfl,rfl,w1,w2,w6,w11,w12,w13⟩ ih
  refine LX.roundP (noO_ok _ _) hG [] (by decide +kernel) ?_
  have hal:=edgesN_lt P k (by omega)
  by_cases hlt:k < M.rows.length
  · have hltI:(k:Int) < (M.rows.length:Int):=by omega
    have hk63:k≤63:=by omega
    have hbk:=bitN_lt hk63
    have hR:=HROW.out.at k hlt (by omega)
    rcases HRV.out with ⟨h1,_⟩ | ⟨a2,off,ha2,hev,hrow⟩
    · omega
    have hcell:=(hrow.mono (g':=gput g n (some (.cells [.lit (.int .i64 M.inp),.lit (.int .i64 M.out),rv,nv,.lit (.int .u64 (all:Int))] true 0))) (gput_lt ha2)).one (k:=k) (s:=1) (by omega)
    rw [gput_lt ha2] at hcell
    have hPk:P k=(!decide ((M.edge k i).1 = -1) && decide ((M.edge k i).2=b)):=by rw [← hP]
    have hil:=HMR.out _ (List.getElem_mem hlt)
    have hrk:=List.getElem?_eq_getElem hlt
    generalize svs[k]'(by omega)=sv at hR hcell
    have hilt:i < M.rows[k].length:=by omega
    generalize M.rows[k]=row at hR hil hrk hilt
    have hiltI:(i:Int) < (row.length:Int):=by omega
    rcases hR with ⟨h1,_⟩ | ⟨a3,off3,ha3,hev3,hrow3⟩
    · omega
    have hrow3':=hrow3.mono (g':=gput g n (some (.cells [.lit (.int .i64 M.inp),.lit (.int .i64 M.out),rv,nv,.lit (.int .u64 (all:Int))] true 0))) (gput_lt ha3)
    have hto:=hrow3'.one (k:=i * 2) (s:=1) (by rw [rowC_len]; omega)
    have hagg:=hrow3'.agg (k:=i * 2) (s:=2) (by rw [rowC_len]; omega)
    have hc1:=(rowC_one row i hilt).1
    rw [List.getElem?_eq_getElem (by rw [rowC_len]; omega)] at hc1
    rw [Option.some.inj hc1,gput_lt ha3] at hto
    rw [rowC_at row i hilt,gput_lt ha3] at hagg
    have hed:=edge_at hrk (List.getElem?_eq_getElem hilt)
    generalize row[i]=e at hto hagg hed
    obtain ⟨to,out⟩:=e
    rw [hed] at hPk
    dsimp only at hto hagg hPk
    have HST:Hide (edgesN P (k+1)=if P k=true then orN (edgesN P k) (bitN k) else edgesN P k):=⟨rfl⟩
    have HPK:=Hide.mk hPk
    clear hPk hed hrk hc1 hrow3 hrow3' hrow hP hil
    by_cases ht:to = -1
    · have hPf:P k=false:=by rw [HPK.out]; simp [ht]
      rw [if_neg (by rw [hPf]; decide)] at HST
      rcases hev with ⟨c2,rfl⟩ | ⟨c2,rfl⟩ <;> rcases hev3 with ⟨c3,rfl⟩ | ⟨c3,rfl⟩
      all_goals
        iterate 6 (all_goals try (first | with_reducible refine splitI (fun h=>?_) (fun h=>?_) | with_reducible refine splitBI (fun h=>?_) (fun h=>?_) | simp (config:={ maxSteps:=1000000 }) (disch:=first | assumption | omega | (simp; done) | fail) [Tryd.results125, *]))
        refine ih.out (M.rows.length - (k+1)) _ _ (by omega) ⟨k+1,by omega,rfl,rfl,by simp [*],by simp [*],?_,by simp [*],by simp [*],by simp⟩
        rw [HST.out]
        simp [*]
    by_cases hob:out=b
    · have hPt:P k=true:=by rw [HPK.out]; simp [ht,hob]
      rw [if_pos hPt] at HST
      rcases hev with ⟨c2,rfl⟩ | ⟨c2,rfl⟩ <;> rcases hev3 with ⟨c3,rfl⟩ | ⟨c3,rfl⟩
      all_goals
        iterate 6 (all_goals try (first | with_reducible refine splitI (fun h=>?_) (fun h=>?_) | with_reducible refine splitBI (fun h=>?_) (fun h=>?_) | simp (config:={ maxSteps:=1000000 }) (disch:=first | assumption | omega | (simp; done) | fail) [Tryd.results125, *]))
        refine WC.mono (op128 _ _ _ _ _ _ _ _ _ ((gput_lt hpn).trans hp) (by omega)) ?_
        rintro _ rfl
        iterate 6 (all_goals try (first | with_reducible refine splitI (fun h=>?_) (fun h=>?_) | with_reducible refine splitBI (fun h=>?_) (fun h=>?_) | simp (config:={ maxSteps:=1000000 }) (disch:=first | assumption | omega | (simp; done) | fail) [Tryd.results125, *]))
        refine ih.out (M.rows.length - (k+1)) _ _ (by omega) ⟨k+1,by omega,rfl,rfl,by simp [*],by simp [*],?_,by simp [*],by simp [*],by simp⟩
        rw [HST.out]
        simp [*]
    · have hPt:P k=false:=by rw [HPK.out]; simp [hob]
      rw [if_neg (by rw [hPt]; decide)] at HST
      rcases hev with ⟨c2,rfl⟩ | ⟨c2,rfl⟩ <;> rcases hev3 with ⟨c3,rfl⟩ | ⟨c3,rfl⟩
      all_goals
        iterate 6 (all_goals try (first | with_reducible refine splitI (fun h=>?_) (fun h=>?_) | with_reducible refine splitBI (fun h=>?_) (fun h=>?_) | simp (config:={ maxSteps:=1000000 }) (disch:=first | assumption | omega | (simp; done) | fail) [Tryd.results125, *]))
        refine WC.mono (op128 _ _ _ _ _ _ _ _ _ ((gput_lt hpn).trans hp) (by omega)) ?_
        rintro _ rfl
        iterate 6 (all_goals try (first | with_reducible refine splitI (fun h=>?_) (fun h=>?_) | with_reducible refine splitBI (fun h=>?_) (fun h=>?_) | simp (config:={ maxSteps:=1000000 }) (disch:=first | assumption | omega | (simp; done) | fail) [Tryd.results125, *]))
        refine ih.out (M.rows.length - (k+1)) _ _ (by omega) ⟨k+1,by omega,rfl,rfl,by simp [*],by simp [*],?_,by simp [*],by simp [*],by simp⟩
        rw [HST.out]
        simp [*]
  · have hltI:¬(k:Int) < (M.rows.length:Int):=by omega
    have hk2:k=M.rows.length:=by omega
    iterate 6 (all_goals try (first | with_reducible refine splitI (fun h=>?_) (fun h=>?_) | with_reducible refine splitBI (fun h=>?_) (fun h=>?_) | simp (config:={ maxSteps:=1000000 }) (disch:=first | assumption | omega | (simp; done) | fail) [Tryd.results125, *]))
    exact ⟨Nat.le_succ n,fun b hb=>gput_lt hb⟩
end Go.Ai
end
section
namespace Go.Ai
open Go.Proofs
set_option maxRecDepth 10000
set_option maxHeartbeats 40000000
variable {M:MachM} {nx:List Nat} {all:Nat}
theorem fE_cong {G:GraphM} (hG:G.ok) {a b a' b' L L' : SetS} (h:IsL G.n (G.fE a b) L) (ha:eqS G.n a a') (hb:eqS G.n b b') (hL:eqS G.n L L') : IsL G.n (G.fE a' b') L':=h.cong (fE_arg ha hb) (fun _ _=>fE_eq hG _ _) hL
theorem fA_cong {G:GraphM} (hG:G.ok) {a b a' b' L L' : SetS} (h:IsL G.n (G.fA a b) L) (ha:eqS G.n a a') (hb:eqS G.n b b') (hL:eqS G.n L L') : IsL G.n (G.fA a' b') L':=h.cong (fA_arg ha hb) (fun _ _=>fA_eq hG _ _) hL
theorem GrN.ndnd {G:GraphM} (h:GrN G nx all) {t:Nat} (ht:t < 18446744073709551616) : eqS G.n (notS (sOf (ndN all t))) (sOf t):=fun s hs=>by
  unfold notS
  rw [h.nd ht s hs]
  unfold notS
  simp
theorem sOf_or (a b:Nat) : sOf (orN a b)=fun s=>sOf a s || sOf b s:=by funext s; exact orN_bit a b s
theorem sOf_and (a b:Nat) : sOf (andN a b)=fun s=>sOf a s && sOf b s:=by funext s; exact andN_bit a b s
theorem sem0_w (op:Nat) (a b:Int) (sv:AV) (ta tb:Nat) (hta:ta < 18446744073709551616) (htb:tb < 18446744073709551616) (h1s:oneC sv=true) (g:Nat→Option Blk) (n:Nat) (cs:List AV) (hr:GOK g n M nx all cs) :
    WC 6 Tryd.prog 122 [.agg cs,.agg [.lit (.int .u8 op),.lit (.int .i64 a),.lit (.int .i64 b),sv],.lit (.int .u64 ta),.lit (.int .u64 tb)] ⟨.fn g,n⟩ fun r=>∃ z:Nat,r=.ret (.lit (.int .u64 (z:Int))) ⟨.fn g,n⟩∧z < 18446744073709551616∧opSem M 0 a b (sOf ta) (sOf tb) (sOf z):=by
  refine WC.mono (WC.drop (K:=fun v=>∃ z:Nat,v=.lit (.int .u64 (z:Int))∧z < 18446744073709551616∧opSem M 0 a b (sOf ta) (sOf tb) (sOf z)) ?_) ?_
  rotate_left
  · rintro r ⟨v,rfl,z,rfl,h⟩
    exact ⟨z,rfl,h⟩
  obtain ⟨rv,nv,rfl,h1r,h1v⟩:=hr.one
  have h1a:allOne [.lit (.int .i64 M.inp),.lit (.int .i64 M.out),rv,nv,.lit (.int .u64 (all:Int))]=true:=by simp [h1r,h1v]
  have h1x:allOne [.lit (.int .u8 op),.lit (.int .i64 a),.lit (.int .i64 b),sv]=true:=by simp [h1s]
  have HR:=Hide.mk hr
  have HN:=Hide.mk hr.grn
  have HG:=Hide.mk hr.grn.ok
  have halt:=hr.grn.alt
  have hal:=fun t:Nat=>aheadN_lt nx t M.gr.n hr.grn.n64
  have HAL:=Hide.mk hal
  clear hr hal
  have hnd1:=ndN_lt (b:=ta) halt
  have hnd2:=ndN_lt (b:=tb) halt
  have hor:=orN_lt hta htb
  have hno:=ndN_lt (b:=orN ta tb) halt
  refine WC.enterP (noO_ok _ _) hG [] Tryd.func122 rfl (by decide +kernel) (Nat.le_of_ble_eq_true (by kernel_rfl)) ?_
  iterate 6 (all_goals try (first | with_reducible refine splitI (fun h=>?_) (fun h=>?_) | with_reducible refine splitBI (fun h=>?_) (fun h=>?_) | simp (config:={ maxSteps:=1000000 }) (disch:=first | assumption | omega | (simp; done) | fail) [Tryd.results122, *]))
  refine ⟨_,_,⟨rfl,rfl⟩,rfl,⟨?_,fun q hq=>?_⟩,_,rfl,?_,?_⟩
  · show n≤n+1+1
    omega
  · show gput _ _ _ _=_
    have hq' : q < n:=hq
    rw [gput_lt (by omega),gput_lt (by omega)]
    rfl
  · first | assumption | simp [*]
  · exact HN.out.all_eq
theorem sem1_w (i:Nat) (hi:i < M.gr.n) (op:Nat) (b:Int) (sv:AV) (ta tb:Nat) (hta:ta < 18446744073709551616) (htb:tb < 18446744073709551616) (h1s:oneC sv=true) (g:Nat→Option Blk) (n:Nat) (cs:List AV) (hr:GOK g n M nx all cs) :
    WC 6 Tryd.prog 123 [.agg cs,.agg [.lit (.int .u8 op),.lit (.int .i64 i),.lit (.int .i64 b),sv],.lit (.int .u64 ta),.lit (.int .u64 tb)] ⟨.fn g,n⟩ fun r=>∃ z:Nat,r=.ret (.lit (.int .u64 (z:Int))) ⟨.fn g,n⟩∧z < 18446744073709551616∧opSem M 1 i b (sOf ta) (sOf tb) (sOf z):=by
  refine WC.mono (WC.drop (K:=fun v=>∃ z:Nat,v=.lit (.int .u64 (z:Int))∧z < 18446744073709551616∧opSem M 1 i b (sOf ta) (sOf tb) (sOf z)) ?_) ?_
  rotate_left
  · rintro r ⟨v,rfl,z,rfl,h⟩
    exact ⟨z,rfl,h⟩
  obtain ⟨rv,nv,rfl,h1r,h1v⟩:=hr.one
  have h1a:allOne [.lit (.int .i64 M.inp),.lit (.int .i64 M.out),rv,nv,.lit (.int .u64 (all:Int))]=true:=by simp [h1r,h1v]
  have h1x:allOne [.lit (.int .u8 op),.lit (.int .i64 i),.lit (.int .i64 b),sv]=true:=by simp [h1s]
  have HR:=Hide.mk hr
  have HN:=Hide.mk hr.grn
  have HG:=Hide.mk hr.grn.ok
  have halt:=hr.grn.alt
  have hal:=fun t:Nat=>aheadN_lt nx t M.gr.n hr.grn.n64
  have HAL:=Hide.mk hal
  clear hr hal
  have hnd1:=ndN_lt (b:=ta) halt
  have hnd2:=ndN_lt (b:=tb) halt
  have hor:=orN_lt hta htb
  have hno:=ndN_lt (b:=orN ta tb) halt
  have hi63:i≤63:=by have:=HN.out.n64; omega
  have hbi:=bitN_lt hi63
  refine WC.enterP (noO_ok _ _) hG [] Tryd.func123 rfl (by decide +kernel) (Nat.le_of_ble_eq_true (by kernel_rfl)) ?_
  iterate 6 (all_goals try (first | with_reducible refine splitI (fun h=>?_) (fun h=>?_) | with_reducible refine splitBI (fun h=>?_) (fun h=>?_) | simp (config:={ maxSteps:=1000000 }) (disch:=first | assumption | omega | (simp; done) | fail) [Tryd.results123, *]))
  refine ⟨_,_,⟨rfl,rfl⟩,rfl,⟨?_,fun q hq=>?_⟩,_,rfl,?_,?_⟩
  · show n≤n+1+1
    omega
  · show gput _ _ _ _=_
    have hq' : q < n:=hq
    rw [gput_lt (by omega),gput_lt (by omega)]
    rfl
  · first | assumption | simp [*]
  · exact fun s hs=>by show (bitN i).testBit s=decide (((s:Nat) : Int)=(i:Int)); rw [bitN_bit,decide_eq_decide]; omega
theorem sem4_w (op:Nat) (a b:Int) (sv:AV) (ta tb:Nat) (hta:ta < 18446744073709551616) (htb:tb < 18446744073709551616) (h1s:oneC sv=true) (g:Nat→Option Blk) (n:Nat) (cs:List AV) (hr:GOK g n M nx all cs) :
    WC 6 Tryd.prog 129 [.agg cs,.agg [.lit (.int .u8 op),.lit (.int .i64 a),.lit (.int .i64 b),sv],.lit (.int .u64 ta),.lit (.int .u64 tb)] ⟨.fn g,n⟩ fun r=>∃ z:Nat,r=.ret (.lit (.int .u64 (z:Int))) ⟨.fn g,n⟩∧z < 18446744073709551616∧opSem M 4 a b (sOf ta) (sOf tb) (sOf z):=by
  refine WC.mono (WC.drop (K:=fun v=>∃ z:Nat,v=.lit (.int .u64 (z:Int))∧z < 18446744073709551616∧opSem M 4 a b (sOf ta) (sOf tb) (sOf z)) ?_) ?_
  rotate_left
  · rintro r ⟨v,rfl,z,rfl,h⟩
    exact ⟨z,rfl,h⟩
  obtain ⟨rv,nv,rfl,h1r,h1v⟩:=hr.one
  have h1a:allOne [.lit (.int .i64 M.inp),.lit (.int .i64 M.out),rv,nv,.lit (.int .u64 (all:Int))]=true:=by simp [h1r,h1v]
  have h1x:allOne [.lit (.int .u8 op),.lit (.int .i64 a),.lit (.int .i64 b),sv]=true:=by simp [h1s]
  have HR:=Hide.mk hr
  have HN:=Hide.mk hr.grn
  have HG:=Hide.mk hr.grn.ok
  have halt:=hr.grn.alt
  have hal:=fun t:Nat=>aheadN_lt nx t M.gr.n hr.grn.n64
  have HAL:=Hide.mk hal
  clear hr hal
  have hnd1:=ndN_lt (b:=ta) halt
  have hnd2:=ndN_lt (b:=tb) halt
  have hor:=orN_lt hta htb
  have hno:=ndN_lt (b:=orN ta tb) halt
  refine WC.enterP (noO_ok _ _) hG [] Tryd.func129 rfl (by decide +kernel) (Nat.le_of_ble_eq_true (by kernel_rfl)) ?_
  iterate 6 (all_goals try (first | with_reducible refine splitI (fun h=>?_) (fun h=>?_) | with_reducible refine splitBI (fun h=>?_) (fun h=>?_) | simp (config:={ maxSteps:=1000000 }) (disch:=first | assumption | omega | (simp; done) | fail) [Tryd.results129, *]))
  refine ⟨_,_,⟨rfl,rfl⟩,rfl,⟨?_,fun q hq=>?_⟩,_,rfl,?_,?_⟩
  · show n≤n+1+1
    omega
  · show gput _ _ _ _=_
    have hq' : q < n:=hq
    rw [gput_lt (by omega),gput_lt (by omega)]
    rfl
  · first | assumption | simp [*]
  · exact HN.out.nd hta
theorem sem5_w (op:Nat) (a b:Int) (sv:AV) (ta tb:Nat) (hta:ta < 18446744073709551616) (htb:tb < 18446744073709551616) (h1s:oneC sv=true) (g:Nat→Option Blk) (n:Nat) (cs:List AV) (hr:GOK g n M nx all cs) :
    WC 6 Tryd.prog 130 [.agg cs,.agg [.lit (.int .u8 op),.lit (.int .i64 a),.lit (.int .i64 b),sv],.lit (.int .u64 ta),.lit (.int .u64 tb)] ⟨.fn g,n⟩ fun r=>∃ z:Nat,r=.ret (.lit (.int .u64 (z:Int))) ⟨.fn g,n⟩∧z < 18446744073709551616∧opSem M 5 a b (sOf ta) (sOf tb) (sOf z):=by
  refine WC.mono (WC.drop (K:=fun v=>∃ z:Nat,v=.lit (.int .u64 (z:Int))∧z < 18446744073709551616∧opSem M 5 a b (sOf ta) (sOf tb) (sOf z)) ?_) ?_
  rotate_left
  · rintro r ⟨v,rfl,z,rfl,h⟩
    exact ⟨z,rfl,h⟩
  obtain ⟨rv,nv,rfl,h1r,h1v⟩:=hr.one
  have h1a:allOne [.lit (.int .i64 M.inp),.lit (.int .i64 M.out),rv,nv,.lit (.int .u64 (all:Int))]=true:=by simp [h1r,h1v]
  have h1x:allOne [.lit (.int .u8 op),.lit (.int .i64 a),.lit (.int .i64 b),sv]=true:=by simp [h1s]
  have HR:=Hide.mk hr
  have HN:=Hide.mk hr.grn
  have HG:=Hide.mk hr.grn.ok
  have halt:=hr.grn.alt
  have hal:=fun t:Nat=>aheadN_lt nx t M.gr.n hr.grn.n64
  have HAL:=Hide.mk hal
  clear hr hal
  have hnd1:=ndN_lt (b:=ta) halt
  have hnd2:=ndN_lt (b:=tb) halt
  have hor:=orN_lt hta htb
  have hno:=ndN_lt (b:=orN ta tb) halt
  refine WC.enterP (noO_ok _ _) hG [] Tryd.func130 rfl (by decide +kernel) (Nat.le_of_ble_eq_true (by kernel_rfl)) ?_
  iterate 6 (all_goals try (first | with_reducible refine splitI (fun h=>?_) (fun h=>?_) | with_reducible refine splitBI (fun h=>?_) (fun h=>?_) | simp (config:={ maxSteps:=1000000 }) (disch:=first | assumption | omega | (simp; done) | fail) [Tryd.results130, *]))
  refine ⟨_,_,⟨rfl,rfl⟩,rfl,⟨?_,fun q hq=>?_⟩,_,rfl,?_,?_⟩
  · show n≤n+1+1
    omega
  · show gput _ _ _ _=_
    have hq' : q < n:=hq
    rw [gput_lt (by omega),gput_lt (by omega)]
    rfl
  · first | assumption | simp [*]
  · rw [sOf_and]; exact eqS.refl _ _
theorem sem6_w (op:Nat) (a b:Int) (sv:AV) (ta tb:Nat) (hta:ta < 18446744073709551616) (htb:tb < 18446744073709551616) (h1s:oneC sv=true) (g:Nat→Option Blk) (n:Nat) (cs:List AV) (hr:GOK g n M nx all cs) :
    WC 6 Tryd.prog 131 [.agg cs,.agg [.lit (.int .u8 op),.lit (.int .i64 a),.lit (.int .i64 b),sv],.lit (.int .u64 ta),.lit (.int .u64 tb)] ⟨.fn g,n⟩ fun r=>∃ z:Nat,r=.ret (.lit (.int .u64 (z:Int))) ⟨.fn g,n⟩∧z < 18446744073709551616∧opSem M 6 a b (sOf ta) (sOf tb) (sOf z):=by
  refine WC.mono (WC.drop (K:=fun v=>∃ z:Nat,v=.lit (.int .u64 (z:Int))∧z < 18446744073709551616∧opSem M 6 a b (sOf ta) (sOf tb) (sOf z)) ?_) ?_
  rotate_left
  · rintro r ⟨v,rfl,z,rfl,h⟩
    exact ⟨z,rfl,h⟩
  obtain ⟨rv,nv,rfl,h1r,h1v⟩:=hr.one
  have h1a:allOne [.lit (.int .i64 M.inp),.lit (.int .i64 M.out),rv,nv,.lit (.int .u64 (all:Int))]=true:=by simp [h1r,h1v]
  have h1x:allOne [.lit (.int .u8 op),.lit (.int .i64 a),.lit (.int .i64 b),sv]=true:=by simp [h1s]
  have HR:=Hide.mk hr
  have HN:=Hide.mk hr.grn
  have HG:=Hide.mk hr.grn.ok
  have halt:=hr.grn.alt
  have hal:=fun t:Nat=>aheadN_lt nx t M.gr.n hr.grn.n64
  have HAL:=Hide.mk hal
  clear hr hal
  have hnd1:=ndN_lt (b:=ta) halt
  have hnd2:=ndN_lt (b:=tb) halt
  have hor:=orN_lt hta htb
  have hno:=ndN_lt (b:=orN ta tb) halt
  refine WC.enterP (noO_ok _ _) hG [] Tryd.func131 rfl (by decide +kernel) (Nat.le_of_ble_eq_true (by kernel_rfl)) ?_
  iterate 6 (all_goals try (first | with_reducible refine splitI (fun h=>?_) (fun h=>?_) | with_reducible refine splitBI (fun h=>?_) (fun h=>?_) | simp (config:={ maxSteps:=1000000 }) (disch:=first | assumption | omega | (simp; done) | fail) [Tryd.results131, *]))
  refine ⟨_,_,⟨rfl,rfl⟩,rfl,⟨?_,fun q hq=>?_⟩,_,rfl,?_,?_⟩
  · show n≤n+1+1
    omega
  · show gput _ _ _ _=_
    have hq' : q < n:=hq
    rw [gput_lt (by omega),gput_lt (by omega)]
    rfl
  · first | assumption | simp [*]
  · rw [sOf_or]; exact eqS.refl _ _
theorem sem7_w (op:Nat) (a b:Int) (sv:AV) (ta tb:Nat) (hta:ta < 18446744073709551616) (htb:tb < 18446744073709551616) (h1s:oneC sv=true) (g:Nat→Option Blk) (n:Nat) (cs:List AV) (hr:GOK g n M nx all cs) :
    WC 6 Tryd.prog 132 [.agg cs,.agg [.lit (.int .u8 op),.lit (.int .i64 a),.lit (.int .i64 b),sv],.lit (.int .u64 ta),.lit (.int .u64 tb)] ⟨.fn g,n⟩ fun r=>∃ z:Nat,r=.ret (.lit (.int .u64 (z:Int))) ⟨.fn g,n⟩∧z < 18446744073709551616∧opSem M 7 a b (sOf ta) (sOf tb) (sOf z):=by
  refine WC.mono (WC.drop (K:=fun v=>∃ z:Nat,v=.lit (.int .u64 (z:Int))∧z < 18446744073709551616∧opSem M 7 a b (sOf ta) (sOf tb) (sOf z)) ?_) ?_
  rotate_left
  · rintro r ⟨v,rfl,z,rfl,h⟩
    exact ⟨z,rfl,h⟩
  obtain ⟨rv,nv,rfl,h1r,h1v⟩:=hr.one
  have h1a:allOne [.lit (.int .i64 M.inp),.lit (.int .i64 M.out),rv,nv,.lit (.int .u64 (all:Int))]=true:=by simp [h1r,h1v]
  have h1x:allOne [.lit (.int .u8 op),.lit (.int .i64 a),.lit (.int .i64 b),sv]=true:=by simp [h1s]
  have HR:=Hide.mk hr
  have HN:=Hide.mk hr.grn
  have HG:=Hide.mk hr.grn.ok
  have halt:=hr.grn.alt
  have hal:=fun t:Nat=>aheadN_lt nx t M.gr.n hr.grn.n64
  have HAL:=Hide.mk hal
  clear hr hal
  have hnd1:=ndN_lt (b:=ta) halt
  have hnd2:=ndN_lt (b:=tb) halt
  have hor:=orN_lt hta htb
  have hno:=ndN_lt (b:=orN ta tb) halt
  refine WC.enterP (noO_ok _ _) hG [] Tryd.func132 rfl (by decide +kernel) (Nat.le_of_ble_eq_true (by kernel_rfl)) ?_
  iterate 6 (all_goals try (first | with_reducible refine splitI (fun h=>?_) (fun h=>?_) | with_reducible refine splitBI (fun h=>?_) (fun h=>?_) | simp (config:={ maxSteps:=1000000 }) (disch:=first | assumption | omega | (simp; done) | fail) [Tryd.results132, *]))
  refine WC.mono (aheadG_w ta hta _ _ _ (HR.out.mono (by omega) fun q hq=>(by simp (disch:=omega) only [gput_lt]))) ?_
  rintro _ rfl
  iterate 6 (all_goals try (first | with_reducible refine splitI (fun h=>?_) (fun h=>?_) | with_reducible refine splitBI (fun h=>?_) (fun h=>?_) | simp (config:={ maxSteps:=1000000 }) (disch:=first | assumption | omega | (simp; done) | fail) [Tryd.results132, *]))
  have hq:=HAL.out ta
  refine ⟨_,_,⟨rfl,rfl⟩,rfl,⟨?_,fun q hq=>?_⟩,_,rfl,?_,?_⟩
  · show n≤n+1+1
    omega
  · show gput _ _ _ _=_
    have hq' : q < n:=hq
    rw [gput_lt (by omega),gput_lt (by omega)]
    rfl
  · first | assumption | simp [*]
  · exact HN.out.ahead ta
theorem sem8_w (op:Nat) (a b:Int) (sv:AV) (ta tb:Nat) (hta:ta < 18446744073709551616) (htb:tb < 18446744073709551616) (h1s:oneC sv=true) (g:Nat→Option Blk) (n:Nat) (cs:List AV) (hr:GOK g n M nx all cs) :
    WC 6 Tryd.prog 133 [.agg cs,.agg [.lit (.int .u8 op),.lit (.int .i64 a),.lit (.int .i64 b),sv],.lit (.int .u64 ta),.lit (.int .u64 tb)] ⟨.fn g,n⟩ fun r=>∃ z:Nat,r=.ret (.lit (.int .u64 (z:Int))) ⟨.fn g,n⟩∧z < 18446744073709551616∧opSem M 8 a b (sOf ta) (sOf tb) (sOf z):=by
  refine WC.mono (WC.drop (K:=fun v=>∃ z:Nat,v=.lit (.int .u64 (z:Int))∧z < 18446744073709551616∧opSem M 8 a b (sOf ta) (sOf tb) (sOf z)) ?_) ?_
  rotate_left
  · rintro r ⟨v,rfl,z,rfl,h⟩
    exact ⟨z,rfl,h⟩
  obtain ⟨rv,nv,rfl,h1r,h1v⟩:=hr.one
  have h1a:allOne [.lit (.int .i64 M.inp),.lit (.int .i64 M.out),rv,nv,.lit (.int .u64 (all:Int))]=true:=by simp [h1r,h1v]
  have h1x:allOne [.lit (.int .u8 op),.lit (.int .i64 a),.lit (.int .i64 b),sv]=true:=by simp [h1s]
  have HR:=Hide.mk hr
  have HN:=Hide.mk hr.grn
  have HG:=Hide.mk hr.grn.ok
  have halt:=hr.grn.alt
  have hal:=fun t:Nat=>aheadN_lt nx t M.gr.n hr.grn.n64
  have HAL:=Hide.mk hal
  clear hr hal
  have hnd1:=ndN_lt (b:=ta) halt
  have hnd2:=ndN_lt (b:=tb) halt
  have hor:=orN_lt hta htb
  have hno:=ndN_lt (b:=orN ta tb) halt
  refine WC.enterP (noO_ok _ _) hG [] Tryd.func133 rfl (by decide +kernel) (Nat.le_of_ble_eq_true (by kernel_rfl)) ?_
  iterate 6 (all_goals try (first | with_reducible refine splitI (fun h=>?_) (fun h=>?_) | with_reducible refine splitBI (fun h=>?_) (fun h=>?_) | simp (config:={ maxSteps:=1000000 }) (disch:=first | assumption | omega | (simp; done) | fail) [Tryd.results133, *]))
  refine WC.mono (until_w all ta halt hta _ _ _ (HR.out.mono (by omega) fun q hq=>(by simp (disch:=omega) only [gput_lt]))) ?_
  rintro _ ⟨q,rfl,hq,HL⟩
  iterate 6 (all_goals try (first | with_reducible refine splitI (fun h=>?_) (fun h=>?_) | with_reducible refine splitBI (fun h=>?_) (fun h=>?_) | simp (config:={ maxSteps:=1000000 }) (disch:=first | assumption | omega | (simp; done) | fail) [Tryd.results133, *]))
  refine ⟨_,_,⟨rfl,rfl⟩,rfl,⟨?_,fun q hq=>?_⟩,_,rfl,?_,?_⟩
  · show n≤n+1+1
    omega
  · show gput _ _ _ _=_
    have hq' : q < n:=hq
    rw [gput_lt (by omega),gput_lt (by omega)]
    rfl
  · first | assumption | simp [*]
  · exact fE_cong HG.out HL HN.out.all_eq (eqS.refl _ _) (eqS.refl _ _)
theorem sem9_w (op:Nat) (a b:Int) (sv:AV) (ta tb:Nat) (hta:ta < 18446744073709551616) (htb:tb < 18446744073709551616) (h1s:oneC sv=true) (g:Nat→Option Blk) (n:Nat) (cs:List AV) (hr:GOK g n M nx all cs) :
    WC 6 Tryd.prog 135 [.agg cs,.agg [.lit (.int .u8 op),.lit (.int .i64 a),.lit (.int .i64 b),sv],.lit (.int .u64 ta),.lit (.int .u64 tb)] ⟨.fn g,n⟩ fun r=>∃ z:Nat,r=.ret (.lit (.int .u64 (z:Int))) ⟨.fn g,n⟩∧z < 18446744073709551616∧opSem M 9 a b (sOf ta) (sOf tb) (sOf z):=by
  refine WC.mono (WC.drop (K:=fun v=>∃ z:Nat,v=.lit (.int .u64 (z:Int))∧z < 18446744073709551616∧opSem M 9 a b (sOf ta) (sOf tb) (sOf z)) ?_) ?_
  rotate_left
  · rintro r ⟨v,rfl,z,rfl,h⟩
    exact ⟨z,rfl,h⟩
  obtain ⟨rv,nv,rfl,h1r,h1v⟩:=hr.one
  have h1a:allOne [.lit (.int .i64 M.inp),.lit (.int .i64 M.out),rv,nv,.lit (.int .u64 (all:Int))]=true:=by simp [h1r,h1v]
  have h1x:allOne [.lit (.int .u8 op),.lit (.int .i64 a),.lit (.int .i64 b),sv]=true:=by simp [h1s]
  have HR:=Hide.mk hr
  have HN:=Hide.mk hr.grn
  have HG:=Hide.mk hr.grn.ok
  have halt:=hr.grn.alt
  have hal:=fun t:Nat=>aheadN_lt nx t M.gr.n hr.grn.n64
  have HAL:=Hide.mk hal
  clear hr hal
  have hnd1:=ndN_lt (b:=ta) halt
  have hnd2:=ndN_lt (b:=tb) halt
  have hor:=orN_lt hta htb
  have hno:=ndN_lt (b:=orN ta tb) halt
  refine WC.enterP (noO_ok _ _) hG [] Tryd.func135 rfl (by decide +kernel) (Nat.le_of_ble_eq_true (by kernel_rfl)) ?_
  iterate 6 (all_goals try (first | with_reducible refine splitI (fun h=>?_) (fun h=>?_) | with_reducible refine splitBI (fun h=>?_) (fun h=>?_) | simp (config:={ maxSteps:=1000000 }) (disch:=first | assumption | omega | (simp; done) | fail) [Tryd.results135, *]))
  refine WC.mono (always_w ta hta _ _ _ (HR.out.mono (by omega) fun q hq=>(by simp (disch:=omega) only [gput_lt]))) ?_
  rintro _ ⟨q,rfl,hq,HL⟩
  iterate 6 (all_goals try (first | with_reducible refine splitI (fun h=>?_) (fun h=>?_) | with_reducible refine splitBI (fun h=>?_) (fun h=>?_) | simp (config:={ maxSteps:=1000000 }) (disch:=first | assumption | omega | (simp; done) | fail) [Tryd.results135, *]))
  refine ⟨_,_,⟨rfl,rfl⟩,rfl,⟨?_,fun q hq=>?_⟩,_,rfl,?_,?_⟩
  · show n≤n+1+1
    omega
  · show gput _ _ _ _=_
    have hq' : q < n:=hq
    rw [gput_lt (by omega),gput_lt (by omega)]
    rfl
  · first | assumption | simp [*]
  · exact HL
theorem sem10_w (op:Nat) (a b:Int) (sv:AV) (ta tb:Nat) (hta:ta < 18446744073709551616) (htb:tb < 18446744073709551616) (h1s:oneC sv=true) (g:Nat→Option Blk) (n:Nat) (cs:List AV) (hr:GOK g n M nx all cs) :
    WC 6 Tryd.prog 137 [.agg cs,.agg [.lit (.int .u8 op),.lit (.int .i64 a),.lit (.int .i64 b),sv],.lit (.int .u64 ta),.lit (.int .u64 tb)] ⟨.fn g,n⟩ fun r=>∃ z:Nat,r=.ret (.lit (.int .u64 (z:Int))) ⟨.fn g,n⟩∧z < 18446744073709551616∧opSem M 10 a b (sOf ta) (sOf tb) (sOf z):=by
  refine WC.mono (WC.drop (K:=fun v=>∃ z:Nat,v=.lit (.int .u64 (z:Int))∧z < 18446744073709551616∧opSem M 10 a b (sOf ta) (sOf tb) (sOf z)) ?_) ?_
  rotate_left
  · rintro r ⟨v,rfl,z,rfl,h⟩
    exact ⟨z,rfl,h⟩
  obtain ⟨rv,nv,rfl,h1r,h1v⟩:=hr.one
  have h1a:allOne [.lit (.int .i64 M.inp),.lit (.int .i64 M.out),rv,nv,.lit (.int .u64 (all:Int))]=true:=by simp [h1r,h1v]
  have h1x:allOne [.lit (.int .u8 op),.lit (.int .i64 a),.lit (.int .i64 b),sv]=true:=by simp [h1s]
  have HR:=Hide.mk hr
  have HN:=Hide.mk hr.grn
  have HG:=Hide.mk hr.grn.ok
  have halt:=hr.grn.alt
  have hal:=fun t:Nat=>aheadN_lt nx t M.gr.n hr.grn.n64
  have HAL:=Hide.mk hal
  clear hr hal
  have hnd1:=ndN_lt (b:=ta) halt
  have hnd2:=ndN_lt (b:=tb) halt
  have hor:=orN_lt hta htb
  have hno:=ndN_lt (b:=orN ta tb) halt
  refine WC.enterP (noO_ok _ _) hG [] Tryd.func137 rfl (by decide +kernel) (Nat.le_of_ble_eq_true (by kernel_rfl)) ?_
  iterate 6 (all_goals try (first | with_reducible refine splitI (fun h=>?_) (fun h=>?_) | with_reducible refine splitBI (fun h=>?_) (fun h=>?_) | simp (config:={ maxSteps:=1000000 }) (disch:=first | assumption | omega | (simp; done) | fail) [Tryd.results137, *]))
  refine WC.mono (until_w ta tb hta htb _ _ _ (HR.out.mono (by omega) fun q hq=>(by simp (disch:=omega) only [gput_lt]))) ?_
  rintro _ ⟨q,rfl,hq,HL⟩
  iterate 6 (all_goals try (first | with_reducible refine splitI (fun h=>?_) (fun h=>?_) | with_reducible refine splitBI (fun h=>?_) (fun h=>?_) | simp (config:={ maxSteps:=1000000 }) (disch:=first | assumption | omega | (simp; done) | fail) [Tryd.results137, *]))
  refine ⟨_,_,⟨rfl,rfl⟩,rfl,⟨?_,fun q hq=>?_⟩,_,rfl,?_,?_⟩
  · show n≤n+1+1
    omega
  · show gput _ _ _ _=_
    have hq' : q < n:=hq
    rw [gput_lt (by omega),gput_lt (by omega)]
    rfl
  · first | assumption | simp [*]
  · exact HL
theorem sem11_w (op:Nat) (a b:Int) (sv:AV) (ta tb:Nat) (hta:ta < 18446744073709551616) (htb:tb < 18446744073709551616) (h1s:oneC sv=true) (g:Nat→Option Blk) (n:Nat) (cs:List AV) (hr:GOK g n M nx all cs) :
    WC 6 Tryd.prog 138 [.agg cs,.agg [.lit (.int .u8 op),.lit (.int .i64 a),.lit (.int .i64 b),sv],.lit (.int .u64 ta),.lit (.int .u64 tb)] ⟨.fn g,n⟩ fun r=>∃ z:Nat,r=.ret (.lit (.int .u64 (z:Int))) ⟨.fn g,n⟩∧z < 18446744073709551616∧opSem M 11 a b (sOf ta) (sOf tb) (sOf z):=by
  refine WC.mono (WC.drop (K:=fun v=>∃ z:Nat,v=.lit (.int .u64 (z:Int))∧z < 18446744073709551616∧opSem M 11 a b (sOf ta) (sOf tb) (sOf z)) ?_) ?_
  rotate_left
  · rintro r ⟨v,rfl,z,rfl,h⟩
    exact ⟨z,rfl,h⟩
  obtain ⟨rv,nv,rfl,h1r,h1v⟩:=hr.one
  have h1a:allOne [.lit (.int .i64 M.inp),.lit (.int .i64 M.out),rv,nv,.lit (.int .u64 (all:Int))]=true:=by simp [h1r,h1v]
  have h1x:allOne [.lit (.int .u8 op),.lit (.int .i64 a),.lit (.int .i64 b),sv]=true:=by simp [h1s]
  have HR:=Hide.mk hr
  have HN:=Hide.mk hr.grn
  have HG:=Hide.mk hr.grn.ok
  have halt:=hr.grn.alt
  have hal:=fun t:Nat=>aheadN_lt nx t M.gr.n hr.grn.n64
  have HAL:=Hide.mk hal
  clear hr hal
  have hnd1:=ndN_lt (b:=ta) halt
  have hnd2:=ndN_lt (b:=tb) halt
  have hor:=orN_lt hta htb
  have hno:=ndN_lt (b:=orN ta tb) halt
  refine WC.enterP (noO_ok _ _) hG pl138 Tryd.func138 rfl (by decide +kernel) (Nat.le_of_ble_eq_true (by kernel_rfl)) ?_
  iterate 6 (all_goals try (first | with_reducible refine splitI (fun h=>?_) (fun h=>?_) | with_reducible refine splitBI (fun h=>?_) (fun h=>?_) | simp (config:={ maxSteps:=1000000 }) (disch:=first | assumption | omega | (simp; done) | fail) [Tryd.results138, *]))
  have hnd:=ndN_lt (b:=ta) halt
  refine WC.mono (aheadG_w (ndN all ta) hnd _ _ _ (HR.out.mono (by omega) fun q hq=>(by simp (disch:=omega) only [gput_lt]))) ?_
  rintro _ rfl
  have hq:=HAL.out (ndN all ta)
  have hz:=ndN_lt (b:=aheadN nx (ndN all ta) M.gr.n) halt
  iterate 6 (all_goals try (first | with_reducible refine splitI (fun h=>?_) (fun h=>?_) | with_reducible refine splitBI (fun h=>?_) (fun h=>?_) | simp (config:={ maxSteps:=1000000 }) (disch:=first | assumption | omega | (simp; done) | fail) [Tryd.results138, *]))
  refine ⟨_,_,⟨rfl,rfl⟩,rfl,⟨?_,fun q hq=>?_⟩,_,rfl,?_,?_⟩
  · show n≤n+1+1
    omega
  · show gput _ _ _ _=_
    have hq' : q < n:=hq
    rw [gput_lt (by omega),gput_lt (by omega)]
    rfl
  · first | assumption | simp [*]
  · intro s hs
    rw [HN.out.nd hq s hs]
    unfold notS
    rw [HN.out.ahead (ndN all ta) s hs,pre_eq HG.out (HN.out.nd hta) s hs,not_pre]
    simp
theorem sem12_w (op:Nat) (a b:Int) (sv:AV) (ta tb:Nat) (hta:ta < 18446744073709551616) (htb:tb < 18446744073709551616) (h1s:oneC sv=true) (g:Nat→Option Blk) (n:Nat) (cs:List AV) (hr:GOK g n M nx all cs) :
    WC 6 Tryd.prog 139 [.agg cs,.agg [.lit (.int .u8 op),.lit (.int .i64 a),.lit (.int .i64 b),sv],.lit (.int .u64 ta),.lit (.int .u64 tb)] ⟨.fn g,n⟩ fun r=>∃ z:Nat,r=.ret (.lit (.int .u64 (z:Int))) ⟨.fn g,n⟩∧z < 18446744073709551616∧opSem M 12 a b (sOf ta) (sOf tb) (sOf z):=by
  refine WC.mono (WC.drop (K:=fun v=>∃ z:Nat,v=.lit (.int .u64 (z:Int))∧z < 18446744073709551616∧opSem M 12 a b (sOf ta) (sOf tb) (sOf z)) ?_) ?_
  rotate_left
  · rintro r ⟨v,rfl,z,rfl,h⟩
    exact ⟨z,rfl,h⟩
  obtain ⟨rv,nv,rfl,h1r,h1v⟩:=hr.one
  have h1a:allOne [.lit (.int .i64 M.inp),.lit (.int .i64 M.out),rv,nv,.lit (.int .u64 (all:Int))]=true:=by simp [h1r,h1v]
  have h1x:allOne [.lit (.int .u8 op),.lit (.int .i64 a),.lit (.int .i64 b),sv]=true:=by simp [h1s]
  have HR:=Hide.mk hr
  have HN:=Hide.mk hr.grn
  have HG:=Hide.mk hr.grn.ok
  have halt:=hr.grn.alt
  have hal:=fun t:Nat=>aheadN_lt nx t M.gr.n hr.grn.n64
  have HAL:=Hide.mk hal
  clear hr hal
  have hnd1:=ndN_lt (b:=ta) halt
  have hnd2:=ndN_lt (b:=tb) halt
  have hor:=orN_lt hta htb
  have hno:=ndN_lt (b:=orN ta tb) halt
  refine WC.enterP (noO_ok _ _) hG pl139 Tryd.func139 rfl (by decide +kernel) (Nat.le_of_ble_eq_true (by kernel_rfl)) ?_
  iterate 6 (all_goals try (first | with_reducible refine splitI (fun h=>?_) (fun h=>?_) | with_reducible refine splitBI (fun h=>?_) (fun h=>?_) | simp (config:={ maxSteps:=1000000 }) (disch:=first | assumption | omega | (simp; done) | fail) [Tryd.results139, *]))
  have hnd:=ndN_lt (b:=ta) halt
  refine WC.mono (always_w (ndN all ta) hnd _ _ _ (HR.out.mono (by omega) fun q hq=>(by simp (disch:=omega) only [gput_lt]))) ?_
  rintro _ ⟨q,rfl,hq,HL⟩
  have hz:=ndN_lt (b:=q) halt
  iterate 6 (all_goals try (first | with_reducible refine splitI (fun h=>?_) (fun h=>?_) | with_reducible refine splitBI (fun h=>?_) (fun h=>?_) | simp (config:={ maxSteps:=1000000 }) (disch:=first | assumption | omega | (simp; done) | fail) [Tryd.results139, *]))
  refine ⟨_,_,⟨rfl,rfl⟩,rfl,⟨?_,fun q hq=>?_⟩,_,rfl,?_,?_⟩
  · show n≤n+1+1
    omega
  · show gput _ _ _ _=_
    have hq' : q < n:=hq
    rw [gput_lt (by omega),gput_lt (by omega)]
    rfl
  · first | assumption | simp [*]
  · exact fA_cong HG.out HL (eqS.refl _ _) (HN.out.ndnd hta) (HN.out.nd hq).symm
theorem sem13_w (op:Nat) (a b:Int) (sv:AV) (ta tb:Nat) (hta:ta < 18446744073709551616) (htb:tb < 18446744073709551616) (h1s:oneC sv=true) (g:Nat→Option Blk) (n:Nat) (cs:List AV) (hr:GOK g n M nx all cs) :
    WC 6 Tryd.prog 140 [.agg cs,.agg [.lit (.int .u8 op),.lit (.int .i64 a),.lit (.int .i64 b),sv],.lit (.int .u64 ta),.lit (.int .u64 tb)] ⟨.fn g,n⟩ fun r=>∃ z:Nat,r=.ret (.lit (.int .u64 (z:Int))) ⟨.fn g,n⟩∧z < 18446744073709551616∧opSem M 13 a b (sOf ta) (sOf tb) (sOf z):=by
  refine WC.mono (WC.drop (K:=fun v=>∃ z:Nat,v=.lit (.int .u64 (z:Int))∧z < 18446744073709551616∧opSem M 13 a b (sOf ta) (sOf tb) (sOf z)) ?_) ?_
  rotate_left
  · rintro r ⟨v,rfl,z,rfl,h⟩
    exact ⟨z,rfl,h⟩
  obtain ⟨rv,nv,rfl,h1r,h1v⟩:=hr.one
  have h1a:allOne [.lit (.int .i64 M.inp),.lit (.int .i64 M.out),rv,nv,.lit (.int .u64 (all:Int))]=true:=by simp [h1r,h1v]
  have h1x:allOne [.lit (.int .u8 op),.lit (.int .i64 a),.lit (.int .i64 b),sv]=true:=by simp [h1s]
  have HR:=Hide.mk hr
  have HN:=Hide.mk hr.grn
  have HG:=Hide.mk hr.grn.ok
  have halt:=hr.grn.alt
  have hal:=fun t:Nat=>aheadN_lt nx t M.gr.n hr.grn.n64
  have HAL:=Hide.mk hal
  clear hr hal
  have hnd1:=ndN_lt (b:=ta) halt
  have hnd2:=ndN_lt (b:=tb) halt
  have hor:=orN_lt hta htb
  have hno:=ndN_lt (b:=orN ta tb) halt
  refine WC.enterP (noO_ok _ _) hG pl140 Tryd.func140 rfl (by decide +kernel) (Nat.le_of_ble_eq_true (by kernel_rfl)) ?_
  iterate 6 (all_goals try (first | with_reducible refine splitI (fun h=>?_) (fun h=>?_) | with_reducible refine splitBI (fun h=>?_) (fun h=>?_) | simp (config:={ maxSteps:=1000000 }) (disch:=first | assumption | omega | (simp; done) | fail) [Tryd.results140, *]))
  have hnd:=ndN_lt (b:=ta) halt
  refine WC.mono (until_w all (ndN all ta) halt hnd _ _ _ (HR.out.mono (by omega) fun q hq=>(by simp (disch:=omega) only [gput_lt]))) ?_
  rintro _ ⟨q,rfl,hq,HL⟩
  have hz:=ndN_lt (b:=q) halt
  iterate 6 (all_goals try (first | with_reducible refine splitI (fun h=>?_) (fun h=>?_) | with_reducible refine splitBI (fun h=>?_) (fun h=>?_) | simp (config:={ maxSteps:=1000000 }) (disch:=first | assumption | omega | (simp; done) | fail) [Tryd.results140, *]))
  refine ⟨_,_,⟨rfl,rfl⟩,rfl,⟨?_,fun q hq=>?_⟩,_,rfl,?_,?_⟩
  · show n≤n+1+1
    omega
  · show gput _ _ _ _=_
    have hq' : q < n:=hq
    rw [gput_lt (by omega),gput_lt (by omega)]
    rfl
  · first | assumption | simp [*]
  · exact fE_cong HG.out HL HN.out.all_eq (HN.out.nd hta) (HN.out.ndnd hq).symm
theorem sem14_w (op:Nat) (a b:Int) (sv:AV) (ta tb:Nat) (hta:ta < 18446744073709551616) (htb:tb < 18446744073709551616) (h1s:oneC sv=true) (g:Nat→Option Blk) (n:Nat) (cs:List AV) (hr:GOK g n M nx all cs) :
    WC 6 Tryd.prog 141 [.agg cs,.agg [.lit (.int .u8 op),.lit (.int .i64 a),.lit (.int .i64 b),sv],.lit (.int .u64 ta),.lit (.int .u64 tb)] ⟨.fn g,n⟩ fun r=>∃ z:Nat,r=.ret (.lit (.int .u64 (z:Int))) ⟨.fn g,n⟩∧z < 18446744073709551616∧opSem M 14 a b (sOf ta) (sOf tb) (sOf z):=by
  refine WC.mono (WC.drop (K:=fun v=>∃ z:Nat,v=.lit (.int .u64 (z:Int))∧z < 18446744073709551616∧opSem M 14 a b (sOf ta) (sOf tb) (sOf z)) ?_) ?_
  rotate_left
  · rintro r ⟨v,rfl,z,rfl,h⟩
    exact ⟨z,rfl,h⟩
  obtain ⟨rv,nv,rfl,h1r,h1v⟩:=hr.one
  have h1a:allOne [.lit (.int .i64 M.inp),.lit (.int .i64 M.out),rv,nv,.lit (.int .u64 (all:Int))]=true:=by simp [h1r,h1v]
  have h1x:allOne [.lit (.int .u8 op),.lit (.int .i64 a),.lit (.int .i64 b),sv]=true:=by simp [h1s]
  have HR:=Hide.mk hr
  have HN:=Hide.mk hr.grn
  have HG:=Hide.mk hr.grn.ok
  have halt:=hr.grn.alt
  have hal:=fun t:Nat=>aheadN_lt nx t M.gr.n hr.grn.n64
  have HAL:=Hide.mk hal
  clear hr hal
  have hnd1:=ndN_lt (b:=ta) halt
  have hnd2:=ndN_lt (b:=tb) halt
  have hor:=orN_lt hta htb
  have hno:=ndN_lt (b:=orN ta tb) halt
  refine WC.enterP (noO_ok _ _) hG pl141 Tryd.func141 rfl (by decide +kernel) (Nat.le_of_ble_eq_true (by kernel_rfl)) ?_
  iterate 6 (all_goals try (first | with_reducible refine splitI (fun h=>?_) (fun h=>?_) | with_reducible refine splitBI (fun h=>?_) (fun h=>?_) | simp (config:={ maxSteps:=1000000 }) (disch:=first | assumption | omega | (simp; done) | fail) [Tryd.results141, *]))
  have hnd:=ndN_lt (b:=tb) halt
  have hor:=orN_lt hta htb
  have hno:=ndN_lt (b:=orN ta tb) halt
  refine WC.mono (always_w (ndN all tb) hnd _ _ _ (HR.out.mono (by omega) fun q hq=>(by simp (disch:=omega) only [gput_lt]))) ?_
  rintro _ ⟨p,rfl,hp,ha0⟩
  have HA:=Hide.mk ha0
  clear ha0
  iterate 6 (all_goals try (first | with_reducible refine splitI (fun h=>?_) (fun h=>?_) | with_reducible refine splitBI (fun h=>?_) (fun h=>?_) | simp (config:={ maxSteps:=1000000 }) (disch:=first | assumption | omega | (simp; done) | fail) [Tryd.results141, *]))
  refine WC.mono (until_w (ndN all tb) (ndN all (orN ta tb)) hnd hno _ _ _ (HR.out.mono (by omega) fun q hq=>(by simp (disch:=omega) only [gput_lt]))) ?_
  rintro _ ⟨q,rfl,hq,he0⟩
  have HE:=Hide.mk he0
  clear he0
  have hpq:=orN_lt hp hq
  have hz:=ndN_lt (b:=orN p q) halt
  iterate 6 (all_goals try (first | with_reducible refine splitI (fun h=>?_) (fun h=>?_) | with_reducible refine splitBI (fun h=>?_) (fun h=>?_) | simp (config:={ maxSteps:=1000000 }) (disch:=first | assumption | omega | (simp; done) | fail) [Tryd.results141, *]))
  refine ⟨_,_,⟨rfl,rfl⟩,rfl,⟨?_,fun q hq=>?_⟩,_,rfl,?_,?_⟩
  · show n≤n+1+1
    omega
  · show gput _ _ _ _=_
    have hq' : q < n:=hq
    rw [gput_lt (by omega),gput_lt (by omega)]
    rfl
  · first | assumption | simp [*]
  · have hL:=iter_lfp (n:=M.gr.n) (F:=M.gr.fA (sOf ta) (sOf tb)) (fun X Y=>M.gr.fA_mono HG.out _ _)
    have hA:=fA_cong HG.out HA.out (eqS.refl _ _) (HN.out.ndnd htb) (eqS.refl _ _)
    have hE:=fE_cong HG.out HE.out (HN.out.nd htb) (HN.out.nd hor) (eqS.refl _ _)
    rw [sOf_or] at hE
    have h1:=until_all HG.out hL hA hE
    refine fA_cong HG.out hL (eqS.refl _ _) (eqS.refl _ _) fun s hs=>?_
    rw [h1 s hs,HN.out.nd hpq s hs,sOf_or]
    show (!sOf p s && !sOf q s) = !(sOf p s || sOf q s)
    cases sOf p s <;> cases sOf q s <;> rfl
theorem sem2_w (hMr:∀ r∈M.rows,(r.length:Int)=M.inp) (hMe:∀ s i:Nat,s < M.gr.n→(i:Int) < M.inp → -1≤(M.edge s i).1) (i:Nat) (hi:(i:Int) < M.inp) (op:Nat) (b:Int) (sv:AV) (ta tb:Nat) (hta:ta < 18446744073709551616) (htb:tb < 18446744073709551616) (h1s:oneC sv=true) (g:Nat→Option Blk) (n:Nat) (cs:List AV) (hr:GOK g n M nx all cs) :
    WC 6 Tryd.prog 124 [.agg cs,.agg [.lit (.int .u8 op),.lit (.int .i64 i),.lit (.int .i64 b),sv],.lit (.int .u64 ta),.lit (.int .u64 tb)] ⟨.fn g,n⟩ fun r=>∃ z:Nat,r=.ret (.lit (.int .u64 (z:Int))) ⟨.fn g,n⟩∧z < 18446744073709551616∧opSem M 2 i b (sOf ta) (sOf tb) (sOf z):=by
  refine WC.mono (WC.drop (K:=fun v=>∃ z:Nat,v=.lit (.int .u64 (z:Int))∧z < 18446744073709551616∧opSem M 2 i b (sOf ta) (sOf tb) (sOf z)) ?_) ?_
  rotate_left
  · rintro r ⟨v,rfl,z,rfl,h⟩
    exact ⟨z,rfl,h⟩
  obtain ⟨rv,nv,rfl,h1r,h1v⟩:=hr.one
  have h1a:allOne [.lit (.int .i64 M.inp),.lit (.int .i64 M.out),rv,nv,.lit (.int .u64 (all:Int))]=true:=by simp [h1r,h1v]
  have h1x:allOne [.lit (.int .u8 op),.lit (.int .i64 i),.lit (.int .i64 b),sv]=true:=by simp [h1s]
  have HR:=Hide.mk hr
  have HN:=Hide.mk hr.grn
  have HG:=Hide.mk hr.grn.ok
  have halt:=hr.grn.alt
  have hal:=fun t:Nat=>aheadN_lt nx t M.gr.n hr.grn.n64
  have HAL:=Hide.mk hal
  clear hr hal
  have hnd1:=ndN_lt (b:=ta) halt
  have hnd2:=ndN_lt (b:=tb) halt
  have hor:=orN_lt hta htb
  have hno:=ndN_lt (b:=orN ta tb) halt
  refine WC.enterP (noO_ok _ _) hG [] Tryd.func124 rfl (by decide +kernel) (Nat.le_of_ble_eq_true (by kernel_rfl)) ?_
  iterate 6 (all_goals try (first | with_reducible refine splitI (fun h=>?_) (fun h=>?_) | with_reducible refine splitBI (fun h=>?_) (fun h=>?_) | simp (config:={ maxSteps:=1000000 }) (disch:=first | assumption | omega | (simp; done) | fail) [Tryd.results124, *]))
  refine WC.mono (edges_can hMr i hi _ _ _ (HR.out.mono (by omega) fun q hq=>(by simp (disch:=omega) only [gput_lt]))) ?_
  rintro _ rfl
  have hq:=edgesN_lt (fun s=>!decide ((M.edge s i).1 = -1)) M.gr.n HN.out.n64
  iterate 6 (all_goals try (first | with_reducible refine splitI (fun h=>?_) (fun h=>?_) | with_reducible refine splitBI (fun h=>?_) (fun h=>?_) | simp (config:={ maxSteps:=1000000 }) (disch:=first | assumption | omega | (simp; done) | fail) [Tryd.results124, *]))
  refine ⟨_,_,⟨rfl,rfl⟩,rfl,⟨?_,fun q hq=>?_⟩,_,rfl,?_,?_⟩
  · show n≤n+1+1
    omega
  · show gput _ _ _ _=_
    have hq' : q < n:=hq
    rw [gput_lt (by omega),gput_lt (by omega)]
    rfl
  · first | assumption | simp [*]
  · intro s hs
    rw [edgesN_eq _ _ s hs]
    have h1:=hMe s i hs hi
    show (!decide ((M.edge s i).1 = -1))=decide (0≤(M.edge s ((i:Nat) : Int).toNat).1)
    rw [Int.toNat_natCast]
    by_cases h2:(M.edge s i).1 = -1
    · rw [h2]; decide
    · rw [decide_eq_false h2,decide_eq_true (by omega)]; rfl
theorem sem3_w (hMr:∀ r∈M.rows,(r.length:Int)=M.inp) (hMe:∀ s i:Nat,s < M.gr.n→(i:Int) < M.inp → -1≤(M.edge s i).1) (i:Nat) (hi:(i:Int) < M.inp) (op:Nat) (b:Int) (sv:AV) (ta tb:Nat) (hta:ta < 18446744073709551616) (htb:tb < 18446744073709551616) (h1s:oneC sv=true) (g:Nat→Option Blk) (n:Nat) (cs:List AV) (hr:GOK g n M nx all cs) :
    WC 6 Tryd.prog 127 [.agg cs,.agg [.lit (.int .u8 op),.lit (.int .i64 i),.lit (.int .i64 b),sv],.lit (.int .u64 ta),.lit (.int .u64 tb)] ⟨.fn g,n⟩ fun r=>∃ z:Nat,r=.ret (.lit (.int .u64 (z:Int))) ⟨.fn g,n⟩∧z < 18446744073709551616∧opSem M 3 i b (sOf ta) (sOf tb) (sOf z):=by
  refine WC.mono (WC.drop (K:=fun v=>∃ z:Nat,v=.lit (.int .u64 (z:Int))∧z < 18446744073709551616∧opSem M 3 i b (sOf ta) (sOf tb) (sOf z)) ?_) ?_
  rotate_left
  · rintro r ⟨v,rfl,z,rfl,h⟩
    exact ⟨z,rfl,h⟩
  obtain ⟨rv,nv,rfl,h1r,h1v⟩:=hr.one
  have h1a:allOne [.lit (.int .i64 M.inp),.lit (.int .i64 M.out),rv,nv,.lit (.int .u64 (all:Int))]=true:=by simp [h1r,h1v]
  have h1x:allOne [.lit (.int .u8 op),.lit (.int .i64 i),.lit (.int .i64 b),sv]=true:=by simp [h1s]
  have HR:=Hide.mk hr
  have HN:=Hide.mk hr.grn
  have HG:=Hide.mk hr.grn.ok
  have halt:=hr.grn.alt
  have hal:=fun t:Nat=>aheadN_lt nx t M.gr.n hr.grn.n64
  have HAL:=Hide.mk hal
  clear hr hal
  have hnd1:=ndN_lt (b:=ta) halt
  have hnd2:=ndN_lt (b:=tb) halt
  have hor:=orN_lt hta htb
  have hno:=ndN_lt (b:=orN ta tb) halt
  refine WC.enterP (noO_ok _ _) hG [] Tryd.func127 rfl (by decide +kernel) (Nat.le_of_ble_eq_true (by kernel_rfl)) ?_
  iterate 6 (all_goals try (first | with_reducible refine splitI (fun h=>?_) (fun h=>?_) | with_reducible refine splitBI (fun h=>?_) (fun h=>?_) | simp (config:={ maxSteps:=1000000 }) (disch:=first | assumption | omega | (simp; done) | fail) [Tryd.results127, *]))
  refine WC.mono (edges_gives hMr i hi (n+1) op i b sv _ _ _ (HR.out.mono (by omega) fun q hq=>(by simp (disch:=omega) only [gput_lt])) (by simp) (by omega)) ?_
  rintro _ rfl
  have hq:=edgesN_lt (fun s=>!decide ((M.edge s i).1 = -1) && decide ((M.edge s i).2=b)) M.gr.n HN.out.n64
  iterate 6 (all_goals try (first | with_reducible refine splitI (fun h=>?_) (fun h=>?_) | with_reducible refine splitBI (fun h=>?_) (fun h=>?_) | simp (config:={ maxSteps:=1000000 }) (disch:=first | assumption | omega | (simp; done) | fail) [Tryd.results127, *]))
  refine ⟨_,_,⟨rfl,rfl⟩,rfl,⟨?_,fun q hq=>?_⟩,_,rfl,?_,?_⟩
  · show n≤n+1+1
    omega
  · show gput _ _ _ _=_
    have hq' : q < n:=hq
    rw [gput_lt (by omega),gput_lt (by omega)]
    rfl
  · first | assumption | simp [*]
  · intro s hs
    rw [edgesN_eq _ _ s hs]
    have h1:=hMe s i hs hi
    show (!decide ((M.edge s i).1 = -1) && decide ((M.edge s i).2=b))=(decide (0≤(M.edge s ((i:Nat) : Int).toNat).1) && decide ((M.edge s ((i:Nat) : Int).toNat).2=b))
    rw [Int.toNat_natCast]
    by_cases h2:(M.edge s i).1 = -1
    · rw [h2]; rfl
    · rw [decide_eq_false h2,decide_eq_true (show 0≤(M.edge s i).1 by omega)]; rfl
end Go.Ai
end
section
namespace Go.Ai
open Go.Proofs
set_option maxRecDepth 10000
set_option maxHeartbeats 40000000
def SatW (M:MachM) (nx:List Nat) (all:Nat) (m:Nat) : Prop:=∀ (x:NodeM),sizeN x≤m→validM M.rows.length M.inp M.out x=true→∀ (g:Nat→Option Blk) (n:Nat) (cs xs:List AV),g 0=some opsB→0 < n→GOK g n M nx all cs→repN g n x xs →
  WC 6 Tryd.prog 31 [.agg cs,.agg xs] ⟨.fn g,n⟩ fun r=>∃ z:Nat,r=.ret (.lit (.int .u64 (z:Int))) ⟨.fn g,n⟩∧z < 18446744073709551616∧semN M x (sOf z)
theorem ops_fn0:loadB (some (false,1)) (some opsB) 3=some (.lit (.func (.func 122) #[] #[])):=rfl
theorem ops_fn1:loadB (some (false,1)) (some opsB) 7=some (.lit (.func (.func 123) #[] #[])):=rfl
theorem ops_fn2:loadB (some (false,1)) (some opsB) 11=some (.lit (.func (.func 124) #[] #[])):=rfl
theorem ops_fn3:loadB (some (false,1)) (some opsB) 15=some (.lit (.func (.func 127) #[] #[])):=rfl
theorem ops_fn4:loadB (some (false,1)) (some opsB) 19=some (.lit (.func (.func 129) #[] #[])):=rfl
theorem ops_fn5:loadB (some (false,1)) (some opsB) 23=some (.lit (.func (.func 130) #[] #[])):=rfl
theorem ops_fn6:loadB (some (false,1)) (some opsB) 27=some (.lit (.func (.func 131) #[] #[])):=rfl
theorem ops_fn7:loadB (some (false,1)) (some opsB) 31=some (.lit (.func (.func 132) #[] #[])):=rfl
theorem ops_fn8:loadB (some (false,1)) (some opsB) 35=some (.lit (.func (.func 133) #[] #[])):=rfl
theorem ops_fn9:loadB (some (false,1)) (some opsB) 39=some (.lit (.func (.func 135) #[] #[])):=rfl
theorem ops_fn10:loadB (some (false,1)) (some opsB) 43=some (.lit (.func (.func 137) #[] #[])):=rfl
theorem ops_fn11:loadB (some (false,1)) (some opsB) 47=some (.lit (.func (.func 138) #[] #[])):=rfl
theorem ops_fn12:loadB (some (false,1)) (some opsB) 51=some (.lit (.func (.func 139) #[] #[])):=rfl
theorem ops_fn13:loadB (some (false,1)) (some opsB) 55=some (.lit (.func (.func 140) #[] #[])):=rfl
theorem ops_fn14:loadB (some (false,1)) (some opsB) 59=some (.lit (.func (.func 141) #[] #[])):=rfl
theorem sat_w {M:MachM} (hM:M.ok) {nx:List Nat} {all:Nat} : ∀ (m:Nat),SatW M nx all m:=by
  intro m
  induction m with
  | zero=>intro x hx; cases x; unfold sizeN at hx; omega
  | succ m ihm =>
    intro x hx hv g n cs xs hops hn hr hx0
    refine WC.mono (WC.drop (K:=fun v=>∃ z:Nat,v=.lit (.int .u64 (z:Int))∧z < 18446744073709551616∧semN M x (sOf z)) ?_) ?_
    rotate_left
    · rintro r ⟨v,rfl,z,rfl,h⟩
      exact ⟨z,rfl,h⟩
    have IH:=Hide.mk ihm
    clear ihm
    have HMR:=Hide.mk (ok_row hM)
    have HME:=Hide.mk (ok_edge1 hM)
    obtain ⟨rv,nv,rfl,h1r,h1v⟩:=hr.one
    have h1a:allOne [.lit (.int .i64 M.inp),.lit (.int .i64 M.out),rv,nv,.lit (.int .u64 (all:Int))]=true:=by simp [h1r,h1v]
    cases x with
    | mk op a b subs =>
    have hrep:=hx0
    obtain ⟨hop,sv,rfl,hsv⟩:=hx0
    have h1s:oneC sv=true:=by
      obtain ⟨_,_,_,e1,e2,_⟩:=repN_one hrep
      cases e1; exact e2
    have h1x:allOne [.lit (.int .u8 op),.lit (.int .i64 a),.lit (.int .i64 b),sv]=true:=by simp [h1s]
    unfold validM at hv
    simp only [Bool.and_eq_true,decide_eq_true_eq] at hv
    obtain ⟨v1,v2,v3,v4,v5,v6,v7⟩:=hv
    have hsz:sizeL subs≤m:=by unfold sizeN at hx; omega
    have hsub2:subs.length≤2:=by rw [v2]; unfold subsM; split <;> (try split) <;> omega
    have HV7:=Hide.mk v7
    have HV2:=Hide.mk v2
    have HV5:=Hide.mk v5
    have HSV:Hide ((subs=[]∧(sv=.lit (.slice none 0 0)∨sv=.es))∨∃ a off r,a < n∧((∃ c,sv=.sl a off subs.length c)∨(∃ c,sv=.slq a off subs.length c))∧Row g a off r∧repL g n subs r):=⟨hsv⟩
    have hlen:∀ {H:Mem} {e' : Ev} {o:Oper} {c' : Call} {e:TypeId},lenS Tryd.prog H e' o c' (some (.slice e)) (some [sv])=.val (.lit (.int .i64 subs.length)) H:=by
      intro H e' o c' e
      rcases HSV.out with ⟨h1,rfl | rfl⟩ | ⟨a2,off,r,_,⟨c2,rfl⟩ | ⟨c2,rfl⟩,_⟩
      · rw [h1]; rfl
      · rw [h1]; rfl
      · rfl
      · rfl
    have HR:=Hide.mk hr
    clear hr hsv hrep v2 v5 v7 hx
    refine WC.enterP (noO_ok _ _) hG pl31 Tryd.func31 rfl (by decide +kernel) (Nat.le_of_ble_eq_true (by kernel_rfl)) ?_
    iterate 6 (all_goals try (first | with_reducible refine splitI (fun h=>?_) (fun h=>?_) | with_reducible refine splitBI (fun h=>?_) (fun h=>?_) | simp (config:={ maxSteps:=1000000 }) (disch:=first | assumption | omega | (simp; done) | fail) [Tryd.results31, *]))
    refine LX.ind (fun m' gf H'=>∃ (k n' : Nat) (g' : Nat→Option Blk) (t0 t1:Nat),k≤subs.length∧m'=subs.length - k∧H'=⟨.fn g',n'⟩∧n+1+1+1≤n'∧(∀ q,q < n→g' q=g q) ∧
      g' n=some (.cells [.lit (.int .i64 M.inp),.lit (.int .i64 M.out),rv,nv,.lit (.int .u64 (all:Int))] true 0)∧g' (n+1)=some (.cells [.lit (.int .u8 op),.lit (.int .i64 a),.lit (.int .i64 b),sv] true 0) ∧
      g' (n+1+1)=some (.cells [.lit (.int .u64 (t0:Int)),.lit (.int .u64 (t1:Int))] true 0)∧t0 < 18446744073709551616∧t1 < 18446744073709551616 ∧
      (k=0→t0=0)∧(k≤1→t1=0)∧(∀ y,subs[0]?=some y→0 < k→semN M y (sOf t0))∧(∀ y,subs[1]?=some y→1 < k→semN M y (sOf t1)) ∧
      gf 2=some (.ptr n 0)∧gf 3=some (.ptr (n+1) 0)∧gf 5=some (.ptr (n+1+1) 0)∧gf 9=some sv∧gf 10=some (.lit (.int .i64 subs.length))∧gf 11=some (.lit (.int .i64 k))) (m0:=subs.length) ?_ ?_
    · refine ⟨0,_,_,0,0,Nat.zero_le _,rfl,rfl,Nat.le_refl _,fun q hq=>?_,?_,?_,?_,by omega,by omega,fun _=>rfl,fun _=>rfl,fun _ _ h=>absurd h (by omega),fun _ _ h=>absurd h (by omega),by simp,by simp,by simp,by simp,by simp,by simp⟩
      · simp (disch:=omega) only [gput_lt]
      · simp (disch:=omega) only [gput_lt,gput_eq]
      · simp (disch:=omega) only [gput_lt,gput_eq]
      · simp (disch:=omega) only [gput_eq]
        try rfl
    rintro m' gf H' ⟨k,n',g',t0,t1,hk,rfl,rfl,hn',hg',e0,e1,e2,ht0,ht1,hz0,hz1,hs0,hs1,w2,w3,w5,w9,w10,w11⟩ ih
    have HG:=Hide.mk hg'
    have HZ:=Hide.mk (And.intro hz0 (And.intro hz1 (And.intro hs0 hs1)))
    clear hg' hz0 hz1 hs0 hs1
    refine LX.roundP (noO_ok _ _) hG pl31 (by decide +kernel) ?_
    by_cases hlt:k < subs.length
    · have hltI:(k:Int) < (subs.length:Int):=by omega
      rcases HSV.out with ⟨h1,_⟩ | ⟨a2,off,r,ha2,hev,hrow,hrl⟩
      · rw [h1] at hlt; simp at hlt
      have hy0:=repL_at hrl k hlt
      have hll:=repL_len hrl
      have hcell:=(hrow.mono (HG.out a2 ha2)).agg (k:=k * 4) (s:=4) (by omega)
      have hys:subs[k]?=some subs[k]:=List.getElem?_eq_getElem hlt
      have hyv:=validL_mem HV7.out _ (List.getElem_mem hlt)
      have hyz:sizeN subs[k]≤m:=Nat.le_trans (size_mem (List.getElem_mem hlt)) hsz
      generalize subs[k]=y at hy0 hys hyv hyz
      obtain ⟨k2,k3,sv2,hcy,h1c,hop2⟩:=repN_one hy0
      rw [hcy] at hcell hy0
      have h1y:allOne [.lit (.int .u8 y.op),.lit (.int .i64 k2),.lit (.int .i64 k3),sv2]=true:=by simp [h1c]
      have HY:=Hide.mk hy0
      have HYS:=Hide.mk (And.intro hys hyv)
      clear hy0 hys hyv hcy hrl hrow hll
      have hk2:k=0∨k=1:=by omega
      rcases hk2 with rfl | rfl
      · rcases hev with ⟨c2,rfl⟩ | ⟨c2,rfl⟩
        all_goals
          have w11' : gf 11=some (.lit (.int .i64 0)):=w11
          have hltI' : (0:Int) < (subs.length:Int):=hltI
          have hcell' : loadB (some (true,4)) (g' a2) off=some (.agg [.lit (.int .u8 y.op),.lit (.int .i64 k2),.lit (.int .i64 k3),sv2]):=by simpa using hcell
          clear w11 hltI hcell
          iterate 6 (all_goals try (first | with_reducible refine splitI (fun h=>?_) (fun h=>?_) | with_reducible refine splitBI (fun h=>?_) (fun h=>?_) | simp (config:={ maxSteps:=1000000 }) (disch:=first | assumption | omega | (simp; done) | fail) [Tryd.results31, *]))
          refine WC.mono (IH.out y hyz HYS.out.2 _ _ _ _ (by simp (disch:=omega) only [gput_lt]; rw [HG.out 0 hn]; exact hops) (by omega) (HR.out.mono (by omega) fun q hq=>by simp (disch:=omega) only [gput_lt]; exact HG.out q hq) (repN_mono (by omega) (fun q hq=>by simp (disch:=omega) only [gput_lt]; exact HG.out q hq) HY.out)) ?_
          rintro _ ⟨z,rfl,hz,hsem⟩
          have HSEM:=Hide.mk hsem
          clear hsem
          iterate 6 (all_goals try (first | with_reducible refine splitI (fun h=>?_) (fun h=>?_) | with_reducible refine splitBI (fun h=>?_) (fun h=>?_) | simp (config:={ maxSteps:=1000000 }) (disch:=first | assumption | omega | (simp; done) | fail) [Tryd.results31, *]))
          refine ih.out (subs.length - (0+1)) _ _ (by omega) ⟨0+1,n'+1,_,z,t1,by omega,rfl,rfl,by omega,fun q hq=>?_,?_,?_,?_,hz,ht1,fun h=>absurd h (by omega),fun _=>HZ.out.2.1 (by omega),fun u hu _=>?_,fun u hu h=>absurd h (by omega),by simp [*],by simp [*],by simp [*],by simp [*],by simp [*],by simp⟩
          · simp (disch:=omega) only [gput_lt,gput_ne]
            exact HG.out q hq
          · simp (disch:=omega) only [gput_lt,gput_ne]
            exact e0
          · simp (disch:=omega) only [gput_lt,gput_ne]
            exact e1
          · simp (disch:=omega) only [gput_ne,gput_eq]
            try rfl
          · rw [HYS.out.1] at hu
            cases hu
            exact HSEM.out
      · rcases hev with ⟨c2,rfl⟩ | ⟨c2,rfl⟩
        all_goals
          have w11' : gf 11=some (.lit (.int .i64 1)):=w11
          have hltI' : (1:Int) < (subs.length:Int):=hltI
          have hcell' : loadB (some (true,4)) (g' a2) (off+4)=some (.agg [.lit (.int .u8 y.op),.lit (.int .i64 k2),.lit (.int .i64 k3),sv2]):=by simpa using hcell
          clear w11 hltI hcell
          iterate 6 (all_goals try (first | with_reducible refine splitI (fun h=>?_) (fun h=>?_) | with_reducible refine splitBI (fun h=>?_) (fun h=>?_) | simp (config:={ maxSteps:=1000000 }) (disch:=first | assumption | omega | (simp; done) | fail) [Tryd.results31, *]))
          refine WC.mono (IH.out y hyz HYS.out.2 _ _ _ _ (by simp (disch:=omega) only [gput_lt]; rw [HG.out 0 hn]; exact hops) (by omega) (HR.out.mono (by omega) fun q hq=>by simp (disch:=omega) only [gput_lt]; exact HG.out q hq) (repN_mono (by omega) (fun q hq=>by simp (disch:=omega) only [gput_lt]; exact HG.out q hq) HY.out)) ?_
          rintro _ ⟨z,rfl,hz,hsem⟩
          have HSEM:=Hide.mk hsem
          clear hsem
          iterate 6 (all_goals try (first | with_reducible refine splitI (fun h=>?_) (fun h=>?_) | with_reducible refine splitBI (fun h=>?_) (fun h=>?_) | simp (config:={ maxSteps:=1000000 }) (disch:=first | assumption | omega | (simp; done) | fail) [Tryd.results31, *]))
          refine ih.out (subs.length - (1+1)) _ _ (by omega) ⟨1+1,n'+1,_,t0,z,by omega,rfl,rfl,by omega,fun q hq=>?_,?_,?_,?_,ht0,hz,fun h=>absurd h (by omega),fun h=>absurd h (by omega),fun u hu _=>HZ.out.2.2.1 u hu (by omega),fun u hu _=>?_,by simp [*],by simp [*],by simp [*],by simp [*],by simp [*],by simp⟩
          · simp (disch:=omega) only [gput_lt,gput_ne]
            exact HG.out q hq
          · simp (disch:=omega) only [gput_lt,gput_ne]
            exact e0
          · simp (disch:=omega) only [gput_lt,gput_ne]
            exact e1
          · simp (disch:=omega) only [gput_ne,gput_eq]
            try rfl
          · rw [HYS.out.1] at hu
            cases hu
            exact HSEM.out
    · have hltI:¬(k:Int) < (subs.length:Int):=by omega
      have hSL:Hide (semL M subs (sOf t0) (sOf t1)):=⟨by
        obtain ⟨z1,z2,z3,z4⟩:=HZ.out
        have hno:sOf 0=noneS:=by funext s; exact Nat.zero_testBit s
        match subs,hk,hltI,hsub2,z1,z2,z3,z4 with
        | [],hk,hltI,_,z1,z2,z3,z4 =>
          simp at hk
          rw [z1 hk,z2 (by omega),hno]
          exact ⟨eqS.refl _ _,eqS.refl _ _⟩
        | [x],hk,hltI,_,z1,z2,z3,z4 =>
          simp at hltI
          have h1:k=1:=by simp at hk; omega
          rw [z2 (by omega),hno]
          exact ⟨z3 x rfl (by omega),eqS.refl _ _⟩
        | x :: y :: l,hk,hltI,hs,z1,z2,z3,z4 =>
          simp at hltI hk hs
          exact ⟨z3 x rfl (by omega),z4 y rfl (by omega)⟩⟩
      have hops':=(HG.out 0 hn).trans hops
      have hge:Hide (Ge ⟨.fn g,n⟩ ⟨.fn g',n'⟩):=⟨⟨by show n≤n'; omega,fun q hq=>HG.out q hq⟩⟩
      have HRG:Hide (GOK g' n' M nx all [.lit (.int .i64 M.inp),.lit (.int .i64 M.out),rv,nv,.lit (.int .u64 (all:Int))]):=⟨HR.out.mono (by omega) fun q hq=>HG.out q hq⟩
      have hin:1≤M.inp:=hM.1
      clear hlen HSV IH HZ
      have hop15:=op_cases v1
      rcases hop15 with rfl | rfl | rfl | rfl | rfl | rfl | rfl | rfl | rfl | rfl | rfl | rfl | rfl | rfl | rfl
      · have hfn:=ops_fn0
        iterate 6 (all_goals try (first | with_reducible refine splitI (fun h=>?_) (fun h=>?_) | with_reducible refine splitBI (fun h=>?_) (fun h=>?_) | simp (config:={ maxSteps:=1000000 }) (disch:=first | assumption | omega | (simp; done) | fail) [Tryd.results31, *]))
        refine WC.mono (sem0_w 0 a b sv t0 t1 ht0 ht1 h1s _ _ _ HRG.out) ?_
        rintro _ ⟨z,rfl,hz,hsem⟩
        have HSEM:=Hide.mk hsem
        clear hsem
        iterate 6 (all_goals try (first | with_reducible refine splitI (fun h=>?_) (fun h=>?_) | with_reducible refine splitBI (fun h=>?_) (fun h=>?_) | simp (config:={ maxSteps:=1000000 }) (disch:=first | assumption | omega | (simp; done) | fail) [Tryd.results31, *]))
        exact ⟨_,_,⟨rfl,rfl⟩,rfl,hge.out,z,rfl,hz,_,_,hSL.out,HSEM.out⟩
      · have hfn:=ops_fn1
        have hv5:a < (M.rows.length:Int):=HV5.out
        obtain ⟨i,rfl⟩ : ∃ i:Nat,a=i:=⟨a.toNat,by omega⟩
        iterate 6 (all_goals try (first | with_reducible refine splitI (fun h=>?_) (fun h=>?_) | with_reducible refine splitBI (fun h=>?_) (fun h=>?_) | simp (config:={ maxSteps:=1000000 }) (disch:=first | assumption | omega | (simp; done) | fail) [Tryd.results31, *]))
        refine WC.mono (sem1_w i (by show i < M.rows.length; omega) 1 b sv t0 t1 ht0 ht1 h1s _ _ _ HRG.out) ?_
        rintro _ ⟨z,rfl,hz,hsem⟩
        have HSEM:=Hide.mk hsem
        clear hsem
        iterate 6 (all_goals try (first | with_reducible refine splitI (fun h=>?_) (fun h=>?_) | with_reducible refine splitBI (fun h=>?_) (fun h=>?_) | simp (config:={ maxSteps:=1000000 }) (disch:=first | assumption | omega | (simp; done) | fail) [Tryd.results31, *]))
        exact ⟨_,_,⟨rfl,rfl⟩,rfl,hge.out,z,rfl,hz,_,_,hSL.out,HSEM.out⟩
      · have hfn:=ops_fn2
        have hv5:a < M.inp:=HV5.out
        obtain ⟨i,rfl⟩ : ∃ i:Nat,a=i:=⟨a.toNat,by omega⟩
        iterate 6 (all_goals try (first | with_reducible refine splitI (fun h=>?_) (fun h=>?_) | with_reducible refine splitBI (fun h=>?_) (fun h=>?_) | simp (config:={ maxSteps:=1000000 }) (disch:=first | assumption | omega | (simp; done) | fail) [Tryd.results31, *]))
        refine WC.mono (sem2_w HMR.out HME.out i hv5 2 b sv t0 t1 ht0 ht1 h1s _ _ _ HRG.out) ?_
        rintro _ ⟨z,rfl,hz,hsem⟩
        have HSEM:=Hide.mk hsem
        clear hsem
        iterate 6 (all_goals try (first | with_reducible refine splitI (fun h=>?_) (fun h=>?_) | with_reducible refine splitBI (fun h=>?_) (fun h=>?_) | simp (config:={ maxSteps:=1000000 }) (disch:=first | assumption | omega | (simp; done) | fail) [Tryd.results31, *]))
        exact ⟨_,_,⟨rfl,rfl⟩,rfl,hge.out,z,rfl,hz,_,_,hSL.out,HSEM.out⟩
      · have hfn:=ops_fn3
        have hv5:a < M.inp:=HV5.out
        obtain ⟨i,rfl⟩ : ∃ i:Nat,a=i:=⟨a.toNat,by omega⟩
        iterate 6 (all_goals try (first | with_reducible refine splitI (fun h=>?_) (fun h=>?_) | with_reducible refine splitBI (fun h=>?_) (fun h=>?_) | simp (config:={ maxSteps:=1000000 }) (disch:=first | assumption | omega | (simp; done) | fail) [Tryd.results31, *]))
        refine WC.mono (sem3_w HMR.out HME.out i hv5 3 b sv t0 t1 ht0 ht1 h1s _ _ _ HRG.out) ?_
        rintro _ ⟨z,rfl,hz,hsem⟩
        have HSEM:=Hide.mk hsem
        clear hsem
        iterate 6 (all_goals try (first | with_reducible refine splitI (fun h=>?_) (fun h=>?_) | with_reducible refine splitBI (fun h=>?_) (fun h=>?_) | simp (config:={ maxSteps:=1000000 }) (disch:=first | assumption | omega | (simp; done) | fail) [Tryd.results31, *]))
        exact ⟨_,_,⟨rfl,rfl⟩,rfl,hge.out,z,rfl,hz,_,_,hSL.out,HSEM.out⟩
      · have hfn:=ops_fn4
        iterate 6 (all_goals try (first | with_reducible refine splitI (fun h=>?_) (fun h=>?_) | with_reducible refine splitBI (fun h=>?_) (fun h=>?_) | simp (config:={ maxSteps:=1000000 }) (disch:=first | assumption | omega | (simp; done) | fail) [Tryd.results31, *]))
        refine WC.mono (sem4_w 4 a b sv t0 t1 ht0 ht1 h1s _ _ _ HRG.out) ?_
        rintro _ ⟨z,rfl,hz,hsem⟩
        have HSEM:=Hide.mk hsem
        clear hsem
        iterate 6 (all_goals try (first | with_reducible refine splitI (fun h=>?_) (fun h=>?_) | with_reducible refine splitBI (fun h=>?_) (fun h=>?_) | simp (config:={ maxSteps:=1000000 }) (disch:=first | assumption | omega | (simp; done) | fail) [Tryd.results31, *]))
        exact ⟨_,_,⟨rfl,rfl⟩,rfl,hge.out,z,rfl,hz,_,_,hSL.out,HSEM.out⟩
      · have hfn:=ops_fn5
        iterate 6 (all_goals try (first | with_reducible refine splitI (fun h=>?_) (fun h=>?_) | with_reducible refine splitBI (fun h=>?_) (fun h=>?_) | simp (config:={ maxSteps:=1000000 }) (disch:=first | assumption | omega | (simp; done) | fail) [Tryd.results31, *]))
        refine WC.mono (sem5_w 5 a b sv t0 t1 ht0 ht1 h1s _ _ _ HRG.out) ?_
        rintro _ ⟨z,rfl,hz,hsem⟩
        have HSEM:=Hide.mk hsem
        clear hsem
        iterate 6 (all_goals try (first | with_reducible refine splitI (fun h=>?_) (fun h=>?_) | with_reducible refine splitBI (fun h=>?_) (fun h=>?_) | simp (config:={ maxSteps:=1000000 }) (disch:=first | assumption | omega | (simp; done) | fail) [Tryd.results31, *]))
        exact ⟨_,_,⟨rfl,rfl⟩,rfl,hge.out,z,rfl,hz,_,_,hSL.out,HSEM.out⟩
      · have hfn:=ops_fn6
        iterate 6 (all_goals try (first | with_reducible refine splitI (fun h=>?_) (fun h=>?_) | with_reducible refine splitBI (fun h=>?_) (fun h=>?_) | simp (config:={ maxSteps:=1000000 }) (disch:=first | assumption | omega | (simp; done) | fail) [Tryd.results31, *]))
        refine WC.mono (sem6_w 6 a b sv t0 t1 ht0 ht1 h1s _ _ _ HRG.out) ?_
        rintro _ ⟨z,rfl,hz,hsem⟩
        have HSEM:=Hide.mk hsem
        clear hsem
        iterate 6 (all_goals try (first | with_reducible refine splitI (fun h=>?_) (fun h=>?_) | with_reducible refine splitBI (fun h=>?_) (fun h=>?_) | simp (config:={ maxSteps:=1000000 }) (disch:=first | assumption | omega | (simp; done) | fail) [Tryd.results31, *]))
        exact ⟨_,_,⟨rfl,rfl⟩,rfl,hge.out,z,rfl,hz,_,_,hSL.out,HSEM.out⟩
      · have hfn:=ops_fn7
        iterate 6 (all_goals try (first | with_reducible refine splitI (fun h=>?_) (fun h=>?_) | with_reducible refine splitBI (fun h=>?_) (fun h=>?_) | simp (config:={ maxSteps:=1000000 }) (disch:=first | assumption | omega | (simp; done) | fail) [Tryd.results31, *]))
        refine WC.mono (sem7_w 7 a b sv t0 t1 ht0 ht1 h1s _ _ _ HRG.out) ?_
        rintro _ ⟨z,rfl,hz,hsem⟩
        have HSEM:=Hide.mk hsem
        clear hsem
        iterate 6 (all_goals try (first | with_reducible refine splitI (fun h=>?_) (fun h=>?_) | with_reducible refine splitBI (fun h=>?_) (fun h=>?_) | simp (config:={ maxSteps:=1000000 }) (disch:=first | assumption | omega | (simp; done) | fail) [Tryd.results31, *]))
        exact ⟨_,_,⟨rfl,rfl⟩,rfl,hge.out,z,rfl,hz,_,_,hSL.out,HSEM.out⟩
      · have hfn:=ops_fn8
        iterate 6 (all_goals try (first | with_reducible refine splitI (fun h=>?_) (fun h=>?_) | with_reducible refine splitBI (fun h=>?_) (fun h=>?_) | simp (config:={ maxSteps:=1000000 }) (disch:=first | assumption | omega | (simp; done) | fail) [Tryd.results31, *]))
        refine WC.mono (sem8_w 8 a b sv t0 t1 ht0 ht1 h1s _ _ _ HRG.out) ?_
        rintro _ ⟨z,rfl,hz,hsem⟩
        have HSEM:=Hide.mk hsem
        clear hsem
        iterate 6 (all_goals try (first | with_reducible refine splitI (fun h=>?_) (fun h=>?_) | with_reducible refine splitBI (fun h=>?_) (fun h=>?_) | simp (config:={ maxSteps:=1000000 }) (disch:=first | assumption | omega | (simp; done) | fail) [Tryd.results31, *]))
        exact ⟨_,_,⟨rfl,rfl⟩,rfl,hge.out,z,rfl,hz,_,_,hSL.out,HSEM.out⟩
      · have hfn:=ops_fn9
        iterate 6 (all_goals try (first | with_reducible refine splitI (fun h=>?_) (fun h=>?_) | with_reducible refine splitBI (fun h=>?_) (fun h=>?_) | simp (config:={ maxSteps:=1000000 }) (disch:=first | assumption | omega | (simp; done) | fail) [Tryd.results31, *]))
        refine WC.mono (sem9_w 9 a b sv t0 t1 ht0 ht1 h1s _ _ _ HRG.out) ?_
        rintro _ ⟨z,rfl,hz,hsem⟩
        have HSEM:=Hide.mk hsem
        clear hsem
        iterate 6 (all_goals try (first | with_reducible refine splitI (fun h=>?_) (fun h=>?_) | with_reducible refine splitBI (fun h=>?_) (fun h=>?_) | simp (config:={ maxSteps:=1000000 }) (disch:=first | assumption | omega | (simp; done) | fail) [Tryd.results31, *]))
        exact ⟨_,_,⟨rfl,rfl⟩,rfl,hge.out,z,rfl,hz,_,_,hSL.out,HSEM.out⟩
      · have hfn:=ops_fn10
        iterate 6 (all_goals try (first | with_reducible refine splitI (fun h=>?_) (fun h=>?_) | with_reducible refine splitBI (fun h=>?_) (fun h=>?_) | simp (config:={ maxSteps:=1000000 }) (disch:=first | assumption | omega | (simp; done) | fail) [Tryd.results31, *]))
        refine WC.mono (sem10_w 10 a b sv t0 t1 ht0 ht1 h1s _ _ _ HRG.out) ?_
        rintro _ ⟨z,rfl,hz,hsem⟩
        have HSEM:=Hide.mk hsem
        clear hsem
        iterate 6 (all_goals try (first | with_reducible refine splitI (fun h=>?_) (fun h=>?_) | with_reducible refine splitBI (fun h=>?_) (fun h=>?_) | simp (config:={ maxSteps:=1000000 }) (disch:=first | assumption | omega | (simp; done) | fail) [Tryd.results31, *]))
        exact ⟨_,_,⟨rfl,rfl⟩,rfl,hge.out,z,rfl,hz,_,_,hSL.out,HSEM.out⟩
      · have hfn:=ops_fn11
        iterate 6 (all_goals try (first | with_reducible refine splitI (fun h=>?_) (fun h=>?_) | with_reducible refine splitBI (fun h=>?_) (fun h=>?_) | simp (config:={ maxSteps:=1000000 }) (disch:=first | assumption | omega | (simp; done) | fail) [Tryd.results31, *]))
        refine WC.mono (sem11_w 11 a b sv t0 t1 ht0 ht1 h1s _ _ _ HRG.out) ?_
        rintro _ ⟨z,rfl,hz,hsem⟩
        have HSEM:=Hide.mk hsem
        clear hsem
        iterate 6 (all_goals try (first | with_reducible refine splitI (fun h=>?_) (fun h=>?_) | with_reducible refine splitBI (fun h=>?_) (fun h=>?_) | simp (config:={ maxSteps:=1000000 }) (disch:=first | assumption | omega | (simp; done) | fail) [Tryd.results31, *]))
        exact ⟨_,_,⟨rfl,rfl⟩,rfl,hge.out,z,rfl,hz,_,_,hSL.out,HSEM.out⟩
      · have hfn:=ops_fn12
        iterate 6 (all_goals try (first | with_reducible refine splitI (fun h=>?_) (fun h=>?_) | with_reducible refine splitBI (fun h=>?_) (fun h=>?_) | simp (config:={ maxSteps:=1000000 }) (disch:=first | assumption | omega | (simp; done) | fail) [Tryd.results31, *]))
        refine WC.mono (sem12_w 12 a b sv t0 t1 ht0 ht1 h1s _ _ _ HRG.out) ?_
        rintro _ ⟨z,rfl,hz,hsem⟩
        have HSEM:=Hide.mk hsem
        clear hsem
        iterate 6 (all_goals try (first | with_reducible refine splitI (fun h=>?_) (fun h=>?_) | with_reducible refine splitBI (fun h=>?_) (fun h=>?_) | simp (config:={ maxSteps:=1000000 }) (disch:=first | assumption | omega | (simp; done) | fail) [Tryd.results31, *]))
        exact ⟨_,_,⟨rfl,rfl⟩,rfl,hge.out,z,rfl,hz,_,_,hSL.out,HSEM.out⟩
      · have hfn:=ops_fn13
        iterate 6 (all_goals try (first | with_reducible refine splitI (fun h=>?_) (fun h=>?_) | with_reducible refine splitBI (fun h=>?_) (fun h=>?_) | simp (config:={ maxSteps:=1000000 }) (disch:=first | assumption | omega | (simp; done) | fail) [Tryd.results31, *]))
        refine WC.mono (sem13_w 13 a b sv t0 t1 ht0 ht1 h1s _ _ _ HRG.out) ?_
        rintro _ ⟨z,rfl,hz,hsem⟩
        have HSEM:=Hide.mk hsem
        clear hsem
        iterate 6 (all_goals try (first | with_reducible refine splitI (fun h=>?_) (fun h=>?_) | with_reducible refine splitBI (fun h=>?_) (fun h=>?_) | simp (config:={ maxSteps:=1000000 }) (disch:=first | assumption | omega | (simp; done) | fail) [Tryd.results31, *]))
        exact ⟨_,_,⟨rfl,rfl⟩,rfl,hge.out,z,rfl,hz,_,_,hSL.out,HSEM.out⟩
      · have hfn:=ops_fn14
        iterate 6 (all_goals try (first | with_reducible refine splitI (fun h=>?_) (fun h=>?_) | with_reducible refine splitBI (fun h=>?_) (fun h=>?_) | simp (config:={ maxSteps:=1000000 }) (disch:=first | assumption | omega | (simp; done) | fail) [Tryd.results31, *]))
        refine WC.mono (sem14_w 14 a b sv t0 t1 ht0 ht1 h1s _ _ _ HRG.out) ?_
        rintro _ ⟨z,rfl,hz,hsem⟩
        have HSEM:=Hide.mk hsem
        clear hsem
        iterate 6 (all_goals try (first | with_reducible refine splitI (fun h=>?_) (fun h=>?_) | with_reducible refine splitBI (fun h=>?_) (fun h=>?_) | simp (config:={ maxSteps:=1000000 }) (disch:=first | assumption | omega | (simp; done) | fail) [Tryd.results31, *]))
        exact ⟨_,_,⟨rfl,rfl⟩,rfl,hge.out,z,rfl,hz,_,_,hSL.out,HSEM.out⟩
end Go.Ai
end
