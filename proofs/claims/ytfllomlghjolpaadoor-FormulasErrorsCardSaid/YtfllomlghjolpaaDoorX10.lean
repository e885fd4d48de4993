/- A small verified interpreter over names, its proofs, and what was proved with it. No condition. -/
import Derived.Test.YtfllomlghjolpaaDoorX09
import Derived.Test.YtfllomlghjolpaaDoorX07
import Derived.Test.YtfllomlghjolpaaDoorX05
import Derived.Test.YtfllomlghjolpaaDoorX06
set_option linter.all false
set_option linter.deprecated false
section
namespace Go.Ai
open Go.Proofs
set_option maxRecDepth 10000
set_option maxHeartbeats 40000000
theorem LX.gen {G:Nat} {P:Program} {k:Nat} {b:Code} {fr:Fr} {Q:Out→Prop} (g:Nat→Option Blk) (n:Nat) (h:∀ gL,gL=g→LX G P k b fr ⟨.fn gL,n⟩ Q) : LX G P k b fr ⟨.fn g,n⟩ Q:=h g rfl
theorem wit_type {M:MachM} {x:NodeM} {sn:Nat} {g:Nat→Option Blk} {lo hi:Nat} {v:AV} {l e:Int} (h:WitR M x sn g lo hi v l e) (hs:sn < M.rows.length) (ho:¬(7≤x.op∧x.op≤10)) : v=.lit (.slice none 0 0)∧l=0∧e=15:=by
 rcases h with ⟨h,_⟩ | ⟨_,_,h1,h2,h3⟩ | ⟨_,h,_⟩
 ·omega
 ·exact ⟨h1,h2,h3⟩
 ·exact absurd h ho
theorem wit_err {M:MachM} {x:NodeM} {sn:Nat} {g:Nat→Option Blk} {lo hi:Nat} {v:AV} {l e:Int} (h:WitR M x sn g lo hi v l e) (hs:sn < M.rows.length) (ho:7≤x.op∧x.op≤10) : e=0∨e=7:=by
 rcases h with ⟨h,_⟩ | ⟨_,h,_⟩ | ⟨_,_,Y,_,⟨_,_,_,h⟩ | ⟨_,h,_⟩⟩
 ·omega
 ·exact absurd ho h
 ·exact Or.inr h
 ·exact Or.inl h
theorem formulasErrors_w (hl:retIs (.lit (.bool true)) (callF Tryd.prog noO 10000 14 [] H0)=true) (M:MachM) (x:NodeM) (s:Int) (ms xs:List AV) (g:Nat→Option Blk) (n:Nat) (h0:∀ i x,blks0[i]?=some x→g i=some x) (hn:8≤n) (hr:RepM g n M ms) (hx:repN g n x xs) :
  WC 6 Tryd.prog 8 [.agg ms,.agg xs,.lit (.int .i64 s)] ⟨.fn g,n⟩ fun r=>∃ H',r=.ret (.lit (.bool true)) H':=by
 have HR:=Hide.mk hr
 have HX:=Hide.mk hx
 obtain ⟨rv,svs,rfl,hrows,hrv⟩:=hr
 have h1r:=hrv.one
 have h1a:allOne [.lit (.int .i64 M.inp),.lit (.int .i64 M.out),rv]=true:=by simp [h1r]
 have hlen:=@lenV Tryd.prog _ _ _ _ _ hrv
 obtain ⟨k2,k3,sv2,hcy,h1c,hop2⟩:=repN_one hx
 subst hcy
 have h1b:allOne [.lit (.int .u8 x.op),.lit (.int .i64 k2),.lit (.int .i64 k3),sv2]=true:=by simp [h1c]
 have H00:=Hide.mk h0
 have HL:=Hide.mk hl
 have HROW:=Hide.mk hrows
 have HRV:=Hide.mk hrv
 have H8:Hide (∀ i y,blks0[i]?=some y→i < 8):=⟨fun i y hy=>(List.getElem?_eq_some_iff.1 hy).1⟩
 have LIVES:Hide (∀ (g' : Nat→Option Blk) (n' : Nat),(∀ q,q < n→g' q=g q)→WC 6 Tryd.prog 14 [] ⟨.fn g',n'⟩ fun r=>r=.ret (.lit (.bool true)) ⟨.fn g',n'⟩):=⟨fun g' n' h=>own_w (callF_ok (noO_ok _ _) hG 10000) rfl rfl HL.out _ (holds_of fun i y hy=>by
  have h8:=H8.out i y hy
  show g' i=_
  rw [h i (by omega)]
  exact H00.out i y hy)⟩
 clear h0 hl hrows hrv hx
 refine WC.enterP (noO_ok _ _) hG [] Tryd.func8 rfl (by decide +kernel) (Nat.le_of_ble_eq_true (by kernel_rfl)) ?_
 try simp (maxSteps:=999999) (disch:=first | assumption | omega | (simp; done) | fail) [Tryd.results8, *]
 refine LX.gen _ _ (fun g1 hg1=>?_)
 have HG1:Hide (∀ q,q < n→g1 q=g q):=⟨fun q hq=>by rw [hg1]; simp (disch:=omega) only [gput_lt,gput_ne,gput_eq]⟩
 have e3:g1 n=some (.cells [.lit (.int .i64 M.inp),.lit (.int .i64 M.out),rv] true 0):=by rw [hg1]; simp (disch:=omega) only [gput_lt,gput_ne,gput_eq]
 have e4:g1 (n+1)=some (.cells [.lit (.int .u8 x.op),.lit (.int .i64 k2),.lit (.int .i64 k3),sv2] true 0):=by rw [hg1]; simp (disch:=omega) only [gput_lt,gput_ne,gput_eq]
 clear hg1
 refine LX.ind (fun m gf H'=>∃ (k:Nat) (nv:Int),k≤71∧k≤M.rows.length∧m=71 - k∧H'=⟨.fn g1,n+1+1⟩∧gf 2=some (.lit (.int .i64 s))∧gf 3=some (.ptr n 0)∧gf 4=some (.ptr (n+1) 0)∧gf 7=some (.lit (.int .i64 nv))∧gf 8=some (.lit (.int .i64 (k:Int)))) (m0:=71) ?_ ?_
 ·exact ⟨0,0,by omega,by omega,rfl,rfl,by simp,by simp,by simp,by simp,by simp⟩
 rintro m gf H' ⟨k,nv,hk,hk2,rfl,rfl,w2,w3,w4,w7,w8⟩ ih
 refine LX.roundP (noO_ok _ _) hG [] (by decide +kernel) ?_
 by_cases hlt:k < M.rows.length∧k < 71
 ·obtain ⟨hlt1,hlt2⟩:=hlt
  have hltI:(k:Int) < (M.rows.length:Int):=by omega
  have hltJ:(k:Int) < 71:=by omega
  obtain ⟨sv,a2,off,ha2,hsv,hld2,hia2⟩:=rows_at (P:=Tryd.prog) HROW.out HRV.out hlt1
  have hld2' : loadB (some (false,1)) (g1 a2) (off+k)=some sv:=by rw [HG1.out a2 ha2]; exact hld2
  have hlen2:=@lenV Tryd.prog _ _ _ _ _ hsv
  have h1sv:=hsv.one
  clear hsv hld2
  try simp (maxSteps:=999999) (disch:=first | assumption | omega | (simp; done) | fail) [Tryd.results8, *]
  exact ih.out (71 - (k+1)) _ _ (by omega) ⟨k+1,IntKind.i64.wrap (nv+(M.rows[k].length:Int)),by omega,by omega,rfl,rfl,by simp [*],by simp [*],by simp [*],by simp,by simp⟩
 have KL:Hide (∀ q,q < n→g1 q=g q):=HG1
 by_cases h70:70 < M.rows.length
 ·have h70I:(70:Int) < (M.rows.length:Int):=by omega
  have hk71:k=71:=by omega
  subst hk71
  clear hk hlt
  by_cases h71:71 < M.rows.length
  ·have h71I:(71:Int) < (M.rows.length:Int):=by omega
   try simp (maxSteps:=999999) (disch:=first | assumption | omega | (simp; done) | fail) [Tryd.results8, *]
   refine WC.mono (LIVES.out _ _ fun q hq=>KL.out q hq) ?_
   rintro _ rfl
   try simp (maxSteps:=999999) (disch:=first | assumption | omega | (simp; done) | fail) [Tryd.results8, *]
  ·have h71I:¬(71:Int) < (M.rows.length:Int):=by omega
   try simp (maxSteps:=999999) (disch:=first | assumption | omega | (simp; done) | fail) [Tryd.results8, *]
   refine WC.mono (LIVES.out _ _ fun q hq=>KL.out q hq) ?_
   rintro _ rfl
   try simp (maxSteps:=999999) (disch:=first | assumption | omega | (simp; done) | fail) [Tryd.results8, *]
 have h70I:¬(70:Int) < (M.rows.length:Int):=by omega
 have hkl:k=M.rows.length:=by omega
 subst hkl
 have hlt1:¬(M.rows.length:Int) < (M.rows.length:Int):=by omega
 clear hk hlt hk2
 by_cases hnv:(300:Int) < nv
 ·try simp (maxSteps:=999999) (disch:=first | assumption | omega | (simp; done) | fail) [Tryd.results8, *]
  refine WC.mono (LIVES.out _ _ fun q hq=>KL.out q hq) ?_
  rintro _ rfl
  try simp (maxSteps:=999999) (disch:=first | assumption | omega | (simp; done) | fail) [Tryd.results8, *]
 have hcb:=count_big x 100
 have HCT:=Hide.mk (fun g n h=>count_w2 (sizeN x) x (Nat.le_refl _) g n [.lit (.int .u8 x.op),.lit (.int .i64 k2),.lit (.int .i64 k3),sv2] 100 (by omega) (by omega) h)
 generalize countM x 100=ct at hcb HCT
 have RX1:Hide (repN g1 (n+1+1) x [.lit (.int .u8 x.op),.lit (.int .i64 k2),.lit (.int .i64 k3),sv2]):=⟨repN_mono (by omega) HG1.out HX.out⟩
 have RM1:Hide (RepM g1 (n+1+1) M [.lit (.int .i64 M.inp),.lit (.int .i64 M.out),rv]):=⟨HR.out.mono (by omega) HG1.out⟩
 try simp (maxSteps:=999999) (disch:=first | assumption | omega | (simp; done) | fail) [Tryd.results8, *]
 refine WC.mono (HCT.out _ _ RX1.out) ?_
 rintro _ rfl
 by_cases hct:(100:Int) < ct
 ·clear HCT hcb
  try simp (maxSteps:=999999) (disch:=first | assumption | omega | (simp; done) | fail) [Tryd.results8, *]
  refine WC.mono (LIVES.out _ _ fun q hq=>KL.out q hq) ?_
  rintro _ rfl
  try simp (maxSteps:=999999) (disch:=first | assumption | omega | (simp; done) | fail) [Tryd.results8, *]
 have hsz:sizeN x≤100:=by
  rcases Nat.lt_or_ge 100 (sizeN x) with h | h
  ·exact absurd (hcb.2 (by omega)) hct
  ·exact h
 have hsz6:sizeN x≤1000000:=by omega
 clear HCT hcb
 have OPS:Hide (g1 0=some opsB):=⟨by rw [HG1.out 0 (by omega)]; exact H00.out 0 _ rfl⟩
 have BP:Hide (g1 1=some (.cells bP false 0)):=⟨by rw [HG1.out 1 (by omega)]; exact H00.out 1 _ rfl⟩
 try simp (maxSteps:=999999) (disch:=first | assumption | omega | (simp; done) | fail) [Tryd.results8, *]
 refine WC.mono (mCheck_any _ _ _ RM1.out) ?_
 rintro _ rfl
 have HCE:Hide (cErr M x=if mErr M=0 then fErr M.rows.length M.inp M.out x else mErr M):=⟨rfl⟩
 have HOK:Hide (mErr M=0→M.ok):=⟨mErr_ok.1⟩
 have HCZ:=Hide.mk (fun h=>cErr_zero (M:=M) (x:=x) h)
 have HCK:=Hide.mk (fun g n h1 h2 h3 h4=>Check_any (M:=M) x hsz6 g n [.lit (.int .i64 M.inp),.lit (.int .i64 M.out),rv] [.lit (.int .u8 x.op),.lit (.int .i64 k2),.lit (.int .i64 k3),sv2] h1 h2 h3 h4)
 have HSN:=Hide.mk (fun g n h1 h2 h3 h4 h5=>Sat_no (M:=M) x hsz6 g n [.lit (.int .i64 M.inp),.lit (.int .i64 M.out),rv] [.lit (.int .u8 x.op),.lit (.int .i64 k2),.lit (.int .i64 k3),sv2] h1 h2 h3 h4 h5)
 have HWN:=Hide.mk (fun g n h1 h2 h3 h4 h5=>Witness_no (M:=M) x hsz6 s g n [.lit (.int .i64 M.inp),.lit (.int .i64 M.out),rv] [.lit (.int .u8 x.op),.lit (.int .i64 k2),.lit (.int .i64 k3),sv2] h1 h2 h3 h4 h5)
 generalize cErr M x=ce at HCE HCZ HCK HSN HWN
 generalize mErr M=me at HCE HOK
 have key:∀ (P:Prop),(me≠0→ce=me→P)→(me=0→ce=fErr M.rows.length M.inp M.out x→P)→P:=fun P h1 h2=>by
  by_cases h:me=0
  ·exact h2 h (by rw [HCE.out,if_pos h])
  ·exact h1 h (by rw [HCE.out,if_neg h])
 have KEY:=Hide.mk key
 clear key HCE
 rcases (show (me≠0∧ce=me)∨(me=0∧ce=fErr M.rows.length M.inp M.out x) from KEY.out _ (fun h1 h2=>Or.inl ⟨h1,h2⟩) (fun h1 h2=>Or.inr ⟨h1,h2⟩)) with ⟨hme,hce⟩ | ⟨hme,hce⟩
 all_goals clear KEY
 all_goals try (
  have hmok:=HOK.out hme
  have q1:M.inp≤16:=hmok.2.1
  have q2:M.out≤16:=hmok.2.2.2.1
  have q3:1≤M.inp:=hmok.1
  have q4:1≤M.out:=hmok.2.2.1
  subst hme
  try simp (maxSteps:=999999) (disch:=first | assumption | omega | (simp; done) | fail) [Tryd.results8, *]
  refine WC.mono (Formula_any M.rows.length M.inp M.out (by omega) (by omega) (by omega) x _ _ _ RX1.out) ?_
  rintro _ rfl
  rw [← hce])
 all_goals try (clear hce q1 q2 q3 q4 hmok)
 all_goals try (subst hce)
 all_goals clear HOK
 all_goals rcases (Decidable.em (ce=0)) with hz | hz
 all_goals try exact absurd hz hme
 rotate_left
 ·obtain ⟨hok,hs64,hv⟩:=HCZ.out hz
  clear HSN HWN HCZ
  try clear hme
  subst hz
  have hsm:(smallM x 64).1=true:=by rw [small_ok' _ 64 (by omega)]
  have q5:M.rows.length≤64:=hok.2.2.2.2.2.1
  have hvT:validM 10000 10000 10000 x=true:=valid_mono (by have:M.rows.length≤64:=hok.2.2.2.2.2.1; omega) (by have:M.inp≤16:=hok.2.1; omega) (by have:M.out≤16:=hok.2.2.2.1; omega) _ hv
  have hfe:fErr 10000 10000 10000 x=0:=by
   rcases fErr_cases 10000 10000 10000 x with ⟨h1,_⟩ | ⟨_,h2,_⟩ | ⟨_,_,h3⟩
   ·omega
   ·rw [hvT] at h2; cases h2
   ·exact h3
  have HOK:=Hide.mk hok
  have HV:=Hide.mk hv
  have HVT:=Hide.mk hvT
  have HSM:=Hide.mk hsm
  have HFE:=Hide.mk hfe
  clear hok hv hvT hsm hfe
  try simp (maxSteps:=999999) (disch:=first | assumption | omega | (simp; done) | fail) [Tryd.results8, *]
  refine WC.mono (Sat_yes HOK.out x hsz6 HV.out HSM.out _ _ _ _ OPS.out (by omega) RM1.out RX1.out) ?_
  rintro _ ⟨A,z,g2,n2,rfl,hn2,hg2,hA1,hA2,hA3,_⟩
  have G2:=Hide.mk hg2
  have f3:=(hg2 n (by omega)).trans e3
  have f4:=(hg2 (n+1) (by omega)).trans e4
  have hA4:oneC (AV.sl A 0 M.rows.length M.rows.length)=true:=rfl
  clear hg2 e3 e4 hA3
  try simp (maxSteps:=999999) (disch:=first | assumption | omega | (simp; done) | fail) [Tryd.results8, *]
  refine WC.mono (wit_w HOK.out x hsz6 HV.out HSM.out s _ _ _ _ ((G2.out 0 (by omega)).trans OPS.out) (by omega) (RM1.out.mono (by omega) G2.out) (repN_mono (by omega) G2.out RX1.out)) ?_
  rintro _ ⟨v,l,e,g3,n3,rfl,hn3,hg3,hwr⟩
  have HWR:=Hide.mk hwr
  have h1v:=wit_one hwr
  have G3:Hide (∀ q,q < n+1+1→g3 q=g1 q):=⟨fun q hq=>by rw [hg3 q (by omega)]; exact G2.out q hq⟩
  have e3:=(hg3 n (by omega)).trans f3
  have e4:=(hg3 (n+1) (by omega)).trans f4
  clear hg3 hwr f3 f4
  try simp (maxSteps:=999999) (disch:=first | assumption | omega | (simp; done) | fail) [Tryd.results8, *]
  refine WC.mono (Text_yes x hsz6 HVT.out HSM.out _ _ _ ((G3.out 0 (by omega)).trans OPS.out) ((G3.out 1 (by omega)).trans BP.out) (by omega) (repN_mono (by omega) G3.out RX1.out)) ?_
  rintro _ ⟨g4,n4,rfl,hn4,hg4⟩
  have G4:Hide (∀ q,q < n+1+1→g4 q=g1 q):=⟨fun q hq=>by rw [hg4 q (by omega)]; exact G3.out q hq⟩
  have f3:=(hg4 n (by omega)).trans e3
  have f4:=(hg4 (n+1) (by omega)).trans e4
  generalize textM x=tx
  clear hg4 e3 e4
  try simp (maxSteps:=999999) (disch:=first | assumption | omega | (simp; done) | fail) [Tryd.results8, *]
  refine WC.mono (Formula_any 10000 10000 10000 (by omega) (by omega) (by omega) x _ _ _ (repN_mono (by omega) G4.out RX1.out)) ?_
  rintro _ rfl
  rw [HFE.out]
  try simp (maxSteps:=999999) (disch:=first | assumption | omega | (simp; done) | fail) [Tryd.results8, *]
  refine WC.mono (HCK.out _ _ ((G4.out 0 (by omega)).trans OPS.out) (by omega) (RM1.out.mono (by omega) G4.out) (repN_mono (by omega) G4.out RX1.out)) ?_
  rintro _ rfl
  have KL4:Hide (∀ q,q < n→g4 q=g q):=⟨fun q hq=>by rw [G4.out q (by omega)]; exact HG1.out q hq⟩
  clear HCK
  by_cases hs0:s < 0
  ·obtain ⟨rfl,rfl,rfl⟩:=wit_out HWR.out (by omega)
   try simp (maxSteps:=999999) (disch:=first | assumption | omega | (simp; done) | fail) [Tryd.results8, *]
   refine WC.mono (LIVES.out _ _ fun q hq=>KL4.out q hq) ?_
   rintro _ rfl
   try simp (maxSteps:=999999) (disch:=first | assumption | omega | (simp; done) | fail) [Tryd.results8, *]
  by_cases hsN:s ≥ (M.rows.length:Int)
  ·obtain ⟨rfl,rfl,rfl⟩:=wit_out HWR.out (by omega)
   try simp (maxSteps:=999999) (disch:=first | assumption | omega | (simp; done) | fail) [Tryd.results8, *]
   refine WC.mono (LIVES.out _ _ fun q hq=>KL4.out q hq) ?_
   rintro _ rfl
   try simp (maxSteps:=999999) (disch:=first | assumption | omega | (simp; done) | fail) [Tryd.results8, *]
  obtain ⟨sn,rfl⟩ : ∃ sn:Nat,s=sn:=⟨s.toNat,by omega⟩
  have hsn:sn < M.rows.length:=by omega
  have hsn2:¬(sn ≥ M.rows.length):=by omega
  by_cases ho7:x.op < 7
  ·have ho7I:(x.op:Int) < 7:=by omega
   obtain ⟨rfl,rfl,rfl⟩:=wit_type HWR.out hsn (by omega)
   try simp (maxSteps:=999999) (disch:=first | assumption | omega | (simp; done) | fail) [Tryd.results8, *]
   refine WC.mono (LIVES.out _ _ fun q hq=>KL4.out q hq) ?_
   rintro _ rfl
   try simp (maxSteps:=999999) (disch:=first | assumption | omega | (simp; done) | fail) [Tryd.results8, *]
  have ho7I:¬(x.op:Int) < 7:=by omega
  by_cases ho10:10 < x.op
  ·have ho10I:(10:Int) < (x.op:Int):=by omega
   obtain ⟨rfl,rfl,rfl⟩:=wit_type HWR.out hsn (by omega)
   try simp (maxSteps:=999999) (disch:=first | assumption | omega | (simp; done) | fail) [Tryd.results8, *]
   refine WC.mono (LIVES.out _ _ fun q hq=>KL4.out q hq) ?_
   rintro _ rfl
   try simp (maxSteps:=999999) (disch:=first | assumption | omega | (simp; done) | fail) [Tryd.results8, *]
  have ho10I:¬(10:Int) < (x.op:Int):=by omega
  rcases wit_err HWR.out hsn (by omega) with rfl | rfl
  all_goals
   try simp (maxSteps:=999999) (disch:=first | assumption | omega | (simp; done) | fail) [Tryd.results8, *]
   refine WC.mono (LIVES.out _ _ fun q hq=>KL4.out q hq) ?_
   rintro _ rfl
   try simp (maxSteps:=999999) (disch:=first | assumption | omega | (simp; done) | fail) [Tryd.results8, *]
 all_goals
  try simp (maxSteps:=999999) (disch:=first | assumption | omega | (simp; done) | fail) [Tryd.results8, *]
  refine WC.mono (HSN.out _ _ OPS.out (by omega) RM1.out RX1.out hz) ?_
  rintro _ rfl
  try simp (maxSteps:=999999) (disch:=first | assumption | omega | (simp; done) | fail) [Tryd.results8, *]
  refine WC.mono (HWN.out _ _ OPS.out (by omega) RM1.out RX1.out hz) ?_
  rintro _ rfl
  have HT:Hide (∃ (tx:ByteArray) (fe:Int),fErr 10000 10000 10000 x=fe∧(fe=0∨(¬fe=0∧tx=⟨#[]⟩))∧WC 6 Tryd.prog 15 [.agg [.lit (.int .u8 x.op),.lit (.int .i64 k2),.lit (.int .i64 k3),sv2]] ⟨.fn g1,n+1+1⟩ fun r=>∃ g' n',r=.ret (.tup [.lit (.string tx),.lit (.int .i64 fe)]) ⟨.fn g',n'⟩∧n+1+1≤n'∧∀ b,b < n+1+1→g' b=g1 b):=⟨by
   rcases fErr_cases 10000 10000 10000 x with ⟨h1,h3⟩ | ⟨h1,h2,h3⟩ | ⟨h1,h2,h3⟩
   ·exact ⟨⟨#[]⟩,3,h3,Or.inr ⟨by decide,rfl⟩,WC.mono (Text_no x hsz6 _ _ _ OPS.out (by omega) RX1.out (by rw [h3]; decide)) fun r hr=>⟨g1,n+1+1,by rw [hr,h3],Nat.le_refl _,fun _ _=>rfl⟩⟩
   ·exact ⟨⟨#[]⟩,1,h3,Or.inr ⟨by decide,rfl⟩,WC.mono (Text_no x hsz6 _ _ _ OPS.out (by omega) RX1.out (by rw [h3]; decide)) fun r hr=>⟨g1,n+1+1,by rw [hr,h3],Nat.le_refl _,fun _ _=>rfl⟩⟩
   ·exact ⟨textM x,0,h3,Or.inl rfl,Text_yes x hsz6 h2 (by rw [small_ok' _ 64 (by omega)]) _ _ _ OPS.out BP.out (by omega) RX1.out⟩⟩
  obtain ⟨tx,fe,hfe,hcase,hwt⟩:=HT.out
  have HWT:=Hide.mk hwt
  have HFE:=Hide.mk hfe
  clear hwt hfe HT HSN HWN HCZ
  try simp (maxSteps:=999999) (disch:=first | assumption | omega | (simp; done) | fail) [Tryd.results8, *]
  refine WC.mono HWT.out ?_
  rintro _ ⟨g4,n4,rfl,hn4,hg4⟩
  have G4:=Hide.mk hg4
  have f3:=(hg4 n (by omega)).trans e3
  have f4:=(hg4 (n+1) (by omega)).trans e4
  have KL4:Hide (∀ q,q < n→g4 q=g q):=⟨fun q hq=>by rw [G4.out q (by omega)]; exact HG1.out q hq⟩
  clear hg4 e3 e4
  try simp (maxSteps:=999999) (disch:=first | assumption | omega | (simp; done) | fail) [Tryd.results8, *]
  refine WC.mono (Formula_any 10000 10000 10000 (by omega) (by omega) (by omega) x _ _ _ (repN_mono (by omega) G4.out RX1.out)) ?_
  rintro _ rfl
  rw [HFE.out]
  try simp (maxSteps:=999999) (disch:=first | assumption | omega | (simp; done) | fail) [Tryd.results8, *]
  refine WC.mono (HCK.out _ _ ((G4.out 0 (by omega)).trans OPS.out) (by omega) (RM1.out.mono (by omega) G4.out) (repN_mono (by omega) G4.out RX1.out)) ?_
  rintro _ rfl
  clear HCK
  rcases hcase with rfl | ⟨hf0,rfl⟩
  all_goals
   try simp (maxSteps:=999999) (disch:=first | assumption | omega | (simp; done) | fail) [Tryd.results8, *]
   refine WC.mono (LIVES.out _ _ fun q hq=>KL4.out q hq) ?_
   rintro _ rfl
   try simp (maxSteps:=999999) (disch:=first | assumption | omega | (simp; done) | fail) [Tryd.results8, *]
end Go.Ai
end
