/- A small verified interpreter over names, its proofs, and what was proved with it. No condition. -/
import Derived.Test.YtfllomlghjolpaaDoorX07
import Derived.Test.YtfllomlghjolpaaDoorX06
set_option linter.all false
set_option linter.deprecated false
section
namespace Go.Ai
open Go.Proofs
set_option maxRecDepth 10000
set_option maxHeartbeats 40000000
theorem mk74:mkI Tryd.prog 74=some (.lit (.int .u64 0)):=by kernel_rfl
theorem mk37:mkI Tryd.prog 37=some (.lit (.bool false)):=by kernel_rfl
attribute [simp] mk74 mk37
theorem graphOf_w {M:MachM} (hM:M.ok) (g:Nat→Option Blk) (n:Nat) (ms:List AV) (hr:RepM g n M ms) :
  WC 6 Tryd.prog 30 [.agg ms] ⟨.fn g,n⟩ fun r=>∃ cs g' n',r=.ret (.agg cs) ⟨.fn g',n'⟩∧n≤n'∧(∀ b,b < n→g' b=g b)∧GOK g' n' M (nxK M M.rows.length 0) (allK M.rows.length) cs:=by
 obtain ⟨rv,svs,rfl,hrows,hrv⟩:=hr
 have h1r:=hrv.one
 have h1a:allOne [.lit (.int .i64 M.inp),.lit (.int .i64 M.out),rv]=true:=by simp [h1r]
 have hlen:=@lenV Tryd.prog _ _ _ _ _ hrv
 have h64:M.rows.length≤64:=hM.2.2.2.2.2.1
 have hsl:=hrows.len
 have HROW:=Hide.mk hrows
 have HRV:=Hide.mk hrv
 have HM:=Hide.mk hM
 have hz64:(M.rows.length:Int)≤1048576:=by omega
 clear hrows hrv
 have h1b:allOne [.lit (.int .i64 M.inp),.lit (.int .i64 M.out),rv,.sl (n+1+1) 0 M.rows.length M.rows.length,.lit (.int .u64 0)]=true:=by simp [h1r]
 refine WC.enterP (noO_ok _ _) hG pl30 Tryd.func30 rfl (by decide +kernel) (Nat.le_of_ble_eq_true (by kernel_rfl)) ?_
 try simp (maxSteps:=999999) (disch:=first | assumption | omega | (simp; done) | fail) [Tryd.results30, *]
 refine LX.ind (fun m gf H'=>∃ (k n' : Nat) (g' : Nat→Option Blk),k≤M.rows.length∧m=M.rows.length - k∧H'=⟨.fn g',n'⟩∧n+1+1+1+1≤n'∧(∀ q,q < n→g' q=g q)∧g' n=some (.cells [.lit (.int .i64 M.inp),.lit (.int .i64 M.out),rv] true 0)∧g' (n+1)=some (.cells [.lit (.int .i64 0),.lit (.int .i64 0),.lit (.slice none 0 0),.lit (.slice none 0 0),.lit (.int .u64 0)] true 0)∧g' (n+1+1)=some (.cells (u64C (nxK M k 0)) true 0)∧g' (n+1+1+1)=some (.cells [.lit (.int .i64 M.inp),.lit (.int .i64 M.out),rv,.sl (n+1+1) 0 M.rows.length M.rows.length,.lit (.int .u64 ((allK k:Nat) : Int))] true 0)∧gf 1=some (.ptr n 0)∧gf 2=some (.ptr (n+1) 0)∧gf 3=some (.ptr (n+1+1+1) 0)∧gf 15=some rv∧gf 16=some (.lit (.int .i64 M.rows.length))∧gf 17=some (.lit (.int .i64 k))) (m0:=M.rows.length) ?_ ?_
 ·refine ⟨0,_,_,Nat.zero_le _,rfl,rfl,Nat.le_refl _,fun q hq=>?_,?_,?_,?_,?_,by simp,by simp,by simp,by simp,by simp,by simp⟩
  ·simp (disch:=omega) only [gput_lt]
  ·simp (disch:=omega) only [gput_lt,gput_eq]
  ·simp (disch:=omega) only [gput_lt,gput_eq]
  ·rw [nxK_zero]
   simp (disch:=omega) only [gput_lt,gput_eq]
   unfold u64C
   rw [List.map_replicate]
   try rfl
  ·simp (disch:=omega) only [gput_eq]
   try rfl
 rintro m gf H' ⟨k,n1,g1,hk,rfl,rfl,hn1,hg1,e0,e1,e2,e3,w1,w2,w3,w15,w16,w17⟩ ih
 have HG1:=Hide.mk hg1
 clear hg1
 refine LX.roundP (noO_ok _ _) hG pl30 (by decide +kernel) ?_
 by_cases hlt:k < M.rows.length
 ·have hltI:(k:Int) < (M.rows.length:Int):=by omega
  have hk63:k≤63:=by omega
  have hbk:=bitN_lt hk63
  have hall:=allK_lt k (by omega)
  have hR:=HROW.out.at k hlt (by omega)
  rcases HRV.out with ⟨h1,_⟩ | ⟨a2,off,ha2,hev,hrow⟩
  ·omega
  have hcell:=(hrow.mono (HG1.out a2 ha2)).one (k:=k) (s:=1) (by omega)
  have hgd:M.rows.getD k []=M.rows[k]:=by rw [List.getD_eq_getElem?_getD,List.getElem?_eq_getElem hlt]; rfl
  have hre:=ok_row_edge HM.out (List.getElem_mem hlt)
  have HGD:=Hide.mk hgd
  clear hgd
  have hr16:M.rows[k].length≤16:=by
   have h1:=ok_row HM.out _ (List.getElem_mem hlt)
   have h2:M.inp≤16:=HM.out.2.1
   omega
  generalize svs[k]'(by omega)=sv at hR hcell
  generalize M.rows[k]=row at hR HGD hre hr16
  have hlen2:=@lenV Tryd.prog _ _ _ _ _ hR
  have h1sv:=hR.one
  have HRE:=Hide.mk hre
  have HRR:=Hide.mk hR
  have HAK:Hide (orN (allK k) (bitN k)=allK (k+1)):=⟨rfl⟩
  have hal2:=orN_lt hall hbk
  have h1c:allOne [.lit (.int .u64 ((orN (allK k) (bitN k) : Nat) : Int))]=true:=by simp
  clear hre hR hrow
  rcases hev with ⟨c2,rfl⟩ | ⟨c2,rfl⟩
  ·try simp (maxSteps:=999999) (disch:=first | assumption | omega | (simp; done) | fail) [Tryd.results30, *]
   refine LX.ind (fun m gf H'=>∃ (j n' : Nat) (g' : Nat→Option Blk),j≤row.length∧m=row.length - j∧H'=⟨.fn g',n'⟩∧n+1+1+1+1≤n'∧(∀ q,q < n→g' q=g q)∧g' n=some (.cells [.lit (.int .i64 M.inp),.lit (.int .i64 M.out),.sl a2 off M.rows.length c2] true 0)∧g' (n+1)=some (.cells [.lit (.int .i64 0),.lit (.int .i64 0),.lit (.slice none 0 0),.lit (.slice none 0 0),.lit (.int .u64 0)] true 0)∧g' (n+1+1)=some (.cells (u64C (nxK M k j)) true 0)∧g' (n+1+1+1)=some (.cells [.lit (.int .i64 M.inp),.lit (.int .i64 M.out),.sl a2 off M.rows.length c2,.sl (n+1+1) 0 M.rows.length M.rows.length,.lit (.int .u64 ((orN (allK k) (bitN k) : Nat) : Int))] true 0)∧gf 1=some (.ptr n 0)∧gf 2=some (.ptr (n+1) 0)∧gf 3=some (.ptr (n+1+1+1) 0)∧gf 15=some (.sl a2 off M.rows.length c2)∧gf 16=some (.lit (.int .i64 M.rows.length))∧gf 17=some (.lit (.int .i64 k))∧gf 4=some (.lit (.int .i64 k))∧gf 28=some sv∧gf 29=some (.lit (.int .i64 row.length))∧gf 30=some (.lit (.int .i64 j))) (m0:=row.length) ?_ ?_
   ·refine ⟨0,_,_,Nat.zero_le _,rfl,rfl,hn1,fun q hq=>?_,?_,?_,?_,?_,by simp [*],by simp [*],by simp [*],by simp [*],by simp [*],by simp [*],by simp,by simp,by simp,by simp⟩
    ·simp (disch:=omega) only [gput_ne]
     exact HG1.out q hq
    ·simp (disch:=omega) only [gput_ne]
     exact e0
    ·simp (disch:=omega) only [gput_ne]
     exact e1
    ·simp (disch:=omega) only [gput_ne]
     exact e2
    ·simp (disch:=omega) only [gput_eq]
     try rfl
   rintro m gf H' ⟨j,n2,g2,hj,rfl,rfl,hn2,hg2,d0,d1,d2,d3,x1,x2,x3,x15,x16,x17,x4,x28,x29,x30⟩ ihj
   have HG2:=Hide.mk hg2
   clear hg2
   refine LX.roundP (noO_ok _ _) hG pl30 (by decide +kernel) ?_
   by_cases hjt:j < row.length
   ·have hjtI:(j:Int) < (row.length:Int):=by omega
    rcases HRR.out with ⟨h1,_⟩ | ⟨a3,off3,ha3,hev3,hrow3⟩
    ·omega
    have hrow3':=hrow3.mono (HG2.out a3 ha3)
    have hagg:=hrow3'.agg (k:=j * 2) (s:=2) (by rw [rowC_len]; omega)
    rw [rowC_at row j hjt] at hagg
    have hrj:row[j]=row.getD j (-1,-1):=by rw [List.getD_eq_getElem?_getD,List.getElem?_eq_getElem hjt]; rfl
    have hre:=HRE.out _ (List.getElem_mem hjt)
    have HST:Hide (rowN row (j+1)=if (row.getD j (-1,-1)).1 = -1 then rowN row j else orN (rowN row j) (bitN (row.getD j (-1,-1)).1.toNat)):=⟨rfl⟩
    rw [← hrj] at HST
    generalize row[j]=e at hagg hre HST
    obtain ⟨to,out⟩:=e
    dsimp only at hagg hre HST
    have hul:(u64C (nxK M k j)).length=M.rows.length:=by rw [u64C_len,nxK_len]
    have hat:(u64C (nxK M k j))[k]?=some (.lit (.int .u64 ((rowN row j:Nat) : Int))):=by
     rw [List.getElem?_eq_getElem (by omega),u64C_at,nxK_at M k j k hlt,if_neg (by omega),if_pos rfl,HGD.out]
    have hrl:=rowN_lt HRE.out j (by omega)
    have hset:=fun v h=>nxK_set M k j v hlt (by rw [HGD.out]; exact h)
    have hsame:rowN row (j+1)=rowN row j→u64C (nxK M k j)=u64C (nxK M k (j+1)):=fun h=>by
     rw [← nxK_set M k j (rowN row (j+1)) hlt (by rw [HGD.out])]
     rw [h]
     apply List.ext_getElem?
     intro i
     rw [List.getElem?_set]
     split
     ·rename_i e; subst e; rw [if_pos (by omega)]; exact hat
     ·rfl
    have HSET:=Hide.mk hset
    have HSAME:=Hide.mk hsame
    clear hset hsame hrow3 hrow3' hrj
    generalize u64C (nxK M k j)=L at *
    have hkL:k < L.length:=by omega
    have hget:L[k]'hkL=.lit (.int .u64 ((rowN row j:Nat) : Int)):=by
     rw [List.getElem?_eq_getElem hkL] at hat
     exact Option.some.inj hat
    clear hat
    by_cases ht:to = -1
    ·subst ht
     rw [if_pos rfl] at HST
     rcases hev3 with ⟨c3,rfl⟩ | ⟨c3,rfl⟩
     all_goals
      try simp (maxSteps:=999999) (disch:=first | assumption | omega | (simp; done) | fail) [Tryd.results30, *]
      refine ihj.out (row.length - (j+1)) _ _ (by omega) ⟨j+1,n2+1,_,by omega,rfl,rfl,by omega,fun q hq=>?_,?_,?_,?_,?_,by simp [*],by simp [*],by simp [*],by simp [*],by simp [*],by simp [*],by simp [*],by simp [*],by simp [*],by simp⟩
      ·simp (disch:=omega) only [gput_lt]
       exact HG2.out q hq
      ·simp (disch:=omega) only [gput_lt]
       exact d0
      ·simp (disch:=omega) only [gput_lt]
       exact d1
      ·simp (disch:=omega) only [gput_lt]
       rw [← HSAME.out HST.out]
       exact d2
      ·simp (disch:=omega) only [gput_lt]
       exact d3
    ·rw [if_neg ht] at HST
     obtain ⟨t,rfl⟩ : ∃ t:Nat,to=t:=⟨to.toNat,by omega⟩
     have ht63:t≤63:=by omega
     have hbt:=bitN_lt ht63
     have hor:=orN_lt hrl hbt
     have hkl:k+[(.lit (.int .u64 ((orN (rowN row j) (bitN t) : Nat) : Int)) : AV)].length≤L.length:=by rw [hul]; exact hlt
     have h1d:allOne [.lit (.int .u64 ((orN (rowN row j) (bitN t) : Nat) : Int))]=true:=by simp
     rcases hev3 with ⟨c3,rfl⟩ | ⟨c3,rfl⟩
     all_goals
      try simp (maxSteps:=999999) (disch:=first | assumption | omega | (simp; done) | fail) [Tryd.results30, *]
      refine ihj.out (row.length - (j+1)) _ _ (by omega) ⟨j+1,n2+1,_,by omega,rfl,rfl,by omega,fun q hq=>?_,?_,?_,?_,?_,by simp [*],by simp [*],by simp [*],by simp [*],by simp [*],by simp [*],by simp [*],by simp [*],by simp [*],by simp⟩
      ·simp (disch:=omega) only [gput_lt,gput_ne]
       exact HG2.out q hq
      ·simp (disch:=omega) only [gput_lt,gput_ne]
       exact d0
      ·simp (disch:=omega) only [gput_lt,gput_ne]
       exact d1
      ·simp (disch:=omega) only [gput_lt,gput_ne,gput_eq]
       rw [← HSET.out _ HST.out]
       rw [put_set hkL,Int.toNat_natCast]
      ·simp (disch:=omega) only [gput_lt,gput_ne]
       exact d3
   ·have hjtI:¬(j:Int) < (row.length:Int):=by omega
    have hj2:j=row.length:=by omega
    have HJ:Hide (u64C (nxK M k j)=u64C (nxK M (k+1) 0)):=⟨by rw [← nxK_next,HGD.out,hj2]⟩
    have HJ2:=Hide.mk hj2
    clear hj2
    try simp (maxSteps:=999999) (disch:=first | assumption | omega | (simp; done) | fail) [Tryd.results30, *]
    refine ih.out (M.rows.length - (k+1)) _ _ (by omega) ⟨k+1,n2,_,by omega,rfl,rfl,by omega,fun q hq=>HG2.out q hq,d0,d1,?_,?_,by simp [*],by simp [*],by simp [*],by simp [*],by simp [*],by simp⟩
    ·rw [← HJ.out]; exact d2
    ·rw [← HAK.out]; exact d3
  ·try simp (maxSteps:=999999) (disch:=first | assumption | omega | (simp; done) | fail) [Tryd.results30, *]
   refine LX.ind (fun m gf H'=>∃ (j n' : Nat) (g' : Nat→Option Blk),j≤row.length∧m=row.length - j∧H'=⟨.fn g',n'⟩∧n+1+1+1+1≤n'∧(∀ q,q < n→g' q=g q)∧g' n=some (.cells [.lit (.int .i64 M.inp),.lit (.int .i64 M.out),.slq a2 off M.rows.length c2] true 0)∧g' (n+1)=some (.cells [.lit (.int .i64 0),.lit (.int .i64 0),.lit (.slice none 0 0),.lit (.slice none 0 0),.lit (.int .u64 0)] true 0)∧g' (n+1+1)=some (.cells (u64C (nxK M k j)) true 0)∧g' (n+1+1+1)=some (.cells [.lit (.int .i64 M.inp),.lit (.int .i64 M.out),.slq a2 off M.rows.length c2,.sl (n+1+1) 0 M.rows.length M.rows.length,.lit (.int .u64 ((orN (allK k) (bitN k) : Nat) : Int))] true 0)∧gf 1=some (.ptr n 0)∧gf 2=some (.ptr (n+1) 0)∧gf 3=some (.ptr (n+1+1+1) 0)∧gf 15=some (.slq a2 off M.rows.length c2)∧gf 16=some (.lit (.int .i64 M.rows.length))∧gf 17=some (.lit (.int .i64 k))∧gf 4=some (.lit (.int .i64 k))∧gf 28=some sv∧gf 29=some (.lit (.int .i64 row.length))∧gf 30=some (.lit (.int .i64 j))) (m0:=row.length) ?_ ?_
   ·refine ⟨0,_,_,Nat.zero_le _,rfl,rfl,hn1,fun q hq=>?_,?_,?_,?_,?_,by simp [*],by simp [*],by simp [*],by simp [*],by simp [*],by simp [*],by simp,by simp,by simp,by simp⟩
    ·simp (disch:=omega) only [gput_ne]
     exact HG1.out q hq
    ·simp (disch:=omega) only [gput_ne]
     exact e0
    ·simp (disch:=omega) only [gput_ne]
     exact e1
    ·simp (disch:=omega) only [gput_ne]
     exact e2
    ·simp (disch:=omega) only [gput_eq]
     try rfl
   rintro m gf H' ⟨j,n2,g2,hj,rfl,rfl,hn2,hg2,d0,d1,d2,d3,x1,x2,x3,x15,x16,x17,x4,x28,x29,x30⟩ ihj
   have HG2:=Hide.mk hg2
   clear hg2
   refine LX.roundP (noO_ok _ _) hG pl30 (by decide +kernel) ?_
   by_cases hjt:j < row.length
   ·have hjtI:(j:Int) < (row.length:Int):=by omega
    rcases HRR.out with ⟨h1,_⟩ | ⟨a3,off3,ha3,hev3,hrow3⟩
    ·omega
    have hrow3':=hrow3.mono (HG2.out a3 ha3)
    have hagg:=hrow3'.agg (k:=j * 2) (s:=2) (by rw [rowC_len]; omega)
    rw [rowC_at row j hjt] at hagg
    have hrj:row[j]=row.getD j (-1,-1):=by rw [List.getD_eq_getElem?_getD,List.getElem?_eq_getElem hjt]; rfl
    have hre:=HRE.out _ (List.getElem_mem hjt)
    have HST:Hide (rowN row (j+1)=if (row.getD j (-1,-1)).1 = -1 then rowN row j else orN (rowN row j) (bitN (row.getD j (-1,-1)).1.toNat)):=⟨rfl⟩
    rw [← hrj] at HST
    generalize row[j]=e at hagg hre HST
    obtain ⟨to,out⟩:=e
    dsimp only at hagg hre HST
    have hul:(u64C (nxK M k j)).length=M.rows.length:=by rw [u64C_len,nxK_len]
    have hat:(u64C (nxK M k j))[k]?=some (.lit (.int .u64 ((rowN row j:Nat) : Int))):=by
     rw [List.getElem?_eq_getElem (by omega),u64C_at,nxK_at M k j k hlt,if_neg (by omega),if_pos rfl,HGD.out]
    have hrl:=rowN_lt HRE.out j (by omega)
    have hset:=fun v h=>nxK_set M k j v hlt (by rw [HGD.out]; exact h)
    have hsame:rowN row (j+1)=rowN row j→u64C (nxK M k j)=u64C (nxK M k (j+1)):=fun h=>by
     rw [← nxK_set M k j (rowN row (j+1)) hlt (by rw [HGD.out])]
     rw [h]
     apply List.ext_getElem?
     intro i
     rw [List.getElem?_set]
     split
     ·rename_i e; subst e; rw [if_pos (by omega)]; exact hat
     ·rfl
    have HSET:=Hide.mk hset
    have HSAME:=Hide.mk hsame
    clear hset hsame hrow3 hrow3' hrj
    generalize u64C (nxK M k j)=L at *
    have hkL:k < L.length:=by omega
    have hget:L[k]'hkL=.lit (.int .u64 ((rowN row j:Nat) : Int)):=by
     rw [List.getElem?_eq_getElem hkL] at hat
     exact Option.some.inj hat
    clear hat
    by_cases ht:to = -1
    ·subst ht
     rw [if_pos rfl] at HST
     rcases hev3 with ⟨c3,rfl⟩ | ⟨c3,rfl⟩
     all_goals
      try simp (maxSteps:=999999) (disch:=first | assumption | omega | (simp; done) | fail) [Tryd.results30, *]
      refine ihj.out (row.length - (j+1)) _ _ (by omega) ⟨j+1,n2+1,_,by omega,rfl,rfl,by omega,fun q hq=>?_,?_,?_,?_,?_,by simp [*],by simp [*],by simp [*],by simp [*],by simp [*],by simp [*],by simp [*],by simp [*],by simp [*],by simp⟩
      ·simp (disch:=omega) only [gput_lt]
       exact HG2.out q hq
      ·simp (disch:=omega) only [gput_lt]
       exact d0
      ·simp (disch:=omega) only [gput_lt]
       exact d1
      ·simp (disch:=omega) only [gput_lt]
       rw [← HSAME.out HST.out]
       exact d2
      ·simp (disch:=omega) only [gput_lt]
       exact d3
    ·rw [if_neg ht] at HST
     obtain ⟨t,rfl⟩ : ∃ t:Nat,to=t:=⟨to.toNat,by omega⟩
     have ht63:t≤63:=by omega
     have hbt:=bitN_lt ht63
     have hor:=orN_lt hrl hbt
     have hkl:k+[(.lit (.int .u64 ((orN (rowN row j) (bitN t) : Nat) : Int)) : AV)].length≤L.length:=by rw [hul]; exact hlt
     have h1d:allOne [.lit (.int .u64 ((orN (rowN row j) (bitN t) : Nat) : Int))]=true:=by simp
     rcases hev3 with ⟨c3,rfl⟩ | ⟨c3,rfl⟩
     all_goals
      try simp (maxSteps:=999999) (disch:=first | assumption | omega | (simp; done) | fail) [Tryd.results30, *]
      refine ihj.out (row.length - (j+1)) _ _ (by omega) ⟨j+1,n2+1,_,by omega,rfl,rfl,by omega,fun q hq=>?_,?_,?_,?_,?_,by simp [*],by simp [*],by simp [*],by simp [*],by simp [*],by simp [*],by simp [*],by simp [*],by simp [*],by simp⟩
      ·simp (disch:=omega) only [gput_lt,gput_ne]
       exact HG2.out q hq
      ·simp (disch:=omega) only [gput_lt,gput_ne]
       exact d0
      ·simp (disch:=omega) only [gput_lt,gput_ne]
       exact d1
      ·simp (disch:=omega) only [gput_lt,gput_ne,gput_eq]
       rw [← HSET.out _ HST.out]
       rw [put_set hkL,Int.toNat_natCast]
      ·simp (disch:=omega) only [gput_lt,gput_ne]
       exact d3
   ·have hjtI:¬(j:Int) < (row.length:Int):=by omega
    have hj2:j=row.length:=by omega
    have HJ:Hide (u64C (nxK M k j)=u64C (nxK M (k+1) 0)):=⟨by rw [← nxK_next,HGD.out,hj2]⟩
    have HJ2:=Hide.mk hj2
    clear hj2
    try simp (maxSteps:=999999) (disch:=first | assumption | omega | (simp; done) | fail) [Tryd.results30, *]
    refine ih.out (M.rows.length - (k+1)) _ _ (by omega) ⟨k+1,n2,_,by omega,rfl,rfl,by omega,fun q hq=>HG2.out q hq,d0,d1,?_,?_,by simp [*],by simp [*],by simp [*],by simp [*],by simp [*],by simp⟩
    ·rw [← HJ.out]; exact d2
    ·rw [← HAK.out]; exact d3
 ·have hltI:¬(k:Int) < (M.rows.length:Int):=by omega
  have hk2:k=M.rows.length:=by omega
  have HK2:=Hide.mk hk2
  have h1e:allOne [.lit (.int .i64 M.inp),.lit (.int .i64 M.out),rv,.sl (n+1+1) 0 M.rows.length M.rows.length,.lit (.int .u64 ((allK k:Nat) : Int))]=true:=by simp [h1r]
  clear hk2
  try simp (maxSteps:=999999) (disch:=first | assumption | omega | (simp; done) | fail) [Tryd.results30, *]
  refine ⟨_,_,_,⟨rfl,rfl,rfl⟩,by omega,fun q hq=>?_,?_,grN_of HM.out⟩
  ·rw [gput_lt (by omega)]; exact HG1.out q hq
  ·rw [HK2.out]
   refine ⟨rv,_,rfl,⟨rv,svs,rfl,?_,?_⟩,.inr ⟨n+1+1,0,by omega,.inl ⟨M.rows.length,?_⟩,_,true,0,by rw [gput_ne (by omega)]; exact e2,?_,?_⟩⟩
   ·exact HROW.out.ext (by omega) fun q z hq hz=>by rw [gput_lt (by omega),HG1.out q hq]; exact hz
   ·exact HRV.out.mono (by omega) fun q hq=>by rw [gput_lt (by omega),HG1.out q hq]
   ·rw [nxK_len]
   ·rw [HK2.out]; simp
   ·rw [HK2.out]; simp
end Go.Ai
end
section
namespace Go.Ai
open Go.Proofs
set_option maxRecDepth 10000
set_option maxHeartbeats 40000000
theorem stood70:Tryd.prog.stoodInHeld 70=false:=by kernel_rfl
theorem equal_int {P:Program} {d:Nat} {t:TypeId} {k:IntKind} {a b:Int} (ht:P.underlying t=some (.int k)) : pureV P (Op.equalIn (d+1) t (.int k a) (.int k b))=some (a == b):=by
 unfold Op.equalIn
 refine (pureV_then (m:=underlying t) (pureV_underlying ht)).trans ?_
 dsimp only
 rw [if_pos rfl]
 rfl
theorem equal_edge (a b c d:Int) : pureV Tryd.prog (Op.equal 70 (.agg #[.int .i64 a,.int .i64 b]) (.agg #[.int .i64 c,.int .i64 d]))=some (a == c && b == d):=by
 unfold Op.equal
 show pureV Tryd.prog (Op.equalIn (9998+1+1) 70 _ _)=_
 rw [Op.equalIn]
 refine (pureV_then (m:=underlying 70) (pureV_underlying Tryd.underlying70)).trans ?_
 dsimp only
 refine (pureV_then (m:=program) (a:=Tryd.prog) rfl).trans ?_
 rw [if_neg (by rw [stood70]; decide)]
 have p0:∀ x y:Int,pureV Tryd.prog (part 3 #[Value.int IntKind.i64 x,Value.int IntKind.i64 y] 0)=some (.int .i64 x):=fun x y=>rfl
 have p1:∀ x y:Int,pureV Tryd.prog (part 3 #[Value.int IntKind.i64 x,Value.int IntKind.i64 y] 1)=some (.int .i64 y):=fun x y=>rfl
 simp only [List.forIn_toArray,List.forIn_cons,List.forIn_nil]
 have key:∀ (nm:String) (u v:Int) (m1 m2:Sem Value),nm ≠ "_"→pureV Tryd.prog m1=some (.int .i64 u)→pureV Tryd.prog m2=some (.int .i64 v) →
   pureV Tryd.prog (if nm ≠ "_" then do
    let x ← m1
    let y ← m2
    let z ← Op.equalIn (9998+1) 3 x y
    if (!z)=true then pure (ForInStep.done (some false,())) else pure (ForInStep.yield ((none:Option Bool),()))
   else pure (ForInStep.yield (none,())))=some (if (u == v)=true then ForInStep.yield (none,()) else ForInStep.done (some false,())):=by
  intro nm u v m1 m2 hn h1 h2
  rw [if_pos hn]
  refine (pureV_then h1).trans ((pureV_then h2).trans ((pureV_then (equal_int Tryd.underlying3)).trans ?_))
  cases (u == v) <;> rfl
 refine (pureV_then (a:=if (a == c && b == d)=true then ((none:Option Bool),()) else (some false,())) ?_).trans ?_
 ·refine (pureV_then (key "To" a c _ _ (by decide) (p0 a b) (p0 c d))).trans ?_
  cases (a == c)
  ·rfl
  ·refine (pureV_then (key "Out" b d _ _ (by decide) (p1 a b) (p1 c d))).trans ?_
   cases (b == d) <;> rfl
 ·cases (a == c) <;> cases (b == d) <;> rfl
theorem bin_edge {H:Mem} {ev:Ev} {d:Option Tmp} {ty rt:TypeId} {p:String} {af:Array Edge} {g:Option (Nat×Bool)} {x y:Operand} {a b a' b' : Int} (hx:ev x=some (.agg [.lit (.int .i64 a),.lit (.int .i64 b)])) (hy:ev y=some (.agg [.lit (.int .i64 a'),.lit (.int .i64 b')])) :
  binS Tryd.prog H ev ⟨d,.binOp .eql 70 x y rt,ty,p,af,g⟩ .eql 70 (some (.agg [.lit (.int .i64 a),.lit (.int .i64 b)])) (some (.agg [.lit (.int .i64 a'),.lit (.int .i64 b')]))=.val (.lit (.bool (decide (a=a') && decide (b=b')))) H:=by
 show oBin Tryd.prog H ev ⟨d,.binOp .eql 70 x y rt,ty,p,af,g⟩ .eql 70 (some (.agg [.lit (.int .i64 a),.lit (.int .i64 b)])) (some (.agg [.lit (.int .i64 a'),.lit (.int .i64 b')]))=_
 refine oBin_generic rfl ?_
 have h1:(Op.operands (.binOp .eql 70 x y rt)).toList=[x,y]:=rfl
 unfold generic
 dsimp only
 rw [h1]
 have l1:toLit (.agg [.lit (.int .i64 a),.lit (.int .i64 b)])=some (.agg #[.int .i64 a,.int .i64 b]):=rfl
 have l2:toLit (.agg [.lit (.int .i64 a'),.lit (.int .i64 b')])=some (.agg #[.int .i64 a',.int .i64 b']):=rfl
 simp only [List.all_cons,List.all_nil,hx,hy,l1,l2,Bool.and_true,if_true]
 have h2:∀ ρ:Operand→Value,ρ x=.agg #[.int .i64 a,.int .i64 b]→ρ y=.agg #[.int .i64 a',.int .i64 b']→pureV Tryd.prog (execOp ρ ⟨d,.binOp .eql 70 x y rt,ty,p,af,g⟩)=some (.value (.bool (decide (a=a') && decide (b=b')))):=by
  intro ρ e1 e2
  refine execOp_bin e1 e2 ?_ ?_
  ·unfold eqGuard; kernel_rfl
  ·show pureV Tryd.prog (do pure (Value.bool (← Op.equal 70 _ _)))=_
   exact (pureV_then (equal_edge a b a' b')).trans rfl
 rw [h2 _ (by simp only [hx,l1]) (by simp only [hy,l2])]
attribute [simp] bin_edge
theorem none_w (g:Nat→Option Blk) (n:Nat) : WC 6 Tryd.prog 70 [] ⟨.fn g,n⟩ fun r=>r=.ret (.agg [.lit (.int .i64 (-1)),.lit (.int .i64 (-1))]) ⟨.fn (gput g n (some (.cells [.lit (.int .i64 (-1)),.lit (.int .i64 (-1))] true 0))),n+1⟩:=by
 have h1a:allOne [.lit (.int .i64 (-1)),.lit (.int .i64 (-1))]=true:=by simp
 refine WC.enterP (noO_ok _ _) hG [] Tryd.func70 rfl (by decide +kernel) (Nat.le_of_ble_eq_true (by kernel_rfl)) ?_
 iterate 6 all_goals try first | with_reducible refine splitI (fun h=>?_) fun h=>?_ | with_reducible refine splitBI (fun h=>?_) fun h=>?_ | simp (maxSteps:=999999) (disch:=first | assumption | omega | (simp; done) | fail) [Tryd.results70, *]
theorem fits_w {M:MachM} (e:Int×Int) (g:Nat→Option Blk) (n:Nat) (ms:List AV) (hr:RepM g n M ms) :
  WC 6 Tryd.prog 54 [.agg ms,.agg [.lit (.int .i64 e.1),.lit (.int .i64 e.2)]] ⟨.fn g,n⟩ fun r=>r=.ret (.lit (.bool (edgeOK M.rows.length M.out e))) ⟨.fn g,n⟩:=by
 refine WC.drop1 rfl ?_
 obtain ⟨rv,svs,rfl,hrows,hrv⟩:=hr
 have h1r:=hrv.one
 have h1a:allOne [.lit (.int .i64 M.inp),.lit (.int .i64 M.out),rv]=true:=by simp [h1r]
 have hlen:=@lenV Tryd.prog _ _ _ _ _ hrv
 obtain ⟨to,out⟩:=e
 have h1e:allOne [.lit (.int .i64 to),.lit (.int .i64 out)]=true:=by simp
 clear hrows hrv
 refine WC.enterP (noO_ok _ _) hG pl54 Tryd.func54 rfl (by decide +kernel) (Nat.le_of_ble_eq_true (by kernel_rfl)) ?_
 by_cases t1:to = -1
 ·by_cases t2:out = -1
  ·iterate 6 all_goals try first | with_reducible refine splitI (fun h=>?_) fun h=>?_ | with_reducible refine splitBI (fun h=>?_) fun h=>?_ | simp (maxSteps:=999999) (disch:=first | assumption | omega | (simp; done) | fail) [Tryd.results54, *]
   refine WC.mono (none_w _ _) ?_
   rintro _ rfl
   iterate 6 all_goals try first | with_reducible refine splitI (fun h=>?_) fun h=>?_ | with_reducible refine splitBI (fun h=>?_) fun h=>?_ | simp (maxSteps:=999999) (disch:=first | assumption | omega | (simp; done) | fail) [Tryd.results54, *]
   refine ⟨_,⟨?_,rfl⟩,by show n≤n+1+1+1; omega,fun q hq=>?_⟩
   ·unfold edgeOK; simp [*]
   ·have hq' : q < n:=hq
    show gput _ _ _ _=g q
    simp (disch:=omega) only [gput_lt]
  ·have t3:¬(0:Int)≤to:=by omega
   iterate 6 all_goals try first | with_reducible refine splitI (fun h=>?_) fun h=>?_ | with_reducible refine splitBI (fun h=>?_) fun h=>?_ | simp (maxSteps:=999999) (disch:=first | assumption | omega | (simp; done) | fail) [Tryd.results54, *]
   refine WC.mono (none_w _ _) ?_
   rintro _ rfl
   iterate 6 all_goals try first | with_reducible refine splitI (fun h=>?_) fun h=>?_ | with_reducible refine splitBI (fun h=>?_) fun h=>?_ | simp (maxSteps:=999999) (disch:=first | assumption | omega | (simp; done) | fail) [Tryd.results54, *]
   refine ⟨_,⟨?_,rfl⟩,by show n≤n+1+1+1; omega,fun q hq=>?_⟩
   ·unfold edgeOK; simp [*]
   ·have hq' : q < n:=hq
    show gput _ _ _ _=g q
    simp (disch:=omega) only [gput_lt]
 have t1' : ¬(to = -1∧out = -1):=fun h=>t1 h.1
 by_cases t3:0≤to
 ·by_cases t4:to < (M.rows.length:Int)
  ·by_cases t5:0≤out
   ·by_cases t6:out < M.out
    ·iterate 6 all_goals try first | with_reducible refine splitI (fun h=>?_) fun h=>?_ | with_reducible refine splitBI (fun h=>?_) fun h=>?_ | simp (maxSteps:=999999) (disch:=first | assumption | omega | (simp; done) | fail) [Tryd.results54, *]
     refine WC.mono (none_w _ _) ?_
     rintro _ rfl
     iterate 6 all_goals try first | with_reducible refine splitI (fun h=>?_) fun h=>?_ | with_reducible refine splitBI (fun h=>?_) fun h=>?_ | simp (maxSteps:=999999) (disch:=first | assumption | omega | (simp; done) | fail) [Tryd.results54, *]
     refine ⟨_,⟨?_,rfl⟩,by show n≤n+1+1+1; omega,fun q hq=>?_⟩
     ·unfold edgeOK; simp [*]
     ·have hq' : q < n:=hq
      show gput _ _ _ _=g q
      simp (disch:=omega) only [gput_lt]
    ·iterate 6 all_goals try first | with_reducible refine splitI (fun h=>?_) fun h=>?_ | with_reducible refine splitBI (fun h=>?_) fun h=>?_ | simp (maxSteps:=999999) (disch:=first | assumption | omega | (simp; done) | fail) [Tryd.results54, *]
     refine WC.mono (none_w _ _) ?_
     rintro _ rfl
     iterate 6 all_goals try first | with_reducible refine splitI (fun h=>?_) fun h=>?_ | with_reducible refine splitBI (fun h=>?_) fun h=>?_ | simp (maxSteps:=999999) (disch:=first | assumption | omega | (simp; done) | fail) [Tryd.results54, *]
     refine ⟨_,⟨?_,rfl⟩,by show n≤n+1+1+1; omega,fun q hq=>?_⟩
     ·unfold edgeOK; simp [*]
     ·have hq' : q < n:=hq
      show gput _ _ _ _=g q
      simp (disch:=omega) only [gput_lt]
   ·iterate 6 all_goals try first | with_reducible refine splitI (fun h=>?_) fun h=>?_ | with_reducible refine splitBI (fun h=>?_) fun h=>?_ | simp (maxSteps:=999999) (disch:=first | assumption | omega | (simp; done) | fail) [Tryd.results54, *]
    refine WC.mono (none_w _ _) ?_
    rintro _ rfl
    iterate 6 all_goals try first | with_reducible refine splitI (fun h=>?_) fun h=>?_ | with_reducible refine splitBI (fun h=>?_) fun h=>?_ | simp (maxSteps:=999999) (disch:=first | assumption | omega | (simp; done) | fail) [Tryd.results54, *]
    refine ⟨_,⟨?_,rfl⟩,by show n≤n+1+1+1; omega,fun q hq=>?_⟩
    ·unfold edgeOK; simp [*]
    ·have hq' : q < n:=hq
     show gput _ _ _ _=g q
     simp (disch:=omega) only [gput_lt]
  ·iterate 6 all_goals try first | with_reducible refine splitI (fun h=>?_) fun h=>?_ | with_reducible refine splitBI (fun h=>?_) fun h=>?_ | simp (maxSteps:=999999) (disch:=first | assumption | omega | (simp; done) | fail) [Tryd.results54, *]
   refine WC.mono (none_w _ _) ?_
   rintro _ rfl
   iterate 6 all_goals try first | with_reducible refine splitI (fun h=>?_) fun h=>?_ | with_reducible refine splitBI (fun h=>?_) fun h=>?_ | simp (maxSteps:=999999) (disch:=first | assumption | omega | (simp; done) | fail) [Tryd.results54, *]
   refine ⟨_,⟨?_,rfl⟩,by show n≤n+1+1+1; omega,fun q hq=>?_⟩
   ·unfold edgeOK; simp [*]
   ·have hq' : q < n:=hq
    show gput _ _ _ _=g q
    simp (disch:=omega) only [gput_lt]
 ·iterate 6 all_goals try first | with_reducible refine splitI (fun h=>?_) fun h=>?_ | with_reducible refine splitBI (fun h=>?_) fun h=>?_ | simp (maxSteps:=999999) (disch:=first | assumption | omega | (simp; done) | fail) [Tryd.results54, *]
  refine WC.mono (none_w _ _) ?_
  rintro _ rfl
  iterate 6 all_goals try first | with_reducible refine splitI (fun h=>?_) fun h=>?_ | with_reducible refine splitBI (fun h=>?_) fun h=>?_ | simp (maxSteps:=999999) (disch:=first | assumption | omega | (simp; done) | fail) [Tryd.results54, *]
  refine ⟨_,⟨?_,rfl⟩,by show n≤n+1+1+1; omega,fun q hq=>?_⟩
  ·unfold edgeOK; simp [*]
  ·have hq' : q < n:=hq
   show gput _ _ _ _=g q
   simp (disch:=omega) only [gput_lt]
theorem mC1_w {M:MachM} (e:Int×Int) (p:Nat) (g:Nat→Option Blk) (n:Nat) (ms:List AV) (hr:RepM g n M ms) (hp:g p=some (.cells ms true 0)) (hpn:p < n) :
  WC 6 Tryd.prog 53 [.agg [.lit (.int .i64 e.1),.lit (.int .i64 e.2)],.ptr p 0] ⟨.fn g,n⟩ fun r=>r=.ret (.lit (.bool (!edgeOK M.rows.length M.out e))) ⟨.fn g,n⟩:=by
 refine WC.drop1 rfl ?_
 have h1e:allOne [.lit (.int .i64 e.1),.lit (.int .i64 e.2)]=true:=by simp
 have HR:=Hide.mk hr
 obtain ⟨rv,hms,h1r⟩:=hr.one
 subst hms
 have h1a:allOne [.lit (.int .i64 M.inp),.lit (.int .i64 M.out),rv]=true:=by simp [h1r]
 clear hr
 refine WC.enterP (noO_ok _ _) hG [] Tryd.func53 rfl (by decide +kernel) (Nat.le_of_ble_eq_true (by kernel_rfl)) ?_
 iterate 6 all_goals try first | with_reducible refine splitI (fun h=>?_) fun h=>?_ | with_reducible refine splitBI (fun h=>?_) fun h=>?_ | simp (maxSteps:=999999) (disch:=first | assumption | omega | (simp; done) | fail) [Tryd.results53, *]
 refine WC.mono (fits_w e _ _ _ (HR.out.mono (by omega) fun q hq=>gput_lt hq)) ?_
 rintro _ rfl
 iterate 6 all_goals try first | with_reducible refine splitI (fun h=>?_) fun h=>?_ | with_reducible refine splitBI (fun h=>?_) fun h=>?_ | simp (maxSteps:=999999) (disch:=first | assumption | omega | (simp; done) | fail) [Tryd.results53, *]
 all_goals exact ⟨Nat.le_succ n,fun b hb=>gput_lt hb⟩
theorem iFunc_w {M:MachM} (row:List (Int×Int)) (hrl:row.length≤1000000) (sv:AV) (p:Nat) (g:Nat→Option Blk) (n:Nat) (ms:List AV) (hr:RepM g n M ms) (hp:g p=some (.cells ms true 0)) (hpn:p < n) (hsv:SliceV g n sv row.length (rowC row)) :
  WC 6 Tryd.prog 69 [sv,.func (.func 53) [] [.ptr p 0]] ⟨.fn g,n⟩ fun r=>∃ z:Int,r=.ret (.lit (.int .i64 z)) ⟨.fn g,n⟩∧decide (0≤z)=row.any fun e=>!edgeOK M.rows.length M.out e:=by
 have hlen:=@lenV Tryd.prog _ _ _ _ _ hsv
 have HR:=Hide.mk hr
 have HS:=Hide.mk hsv
 have HP:=Hide.mk hp
 clear hr hsv hp
 refine WC.enterP (noO_ok _ _) hG [] Tryd.func69 rfl (by decide +kernel) (Nat.le_of_ble_eq_true (by kernel_rfl)) ?_
 iterate 6 all_goals try first | with_reducible refine splitI (fun h=>?_) fun h=>?_ | with_reducible refine splitBI (fun h=>?_) fun h=>?_ | simp (maxSteps:=999999) (disch:=first | assumption | omega | (simp; done) | fail) [Tryd.results69, *]
 refine LX.ind (fun m gf H'=>∃ (k:Nat),k≤row.length∧m=row.length - k∧H'=⟨.fn g,n⟩∧(∀ e∈row.take k,edgeOK M.rows.length M.out e=true) ∧
  gf 0=some sv∧gf 1=some (.func (.func 53) [] [.ptr p 0])∧gf 7=some (.lit (.int .i64 row.length))∧gf 8=some (.lit (.int .i64 k))) (m0:=row.length) ?_ ?_
 ·exact ⟨0,Nat.zero_le _,rfl,rfl,by simp,by simp,by simp,by simp,by simp⟩
 rintro m gf H' ⟨k,hk,rfl,rfl,hpre,w0,w1,w7,w8⟩ ih
 have HPRE:=Hide.mk hpre
 clear hpre
 refine LX.roundP (noO_ok _ _) hG [] (by decide +kernel) ?_
 by_cases hlt:k < row.length
 ·have hltI:(k:Int) < (row.length:Int):=by omega
  rcases HS.out with ⟨h1,_⟩ | ⟨a2,off,ha2,hev,hrow⟩
  ·omega
  have hagg:=hrow.agg (k:=k * 2) (s:=2) (by rw [rowC_len]; omega)
  rw [rowC_at row k hlt] at hagg
  have htk:row.take (k+1)=row.take k++[row[k]]:=by rw [List.take_succ,List.getElem?_eq_getElem hlt]; rfl
  have hmem:=List.getElem_mem hlt
  have HT:=Hide.mk htk
  have HM:=Hide.mk hmem
  clear htk hmem hrow
  generalize row[k]=e at *
  have hmc:=mC1_w (M:=M) e p g n ms HR.out HP.out hpn
  have HMC:=Hide.mk hmc
  clear hmc
  cases hok:edgeOK M.rows.length M.out e with
  | true =>
   rcases hev with ⟨c2,rfl⟩ | ⟨c2,rfl⟩
   all_goals
    iterate 6 all_goals try first | with_reducible refine splitI (fun h=>?_) fun h=>?_ | with_reducible refine splitBI (fun h=>?_) fun h=>?_ | simp (maxSteps:=999999) (disch:=first | assumption | omega | (simp; done) | fail) [Tryd.results69, *]
    refine WC.mono HMC.out ?_
    rintro _ rfl
    rw [hok]
    iterate 6 all_goals try first | with_reducible refine splitI (fun h=>?_) fun h=>?_ | with_reducible refine splitBI (fun h=>?_) fun h=>?_ | simp (maxSteps:=999999) (disch:=first | assumption | omega | (simp; done) | fail) [Tryd.results69, *]
    refine ih.out (row.length - (k+1)) _ _ (by omega) ⟨k+1,by omega,rfl,rfl,fun e' he'=>?_,by simp [*],by simp [*],by simp [*],by simp⟩
    rw [HT.out] at he'
    rcases List.mem_append.1 he' with h | h
    ·exact HPRE.out e' h
    ·rw [List.mem_singleton.1 h]; exact hok
  | false =>
   rcases hev with ⟨c2,rfl⟩ | ⟨c2,rfl⟩
   all_goals
    iterate 6 all_goals try first | with_reducible refine splitI (fun h=>?_) fun h=>?_ | with_reducible refine splitBI (fun h=>?_) fun h=>?_ | simp (maxSteps:=999999) (disch:=first | assumption | omega | (simp; done) | fail) [Tryd.results69, *]
    refine WC.mono HMC.out ?_
    rintro _ rfl
    rw [hok]
    iterate 6 all_goals try first | with_reducible refine splitI (fun h=>?_) fun h=>?_ | with_reducible refine splitBI (fun h=>?_) fun h=>?_ | simp (maxSteps:=999999) (disch:=first | assumption | omega | (simp; done) | fail) [Tryd.results69, *]
    exact ⟨e.1,e.2,HM.out,hok⟩
 ·have hltI:¬(k:Int) < (row.length:Int):=by omega
  have hk2:k=row.length:=by omega
  have HK2:=Hide.mk hk2
  clear hk2
  iterate 6 all_goals try first | with_reducible refine splitI (fun h=>?_) fun h=>?_ | with_reducible refine splitBI (fun h=>?_) fun h=>?_ | simp (maxSteps:=999999) (disch:=first | assumption | omega | (simp; done) | fail) [Tryd.results69, *]
  have h0:=HPRE.out
  rw [HK2.out,List.take_length] at h0
  exact fun a b hab=>h0 _ hab
theorem cFunc_w {M:MachM} (row:List (Int×Int)) (hrl:row.length≤1000000) (sv:AV) (p:Nat) (g:Nat→Option Blk) (n:Nat) (ms:List AV) (hr:RepM g n M ms) (hp:g p=some (.cells ms true 0)) (hpn:p < n) (hsv:SliceV g n sv row.length (rowC row)) :
  WC 6 Tryd.prog 52 [sv,.func (.func 53) [] [.ptr p 0]] ⟨.fn g,n⟩ fun r=>r=.ret (.lit (.bool (row.any fun e=>!edgeOK M.rows.length M.out e))) ⟨.fn g,n⟩:=by
 have HI:=Hide.mk (iFunc_w row hrl sv p g n ms hr hp hpn hsv)
 clear hr hp hsv
 refine WC.enterP (noO_ok _ _) hG [] Tryd.func52 rfl (by decide +kernel) (Nat.le_of_ble_eq_true (by kernel_rfl)) ?_
 iterate 6 all_goals try first | with_reducible refine splitI (fun h=>?_) fun h=>?_ | with_reducible refine splitBI (fun h=>?_) fun h=>?_ | simp (maxSteps:=999999) (disch:=first | assumption | omega | (simp; done) | fail) [Tryd.results52, *]
 refine WC.mono HI.out ?_
 rintro _ ⟨z,rfl,hz⟩
 generalize (row.any fun e=>!edgeOK M.rows.length M.out e)=bb at *
 cases bb with
 | true =>
  have hz1:0≤z:=of_decide_eq_true hz
  clear hz
  iterate 6 all_goals try first | with_reducible refine splitI (fun h=>?_) fun h=>?_ | with_reducible refine splitBI (fun h=>?_) fun h=>?_ | simp (maxSteps:=999999) (disch:=first | assumption | omega | (simp; done) | fail) [Tryd.results52, *]
 | false =>
  have hz1:¬0≤z:=of_decide_eq_false hz
  clear hz
  iterate 6 all_goals try first | with_reducible refine splitI (fun h=>?_) fun h=>?_ | with_reducible refine splitBI (fun h=>?_) fun h=>?_ | simp (maxSteps:=999999) (disch:=first | assumption | omega | (simp; done) | fail) [Tryd.results52, *]
def mErr (M:MachM) : Int :=
 if M.inp > 16∨M.out > 16∨M.rows.length > 64 then 3 else if M.inp < 1∨M.out < 1∨M.rows.length < 1 then 1
 else if (∀ r∈M.rows,(r.length:Int)=M.inp∧(r.any fun e=>!edgeOK M.rows.length M.out e)=false) then 0 else 1
theorem mErr_ok {M:MachM} : mErr M=0↔M.ok:=by
 unfold mErr MachM.ok
 split
 ·constructor
  ·intro h; cases h
  ·intro h; omega
 split
 ·constructor
  ·intro h; cases h
  ·intro h; omega
 split
 ·rename_i h1 h2 h3
  refine ⟨fun _=>⟨by omega,by omega,by omega,by omega,by omega,by omega,fun r hr=>⟨(h3 r hr).1,fun e he=>?_⟩⟩,fun _=>rfl⟩
  have h4:=(h3 r hr).2
  rw [List.any_eq_false] at h4
  simpa using h4 e he
 ·rename_i h1 h2 h3
  constructor
  ·intro h; cases h
  ·intro h
   exfalso
   refine h3 fun r hr=>⟨(h.2.2.2.2.2.2 r hr).1,?_⟩
   rw [List.any_eq_false]
   intro e he
   rw [(h.2.2.2.2.2.2 r hr).2 e he]; decide
theorem mCheck_w {M:MachM} (hrl:∀ r∈M.rows,r.length≤1000000) (g:Nat→Option Blk) (n:Nat) (ms:List AV) (hr:RepM g n M ms) :
  WC 6 Tryd.prog 26 [.agg ms] ⟨.fn g,n⟩ fun r=>r=.ret (.lit (.int .i64 (mErr M))) ⟨.fn g,n⟩:=by
 refine WC.drop1 rfl ?_
 have HR:=Hide.mk hr
 obtain ⟨rv,svs,rfl,hrows,hrv⟩:=hr
 have h1r:=hrv.one
 have h1a:allOne [.lit (.int .i64 M.inp),.lit (.int .i64 M.out),rv]=true:=by simp [h1r]
 have hlen:=@lenV Tryd.prog _ _ _ _ _ hrv
 have HROW:=Hide.mk hrows
 have HRV:=Hide.mk hrv
 have HRL:=Hide.mk hrl
 have hsl:=hrows.len
 clear hrows hrv hrl
 refine WC.enterP (noO_ok _ _) hG [] Tryd.func26 rfl (by decide +kernel) (Nat.le_of_ble_eq_true (by kernel_rfl)) ?_
 by_cases a1:(16:Int) < M.inp
 ·have hm:mErr M=3:=by unfold mErr; rw [if_pos (by omega)]
  rw [hm]
  iterate 6 all_goals try first | with_reducible refine splitI (fun h=>?_) fun h=>?_ | with_reducible refine splitBI (fun h=>?_) fun h=>?_ | simp (maxSteps:=999999) (disch:=first | assumption | omega | (simp; done) | fail) [Tryd.results26, *]
  exact ⟨Nat.le_succ n,fun b hb=>gput_lt hb⟩
 by_cases a2:(16:Int) < M.out
 ·have hm:mErr M=3:=by unfold mErr; rw [if_pos (by omega)]
  rw [hm]
  iterate 6 all_goals try first | with_reducible refine splitI (fun h=>?_) fun h=>?_ | with_reducible refine splitBI (fun h=>?_) fun h=>?_ | simp (maxSteps:=999999) (disch:=first | assumption | omega | (simp; done) | fail) [Tryd.results26, *]
  exact ⟨Nat.le_succ n,fun b hb=>gput_lt hb⟩
 by_cases a3:(64:Int) < (M.rows.length:Int)
 ·have hm:mErr M=3:=by unfold mErr; rw [if_pos (by omega)]
  rw [hm]
  iterate 6 all_goals try first | with_reducible refine splitI (fun h=>?_) fun h=>?_ | with_reducible refine splitBI (fun h=>?_) fun h=>?_ | simp (maxSteps:=999999) (disch:=first | assumption | omega | (simp; done) | fail) [Tryd.results26, *]
  exact ⟨Nat.le_succ n,fun b hb=>gput_lt hb⟩
 by_cases b1:M.inp < 1
 ·have hm:mErr M=1:=by unfold mErr; rw [if_neg (by omega),if_pos (by omega)]
  rw [hm]
  iterate 6 all_goals try first | with_reducible refine splitI (fun h=>?_) fun h=>?_ | with_reducible refine splitBI (fun h=>?_) fun h=>?_ | simp (maxSteps:=999999) (disch:=first | assumption | omega | (simp; done) | fail) [Tryd.results26, *]
  exact ⟨Nat.le_succ n,fun b hb=>gput_lt hb⟩
 by_cases b2:M.out < 1
 ·have hm:mErr M=1:=by unfold mErr; rw [if_neg (by omega),if_pos (by omega)]
  rw [hm]
  iterate 6 all_goals try first | with_reducible refine splitI (fun h=>?_) fun h=>?_ | with_reducible refine splitBI (fun h=>?_) fun h=>?_ | simp (maxSteps:=999999) (disch:=first | assumption | omega | (simp; done) | fail) [Tryd.results26, *]
  exact ⟨Nat.le_succ n,fun b hb=>gput_lt hb⟩
 by_cases b3:(M.rows.length:Int) < 1
 ·have hm:mErr M=1:=by unfold mErr; rw [if_neg (by omega),if_pos (by omega)]
  rw [hm]
  iterate 6 all_goals try first | with_reducible refine splitI (fun h=>?_) fun h=>?_ | with_reducible refine splitBI (fun h=>?_) fun h=>?_ | simp (maxSteps:=999999) (disch:=first | assumption | omega | (simp; done) | fail) [Tryd.results26, *]
  exact ⟨Nat.le_succ n,fun b hb=>gput_lt hb⟩
 have hgo:mErr M=if (∀ r∈M.rows,(r.length:Int)=M.inp∧(r.any fun e=>!edgeOK M.rows.length M.out e)=false) then 0 else 1:=by unfold mErr; rw [if_neg (by omega),if_neg (by omega)]
 have HGO:=Hide.mk hgo
 clear hgo
 iterate 6 all_goals try first | with_reducible refine splitI (fun h=>?_) fun h=>?_ | with_reducible refine splitBI (fun h=>?_) fun h=>?_ | simp (maxSteps:=999999) (disch:=first | assumption | omega | (simp; done) | fail) [Tryd.results26, *]
 refine LX.ind (fun m gf H'=>∃ (k:Nat),k≤M.rows.length∧m=M.rows.length - k∧H'=⟨.fn (gput g n (some (.cells [.lit (.int .i64 M.inp),.lit (.int .i64 M.out),rv] true 0))),n+1⟩∧(∀ r∈M.rows.take k,(r.length:Int)=M.inp∧(r.any fun e=>!edgeOK M.rows.length M.out e)=false) ∧
  gf 1=some (.ptr n 0)∧gf 34=some rv∧gf 35=some (.lit (.int .i64 M.rows.length))∧gf 36=some (.lit (.int .i64 k))) (m0:=M.rows.length) ?_ ?_
 ·exact ⟨0,Nat.zero_le _,rfl,rfl,by simp,by simp,by simp,by simp,by simp⟩
 rintro m gf H' ⟨k,hk,rfl,rfl,hpre,w1,w34,w35,w36⟩ ih
 have HPRE:=Hide.mk hpre
 clear hpre
 refine LX.roundP (noO_ok _ _) hG [] (by decide +kernel) ?_
 by_cases hlt:k < M.rows.length
 ·have hltI:(k:Int) < (M.rows.length:Int):=by omega
  have hR:=HROW.out.at k hlt (by omega)
  rcases HRV.out with ⟨h1,_⟩ | ⟨a2',off,ha2,hev,hrow⟩
  ·omega
  have hcell:=(hrow.mono (g':=gput g n (some (.cells [.lit (.int .i64 M.inp),.lit (.int .i64 M.out),rv] true 0))) (gput_lt ha2)).one (k:=k) (s:=1) (by omega)
  rw [gput_lt ha2] at hcell
  have htk:M.rows.take (k+1)=M.rows.take k++[M.rows[k]]:=by rw [List.take_succ,List.getElem?_eq_getElem hlt]; rfl
  have hmem:=List.getElem_mem hlt
  have hrl:=HRL.out _ hmem
  have HT:=Hide.mk htk
  have HM:=Hide.mk hmem
  clear htk hmem hrow
  generalize svs[k]'(by omega)=sv at hR hcell
  generalize M.rows[k]=row at hR HT HM hrl
  have hlen2:=@lenV Tryd.prog _ _ _ _ _ hR
  have hcf:=cFunc_w (M:=M) row hrl sv n (gput g n (some (.cells [.lit (.int .i64 M.inp),.lit (.int .i64 M.out),rv] true 0))) (n+1) _ (HR.out.mono (by omega) fun q hq=>gput_lt hq) gput_eq (by omega) (hR.mono (by omega) fun q hq=>gput_lt hq)
  have HCF:=Hide.mk hcf
  clear hcf hR
  by_cases hli:(row.length:Int)=M.inp
  ·cases hok:(row.any fun e=>!edgeOK M.rows.length M.out e) with
   | true =>
    rcases hev with ⟨c2,rfl⟩ | ⟨c2,rfl⟩
    all_goals
     iterate 6 all_goals try first | with_reducible refine splitI (fun h=>?_) fun h=>?_ | with_reducible refine splitBI (fun h=>?_) fun h=>?_ | simp (maxSteps:=999999) (disch:=first | assumption | omega | (simp; done) | fail) [Tryd.results26, *]
     refine WC.mono HCF.out ?_
     rintro _ rfl
     rw [hok]
     have hm:mErr M=1:=by rw [HGO.out,if_neg (fun h=>by have:=(h row HM.out).2; rw [hok] at this; cases this)]
     rw [hm]
     iterate 6 all_goals try first | with_reducible refine splitI (fun h=>?_) fun h=>?_ | with_reducible refine splitBI (fun h=>?_) fun h=>?_ | simp (maxSteps:=999999) (disch:=first | assumption | omega | (simp; done) | fail) [Tryd.results26, *]
     exact ⟨Nat.le_succ n,fun b hb=>gput_lt hb⟩
   | false =>
    rcases hev with ⟨c2,rfl⟩ | ⟨c2,rfl⟩
    all_goals
     iterate 6 all_goals try first | with_reducible refine splitI (fun h=>?_) fun h=>?_ | with_reducible refine splitBI (fun h=>?_) fun h=>?_ | simp (maxSteps:=999999) (disch:=first | assumption | omega | (simp; done) | fail) [Tryd.results26, *]
     refine WC.mono HCF.out ?_
     rintro _ rfl
     rw [hok]
     iterate 6 all_goals try first | with_reducible refine splitI (fun h=>?_) fun h=>?_ | with_reducible refine splitBI (fun h=>?_) fun h=>?_ | simp (maxSteps:=999999) (disch:=first | assumption | omega | (simp; done) | fail) [Tryd.results26, *]
     refine ih.out (M.rows.length - (k+1)) _ _ (by omega) ⟨k+1,by omega,rfl,rfl,fun e' he'=>?_,by simp [*],by simp [*],by simp [*],by simp⟩
     rw [HT.out] at he'
     rcases List.mem_append.1 he' with h | h
     ·exact HPRE.out e' h
     ·rw [List.mem_singleton.1 h]; exact ⟨hli,hok⟩
  ·rcases hev with ⟨c2,rfl⟩ | ⟨c2,rfl⟩
   all_goals
    have hm:mErr M=1:=by rw [HGO.out,if_neg (fun h=>hli (h row HM.out).1)]
    rw [hm]
    iterate 6 all_goals try first | with_reducible refine splitI (fun h=>?_) fun h=>?_ | with_reducible refine splitBI (fun h=>?_) fun h=>?_ | simp (maxSteps:=999999) (disch:=first | assumption | omega | (simp; done) | fail) [Tryd.results26, *]
    exact ⟨Nat.le_succ n,fun b hb=>gput_lt hb⟩
 ·have hltI:¬(k:Int) < (M.rows.length:Int):=by omega
  have hk2:k=M.rows.length:=by omega
  have hm:mErr M=0:=by
   rw [HGO.out,if_pos]
   have h0:=HPRE.out
   rw [hk2,List.take_length] at h0
   exact h0
  rw [hm]
  clear hk2
  iterate 6 all_goals try first | with_reducible refine splitI (fun h=>?_) fun h=>?_ | with_reducible refine splitBI (fun h=>?_) fun h=>?_ | simp (maxSteps:=999999) (disch:=first | assumption | omega | (simp; done) | fail) [Tryd.results26, *]
  exact ⟨Nat.le_succ n,fun b hb=>gput_lt hb⟩
end Go.Ai
end
section
namespace Go.Ai
open Go.Proofs
set_option maxRecDepth 10000
set_option maxHeartbeats 40000000
theorem small_w:∀ (m:Nat),m≤1000000→∀ (x:NodeM),sizeN x≤m→∀ (g:Nat→Option Blk) (n p:Nat) (cs:List AV) (left:Int),repN g n x cs→p < n→g p=some (.cells [.lit (.int .i64 left)] true 0)→0≤left→left≤1000000 →
    WC 6 Tryd.prog 43 [.agg cs,.ptr p 0] ⟨.fn g,n⟩ fun r=>r=.ret (.lit (.bool (smallM x left).1)) ⟨.fn (gput g p (some (.cells [.lit (.int .i64 (smallM x left).2)] true 0))),n⟩:=by
  intro m
  induction m with
  | zero=>intro _ x hx; cases x; unfold sizeN at hx; omega
  | succ m ihm =>
    intro hm x hx g n p cs left hr hp hgp h0 h1
    have IH:=Hide.mk ihm
    clear ihm
    refine WC.drop2 rfl rfl ?_
    cases x with
    | mk op k kb subs =>
      obtain ⟨hop,sv,rfl,hsv⟩:=hr
      rw [smallM]
      obtain ⟨sv',hq⟩ : ∃ sv',Hide (sv'=sv):=⟨_,⟨rfl⟩⟩
      have hsz:sizeL subs≤m:=by unfold sizeN at hx; omega
      have hlen:subs.length≤1000000:=Nat.le_trans (len_size subs) (by omega)
      rcases hsv with ⟨hsub,rfl | rfl⟩ | ⟨a,off,r,han,⟨c,rfl⟩ | ⟨c,rfl⟩,hrow,hrep⟩
      all_goals refine WC.enterP (noO_ok _ _) hG [] Tryd.func43 rfl (by decide +kernel) (Nat.le_of_ble_eq_true (by kernel_rfl)) ?_
      all_goals iterate 14 (all_goals try (first | with_reducible refine splitI (fun h=>?_) (fun h=>?_) | with_reducible refine splitBI (fun h=>?_) (fun h=>?_) | simp (disch:=first | assumption | omega | (simp; done) | fail) [Tryd.results43, *]))
      all_goals
        refine LX.ind (fun m gf H'=>∃ (k n' : Nat) (g' : Nat→Option Blk) (left' : Int),k≤subs.length∧m=subs.length - k∧H'=⟨.fn g',n'⟩∧n≤n'∧(∀ b,b < n→b≠p→g' b=g b)∧g' p=some (.cells [.lit (.int .i64 left')] true 0) ∧
          -1≤left'∧left'≤1000000∧gf 1=some (.ptr p 0)∧gf 13=some sv'∧gf 14=some (.lit (.int .i64 subs.length))∧gf 15=some (.lit (.int .i64 k))∧smallL subs (left - 1)=smallL (subs.drop k) left') (m0:=subs.length) ?_ ?_
        · refine ⟨0,_,_,left - 1,Nat.zero_le _,rfl,rfl,by omega,fun b hb hne=>?_,?_,by omega,by omega,by simp,by simp [hq.out],by simp [*],by simp,rfl⟩
          · unfold gput; rw [if_neg hne,if_neg (Nat.ne_of_lt hb)]
          · unfold gput; rw [if_pos rfl]
        rintro m' gf H' ⟨k,n',g',left',hk,rfl,rfl,hn',hg',hgp',hl0,hl1,g1,g13,g14,g15,hc⟩ ih
        refine LX.roundP (noO_ok _ _) hG [] (by decide +kernel) ?_
        rw [hq.out] at g13
        have HG:=Hide.mk hg'
        have HC:=Hide.mk hc
        clear hg' hc
        by_cases hlt:k < subs.length
        · first
          | (exfalso; rw [hsub] at hlt; simp at hlt; done)
          | (have hy0:=repL_at hrep k hlt
             have hrl:=repL_len hrep
             have hap:a≠p:=row_ne hrow hgp (by omega)
             have hrow':=(hrow.mono (HG.out a han hap)).agg (k:=k * 4) (s:=4) (by omega)
             have hdrop:subs.drop k=subs[k] :: subs.drop (k+1):=List.drop_eq_getElem_cons hlt
             have hszy:sizeN subs[k]≤m:=Nat.le_trans (size_mem (List.getElem_mem hlt)) hsz
             generalize subs[k]=y at hy0 hdrop hszy
             obtain ⟨k2,k3,sv2,hcy,h1c,hop2⟩:=repN_one hy0
             rw [hcy] at hrow' hy0
             have h1a:allOne [.lit (.int .u8 y.op),.lit (.int .i64 k2),.lit (.int .i64 k3),sv2]=true:=by simp [h1c]
             have HY:=Hide.mk hy0
             have HD:=Hide.mk hdrop
             have HR:=Hide.mk hrep
             have HR2:=Hide.mk hrow
             clear hy0 hdrop hrep hrow hcy hrl
             iterate 14 (all_goals try (first | with_reducible refine splitI (fun h=>?_) (fun h=>?_) | with_reducible refine splitBI (fun h=>?_) (fun h=>?_) | simp (disch:=first | assumption | omega | (simp; done) | fail) [Tryd.results43, *]))
             · refine ⟨_,_,⟨?_,rfl,rfl⟩,by omega,fun b hb hne=>(gput_lt (by omega)).trans (HG.out b hb hne),?_⟩
               · rw [HC.out,HD.out,smallL,if_pos h]
               · rw [gput_lt (by omega),hgp',HC.out,HD.out,smallL,if_pos h]
             · have hge:¬left' < 0:=h
               have hlo:=smallM_lo y left' (by omega)
               refine (IH.out (by omega) y hszy _ _ p _ left' (repN_put (b':=n'+1) (by omega) (fun a ha hne=>(gput_lt (by omega)).trans (HG.out a ha hne)) hgp ((gput_lt (by omega)).trans hgp') HY.out) (by omega) ((gput_lt (by omega)).trans hgp') (by omega) hl1).mono ?_
               rintro _ rfl
               iterate 10 (all_goals try (first | with_reducible refine splitI (fun h=>?_) (fun h=>?_) | with_reducible refine splitBI (fun h=>?_) (fun h=>?_) | simp (disch:=first | assumption | omega | (simp; done) | fail) [Tryd.results43, *]))
               · refine ih.out (subs.length - (k+1)) _ _ (by omega) ⟨k+1,n'+1,_,(smallM y left').2,hlt,rfl,rfl,by omega,fun b hb hne=>?_,?_,hlo.1,by omega,by simp [*],by simp [*,hq.out],by simp [*],by simp,?_⟩
                 · unfold gput; rw [if_neg hne]; dsimp only; rw [if_neg (by omega)]; exact HG.out b hb hne
                 · unfold gput; rw [if_pos rfl]
                 · rw [HC.out,HD.out,smallL_true hge h]
               · refine ⟨_,_,⟨?_,rfl,rfl⟩,by omega,fun b hb hne=>?_,?_⟩
                 · rw [HC.out,HD.out,smallL_false hge h]
                 · unfold gput; rw [if_neg hne]; dsimp only; rw [if_neg (by omega)]; exact HG.out b hb hne
                 · unfold gput; rw [if_pos rfl,HC.out,HD.out,smallL_false hge h])
        · have HDN:=Hide.mk (List.drop_eq_nil_of_le (by omega) : subs.drop k=[])
          have hkn:k=subs.length:=by omega
          subst hkn
          first | clear hsub | clear hrep hrow
          iterate 10 (all_goals try (first | with_reducible refine splitI (fun h=>?_) (fun h=>?_) | with_reducible refine splitBI (fun h=>?_) (fun h=>?_) | simp (disch:=first | assumption | omega | (simp; done) | fail) [Tryd.results43, *]))
          all_goals
            refine ⟨_,_,⟨?_,rfl,rfl⟩,hn',fun b hb hne=>HG.out b hb hne,?_⟩
            · rw [HC.out,HDN.out,smallL]; simp [h]
            · rw [hgp',HC.out,HDN.out,smallL]
end Go.Ai
end
section
namespace Go.Ai
open Go.Proofs
set_option maxRecDepth 10000
set_option maxHeartbeats 40000000
theorem checked_yes (st inp out:Int) (x:NodeM) (hx:sizeN x≤1000000) (hv:validM st inp out x=true) (hsm:(smallM x 64).1=true) (g:Nat→Option Blk) (n:Nat) (cs:List AV) (hops:g 0=some opsB) (hn0:0 < n) (hr:repN g n x cs) :
  WC 6 Tryd.prog 38 [.agg cs,.lit (.int .i64 st),.lit (.int .i64 inp),.lit (.int .i64 out)] ⟨.fn g,n⟩ fun r=>∃ g' n',r=.ret (.lit (.int .i64 0)) ⟨.fn g',n'⟩∧n≤n'∧∀ b,b < n→g' b=g b:=by
 obtain ⟨k2,k3,sv2,hcy,h1c,hop2⟩:=repN_one hr
 subst hcy
 have h1a:allOne [.lit (.int .u8 x.op),.lit (.int .i64 k2),.lit (.int .i64 k3),sv2]=true:=by simp [h1c]
 have HR:=Hide.mk hr
 clear hr
 refine WC.enterP (noO_ok _ _) hG [] Tryd.func38 rfl (by decide +kernel) (Nat.le_of_ble_eq_true (by kernel_rfl)) ?_
 try simp (maxSteps:=999999) (disch:=first | assumption | omega | (simp; done) | fail) [Tryd.results38, *]
 refine WC.mono (small_w 1000000 (Nat.le_refl _) x hx _ _ (n+1) _ 64 (repN_mono (by omega) (fun a ha=>(by simp (disch:=omega) only [gput_lt])) HR.out) (by omega) (by simp) (by omega) (by omega)) ?_
 rintro _ rfl
 rw [hsm]
 try simp (maxSteps:=999999) (disch:=first | assumption | omega | (simp; done) | fail) [Tryd.results38, *]
 refine WC.mono (valid_yes st inp out 1000000 (Nat.le_refl _) x hx hv _ _ _ (by simp (disch:=omega) only [gput_lt,gput_ne]; exact hops) (by omega) (repN_mono (by omega) (fun a ha=>by simp (disch:=omega) only [gput_lt,gput_ne]) HR.out)) ?_
 rintro _ rfl
 try simp (maxSteps:=999999) (disch:=first | assumption | omega | (simp; done) | fail) [Tryd.results38, *]
 refine ⟨_,_,⟨rfl,rfl⟩,by omega,fun b hb=>?_⟩
 simp (disch:=omega) only [gput_lt,gput_ne]
end Go.Ai
end
section
namespace Go.Ai
open Go.Proofs
set_option maxRecDepth 10000
set_option maxHeartbeats 40000000
theorem ok_len {M:MachM} (hM:M.ok) : ∀ r∈M.rows,r.length≤1000000:=fun r hr=>by
 have h1:=ok_row hM r hr
 have h2:M.inp≤16:=hM.2.1
 omega
theorem Check_yes {M:MachM} (hM:M.ok) (x:NodeM) (hx:sizeN x≤1000000) (hv:validM M.rows.length M.inp M.out x=true) (hsm:(smallM x 64).1=true) (g:Nat→Option Blk) (n:Nat) (ms xs:List AV) (hops:g 0=some opsB) (hn0:0 < n) (hr:RepM g n M ms) (hx0:repN g n x xs) :
  WC 6 Tryd.prog 28 [.agg ms,.agg xs] ⟨.fn g,n⟩ fun r=>∃ g' n',r=.ret (.lit (.int .i64 0)) ⟨.fn g',n'⟩∧n≤n'∧∀ b,b < n→g' b=g b:=by
 have HR:=Hide.mk hr
 have HX:=Hide.mk hx0
 have h0:=mErr_ok.2 hM
 obtain ⟨rv,svs,rfl,hrows,hrv⟩:=hr
 have h1r:=hrv.one
 have h1a:allOne [.lit (.int .i64 M.inp),.lit (.int .i64 M.out),rv]=true:=by simp [h1r]
 have hlen:=@lenV Tryd.prog _ _ _ _ _ hrv
 obtain ⟨k2,k3,sv2,hcy,h1c,hop2⟩:=repN_one hx0
 subst hcy
 have h1b:allOne [.lit (.int .u8 x.op),.lit (.int .i64 k2),.lit (.int .i64 k3),sv2]=true:=by simp [h1c]
 have HM:=Hide.mk (ok_len hM)
 clear hrows hrv hx0
 refine WC.enterP (noO_ok _ _) hG [] Tryd.func28 rfl (by decide +kernel) (Nat.le_of_ble_eq_true (by kernel_rfl)) ?_
 try simp (maxSteps:=999999) (disch:=first | assumption | omega | (simp; done) | fail) [Tryd.results28, *]
 refine WC.mono (mCheck_w HM.out _ _ _ (HR.out.mono (by omega) fun q hq=>by simp (disch:=omega) only [gput_lt])) ?_
 rintro _ rfl
 rw [h0]
 try simp (maxSteps:=999999) (disch:=first | assumption | omega | (simp; done) | fail) [Tryd.results28, *]
 refine WC.mono (checked_yes _ _ _ x hx hv hsm _ _ _ (by simp (disch:=omega) only [gput_lt]; exact hops) (by omega) (repN_mono (by omega) (fun a ha=>(by simp (disch:=omega) only [gput_lt])) HX.out)) ?_
 rintro _ ⟨g1,n1,rfl,hn1,hg1⟩
 have HG:=Hide.mk hg1
 clear hg1
 try simp (maxSteps:=999999) (disch:=first | assumption | omega | (simp; done) | fail) [Tryd.results28, *]
 refine ⟨_,_,⟨rfl,rfl⟩,by omega,fun b hb=>?_⟩
 rw [HG.out b (by omega)]
 simp (disch:=omega) only [gput_lt]
def boolC (N z:Nat) : List AV:=(List.range N).map fun s=>.lit (.bool (z.testBit s))
def boolK (N z k:Nat) : List AV:=(List.range N).map fun s=>.lit (.bool (decide (s < k) && z.testBit s))
theorem boolK_len (N z k:Nat) : (boolK N z k).length=N:=by unfold boolK; rw [List.length_map,List.length_range]
theorem boolK_zero (N z:Nat) : boolK N z 0=List.replicate N (.lit (.bool false)):=by
 unfold boolK
 apply List.ext_getElem
 ·simp
 ·intro i h1 h2; simp
theorem boolK_end (N z:Nat) : boolK N z N=boolC N z:=by
 unfold boolK boolC
 refine List.map_congr_left fun s hs=>?_
 rw [decide_eq_true (List.mem_range.1 hs)]; rfl
theorem boolK_at (N z k i:Nat) : (boolK N z k)[i]?=if i < N then some (.lit (.bool (decide (i < k) && z.testBit i))) else none:=by
 unfold boolK
 rw [List.getElem?_map]
 split
 ·rename_i h; rw [List.getElem?_range h]; rfl
 ·rename_i h; rw [List.getElem?_eq_none (by rw [List.length_range]; omega)]; rfl
theorem boolK_set (N z k:Nat) (hk:k < N) : (boolK N z k).set k (.lit (.bool (z.testBit k)))=boolK N z (k+1):=by
 apply List.ext_getElem?
 intro i
 rw [List.getElem?_set,boolK_at,boolK_at,boolK_len]
 split
 ·rename_i e; subst e
  rw [if_pos hk,decide_eq_true (Nat.lt_succ_self _)]
  first | rfl | (rw [if_pos hk]; rfl)
 ·rename_i e
  rw [show decide (i < k+1)=decide (i < k) by rw [decide_eq_decide]; omega]
theorem Sat_yes {M:MachM} (hM:M.ok) (x:NodeM) (hx:sizeN x≤1000000) (hv:validM M.rows.length M.inp M.out x=true) (hsm:(smallM x 64).1=true) (g:Nat→Option Blk) (n:Nat) (ms xs:List AV) (hops:g 0=some opsB) (hn0:0 < n) (hr:RepM g n M ms) (hx0:repN g n x xs) :
  WC 6 Tryd.prog 11 [.agg ms,.agg xs] ⟨.fn g,n⟩ fun r=>∃ A z g' n',r=.ret (.tup [.sl A 0 M.rows.length M.rows.length,.lit (.int .i64 0)]) ⟨.fn g',n'⟩∧n≤n'∧(∀ b,b < n→g' b=g b)∧n≤A∧A < n'∧g' A=some (.cells (boolC M.rows.length z) true 0)∧semN M x (sOf z):=by
 have HR:=Hide.mk hr
 have HX:=Hide.mk hx0
 obtain ⟨rv,svs,rfl,hrows,hrv⟩:=hr
 have h1r:=hrv.one
 have h1a:allOne [.lit (.int .i64 M.inp),.lit (.int .i64 M.out),rv]=true:=by simp [h1r]
 have hlen:=@lenV Tryd.prog _ _ _ _ _ hrv
 obtain ⟨k2,k3,sv2,hcy,h1c,hop2⟩:=repN_one hx0
 subst hcy
 have h1b:allOne [.lit (.int .u8 x.op),.lit (.int .i64 k2),.lit (.int .i64 k3),sv2]=true:=by simp [h1c]
 have h64:M.rows.length≤64:=hM.2.2.2.2.2.1
 have hz64:(M.rows.length:Int)≤1048576:=by omega
 clear hrows hrv hx0
 refine WC.enterP (noO_ok _ _) hG pl11 Tryd.func11 rfl (by decide +kernel) (Nat.le_of_ble_eq_true (by kernel_rfl)) ?_
 try simp (maxSteps:=999999) (disch:=first | assumption | omega | (simp; done) | fail) [Tryd.results11, *]
 refine WC.mono (Check_yes hM x hx hv hsm _ _ _ _ (by simp (disch:=omega) only [gput_lt]; exact hops) (by omega) (HR.out.mono (by omega) fun q hq=>by simp (disch:=omega) only [gput_lt]) (repN_mono (by omega) (fun a ha=>(by simp (disch:=omega) only [gput_lt])) HX.out)) ?_
 rintro _ ⟨g1,n1,rfl,hn1,hg1⟩
 have HG:Hide (∀ b,b < n→g1 b=g b):=⟨fun b hb=>by rw [hg1 b (by omega)]; simp (disch:=omega) only [gput_lt]⟩
 have e0:g1 n=some (.cells [.lit (.int .i64 M.inp),.lit (.int .i64 M.out),rv] true 0):=by rw [hg1 n (by omega)]; simp (disch:=omega) only [gput_lt,gput_eq]
 have e1:g1 (n+1)=some (.cells [.lit (.int .u8 x.op),.lit (.int .i64 k2),.lit (.int .i64 k3),sv2] true 0):=by rw [hg1 (n+1) (by omega)]; simp (disch:=omega) only [gput_eq]
 clear hg1
 try simp (maxSteps:=999999) (disch:=first | assumption | omega | (simp; done) | fail) [Tryd.results11, *]
 refine WC.mono (graphOf_w hM _ _ _ (HR.out.mono (by omega) fun q hq=>HG.out q hq)) ?_
 rintro _ ⟨cs,g2,n2,rfl,hn2,hg2,hgok⟩
 have HG2:Hide (∀ b,b < n→g2 b=g b):=⟨fun b hb=>by rw [hg2 b (by omega)]; exact HG.out b hb⟩
 have d0:=(hg2 n (by omega)).trans e0
 have d1:=(hg2 (n+1) (by omega)).trans e1
 have HGOK:=Hide.mk hgok
 obtain ⟨rv',nv',hcs,h1r',h1v'⟩:=hgok.one
 subst hcs
 clear hg2 e0 e1 hgok
 try simp (maxSteps:=999999) (disch:=first | assumption | omega | (simp; done) | fail) [Tryd.results11, *]
 refine WC.mono (sat_w hM (sizeN x) x (Nat.le_refl _) hv _ _ _ _ ((HG2.out 0 hn0).trans hops) (by omega) HGOK.out (repN_mono (by omega) (fun a ha=>HG2.out a ha) HX.out)) ?_
 rintro _ ⟨z,rfl,hz,hsem⟩
 have HSEM:=Hide.mk hsem
 clear hsem
 try simp (maxSteps:=999999) (disch:=first | assumption | omega | (simp; done) | fail) [Tryd.results11, *]
 refine LX.ind (fun m gf H'=>∃ (k:Nat) (g' : Nat→Option Blk),k≤M.rows.length∧m=M.rows.length - k∧H'=⟨.fn g',n2+1⟩∧(∀ q,q < n2→g' q=g2 q)∧g' n2=some (.cells (boolK M.rows.length z k) true 0) ∧
  gf 7=some (.lit (.int .u64 (z:Int)))∧gf 8=some (.sl n2 0 M.rows.length M.rows.length)∧gf 25=some (.lit (.int .i64 M.rows.length))∧gf 26=some (.lit (.int .i64 k))) (m0:=M.rows.length) ?_ ?_
 ·refine ⟨0,_,Nat.zero_le _,rfl,rfl,fun q hq=>?_,?_,by simp,by simp,by simp,by simp⟩
  ·simp (disch:=omega) only [gput_lt]
  ·rw [boolK_zero]
   simp (disch:=omega) only [gput_eq]
   try rfl
 rintro m gf H' ⟨k,g3,hk,rfl,rfl,hg3,hA,w7,w8,w25,w26⟩ ih
 have HG3:=Hide.mk hg3
 clear hg3
 refine LX.roundP (noO_ok _ _) hG pl11 (by decide +kernel) ?_
 by_cases hlt:k < M.rows.length
 ·have hltI:(k:Int) < (M.rows.length:Int):=by omega
  have hk63:k≤63:=by omega
  have hul:=boolK_len M.rows.length z k
  have hset:=boolK_set M.rows.length z k hlt
  have HW:=Hide.mk (has_w z k hz hk63)
  have HSET:=Hide.mk hset
  clear hset
  generalize boolK M.rows.length z k=L at *
  generalize z.testBit k=bb at HW HSET
  have hkL:k < L.length:=by omega
  cases bb
  ·have hkl:k+[(.lit (.bool false) : AV)].length≤L.length:=hkL
   try simp (maxSteps:=999999) (disch:=first | assumption | omega | (simp; done) | fail) [Tryd.results11, *]
   refine WC.mono (HW.out _) ?_
   rintro _ rfl
   try simp (maxSteps:=999999) (disch:=first | assumption | omega | (simp; done) | fail) [Tryd.results11, *]
   refine ih.out (M.rows.length - (k+1)) _ _ (by omega) ⟨k+1,_,by omega,rfl,rfl,fun q hq=>?_,?_,by simp [*],by simp [*],by simp [*],by simp⟩
   ·simp (disch:=omega) only [gput_ne]
    exact HG3.out q hq
   ·simp (disch:=omega) only [gput_eq]
    rw [← HSET.out,put_set hkL]
  ·have hkl:k+[(.lit (.bool true) : AV)].length≤L.length:=hkL
   try simp (maxSteps:=999999) (disch:=first | assumption | omega | (simp; done) | fail) [Tryd.results11, *]
   refine WC.mono (HW.out _) ?_
   rintro _ rfl
   try simp (maxSteps:=999999) (disch:=first | assumption | omega | (simp; done) | fail) [Tryd.results11, *]
   refine ih.out (M.rows.length - (k+1)) _ _ (by omega) ⟨k+1,_,by omega,rfl,rfl,fun q hq=>?_,?_,by simp [*],by simp [*],by simp [*],by simp⟩
   ·simp (disch:=omega) only [gput_ne]
    exact HG3.out q hq
   ·simp (disch:=omega) only [gput_eq]
    rw [← HSET.out,put_set hkL]
 ·have hltI:¬(k:Int) < (M.rows.length:Int):=by omega
  have hk2:k=M.rows.length:=by omega
  have HK2:=Hide.mk hk2
  clear hk2
  try simp (maxSteps:=999999) (disch:=first | assumption | omega | (simp; done) | fail) [Tryd.results11, *]
  refine ⟨_,z,_,_,⟨rfl,rfl,rfl⟩,by omega,fun q hq=>by rw [HG3.out q (by omega)]; exact HG2.out q hq,by omega,by omega,?_,HSEM.out⟩
  rw [← boolK_end]
  have:=hA
  rw [HK2.out] at this
  exact this
end Go.Ai
end
section
namespace Go.Ai
open Go.Proofs
set_option maxRecDepth 10000
set_option maxHeartbeats 40000000
theorem clip_slq (a off len d:Nat) (hl:0 < len) (H:Mem) : WC 6 Tryd.prog 66 [.slq a off len d] H fun r=>r=.ret (.sl a off len len) H:=by
 refine WC.ofFn ?_
 refine WC.enterP (noO_ok _ _) hG [] Tryd.func66 rfl (by decide +kernel) (Nat.le_of_ble_eq_true (by kernel_rfl)) ?_
 try simp (maxSteps:=999999) (disch:=first | assumption | omega | (simp; done) | fail) [Tryd.results66, *]
theorem clip_sl (a off len c:Nat) (hl:0 < len) (hc:len≤c) (H:Mem) : WC 6 Tryd.prog 66 [.sl a off len c] H fun r=>r=.ret (.sl a off len len) H:=by
 refine WC.ofFn ?_
 refine WC.enterP (noO_ok _ _) hG [] Tryd.func66 rfl (by decide +kernel) (Nat.le_of_ble_eq_true (by kernel_rfl)) ?_
 try simp (maxSteps:=999999) (disch:=first | assumption | omega | (simp; done) | fail) [Tryd.results66, *]
theorem clip_nil (H:Mem) : WC 6 Tryd.prog 66 [.lit (.slice none 0 0)] H fun r=>r=.ret (.lit (.slice none 0 0)) H:=by
 refine WC.ofFn ?_
 refine WC.enterP (noO_ok _ _) hG [] Tryd.func66 rfl (by decide +kernel) (Nat.le_of_ble_eq_true (by kernel_rfl)) ?_
 try simp (maxSteps:=999999) (disch:=first | assumption | omega | (simp; done) | fail) [Tryd.results66, *]
end Go.Ai
end
section
namespace Go.Ai
open Go.Proofs
set_option maxRecDepth 10000
set_option maxHeartbeats 40000000
def wordC (l:List Nat) : List AV:=l.map fun (x:Nat)=>.lit (.int .i64 (x:Int))
theorem wordC_len (l:List Nat) : (wordC l).length=l.length:=by unfold wordC; simp
theorem wordC_at (l:List Nat) (i:Nat) : (wordC l)[i]?=l[i]?.map fun (x:Nat)=>AV.lit (.int .i64 (x:Int)):=by unfold wordC; simp
def revK (l:List Nat) (k:Nat) : List Nat:=(List.range l.length).map fun p=>if p < k∨l.length - k≤p then l.getD (l.length - 1 - p) 0 else l.getD p 0
theorem revK_len (l:List Nat) (k:Nat) : (revK l k).length=l.length:=by unfold revK; simp
theorem revK_at (l:List Nat) (k i:Nat) (h:i < l.length) : (revK l k)[i]?=some (if i < k∨l.length - k≤i then l.getD (l.length - 1 - i) 0 else l.getD i 0):=by
 unfold revK; simp [h]
theorem revK_zero (l:List Nat) : revK l 0=l:=by
 refine List.ext_getElem? fun i=>?_
 by_cases h:i < l.length
 ·rw [revK_at l 0 i h]
  have:¬(i < 0∨l.length - 0≤i):=by omega
  rw [if_neg this,List.getD_eq_getElem?_getD,List.getElem?_eq_getElem h]; rfl
 ·rw [List.getElem?_eq_none (by rw [revK_len]; omega),List.getElem?_eq_none (by omega)]
theorem revK_end (l:List Nat) (k:Nat) (h:l.length≤2 * k+1) : revK l k=l.reverse:=by
 refine List.ext_getElem? fun i=>?_
 by_cases hi:i < l.length
 ·rw [revK_at l k i hi,List.getElem?_reverse hi]
  have hg:l.getD (l.length - 1 - i) 0=l[l.length - 1 - i]'(by omega):=by
   rw [List.getD_eq_getElem?_getD,List.getElem?_eq_getElem (by omega)]; rfl
  rw [List.getElem?_eq_getElem (by omega),← hg]
  split
  ·rfl
  ·rename_i hc
   have:i=l.length - 1 - i:=by omega
   rw [← this]
 ·rw [List.getElem?_eq_none (by rw [revK_len]; omega),List.getElem?_eq_none (by rw [List.length_reverse]; omega)]
theorem revK_swap (l:List Nat) (k:Nat) (h:2 * k+1 < l.length) : ((wordC (revK l k)).set k (.lit (.int .i64 (l.getD (l.length - 1 - k) 0:Nat)))).set (l.length - 1 - k) (.lit (.int .i64 (l.getD k 0:Nat)))=wordC (revK l (k+1)):=by
 refine List.ext_getElem? fun i=>?_
 by_cases hi:i < l.length
 ·rw [wordC_at,revK_at l (k+1) i hi]
  by_cases h1:l.length - 1 - k=i
  ·subst h1
   rw [List.getElem?_set_self (by rw [List.length_set,wordC_len,revK_len]; exact hi)]
   have:l.length - 1 - k < k+1∨l.length - (k+1)≤l.length - 1 - k:=by omega
   rw [if_pos this,show l.length - 1 - (l.length - 1 - k)=k by omega]; rfl
  ·rw [List.getElem?_set_ne h1]
   by_cases h2:k=i
   ·subst h2
    rw [List.getElem?_set_self (by rw [wordC_len,revK_len]; exact hi)]
    have:k < k+1∨l.length - (k+1)≤k:=by omega
    rw [if_pos this]; rfl
   ·rw [List.getElem?_set_ne h2,wordC_at,revK_at l k i hi]
    by_cases h3:i < k∨l.length - k≤i
    ·have:i < k+1∨l.length - (k+1)≤i:=by omega
     rw [if_pos h3,if_pos this]
    ·have:¬(i < k+1∨l.length - (k+1)≤i):=by omega
     rw [if_neg h3,if_neg this]
 ·rw [List.getElem?_eq_none (by simp [wordC_len,revK_len]; omega),List.getElem?_eq_none (by simp [wordC_len,revK_len]; omega)]
theorem rev_w (a d m:Nat) (l:List Nat) (hl:l.length≤1000000) (g:Nat→Option Blk) (hg:g a=some (.cells (wordC l) true 1)) (ha:a < m) :
  WC 6 Tryd.prog 65 [.slq a 0 l.length d] ⟨.fn g,m⟩ fun r=>∃ u g',r=.ret u ⟨.fn g',m⟩∧g' a=some (.cells (wordC l.reverse) true 1)∧∀ b,b≠a→g' b=g b:=by
 refine WC.enterP (noO_ok _ _) hG pl65 Tryd.func65 rfl (by decide +kernel) (Nat.le_of_ble_eq_true (by kernel_rfl)) ?_
 try simp (maxSteps:=999999) (disch:=first | assumption | omega | (simp; done) | fail) [Tryd.results65, *]
 refine LX.ind (fun q gf H'=>∃ (k:Nat) (gL:Nat→Option Blk),2 * k≤l.length+1∧q=l.length - k∧H'=⟨.fn gL,m⟩∧gL a=some (.cells (wordC (revK l k)) true 1)∧(∀ b,b≠a→gL b=g b) ∧
  gf 0=some (.slq a 0 l.length d)∧gf 2=some (.lit (.int .i64 (k:Int)))∧gf 3=some (.lit (.int .i64 ((l.length:Int) - 1 - k)))) (m0:=l.length) ?_ ?_
 ·exact ⟨0,g,by omega,by omega,rfl,by rw [revK_zero]; exact hg,fun _ _=>rfl,by simp,by simp,by simp⟩
 rintro q gf H' ⟨k,gL,hk,rfl,rfl,hgL,hot,w0,w2,w3⟩ ih
 have HO:=Hide.mk hot
 have HL:=Hide.mk hgL
 clear hot hgL
 refine LX.roundP (noO_ok _ _) hG pl65 (by decide +kernel) ?_
 by_cases hlt:2 * k+1 < l.length
 ·have hltI:(k:Int) < (l.length:Int) - 1 - k:=by omega
  have e1:((l.length:Int) - 1 - k).toNat=l.length - 1 - k:=by omega
  have hgL:=HL.out
  have c1:(wordC (revK l k))[k]?=some (.lit (.int .i64 ((l.getD k 0:Nat) : Int))):=by
   rw [wordC_at,revK_at l k k (by omega),if_neg (by omega)]; rfl
  have c2:(wordC (revK l k))[l.length - 1 - k]?=some (.lit (.int .i64 ((l.getD (l.length - 1 - k) 0:Nat) : Int))):=by
   rw [wordC_at,revK_at l k _ (by omega),if_neg (by omega)]; rfl
  have h5:(wordC (revK l k)).length=l.length:=by rw [wordC_len,revK_len]
  have h6:k < (wordC (revK l k)).length:=by omega
  have h7:l.length - 1 - k < (wordC (revK l k)).length:=by omega
  have hsw:=revK_swap l k hlt
  rw [List.getElem?_eq_getElem h6,Option.some.injEq] at c1
  rw [List.getElem?_eq_getElem h7,Option.some.injEq] at c2
  generalize wordC (revK l k)=L at *
  generalize l.getD k 0=v1 at *
  generalize l.getD (l.length - 1 - k) 0=v2 at *
  have h8:l.length - 1 - k < (L.set k (.lit (.int .i64 (v2:Int)))).length:=by rw [List.length_set]; exact h7
  have HS:=Hide.mk hsw
  clear hsw
  try simp (maxSteps:=999999) (disch:=first | assumption | omega | (simp; done) | fail) [Tryd.results65, *]
  refine ih.out (l.length - (k+1)) _ _ (by omega) ⟨k+1,_,by omega,rfl,rfl,?_,?_,?_,?_,?_⟩
  ·rw [← HS.out]; simp
  ·intro b hb
   rw [← HO.out b hb]
   exact if_neg hb
  ·simp [*]
  ·simp
  ·simp; omega
 ·have hltI:¬(k:Int) < (l.length:Int) - 1 - k:=by omega
  try simp (maxSteps:=999999) (disch:=first | assumption | omega | (simp; done) | fail) [Tryd.results65, *]
  exact ⟨_,gL,⟨rfl,rfl⟩,by rw [HL.out,revK_end l k (by omega)],fun b hb=>HO.out b hb⟩
end Go.Ai
end
section
namespace Go.Ai
open Go.Proofs
set_option maxRecDepth 10000
set_option maxHeartbeats 40000000
theorem im126:isImap Tryd.prog 126=some (.agg #[.int .i64 0,.int .i64 0]):=by kernel_rfl
attribute [simp] im126
def WordV (g:Nat→Option Blk) (lo hi:Nat) (v:AV) (w:List Nat) : Prop :=
 (w=[]∧v=.lit (.slice none 0 0))∨(w≠[]∧∃ A own z,v=.sl A 0 w.length w.length∧lo≤A∧A < hi∧g A=some (.cells (wordC w) own z))
def OrdV (g:Nat→Option Blk) (lo hi B:Nat) (v:AV) (l:List Nat) : Prop :=
 lo≤B∧B < hi∧((∃ own z,l.length=1∧v=.sl B 0 1 1∧g B=some (.cells (wordC l) own z))∨(v=.slq B 0 l.length 0∧g B=some (.cells (wordC l) true 1)))
theorem OrdV.keep {g g' : Nat→Option Blk} {lo hi hi2 B:Nat} {v:AV} {l:List Nat} (h:OrdV g lo hi B v l) (hh:hi≤hi2) (hg:lo≤B→B < hi→g' B=g B) : OrdV g' lo hi2 B v l:=by
 obtain ⟨h1,h2,h3⟩:=h
 refine ⟨h1,by omega,?_⟩
 rw [hg h1 h2]
 exact h3
theorem withOk_true (v:AV) (b:Bool) : withOk true v b=.tup [v,.lit (.bool b)]:=(rfl)
theorem withOk_false (v:AV) (b:Bool) : withOk false v b=v:=(rfl)
theorem cellsOf_zero2:cellsOf (.lit (.agg #[.int .i64 0,.int .i64 0]))=[.lit (.int .i64 0),.lit (.int .i64 0)]:=(rfl)
attribute [simp] withOk_true withOk_false cellsOf_zero2
theorem SliceV.ia {P:Program} {g:Nat→Option Blk} {b len:Nat} {sv:AV} {cs:List AV} (h:SliceV g b sv len cs) {k:Nat} (hk:k < len) (sz:Nat) :
  ∃ a off,a < b∧Row g a off cs∧∀ {H:Mem} {ev:Ev} {o:Oper} {t:TypeId},iaS P H ev o t (some (none,sz)) (some sv) (some (.lit (.int .i64 (k:Int))))=.val (.ptr a (off+k * sz)) H:=by
 rcases h with ⟨h1,_⟩ | ⟨a,off,ha,⟨c,rfl⟩ | ⟨c,rfl⟩,hrow⟩
 ·omega
 ·refine ⟨a,off,ha,hrow,?_⟩
  intro H ev o t
  rw [iaS_sl (by omega) (by omega)]
  simp
 ·refine ⟨a,off,ha,hrow,?_⟩
  intro H ev o t
  rw [iaS_slq (by omega) (by omega)]
  simp
theorem bRow_cons (b:Nat→Bool) (w:List Nat) (e:Int×Int) (es:List (Int×Int)) (i:Nat) (st:List (Nat×List Nat)) : bRow b w (e :: es) i st=if e.1 < 0 then bRow b w es (i+1) st
  else if b e.1.toNat then .inl (w++[i])
  else if e.1.toNat∈st.map (·.1) then bRow b w es (i+1) st
  else bRow b w es (i+1) (st++[(e.1.toNat,w++[i])]):=rfl
theorem wordC_snoc (l:List Nat) (x:Nat) : wordC (l++[x])=wordC l++[.lit (.int .i64 (x:Int))]:=by unfold wordC; simp
theorem wordC_one (l:List Nat) : allOne (wordC l)=true:=by
 unfold wordC
 induction l with
 | nil=>rfl
 | cons x l ih=>simpa [allOne] using ih
theorem rev1_w (a:Nat) (g:Nat→Option Blk) (n:Nat) : WC 6 Tryd.prog 65 [.sl a 0 1 1] ⟨.fn g,n⟩ fun r=>r=.ret (.tup []) ⟨.fn g,n⟩:=by
 refine WC.enterP (noO_ok _ _) hG pl65 Tryd.func65 rfl (by decide +kernel) (Nat.le_of_ble_eq_true (by kernel_rfl)) ?_
 try simp (maxSteps:=999999) (disch:=first | assumption | omega | (simp; done) | fail) [Tryd.results65, *]
 refine LX.ind (fun q gf H'=>H'=⟨.fn g,n⟩∧gf 0=some (.sl a 0 1 1)∧gf 2=some (.lit (.int .i64 0))∧gf 3=some (.lit (.int .i64 0))) (m0:=0) ?_ ?_
 ·exact ⟨rfl,by simp,by simp,by simp⟩
 rintro q gf H' ⟨rfl,w0,w2,w3⟩ ih
 refine LX.roundP (noO_ok _ _) hG pl65 (by decide +kernel) ?_
 try simp (maxSteps:=999999) (disch:=first | assumption | omega | (simp; done) | fail) [Tryd.results65, *]
theorem way_w {M:MachM} (hM:M.ok) {nx:List Nat} {all:Nat} (s a b:Nat) (steps:Int) (hs:s < M.rows.length) (ha:a < 18446744073709551616) (hb:b < 18446744073709551616) (g:Nat→Option Blk) (n:Nat) (cs:List AV) (hr:GOK g n M nx all cs) :
  WC 6 Tryd.prog 49 [.agg cs,.lit (.int .i64 s),.lit (.int .u64 a),.lit (.int .u64 b),.lit (.int .i64 steps)] ⟨.fn g,n⟩ fun r=>∃ v g' n',r=.ret v ⟨.fn g',n'⟩∧n≤n'∧(∀ q,q < n→g' q=g q)∧WordV g' n n' v ((wayM M s (fun u=>a.testBit u) (fun u=>b.testBit u) steps).getD []):=by
 obtain ⟨⟨rv,nv,rfl,⟨rv2,svs,e1,hrows,hrv⟩,hV⟩,hgr⟩:=hr
 cases e1
 have h1r:=hrv.one
 have h1v:=hV.one
 have h1a:allOne [.lit (.int .i64 M.inp),.lit (.int .i64 M.out),rv,nv,.lit (.int .u64 (all:Int))]=true:=by simp [h1r,h1v]
 have h64:M.rows.length≤64:=hM.2.2.2.2.2.1
 have hs63:s≤63:=by omega
 have hsl:=hrows.len
 have HROW:=Hide.mk hrows
 have HRV:=Hide.mk hrv
 have HM:=Hide.mk hM
 clear hrows hrv hV hgr hM
 have HRET:Hide (wayM M s (fun u=>a.testBit u) (fun u=>b.testBit u) steps=if steps=0∧b.testBit s=true then some [] else bfs M (fun u=>a.testBit u) (fun u=>b.testBit u) (M.rows.length+1) 0 [(s,[])]):=⟨rfl⟩
 generalize wayM M s (fun u=>a.testBit u) (fun u=>b.testBit u) steps=WM at *
 refine WC.enterP (noO_ok _ _) hG pl49 Tryd.func49 rfl (by decide +kernel) (Nat.le_of_ble_eq_true (by kernel_rfl)) ?_
 by_cases hq:steps=0∧b.testBit s=true
 ·obtain ⟨rfl,hbs⟩:=hq
  try simp (maxSteps:=999999) (disch:=first | assumption | omega | (simp; done) | fail) [Tryd.results49, *]
  refine WC.mono (has_w b s hb hs63 _) ?_
  rintro _ rfl
  try simp (maxSteps:=999999) (disch:=first | assumption | omega | (simp; done) | fail) [Tryd.results49, *]
  refine ⟨_,_,_,⟨rfl,rfl,rfl⟩,by omega,fun q hq=>gput_lt hq,Or.inl ⟨?_,rfl⟩⟩
  rw [HRET.out,if_pos ⟨rfl,hbs⟩]; rfl
 have hWM:=HRET.out
 rw [if_neg hq] at hWM
 have HWM:=Hide.mk hWM
 clear hWM HRET
 have hsplit:(¬steps=0)∨(steps=0∧b.testBit s=false):=by
  by_cases h0:steps=0
  ·right
   refine ⟨h0,?_⟩
   cases hbs:b.testBit s with
   | false=>rfl
   | true=>exact absurd ⟨h0,hbs⟩ hq
  ·exact Or.inl h0
 clear hq
 rcases hsplit with hst | ⟨hst,hbs⟩
 all_goals try (
  have h0:=hbs
  try simp (maxSteps:=999999) (disch:=first | assumption | omega | (simp; done) | fail) [Tryd.results49, *]
  refine WC.mono (has_w b s hb hs63 _) ?_
  rintro _ rfl)
 all_goals
  try simp (maxSteps:=999999) (disch:=first | assumption | omega | (simp; done) | fail) [Tryd.results49, *]
  refine LX.ind (fun m gf H'=>∃ (k n' : Nat) (gL:Nat→Option Blk) (st:List (Nat×List Nat)) (by_:List (Int×AV×Nat)) (c B:Nat) (ov:AV),k≤st.length∧m=M.rows.length+1 - k∧H'=⟨.fn gL,n'⟩∧n+1+1+1≤n'∧(∀ q,q < n→gL q=g q) ∧
   gL n=some (.cells [.lit (.int .i64 M.inp),.lit (.int .i64 M.out),rv,nv,.lit (.int .u64 (all:Int))] true 0)∧gL (n+1)=some (.map (imap by_) c)∧OrdV gL (n+1+1) n' B ov (st.map (·.1))∧BOK M.rows.length s st∧ByOK s st by_ ∧
   WM=bfs M (fun u=>a.testBit u) (fun u=>b.testBit u) (M.rows.length+1 - k) k st ∧
   gf 1=some (.lit (.int .i64 s))∧gf 2=some (.lit (.int .u64 a))∧gf 3=some (.lit (.int .u64 b))∧gf 5=some (.ptr n 0)∧gf 11=some (.map (n+1))∧gf 12=some ov∧gf 13=some (.lit (.int .i64 (k:Int)))) (m0:=M.rows.length+1) ?_ ?_
  ·refine ⟨0,_,_,[(s,[])],[],0,n+1+1,.sl (n+1+1) 0 1 1,by simp,rfl,rfl,by omega,fun q hq=>?_,?_,?_,⟨by omega,by omega,Or.inl ⟨true,0,rfl,rfl,?_⟩⟩,.start hs,.start,HWM.out,by simp,by simp,by simp,by simp,by simp,by simp,by simp⟩
   ·simp (disch:=omega) only [gput_lt]
   ·simp (disch:=omega) only [gput_lt,gput_eq]
   ·simp (disch:=omega) only [gput_lt,gput_eq]
    rfl
   ·simp only [gput_eq]
    rfl
  rintro m gf H' ⟨k,n1,g1,st,by_,c,B,ov,hk,rfl,rfl,hn1,hg1,e0,e1,hov,hbok,hby,hwm,w1,w2,w3,w5,w11,w12,w13⟩ ih
  have HG1:=Hide.mk hg1
  have HOV:=Hide.mk hov
  have HBK:=Hide.mk hbok
  have HBY:=Hide.mk hby
  have HW:=Hide.mk hwm
  clear hg1 hov hbok hby hwm
  have hstl:=HBK.out.len
  refine LX.roundP (noO_ok _ _) hG pl49 (by decide +kernel) ?_
  have hlen:∀ {H:Mem} {ev:Ev} {o:Oper} {c:Call} {e:TypeId},lenS Tryd.prog H ev o c (some (.slice e)) (some [ov])=.val (.lit (.int .i64 st.length)) H:=by
   intro H ev o c e
   obtain ⟨_,_,⟨_,_,h1,rfl,_⟩ | ⟨rfl,_⟩⟩:=HOV.out
   ·rw [List.length_map] at h1; rw [h1]; rfl
   ·rw [List.length_map]; rfl
  have h1o:oneC ov=true:=by
   obtain ⟨_,_,⟨_,_,h1,rfl,_⟩ | ⟨rfl,_⟩⟩:=HOV.out <;> rfl
  by_cases hlt:k < st.length
  ·have hltI:(k:Int) < (st.length:Int):=by omega
   obtain ⟨q,hq⟩ : ∃ q,st[k]?=some q:=⟨st[k],List.getElem?_eq_getElem hlt⟩
   have hqN:=HBK.out.lt q (List.mem_of_getElem? hq)
   have hq63:q.1≤63:=by omega
   have hcell:(wordC (st.map (·.1)))[k]?=some (.lit (.int .i64 (q.1:Int))):=by
    rw [wordC_at,List.getElem?_map,hq]; rfl
   have HQ:=Hide.mk hq
   clear hq
   obtain ⟨qs,qw⟩:=q
   dsimp only at hqN hq63 hcell HQ
   have hia:∃ own z,g1 B=some (.cells (wordC (st.map (·.1))) own z)∧∀ {H:Mem} {ev:Ev} {o:Oper} {t:TypeId},iaS Tryd.prog H ev o t (some (none,1)) (some ov) (some (.lit (.int .i64 (k:Int))))=.val (.ptr B k) H:=by
    obtain ⟨_,_,⟨own,z,h1,rfl,h2⟩ | ⟨rfl,h2⟩⟩:=HOV.out
    ·rw [List.length_map] at h1
     refine ⟨own,z,h2,?_⟩
     intro H ev o t
     rw [iaS_sl (by omega) (by omega)]
     simp
    ·refine ⟨true,1,h2,?_⟩
     intro H ev o t
     rw [List.length_map]
     rw [iaS_slq (by omega) (by omega)]
     simp
   obtain ⟨own,z,hgB,hia⟩:=hia
   have hkl:k < (wordC (st.map (·.1))).length:=by rw [wordC_len,List.length_map]; exact hlt
   rw [List.getElem?_eq_getElem hkl,Option.some.injEq] at hcell
   generalize hL:wordC (st.map (·.1))=L at *
   have HL:=Hide.mk hL
   have HGB:=Hide.mk hgB
   clear hL
   have hbst:Hide (WM=if a.testBit qs=true then (match bRow (fun u=>b.testBit u) qw (M.rows.getD qs []) 0 st with
    | .inl w=>some w
    | .inr st'=>bfs M (fun u=>a.testBit u) (fun u=>b.testBit u) (M.rows.length - k) (k+1) st') else bfs M (fun u=>a.testBit u) (fun u=>b.testBit u) (M.rows.length - k) (k+1) st):=by
    refine ⟨?_⟩
    rw [HW.out,show M.rows.length+1 - k=(M.rows.length - k)+1 by omega]
    show (match st[k]? with
     | none=>none
     | some q=>_)=_
    rw [HQ.out]
    rfl
   cases has:a.testBit qs with
   | false =>
    try simp (maxSteps:=999999) (disch:=first | assumption | omega | (simp; done) | fail) [Tryd.results49, *]
    refine WC.mono (has_w a qs ha hq63 _) ?_
    rintro _ rfl
    try simp (maxSteps:=999999) (disch:=first | assumption | omega | (simp; done) | fail) [Tryd.results49, *]
    refine ih.out (M.rows.length+1 - (k+1)) _ _ (by omega) ⟨k+1,n1,g1,st,by_,c,B,ov,by omega,rfl,rfl,hn1,HG1.out,e0,e1,by rw [← HL.out] at HGB; exact HOV.out,HBK.out,HBY.out,?_,by simp [*],by simp [*],by simp [*],by simp [*],by simp [*],by simp [*],by simp⟩
    rw [hbst.out,has,show M.rows.length+1 - (k+1)=M.rows.length - k by omega]
    rfl
   | true =>
    try simp (maxSteps:=999999) (disch:=first | assumption | omega | (simp; done) | fail) [Tryd.results49, *]
    refine WC.mono (has_w a qs ha hq63 _) ?_
    rintro _ rfl
    have hR:=HROW.out.at qs hqN (by omega)
    obtain ⟨a2,off,ha2,hrow,hia2⟩:=HRV.out.ia (P:=Tryd.prog) hqN 1
    have hcell:=(hrow.mono (HG1.out a2 ha2)).one (k:=qs) (s:=1) (by omega)
    rw [Nat.mul_one] at hia2
    have hgd:M.rows.getD qs []=M.rows[qs]:=by rw [List.getD_eq_getElem?_getD,List.getElem?_eq_getElem hqN]; rfl
    have hre:=ok_row_edge HM.out (List.getElem_mem hqN)
    have hltr:=edges_lt HM.out _ (List.getElem_mem hqN)
    have hr16:M.rows[qs].length≤16:=by
     have h1:=ok_row HM.out _ (List.getElem_mem hqN)
     have h2:M.inp≤16:=HM.out.2.1
     omega
    rw [hgd,has] at hbst
    rw [if_pos rfl] at hbst
    generalize svs[qs]'(by omega)=sv at hR hcell
    generalize M.rows[qs]=row at hR hre hr16 hbst hltr
    have HLTR:=Hide.mk hltr
    clear hltr
    clear hgd
    have hlen2:=@lenV Tryd.prog _ _ _ _ _ hR
    have h1sv:=hR.one
    have HRE:=Hide.mk hre
    have HRR:=Hide.mk hR
    clear hre hR hrow
    have hbo:=HBK.out
    have hbyo:=HBY.out
    try simp (maxSteps:=999999) (disch:=first | assumption | omega | (simp; done) | fail) [Tryd.results49, *]
    refine LX.ind (fun m gf H'=>∃ (j n' : Nat) (gL:Nat→Option Blk) (st2:List (Nat×List Nat)) (by_:List (Int×AV×Nat)) (c B:Nat) (ov:AV),j≤row.length∧m=row.length - j∧H'=⟨.fn gL,n'⟩∧n+1+1+1≤n'∧(∀ q,q < n→gL q=g q) ∧
     gL n=some (.cells [.lit (.int .i64 M.inp),.lit (.int .i64 M.out),rv,nv,.lit (.int .u64 (all:Int))] true 0)∧gL (n+1)=some (.map (imap by_) c)∧OrdV gL (n+1+1) n' B ov (st2.map (·.1))∧BOK M.rows.length s st2∧ByOK s st2 by_∧st2[k]?=some (qs,qw) ∧
     bRow (fun u=>b.testBit u) qw row 0 st=bRow (fun u=>b.testBit u) qw (row.drop j) j st2 ∧
     gf 1=some (.lit (.int .i64 s))∧gf 2=some (.lit (.int .u64 a))∧gf 3=some (.lit (.int .u64 b))∧gf 5=some (.ptr n 0)∧gf 11=some (.map (n+1))∧gf 12=some ov∧gf 13=some (.lit (.int .i64 (k:Int))) ∧
     gf 14=some (.lit (.int .i64 (qs:Int)))∧gf 49=some sv∧gf 50=some (.lit (.int .i64 row.length))∧gf 51=some (.lit (.int .i64 (j:Int)))) (m0:=row.length) ?_ ?_
    ·exact ⟨0,n1,g1,st,by_,c,B,ov,by omega,by omega,rfl,hn1,HG1.out,e0,e1,HOV.out,hbo,hbyo,HQ.out,by simp,by simp [*],by simp [*],by simp [*],by simp [*],by simp [*],by simp [*],by simp [*],by simp [*],by simp [*],by simp [*],by simp⟩
    clear hbo hbyo
    rintro m gf H' ⟨j,n2,g2,st2,by2,c2,B2,ov2,hj,rfl,rfl,hn2,hg2,d0,d1,hov2,hbok2,hby2,hq2,hbr,x1,x2,x3,x5,x11,x12,x13,x14,x49,x50,x51⟩ ihj
    have HG2:=Hide.mk hg2
    have HOV2:=Hide.mk hov2
    have HBK2:=Hide.mk hbok2
    have HBY2:=Hide.mk hby2
    have HQ2:=Hide.mk hq2
    have HBR:=Hide.mk hbr
    clear hg2 hov2 hbok2 hby2 hq2 hbr
    refine LX.roundP (noO_ok _ _) hG pl49 (by decide +kernel) ?_
    by_cases hjt:j < row.length
    ·have hjtI:(j:Int) < (row.length:Int):=by omega
     obtain ⟨a3,off3,ha3,hrow3,hia3⟩:=HRR.out.ia (P:=Tryd.prog) hjt 2
     have hagg:=(hrow3.mono (HG2.out a3 ha3)).agg (k:=j * 2) (s:=2) (by rw [rowC_len]; omega)
     rw [rowC_at row j hjt] at hagg
     have hre:=HRE.out _ (List.getElem_mem hjt)
     have HJM:=Hide.mk (List.getElem_mem hjt)
     have hdr:row.drop j=row[j] :: row.drop (j+1):=List.drop_eq_getElem_cons hjt
     have hbr:=HBR.out
     rw [hdr] at hbr
     generalize row[j]=e at hagg hre hbr HJM
     obtain ⟨to,out⟩:=e
     dsimp only at hagg hre
     have HBR2:=Hide.mk hbr
     clear hbr hrow3 hdr
     by_cases ht:to = -1
     ·subst ht
      try simp (maxSteps:=999999) (disch:=first | assumption | omega | (simp; done) | fail) [Tryd.results49, *]
      refine ihj.out (row.length - (j+1)) _ _ (by omega) ⟨j+1,n2+1,_,st2,by2,c2,B2,ov2,by omega,rfl,rfl,by omega,fun q hq=>?_,?_,?_,?_,HBK2.out,HBY2.out,HQ2.out,?_,by simp [*],by simp [*],by simp [*],by simp [*],by simp [*],by simp [*],by simp [*],by simp [*],by simp [*],by simp [*],by simp⟩
      ·rw [gput_lt (by omega)]; exact HG2.out q hq
      ·rw [gput_lt (by omega)]; exact d0
      ·rw [gput_lt (by omega)]; exact d1
      ·exact HOV2.out.keep (by omega) fun _ h=>gput_lt h
      ·rw [HBR2.out]; rfl
     ·obtain ⟨t,rfl⟩ : ∃ t:Nat,to=t:=⟨to.toNat,by omega⟩
      have ht63:t≤63:=by omega
      have HTL:Hide (t < M.rows.length):=⟨by have:=HLTR.out _ HJM.out; dsimp only at this; omega⟩
      have hneg:¬((t:Int) < 0):=by omega
      have hbr:=HBR2.out
      rw [bRow_cons] at hbr
      dsimp only at hbr
      rw [if_neg hneg,Int.toNat_natCast] at hbr
      clear HBR2 HBR
      cases hbt:b.testBit t with
      | true =>
       rw [hbt,if_pos rfl] at hbr
       have HBR3:=Hide.mk hbr
       clear hbr
       have hl2:=HBK2.out.len
       have hlw:∀ {q:Nat×List Nat} {i:Nat},st2[i]?=some q→q.2.length≤64:=fun {q i} hq=>by
        have h1:=HBK2.out.short i q hq
        have h2:i < st2.length:=by
         rcases Nat.lt_or_ge i st2.length with h | h
         ·exact h
         ·rw [List.getElem?_eq_none h] at hq; cases hq
        omega
       have hqwl:qw.length≤64:=hlw HQ2.out
       have HLW:Hide (∀ {q:Nat×List Nat} {i:Nat},st2[i]?=some q→q.2.length≤64):=⟨hlw⟩
       clear hlw
       try simp (maxSteps:=999999) (disch:=first | assumption | omega | (simp; done) | fail) [Tryd.results49, *]
       refine WC.mono (has_w b t hb ht63 _) ?_
       rintro _ rfl
       try simp (maxSteps:=999999) (disch:=first | assumption | omega | (simp; done) | fail) [Tryd.results49, *]
       refine LX.ind (fun m gf H'=>∃ (kk n' : Nat) (gL:Nat→Option Blk) (q:Nat×List Nat) (r:List Nat) (A:Nat) (wv:AV),st2[kk]?=some q∧kk=m∧H'=⟨.fn gL,n'⟩∧n2≤n'∧(∀ q,q < n→gL q=g q) ∧
        gL (n+1)=some (.map (imap by2) c2)∧OrdV gL n2 n' A wv r∧q.2++r.reverse=qw++[j] ∧
        gf 1=some (.lit (.int .i64 s))∧gf 11=some (.map (n+1))∧gf 14=some (.lit (.int .i64 (q.1:Int)))∧gf 17=some wv) (m0:=k) ?_ ?_
       ·refine ⟨k,_,_,(qs,qw),[j],n2+1,.sl (n2+1) 0 1 1,HQ2.out,rfl,rfl,by omega,fun q hq=>?_,?_,⟨by omega,by omega,Or.inl ⟨true,0,rfl,rfl,?_⟩⟩,rfl,by simp [*],by simp [*],by simp [*],by simp⟩
        ·rw [gput_lt (by omega),gput_lt (by omega)]; exact HG2.out q hq
        ·rw [gput_lt (by omega),gput_lt (by omega)]; exact d1
        ·simp only [gput_eq]; rfl
       rintro m gf H' ⟨kk,n3,g3,q,r,A,wv,hqq,rfl,rfl,hn3,hg3,f1,hov3,hwr,y1,y11,y14,y17⟩ ihw
       have HG3:=Hide.mk hg3
       have HQQ:=Hide.mk hqq
       have HWR:=Hide.mk hwr
       have hrl:r.length≤70:=by
        have:=congrArg List.length hwr
        simp only [List.length_append,List.length_reverse,List.length_singleton] at this
        omega
       obtain ⟨hA1,hA2,hov3⟩:=hov3
       have HOV3:=Hide.mk hov3
       have hq3N:=HBK2.out.lt q (List.mem_of_getElem? hqq)
       clear hg3 hqq hwr hov3
       refine LX.roundP (noO_ok _ _) hG pl49 (by decide +kernel) ?_
       by_cases hqs:q.1=s
       ·have hqsI:(q.1:Int)=(s:Int):=by omega
        have hkk:kk=0:=by
         have hnd:=HBK2.out.nd
         have h0:=HBK2.out.head
         have hq:=HQQ.out
         have hp0:=HBK2.out.pos
         have hkl:kk < st2.length:=by
          rcases Nat.lt_or_ge kk st2.length with h | h
          ·exact h
          ·rw [List.getElem?_eq_none h] at hq; cases hq
         have e1:(st2.map (·.1))[kk]?=(st2.map (·.1))[0]?:=by rw [List.getElem?_map,List.getElem?_map,hq,h0,Option.map_some,Option.map_some,hqs]
         exact (List.getElem?_inj (by rw [List.length_map]; exact hkl) hnd).1 e1
        have hfull:r.reverse=qw++[j]:=by
         have h0:=HBK2.out.head
         have hq:=HQQ.out
         rw [hkk,h0,Option.some.injEq] at hq
         have:=HWR.out
         rw [← hq] at this
         exact this
        have HFULL:=Hide.mk hfull
        clear hfull hkk
        have hrpos:0 < r.length:=by
         have:=congrArg List.length HFULL.out
         simp only [List.length_append,List.length_reverse,List.length_singleton] at this
         omega
        have hwmE:WM=some (qw++[j]):=by
         have h1:=HBR3.out
         have h2:=hbst.out
         rw [h1] at h2
         exact h2
        have HWME:=Hide.mk hwmE
        clear hwmE
        rcases HOV3.out with ⟨own3,z3,hl3,rfl,hgA⟩ | ⟨rfl,hgA⟩
        ·try simp (maxSteps:=999999) (disch:=first | assumption | omega | (simp; done) | fail) [Tryd.results49, *]
         refine WC.mono (rev1_w _ _ _) ?_
         rintro _ rfl
         try simp (maxSteps:=999999) (disch:=first | assumption | omega | (simp; done) | fail) [Tryd.results49, *]
         refine WC.mono (clip_sl _ _ _ _ (by omega) (by omega) _) ?_
         rintro _ rfl
         try simp (maxSteps:=999999) (disch:=first | assumption | omega | (simp; done) | fail) [Tryd.results49, *]
         refine ⟨_,_,_,⟨rfl,rfl,rfl⟩,by omega,HG3.out,Or.inr ⟨?_,A,own3,z3,?_,by omega,by omega,?_⟩⟩
         ·rw [HWME.out]; simp
         ·rw [HWME.out]
          have:=congrArg List.length HFULL.out
          rw [List.length_reverse] at this
          show _=AV.sl A 0 (qw++[j]).length (qw++[j]).length
          rw [← this,hl3]
         ·rw [HWME.out,hgA]
          show some (Blk.cells (wordC r) own3 z3)=some (Blk.cells (wordC (qw++[j])) own3 z3)
          have:r=r.reverse:=by
           cases r with
           | nil=>rfl
           | cons x r =>
            cases r with
            | nil=>rfl
            | cons y r=>simp at hl3
          rw [← HFULL.out,← this]
        ·try simp (maxSteps:=999999) (disch:=first | assumption | omega | (simp; done) | fail) [Tryd.results49, *]
         refine WC.mono (rev_w A 0 _ r (by omega) _ hgA (by omega)) ?_
         rintro _ ⟨u,g4,rfl,hgA4,hg4⟩
         have HG4:=Hide.mk hg4
         clear hg4
         try simp (maxSteps:=999999) (disch:=first | assumption | omega | (simp; done) | fail) [Tryd.results49, *]
         refine WC.mono (clip_slq _ _ _ _ (by omega) _) ?_
         rintro _ rfl
         try simp (maxSteps:=999999) (disch:=first | assumption | omega | (simp; done) | fail) [Tryd.results49, *]
         refine ⟨_,_,_,⟨rfl,rfl,rfl⟩,by omega,fun q hq=>by rw [HG4.out q (by omega)]; exact HG3.out q hq,Or.inr ⟨?_,A,true,1,?_,by omega,by omega,?_⟩⟩
         ·rw [HWME.out]; simp
         ·rw [HWME.out]
          have:=congrArg List.length HFULL.out
          rw [List.length_reverse] at this
          show _=AV.sl A 0 (qw++[j]).length (qw++[j]).length
          rw [← this]
         ·rw [HWME.out,hgA4,HFULL.out]; rfl
       ·have hqsI:¬(q.1:Int)=(s:Int):=by omega
        have hk0:0 < kk:=by
         rcases Nat.eq_zero_or_pos kk with h | h
         ·exfalso
          have h0:=HBK2.out.head
          have hq:=HQQ.out
          rw [h,h0,Option.some.injEq] at hq
          rw [← hq] at hqs
          exact hqs rfl
         ·exact h
        obtain ⟨k1,q1,i1,hk1,hq1,hqe,hig⟩:=HBY2.out.old kk q HQQ.out hk0
        have HQ1:=Hide.mk hq1
        have HQE:=Hide.mk hqe
        clear hq1 hqe
        rcases HOV3.out with ⟨own3,z3,hl3,rfl,hgA⟩ | ⟨rfl,hgA⟩
        ·have hwl3:(wordC r).length=1:=by rw [wordC_len]; exact hl3
         try simp (maxSteps:=999999) (disch:=first | assumption | omega | (simp; done) | fail) [Tryd.results49, *]
         refine ihw.out k1 _ _ hk1 ⟨k1,_,_,q1,r++[i1],n3+1,.slq (n3+1) 0 2 0,HQ1.out,rfl,rfl,by omega,fun q hq=>?_,?_,⟨by omega,by omega,Or.inr ⟨?_,?_⟩⟩,?_,by simp [*],by simp [*],by simp [*],by simp⟩
         ·rw [gput_lt (by omega),gput_lt (by omega)]; exact HG3.out q hq
         ·rw [gput_lt (by omega),gput_lt (by omega)]; exact f1
         ·rw [List.length_append,hl3]; rfl
         ·simp only [gput_eq]
          rw [wordC_snoc,List.take_of_length_le (by omega)]
         ·rw [List.reverse_append,← HWR.out,HQE.out]; simp
        ·have hwl3:(wordC r).length=r.length:=wordC_len r
         have h1w:allOne (wordC r)=true:=wordC_one r
         try simp (maxSteps:=999999) (disch:=first | assumption | omega | (simp; done) | fail) [Tryd.results49, *]
         refine ihw.out k1 _ _ hk1 ⟨k1,_,_,q1,r++[i1],n3+1,.slq (n3+1) 0 (r.length+1) 0,HQ1.out,rfl,rfl,by omega,fun q hq=>?_,?_,⟨by omega,by omega,Or.inr ⟨?_,?_⟩⟩,?_,by simp [*],by simp [*],by simp [*],by simp⟩
         ·rw [gput_lt (by omega),gput_ne (by omega),gput_lt (by omega)]; exact HG3.out q hq
         ·rw [gput_lt (by omega),gput_ne (by omega),gput_lt (by omega)]; exact f1
         ·rw [List.length_append]; rfl
         ·simp only [gput_eq]
          rw [wordC_snoc]
         ·rw [List.reverse_append,← HWR.out,HQE.out]; simp
      | false =>
       rw [hbt,if_neg (by decide)] at hbr
       by_cases hin:t∈st2.map (·.1)
       ·rw [if_pos hin] at hbr
        have HBR3:=Hide.mk hbr
        clear hbr
        by_cases hts:t=s
        ·subst hts
         have hig:=HBY2.out.new t (Or.inr rfl)
         try simp (maxSteps:=999999) (disch:=first | assumption | omega | (simp; done) | fail) [Tryd.results49, *]
         refine WC.mono (has_w b t hb ht63 _) ?_
         rintro _ rfl
         try simp (maxSteps:=999999) (disch:=first | assumption | omega | (simp; done) | fail) [Tryd.results49, *]
         refine ihj.out (row.length - (j+1)) _ _ (by omega) ⟨j+1,n2+1+1,_,st2,by2,c2,B2,ov2,by omega,rfl,rfl,by omega,fun q hq=>?_,?_,?_,?_,HBK2.out,HBY2.out,HQ2.out,?_,by simp [*],by simp [*],by simp [*],by simp [*],by simp [*],by simp [*],by simp [*],by simp [*],by simp [*],by simp [*],by simp⟩
         ·rw [gput_lt (by omega),gput_lt (by omega)]; exact HG2.out q hq
         ·rw [gput_lt (by omega),gput_lt (by omega)]; exact d0
         ·rw [gput_lt (by omega),gput_lt (by omega)]; exact d1
         ·exact HOV2.out.keep (by omega) fun _ h=>(gput_lt (by omega)).trans (gput_lt h)
         ·exact HBR3.out
        ·obtain ⟨j0,q0,hj0,hq0⟩ : ∃ (j0:Nat) (q0:Nat×List Nat),st2[j0]?=some q0∧q0.1=t:=by
          obtain ⟨q0,h1,h2⟩:=List.mem_map.1 hin
          obtain ⟨j0,h3⟩:=List.mem_iff_getElem?.1 h1
          exact ⟨j0,q0,h3,h2⟩
         have hj0p:0 < j0:=by
          rcases Nat.eq_zero_or_pos j0 with h | h
          ·subst h
           rw [HBK2.out.head] at hj0
           cases hj0
           exact absurd hq0.symm hts
          ·exact h
         obtain ⟨_,q1,i1,_,_,_,hig⟩:=HBY2.out.old j0 q0 hj0 hj0p
         rw [hq0] at hig
         clear hj0 hq0 hj0p
         try simp (maxSteps:=999999) (disch:=first | assumption | omega | (simp; done) | fail) [Tryd.results49, *]
         refine WC.mono (has_w b t hb ht63 _) ?_
         rintro _ rfl
         try simp (maxSteps:=999999) (disch:=first | assumption | omega | (simp; done) | fail) [Tryd.results49, *]
         refine ihj.out (row.length - (j+1)) _ _ (by omega) ⟨j+1,n2+1+1,_,st2,by2,c2,B2,ov2,by omega,rfl,rfl,by omega,fun q hq=>?_,?_,?_,?_,HBK2.out,HBY2.out,HQ2.out,?_,by simp [*],by simp [*],by simp [*],by simp [*],by simp [*],by simp [*],by simp [*],by simp [*],by simp [*],by simp [*],by simp⟩
         ·rw [gput_lt (by omega),gput_lt (by omega)]; exact HG2.out q hq
         ·rw [gput_lt (by omega),gput_lt (by omega)]; exact d0
         ·rw [gput_lt (by omega),gput_lt (by omega)]; exact d1
         ·exact HOV2.out.keep (by omega) fun _ h=>(gput_lt (by omega)).trans (gput_lt h)
         ·exact HBR3.out
       ·rw [if_neg hin] at hbr
        have HBR3:=Hide.mk hbr
        clear hbr
        have hig:=HBY2.out.new t (Or.inl hin)
        have hts:¬((t:Int)=(s:Int)):=by
         intro e
         refine hin ?_
         have:t=s:=by omega
         rw [this]
         exact List.mem_map.2 ⟨(s,[]),List.mem_of_getElem? HBK2.out.head,rfl⟩
        have HIN:=Hide.mk hin
        have ht:t < M.rows.length:=HTL.out
        have HK2:Hide (k < st2.length):=⟨by
         have:=HQ2.out
         rcases Nat.lt_or_ge k st2.length with h | h
         ·exact h
         ·rw [List.getElem?_eq_none h] at this; cases this⟩
        clear hin
        have hl2:=HBK2.out.len
        have hmapl:(st2.map (·.1)).length=st2.length:=List.length_map ..
        have hwl:(wordC (st2.map (·.1))).length=st2.length:=by rw [wordC_len,hmapl]
        obtain ⟨hB1,hB2,hov⟩:=HOV2.out
        rcases hov with ⟨own2,z2,hl1,rfl,hgB2⟩ | ⟨rfl,hgB2⟩
        ·try simp (maxSteps:=999999) (disch:=first | assumption | omega | (simp; done) | fail) [Tryd.results49, *]
         refine WC.mono (has_w b t hb ht63 _) ?_
         rintro _ rfl
         try simp (maxSteps:=999999) (disch:=first | assumption | omega | (simp; done) | fail) [Tryd.results49, *]
         refine ihj.out (row.length - (j+1)) _ _ (by omega) ⟨j+1,n2+1+1+1+1,_,st2++[(t,qw++[j])],by2++[((t:Int),.agg [.lit (.int .i64 (qs:Nat)),.lit (.int .i64 (j:Nat))],c2)],c2+1,n2+1+1+1,.slq (n2+1+1+1) 0 2 0,by omega,rfl,rfl,by omega,fun q hq=>?_,?_,?_,⟨by omega,by omega,Or.inr ⟨?_,?_⟩⟩,HBK2.out.snoc ht HIN.out (by have:=HBK2.out.short k _ HQ2.out; have:=HK2.out; rw [List.length_append]; simp only [List.length_singleton]; dsimp only at *; omega),HBY2.out.snoc HBK2.out HIN.out HQ2.out,?_,HBR3.out,by simp [*],by simp [*],by simp [*],by simp [*],by simp [*],by simp,by simp [*],by simp [*],by simp [*],by simp [*],by simp⟩
         ·rw [gput_lt (by omega),gput_lt (by omega),gput_lt (by omega),gput_lt (by omega),gput_lt (by omega)]; exact HG2.out q hq
         ·rw [gput_lt (by omega),gput_lt (by omega),gput_lt (by omega),gput_lt (by omega),gput_lt (by omega)]; exact d0
         ·rw [gput_lt (by omega),gput_lt (by omega)]; simp only [gput_eq]
         ·rw [List.length_map,List.length_append]; rw [List.length_map] at hl1; rw [hl1]; rfl
         ·simp only [gput_eq]
          rw [List.map_append,List.map_singleton,wordC_snoc,List.take_of_length_le (by omega)]
         ·rw [List.getElem?_append_left (by have:=HK2.out; omega)]; exact HQ2.out
        ·have h1w:allOne (wordC (st2.map (·.1)))=true:=wordC_one _
         have hst64:(st2.map (·.1)).length≤64:=by omega
         have hwl' : (wordC (st2.map (·.1))).length=(st2.map (·.1)).length:=wordC_len _
         try simp (maxSteps:=999999) (disch:=first | assumption | omega | (simp; done) | fail) [Tryd.results49, *]
         refine WC.mono (has_w b t hb ht63 _) ?_
         rintro _ rfl
         try simp (maxSteps:=999999) (disch:=first | assumption | omega | (simp; done) | fail) [Tryd.results49, *]
         refine ihj.out (row.length - (j+1)) _ _ (by omega) ⟨j+1,n2+1+1+1+1,_,st2++[(t,qw++[j])],by2++[((t:Int),.agg [.lit (.int .i64 (qs:Nat)),.lit (.int .i64 (j:Nat))],c2)],c2+1,n2+1+1+1,.slq (n2+1+1+1) 0 ((st2.map (·.1)).length+1) 0,by omega,rfl,rfl,by omega,fun q hq=>?_,?_,?_,⟨by omega,by omega,Or.inr ⟨?_,?_⟩⟩,HBK2.out.snoc ht HIN.out (by have:=HBK2.out.short k _ HQ2.out; have:=HK2.out; rw [List.length_append]; simp only [List.length_singleton]; dsimp only at *; omega),HBY2.out.snoc HBK2.out HIN.out HQ2.out,?_,HBR3.out,by simp [*],by simp [*],by simp [*],by simp [*],by simp [*],by simp,by simp [*],by simp [*],by simp [*],by simp [*],by simp⟩
         ·rw [gput_lt (by omega),gput_ne (by omega),gput_lt (by omega),gput_lt (by omega),gput_lt (by omega),gput_lt (by omega)]; exact HG2.out q hq
         ·rw [gput_lt (by omega),gput_ne (by omega),gput_lt (by omega),gput_lt (by omega),gput_lt (by omega),gput_lt (by omega)]; exact d0
         ·rw [gput_lt (by omega),gput_ne (by omega),gput_lt (by omega)]; simp only [gput_eq]
         ·rw [List.map_append,List.length_append]; rfl
         ·simp only [gput_eq]
          rw [List.map_append,List.map_singleton,wordC_snoc]
         ·rw [List.getElem?_append_left (by have:=HK2.out; omega)]; exact HQ2.out
    ·have hjtI:¬(j:Int) < (row.length:Int):=by omega
     have hj2:j=row.length:=by omega
     have HJ2:=Hide.mk hj2
     clear hj2
     try simp (maxSteps:=999999) (disch:=first | assumption | omega | (simp; done) | fail) [Tryd.results49, *]
     refine ih.out (M.rows.length+1 - (k+1)) _ _ (by omega) ⟨k+1,n2,g2,st2,by2,c2,B2,ov2,?_,rfl,rfl,hn2,HG2.out,d0,d1,HOV2.out,HBK2.out,HBY2.out,?_,by simp [*],by simp [*],by simp [*],by simp [*],by simp [*],by simp [*],by simp⟩
     ·have:=HQ2.out
      rcases Nat.lt_or_ge k st2.length with h | h
      ·omega
      ·rw [List.getElem?_eq_none h] at this; cases this
     ·have h1:=HBR.out
      rw [HJ2.out,List.drop_length] at h1
      rw [hbst.out,show M.rows.length+1 - (k+1)=M.rows.length - k by omega,h1]
      rfl
  ·have hltI:¬(k:Int) < (st.length:Int):=by omega
   try simp (maxSteps:=999999) (disch:=first | assumption | omega | (simp; done) | fail) [Tryd.results49, *]
   refine ⟨_,_,_,⟨rfl,rfl,rfl⟩,by omega,HG1.out,Or.inl ⟨?_,rfl⟩⟩
   have hnone:st[k]?=none:=List.getElem?_eq_none (by omega)
   rw [HW.out,show M.rows.length+1 - k=(M.rows.length - k)+1 by omega]
   unfold bfs
   rw [hnone]; rfl
end Go.Ai
end
section
namespace Go.Ai
open Go.Proofs
set_option maxRecDepth 10000
set_option maxHeartbeats 40000000
theorem im132:isImap Tryd.prog 132=some (.int .i64 0):=by kernel_rfl
attribute [simp] im132
def GwV (g:Nat→Option Blk) (lo hi:Nat) (v:AV) (w:List Nat) : Prop :=
 (w=[]∧v=.lit (.slice none 0 0))∨(w≠[]∧∃ A,v=.slq A 0 w.length 0∧lo≤A∧A < hi∧g A=some (.cells (wordC w) true 1))
theorem GwV.keep {g g' : Nat→Option Blk} {lo hi hi2:Nat} {v:AV} {l:List Nat} (h:GwV g lo hi v l) (hh:hi≤hi2) (hg:∀ B,lo≤B→B < hi→g' B=g B) : GwV g' lo hi2 v l:=by
 rcases h with h | ⟨h1,A,h2,h3,h4,h5⟩
 ·exact Or.inl h
 ·exact Or.inr ⟨h1,A,h2,h3,by omega,by rw [hg A h3 h4]; exact h5⟩
theorem GwV.one {g:Nat→Option Blk} {lo hi:Nat} {v:AV} {w:List Nat} (h:GwV g lo hi v w) : oneC v=true:=by
 rcases h with ⟨_,rfl⟩ | ⟨_,A,rfl,_⟩ <;> rfl
theorem clip_grow {g:Nat→Option Blk} {lo hi:Nat} {v:AV} {w:List Nat} (h:GwV g lo hi v w) : WC 6 Tryd.prog 66 [v] ⟨.fn g,hi⟩ fun r=>∃ v',r=.ret v' ⟨.fn g,hi⟩∧WordV g lo hi v' w:=by
 rcases h with ⟨h1,rfl⟩ | ⟨h1,A,rfl,h3,h4,h5⟩
 ·refine WC.mono (clip_nil _) ?_
  rintro _ rfl
  exact ⟨_,rfl,Or.inl ⟨h1,rfl⟩⟩
 ·refine WC.mono (clip_slq _ _ _ _ (List.length_pos_iff.2 h1) _) ?_
  rintro _ rfl
  exact ⟨_,rfl,Or.inr ⟨h1,A,true,1,rfl,h3,h4,h5⟩⟩
theorem WordV.lo {g:Nat→Option Blk} {lo lo' hi:Nat} {v:AV} {w:List Nat} (h:WordV g lo hi v w) (hl:lo'≤lo) : WordV g lo' hi v w:=by
 rcases h with h | ⟨h1,A,own,z,h2,h3,h4,h5⟩
 ·exact Or.inl h
 ·exact Or.inr ⟨h1,A,own,z,h2,by omega,h4,h5⟩
theorem firstIn_nil (t:Nat→Bool) (i:Nat) : firstIn t [] i=none:=rfl
theorem firstIn_cons (t:Nat→Bool) (e:Int×Int) (es:List (Int×Int)) (i:Nat) : firstIn t (e :: es) i=if 0≤e.1∧t e.1.toNat=true then some (i,e.1.toNat) else firstIn t es (i+1):=rfl
theorem lasso_w {M:MachM} (hM:M.ok) {nx:List Nat} {all:Nat} (s t:Nat) (hs:s < M.rows.length) (ht:t < 18446744073709551616) (hts:sOf t s=true) (heg:∀ u,u < M.rows.length→sOf t u=true→(firstIn (sOf t) (M.rows.getD u []) 0=none↔M.gr.ends u=true)) (g:Nat→Option Blk) (n:Nat) (cs:List AV) (hr:GOK g n M nx all cs) :
  WC 6 Tryd.prog 50 [.agg cs,.lit (.int .i64 s),.lit (.int .u64 t)] ⟨.fn g,n⟩ fun r=>∃ v g' n',r=.ret (.tup [v,.lit (.int .i64 (lassoM M (sOf t) (M.rows.length+1) s [] [s]).2)]) ⟨.fn g',n'⟩∧n≤n'∧(∀ q,q < n→g' q=g q)∧WordV g' n n' v (lassoM M (sOf t) (M.rows.length+1) s [] [s]).1:=by
 have HGK:=Hide.mk hr
 obtain ⟨⟨rv,nv,rfl,⟨rv2,svs,e1,hrows,hrv⟩,hV⟩,hgr⟩:=hr
 cases e1
 have h1r:=hrv.one
 have h1v:=hV.one
 have h1a:allOne [.lit (.int .i64 M.inp),.lit (.int .i64 M.out),rv,nv,.lit (.int .u64 (all:Int))]=true:=by simp [h1r,h1v]
 have h64:M.rows.length≤64:=hM.2.2.2.2.2.1
 have hsl:=hrows.len
 have HROW:=Hide.mk hrows
 have HRV:=Hide.mk hrv
 have HM:=Hide.mk hM
 have HGR:=Hide.mk hgr
 have HEG:=Hide.mk heg
 have hel:=hgr.ends_lt
 clear hrows hrv hV hgr hM heg
 have HLM:Hide (lassoM M (sOf t) (M.rows.length+1) s [] [s]=lassoM M (sOf t) (M.rows.length+1) s [] [s]):=⟨rfl⟩
 generalize hLM:lassoM M (sOf t) (M.rows.length+1) s [] [s]=LM
 have HLM:Hide (LM=lassoM M (sOf t) (M.rows.length+1) s [] [s]):=⟨hLM.symm⟩
 clear hLM
 refine WC.enterP (noO_ok _ _) hG pl50 Tryd.func50 rfl (by decide +kernel) (Nat.le_of_ble_eq_true (by kernel_rfl)) ?_
 try simp (maxSteps:=999999) (disch:=first | assumption | omega | (simp; done) | fail) [Tryd.results50, *]
 refine LX.ind (fun m gf H'=>∃ (u n' c:Nat) (gL:Nat→Option Blk) (w seen:List Nat) (by_:List (Int×AV×Nat)) (wv:AV),m+seen.length=M.rows.length+2∧H'=⟨.fn gL,n'⟩∧n+1+1≤n'∧(∀ q,q < n→gL q=g q) ∧
  gL n=some (.cells [.lit (.int .i64 M.inp),.lit (.int .i64 M.out),rv,nv,.lit (.int .u64 (all:Int))] true 0)∧gL (n+1)=some (.map (imap by_) c)∧GwV gL (n+1+1) n' wv w∧SeenOK M.rows.length u w seen∧LOK seen by_∧sOf t u=true ∧
  LM=lassoM M (sOf t) m u w seen∧gf 1=some (.lit (.int .i64 u))∧gf 2=some (.lit (.int .u64 t))∧gf 3=some (.ptr n 0)∧gf 8=some wv∧gf 9=some (.map (n+1))) (m0:=M.rows.length+1) ?_ ?_
 ·refine ⟨s,_,1,_,[],[s],[((s:Int),.lit (.int .i64 0),0)],.lit (.slice none 0 0),by simp,rfl,by omega,fun q hq=>?_,?_,?_,Or.inl ⟨rfl,rfl⟩,.start hs,LOK.start s 0,hts,HLM.out,by simp,by simp,by simp,by simp,by simp⟩
  ·simp (disch:=omega) only [gput_lt]
  ·simp (disch:=omega) only [gput_lt,gput_eq]
  ·simp only [gput_eq,List.nil_append]
 clear hts
 rintro m gf H' ⟨u,n1,c,g1,w,seen,by_,wv,hm,rfl,hn1,hg1,e0,e1,hwv,hsn,hlk,htu,hlm,w1,w2,w3,w8,w9⟩ ih
 have HG1:=Hide.mk hg1
 have HWV:=Hide.mk hwv
 have HSN:=Hide.mk hsn
 have HLK:=Hide.mk hlk
 have HTU:=Hide.mk htu
 have HLM1:=Hide.mk hlm
 have h1w:=hwv.one
 have huN:u < M.rows.length:=hsn.lt u hsn.last
 have hu63:u≤63:=by omega
 have hsb:=hsn.bound
 have hwl:=hsn.len
 have hGK1:=Hide.mk (HGK.out.mono (g':=g1) (n':=n1) (by omega) (fun a ha=>hg1 a ha))
 clear hg1 hwv hsn hlk htu hlm HLM
 obtain ⟨m,rfl⟩ : ∃ m',m=m'+1:=⟨m - 1,by omega⟩
 refine LX.roundP (noO_ok _ _) hG pl50 (by decide +kernel) ?_
 try simp (maxSteps:=999999) (disch:=first | assumption | omega | (simp; done) | fail) [Tryd.results50, *]
 refine WC.mono (ends_w _ _ _ hGK1.out) ?_
 rintro _ rfl
 try simp (maxSteps:=999999) (disch:=first | assumption | omega | (simp; done) | fail) [Tryd.results50, *]
 refine WC.mono (has_w _ u hel hu63 _) ?_
 rintro _ rfl
 have hee:(endsN nx all M.gr.n).testBit u=M.gr.ends u:=HGR.out.ends_eq u huN
 have hfi:=HEG.out u huN HTU.out
 have hlm:=HLM1.out
 unfold lassoM at hlm
 cases hfi1:firstIn (sOf t) (M.rows.getD u []) 0 with
 | none =>
  have he:=hfi.1 hfi1
  rw [hfi1] at hlm
  dsimp only at hlm
  have HLM2:=Hide.mk hlm
  rw [he] at hee
  clear hlm hfi hfi1 he
  try simp (maxSteps:=999999) (disch:=first | assumption | omega | (simp; done) | fail) [Tryd.results50, *]
  refine WC.mono (clip_grow HWV.out) ?_
  rintro _ ⟨v',rfl,hwo⟩
  have HWO:=Hide.mk hwo
  have h1v' : oneC v'=true:=by rcases hwo with ⟨_,rfl⟩ | ⟨_,A,own,z,rfl,_⟩ <;> rfl
  clear hwo
  try simp (maxSteps:=999999) (disch:=first | assumption | omega | (simp; done) | fail) [Tryd.results50, *]
  refine ⟨v',g1,n1,⟨⟨rfl,?_⟩,rfl,rfl⟩,by omega,HG1.out,?_⟩
  ·rw [HLM2.out]
  ·rw [HLM2.out]; exact HWO.out.lo (by omega)
 | some q =>
  obtain ⟨hqN,hqt⟩:=firstIn_lt HM.out huN hfi1
  rw [hfi1] at hlm
  dsimp only at hlm
  have he:M.gr.ends u=false:=by
   cases h:M.gr.ends u with
   | false=>rfl
   | true=>have:=hfi.2 h; rw [hfi1] at this; cases this
  rw [he] at hee
  have HLMQ:=Hide.mk hlm
  have HQT:=Hide.mk hqt
  clear hlm he hfi hqt
  have hR:=HROW.out.at u huN (by omega)
  obtain ⟨a2,off,ha2,hrow,hia2⟩:=HRV.out.ia (P:=Tryd.prog) huN 1
  have hcell:=(hrow.mono (HG1.out a2 ha2)).one (k:=u) (s:=1) (by omega)
  rw [Nat.mul_one] at hia2
  have hgd:M.rows.getD u []=M.rows[u]:=by rw [List.getD_eq_getElem?_getD,List.getElem?_eq_getElem huN]; rfl
  have hre:=ok_row_edge HM.out (List.getElem_mem huN)
  have hr16:M.rows[u].length≤16:=by
   have h1:=ok_row HM.out _ (List.getElem_mem huN)
   have h2:M.inp≤16:=HM.out.2.1
   omega
  rw [hgd] at hfi1
  generalize svs[u]'(by omega)=sv at hR hcell
  generalize M.rows[u]=row at hR hre hr16 hfi1
  clear hgd
  have hlen2:=@lenV Tryd.prog _ _ _ _ _ hR
  have h1sv:=hR.one
  have HRE:=Hide.mk hre
  have HRR:=Hide.mk hR
  have HF1:=Hide.mk hfi1
  clear hre hR hrow hfi1
  try simp (maxSteps:=999999) (disch:=first | assumption | omega | (simp; done) | fail) [Tryd.results50, *]
  refine LX.ind (fun m gf H'=>∃ (j n' : Nat) (gL:Nat→Option Blk),j≤row.length∧m=row.length - j∧H'=⟨.fn gL,n'⟩∧n1≤n'∧(∀ q,q < n1→gL q=g1 q)∧firstIn (sOf t) (row.drop j) j=some q ∧
   gf 1=some (.lit (.int .i64 u))∧gf 2=some (.lit (.int .u64 t))∧gf 3=some (.ptr n 0)∧gf 8=some wv∧gf 9=some (.map (n+1))∧gf 27=some sv∧gf 28=some (.lit (.int .i64 row.length))∧gf 29=some (.lit (.int .i64 (j:Int)))) (m0:=row.length) ?_ ?_
  ·exact ⟨0,n1,g1,by omega,by omega,rfl,by omega,fun _ _=>rfl,HF1.out,by simp [*],by simp [*],by simp [*],by simp [*],by simp [*],by simp,by simp,by simp⟩
  rintro mm gf H' ⟨j,n2,g2,hj,rfl,rfl,hn2,hg2,hfj,x1,x2,x3,x8,x9,x27,x28,x29⟩ ihj
  have HG2:=Hide.mk hg2
  have HFJ:=Hide.mk hfj
  clear hg2 hfj
  refine LX.roundP (noO_ok _ _) hG pl50 (by decide +kernel) ?_
  have hjt:j < row.length:=by
   rcases Nat.lt_or_ge j row.length with h | h
   ·exact h
   ·have:=HFJ.out
    rw [List.drop_eq_nil_of_le h,firstIn_nil] at this; cases this
  have hjtI:(j:Int) < (row.length:Int):=by omega
  obtain ⟨a3,off3,ha3,hrow3,hia3⟩:=HRR.out.ia (P:=Tryd.prog) hjt 2
  have hagg:=(hrow3.mono ((HG2.out a3 (by omega)).trans (HG1.out a3 ha3))).agg (k:=j * 2) (s:=2) (by rw [rowC_len]; omega)
  rw [rowC_at row j hjt] at hagg
  have hre:=HRE.out _ (List.getElem_mem hjt)
  have hfj:=HFJ.out
  rw [List.drop_eq_getElem_cons hjt,firstIn_cons] at hfj
  generalize row[j]=e at hagg hre hfj
  obtain ⟨to,out⟩:=e
  dsimp only at hagg hre hfj
  have HFJ2:=Hide.mk hfj
  clear hfj hrow3 HFJ
  have d0:g2 n=some (.cells [.lit (.int .i64 M.inp),.lit (.int .i64 M.out),rv,nv,.lit (.int .u64 (all:Int))] true 0):=by rw [HG2.out n (by omega)]; exact e0
  have d1:g2 (n+1)=some (.map (imap by_) c):=by rw [HG2.out (n+1) (by omega)]; exact e1
  by_cases ht1:to = -1
  ·subst ht1
   try simp (maxSteps:=999999) (disch:=first | assumption | omega | (simp; done) | fail) [Tryd.results50, *]
   refine ihj.out (row.length - (j+1)) _ _ (by omega) ⟨j+1,n2+1,_,by omega,rfl,rfl,by omega,fun q hq=>?_,?_,by simp [*],by simp [*],by simp [*],by simp [*],by simp [*],by simp [*],by simp [*],by simp⟩
   ·rw [gput_lt (by omega)]; exact HG2.out q hq
   ·have:=HFJ2.out
    rw [if_neg (by omega)] at this
    exact this
  ·obtain ⟨tt,rfl⟩ : ∃ tt:Nat,to=tt:=⟨to.toNat,by omega⟩
   have ht63:tt≤63:=by omega
   have hneg:¬((tt:Int) = -1):=by omega
   cases hbt:t.testBit tt with
   | false =>
    try simp (maxSteps:=999999) (disch:=first | assumption | omega | (simp; done) | fail) [Tryd.results50, *]
    refine WC.mono (has_w t tt ht ht63 _) ?_
    rintro _ rfl
    try simp (maxSteps:=999999) (disch:=first | assumption | omega | (simp; done) | fail) [Tryd.results50, *]
    refine ihj.out (row.length - (j+1)) _ _ (by omega) ⟨j+1,n2+1,_,by omega,rfl,rfl,by omega,fun q hq=>?_,?_,by simp [*],by simp [*],by simp [*],by simp [*],by simp [*],by simp [*],by simp [*],by simp⟩
    ·rw [gput_lt (by omega)]; exact HG2.out q hq
    ·have:=HFJ2.out
     rw [if_neg (by rw [Int.toNat_natCast]; show ¬(_∧t.testBit tt=true); rw [hbt]; simp)] at this
     exact this
   | true =>
    have hqe:q=(j,tt):=by
     have:=HFJ2.out
     rw [if_pos (by rw [Int.toNat_natCast]; exact ⟨by omega,hbt⟩),Int.toNat_natCast,Option.some.injEq] at this
     exact this.symm
    subst hqe
    dsimp only at hqN HQT HLMQ
    have HTT:Hide (sOf t tt=true):=⟨HQT.out⟩
    have httN:tt < M.rows.length:=hqN
    have hig:=HLK.out tt
    have hlm:=HLMQ.out
    have HSL:Hide (seen.length=w.length+1):=⟨hwl⟩
    rcases HWV.out with ⟨rfl,rfl⟩ | ⟨hwne,A,rfl,hA1,hA2,hgA⟩
    ·cases hk:seen.idxOf? tt with
     | some kq =>
      rw [hk] at hig hlm
      dsimp only [Option.map_some] at hig hlm
      have HLM2:=Hide.mk hlm
      clear hlm hk
      try simp (maxSteps:=999999) (disch:=first | assumption | omega | (simp; done) | fail) [Tryd.results50, *]
      refine WC.mono (has_w t tt ht ht63 _) ?_
      rintro _ rfl
      ·try simp (maxSteps:=999999) (disch:=first | assumption | omega | (simp; done) | fail) [Tryd.results50, *]
       refine WC.mono (clip_grow (lo:=n+1+1) (w:=[j]) (Or.inr ⟨by simp,n2+1+1,rfl,by omega,by omega,by simp only [gput_eq]; rfl⟩)) ?_
       rintro _ ⟨v',rfl,hwo⟩
       have HWO:=Hide.mk hwo
       have h1v' : oneC v'=true:=by rcases hwo with ⟨_,rfl⟩ | ⟨_,A,own,z,rfl,_⟩ <;> rfl
       clear hwo
       try simp (maxSteps:=999999) (disch:=first | assumption | omega | (simp; done) | fail) [Tryd.results50, *]
       refine ⟨v',_,_,⟨⟨rfl,?_⟩,rfl,rfl⟩,by omega,fun q hq=>?_,?_⟩
       ·rw [HLM2.out]
       ·rw [gput_lt (by omega),gput_lt (by omega),gput_lt (by omega),HG2.out q (by omega)]; exact HG1.out q hq
       ·rw [HLM2.out]; exact HWO.out.lo (by omega)
     | none =>
      rw [hk] at hig hlm
      dsimp only [Option.map_none] at hig hlm
      have HLM2:=Hide.mk hlm
      have HK:=Hide.mk hk
      clear hlm hk
      try simp (maxSteps:=999999) (disch:=first | assumption | omega | (simp; done) | fail) [Tryd.results50, *]
      refine WC.mono (has_w t tt ht ht63 _) ?_
      rintro _ rfl
      ·try simp (maxSteps:=999999) (disch:=first | assumption | omega | (simp; done) | fail) [Tryd.results50, *]
       refine ih.out m _ _ (by omega) ⟨tt,_,c+1,_,[j],seen++[tt],by_++[((tt:Int),.lit (.int .i64 ((seen.length:Nat) : Int)),c)],.slq (n2+1+1) 0 1 0,by rw [List.length_append]; simp only [List.length_singleton]; omega,rfl,by omega,fun q hq=>?_,?_,?_,Or.inr ⟨by simp,n2+1+1,rfl,by omega,by omega,?_⟩,HSN.out.snoc httN ((idx_none _ _).1 HK.out),HLK.out.snoc ((idx_none _ _).1 HK.out),HTT.out,HLM2.out,by simp [*],by simp [*],by simp [*],by simp [*],by simp [*]⟩
       ·rw [gput_ne (by omega),gput_lt (by omega),gput_lt (by omega),gput_lt (by omega),HG2.out q (by omega)]; exact HG1.out q hq
       ·rw [gput_ne (by omega),gput_lt (by omega),gput_lt (by omega),gput_lt (by omega),HG2.out n (by omega)]; exact e0
       ·simp only [gput_eq]; rw [HSL.out]; simp
       ·rw [gput_ne (by omega)]; simp only [gput_eq]; rfl
    ·have hgA2:g2 A=some (.cells (wordC w) true 1):=by rw [HG2.out A (by omega)]; exact hgA
     have h1ww:allOne (wordC w)=true:=wordC_one w
     have hwl' : (wordC w).length=w.length:=wordC_len w
     cases hk:seen.idxOf? tt with
     | some kq =>
      rw [hk] at hig hlm
      dsimp only [Option.map_some] at hig hlm
      have HLM2:=Hide.mk hlm
      clear hlm hk
      try simp (maxSteps:=999999) (disch:=first | assumption | omega | (simp; done) | fail) [Tryd.results50, *]
      refine WC.mono (has_w t tt ht ht63 _) ?_
      rintro _ rfl
      ·try simp (maxSteps:=999999) (disch:=first | assumption | omega | (simp; done) | fail) [Tryd.results50, *]
       refine WC.mono (clip_grow (lo:=n+1+1) (w:=(w++[j])) (Or.inr ⟨by simp,n2+1+1,by rw [List.length_append]; rfl,by omega,by omega,by simp only [gput_eq]; rw [wordC_snoc]⟩)) ?_
       rintro _ ⟨v',rfl,hwo⟩
       have HWO:=Hide.mk hwo
       have h1v' : oneC v'=true:=by rcases hwo with ⟨_,rfl⟩ | ⟨_,A,own,z,rfl,_⟩ <;> rfl
       clear hwo
       try simp (maxSteps:=999999) (disch:=first | assumption | omega | (simp; done) | fail) [Tryd.results50, *]
       refine ⟨v',_,_,⟨⟨rfl,?_⟩,rfl,rfl⟩,by omega,fun q hq=>?_,?_⟩
       ·rw [HLM2.out]
       ·rw [gput_lt (by omega),gput_ne (by omega),gput_lt (by omega),gput_lt (by omega),HG2.out q (by omega)]; exact HG1.out q hq
       ·rw [HLM2.out]; exact HWO.out.lo (by omega)
     | none =>
      rw [hk] at hig hlm
      dsimp only [Option.map_none] at hig hlm
      have HLM2:=Hide.mk hlm
      have HK:=Hide.mk hk
      clear hlm hk
      try simp (maxSteps:=999999) (disch:=first | assumption | omega | (simp; done) | fail) [Tryd.results50, *]
      refine WC.mono (has_w t tt ht ht63 _) ?_
      rintro _ rfl
      ·try simp (maxSteps:=999999) (disch:=first | assumption | omega | (simp; done) | fail) [Tryd.results50, *]
       refine ih.out m _ _ (by omega) ⟨tt,_,c+1,_,(w++[j]),seen++[tt],by_++[((tt:Int),.lit (.int .i64 ((seen.length:Nat) : Int)),c)],.slq (n2+1+1) 0 (w.length+1) 0,by rw [List.length_append]; simp only [List.length_singleton]; omega,rfl,by omega,fun q hq=>?_,?_,?_,Or.inr ⟨by simp,n2+1+1,by rw [List.length_append]; rfl,by omega,by omega,?_⟩,HSN.out.snoc httN ((idx_none _ _).1 HK.out),HLK.out.snoc ((idx_none _ _).1 HK.out),HTT.out,HLM2.out,by simp [*],by simp [*],by simp [*],by simp [*],by simp [*]⟩
       ·rw [gput_ne (by omega),gput_lt (by omega),gput_ne (by omega),gput_lt (by omega),gput_lt (by omega),HG2.out q (by omega)]; exact HG1.out q hq
       ·rw [gput_ne (by omega),gput_lt (by omega),gput_ne (by omega),gput_lt (by omega),gput_lt (by omega),HG2.out n (by omega)]; exact e0
       ·simp only [gput_eq]; rw [HSL.out]; simp
       ·rw [gput_ne (by omega)]; simp only [gput_eq]; rw [wordC_snoc]
end Go.Ai
end
section
namespace Go.Ai
open Go.Proofs
set_option maxRecDepth 10000
set_option maxHeartbeats 40000000
def WitR (M:MachM) (x:NodeM) (s:Int) (g:Nat→Option Blk) (n n' : Nat) (v:AV) (l e:Int) : Prop :=
  (¬(0≤s∧s < M.rows.length)∧v=.lit (.slice none 0 0)∧l=0∧e=1) ∨
  ((0≤s∧s < M.rows.length)∧¬(7≤x.op∧x.op≤10)∧v=.lit (.slice none 0 0)∧l=0∧e=15) ∨
  ((0≤s∧s < M.rows.length)∧(7≤x.op∧x.op≤10)∧∃ X,semN M x X ∧
    ((X s.toNat=false∧v=.lit (.slice none 0 0)∧l=0∧e=7) ∨
     (X s.toNat=true∧e=0 ∧
       ((x.op=7∧l = -1∧∃ y B w,x.subs=[y]∧semN M y B∧wayM M s.toNat (fun u=>decide (u=s.toNat)) B 1=some w∧WordV g n n' v w) ∨
        (x.op=8∧l = -1∧∃ y B w,x.subs=[y]∧semN M y B∧wayM M s.toNat allS B 0=some w∧WordV g n n' v w) ∨
        (x.op=10∧l = -1∧∃ y z A B w,x.subs=[y,z]∧semN M y A∧semN M z B∧wayM M s.toNat A B 0=some w∧WordV g n n' v w) ∨
        (x.op=9∧l=(lassoM M X (M.rows.length+1) s.toNat [] [s.toNat]).2∧WordV g n n' v (lassoM M X (M.rows.length+1) s.toNat [] [s.toNat]).1)))))
theorem repN_subs {g:Nat→Option Blk} {n:Nat} {x:NodeM} {c0 c1 c2 sv:AV} (h:repN g n x [c0,c1,c2,sv]) (hl:0 < x.subs.length) : ∃ r,SliceV g n sv x.subs.length r∧repL g n x.subs r:=by
 cases x with
 | mk op a b subs =>
  obtain ⟨_,sv',e,h2⟩:=h
  cases e
  have hl:0 < subs.length:=hl
  rcases h2 with ⟨rfl,_⟩ | ⟨a,off,r,h3,h4,h5,h6⟩
  ·exact absurd hl (by simp)
  ·exact ⟨r,Or.inr ⟨a,off,h3,h4,h5⟩,h6⟩
theorem sub_k {g:Nat→Option Blk} {n:Nat} {x:NodeM} {c0 c1 c2 sv:AV} (h:repN g n x [c0,c1,c2,sv]) (k:Nat) (hk:k < x.subs.length) :
  ∃ a off c,a < n∧loadB (some (true,4)) (g a) (off+k * 4)=some (.agg c)∧repN g n x.subs[k] c ∧
   ∀ {H:Mem} {ev:Ev} {o:Oper} {t:TypeId},iaS Tryd.prog H ev o t (some (none,4)) (some sv) (some (.lit (.int .i64 (k:Int))))=.val (.ptr a (off+k * 4)) H:=by
 obtain ⟨r,h1,h2⟩:=repN_subs h (by omega)
 obtain ⟨a,off,ha,hrow,hia⟩:=h1.ia (P:=Tryd.prog) hk 4
 have hl:=repL_len h2
 exact ⟨a,off,_,ha,hrow.agg (k:=k * 4) (s:=4) (by omega),repL_at h2 k hk,hia⟩
theorem WordV.one {g:Nat→Option Blk} {lo hi:Nat} {v:AV} {w:List Nat} (h:WordV g lo hi v w) : oneC v=true:=by
 rcases h with ⟨_,rfl⟩ | ⟨_,A,own,z,rfl,_⟩ <;> rfl
theorem wit_w {M:MachM} (hM:M.ok) (x:NodeM) (hx:sizeN x≤1000000) (hv:validM M.rows.length M.inp M.out x=true) (hsm:(smallM x 64).1=true) (s:Int) (g:Nat→Option Blk) (n:Nat) (ms xs:List AV) (hops:g 0=some opsB) (hn0:0 < n) (hr:RepM g n M ms) (hx0:repN g n x xs) :
  WC 6 Tryd.prog 21 [.agg ms,.agg xs,.lit (.int .i64 s)] ⟨.fn g,n⟩ fun r=>∃ v l e g' n',r=.ret (.tup [v,.lit (.int .i64 l),.lit (.int .i64 e)]) ⟨.fn g',n'⟩∧n≤n'∧(∀ b,b < n→g' b=g b)∧WitR M x s g' n n' v l e:=by
 have HR:=Hide.mk hr
 have HX:=Hide.mk hx0
 obtain ⟨rv,svs,rfl,hrows,hrv⟩:=hr
 have h1r:=hrv.one
 have h1a:allOne [.lit (.int .i64 M.inp),.lit (.int .i64 M.out),rv]=true:=by simp [h1r]
 have hlen:=@lenV Tryd.prog _ _ _ _ _ hrv
 obtain ⟨k2,k3,sv2,hcy,h1c,hop2⟩:=repN_one hx0
 subst hcy
 have h1b:allOne [.lit (.int .u8 x.op),.lit (.int .i64 k2),.lit (.int .i64 k3),sv2]=true:=by simp [h1c]
 have h64:M.rows.length≤64:=hM.2.2.2.2.2.1
 clear hrows hrv hx0
 refine WC.enterP (noO_ok _ _) hG pl21 Tryd.func21 rfl (by decide +kernel) (Nat.le_of_ble_eq_true (by kernel_rfl)) ?_
 try simp (maxSteps:=999999) (disch:=first | assumption | omega | (simp; done) | fail) [Tryd.results21, *]
 refine WC.mono (Check_yes hM x hx hv hsm _ _ _ _ (by simp (disch:=omega) only [gput_lt]; exact hops) (by omega) (HR.out.mono (by omega) fun q hq=>by simp (disch:=omega) only [gput_lt]) (repN_mono (by omega) (fun a ha=>(by simp (disch:=omega) only [gput_lt])) HX.out)) ?_
 rintro _ ⟨g1,n1,rfl,hn1,hg1⟩
 have HG:Hide (∀ b,b < n→g1 b=g b):=⟨fun b hb=>by rw [hg1 b (by omega)]; simp (disch:=omega) only [gput_lt]⟩
 have e0:g1 n=some (.cells [.lit (.int .i64 M.inp),.lit (.int .i64 M.out),rv] true 0):=by rw [hg1 n (by omega)]; simp (disch:=omega) only [gput_lt,gput_eq]
 have e1:g1 (n+1)=some (.cells [.lit (.int .u8 x.op),.lit (.int .i64 k2),.lit (.int .i64 k3),sv2] true 0):=by rw [hg1 (n+1) (by omega)]; simp (disch:=omega) only [gput_eq]
 clear hg1
 by_cases hs0:s < 0
 ·try simp (maxSteps:=999999) (disch:=first | assumption | omega | (simp; done) | fail) [Tryd.results21, *]
  refine ⟨_,_,_,_,_,⟨⟨rfl,rfl,rfl⟩,rfl,rfl⟩,by omega,HG.out,Or.inl ⟨by omega,rfl,rfl,rfl⟩⟩
 by_cases hsN:s ≥ (M.rows.length:Int)
 ·try simp (maxSteps:=999999) (disch:=first | assumption | omega | (simp; done) | fail) [Tryd.results21, *]
  refine ⟨_,_,_,_,_,⟨⟨rfl,rfl,rfl⟩,rfl,rfl⟩,by omega,HG.out,Or.inl ⟨by omega,rfl,rfl,rfl⟩⟩
 have hsN' : s < (M.rows.length:Int):=by omega
 have hsr:0≤s∧s < (M.rows.length:Int):=⟨by omega,by omega⟩
 have HSR:=Hide.mk hsr
 clear hsr
 by_cases ho7:(x.op:Int) < 7
 ·try simp (maxSteps:=999999) (disch:=first | assumption | omega | (simp; done) | fail) [Tryd.results21, *]
  refine ⟨_,_,_,_,_,⟨⟨rfl,rfl,rfl⟩,rfl,rfl⟩,by omega,HG.out,Or.inr (Or.inl ⟨HSR.out,by omega,rfl,rfl,rfl⟩)⟩
 by_cases ho10:(10:Int) < (x.op:Int)
 ·try simp (maxSteps:=999999) (disch:=first | assumption | omega | (simp; done) | fail) [Tryd.results21, *]
  refine ⟨_,_,_,_,_,⟨⟨rfl,rfl,rfl⟩,rfl,rfl⟩,by omega,HG.out,Or.inr (Or.inl ⟨HSR.out,by omega,rfl,rfl,rfl⟩)⟩
 obtain ⟨sn,rfl⟩ : ∃ sn:Nat,s=sn:=⟨s.toNat,by omega⟩
 have hsnN:sn < M.rows.length:=by omega
 have hsn63:sn≤63:=by omega
 try simp (maxSteps:=999999) (disch:=first | assumption | omega | (simp; done) | fail) [Tryd.results21, *]
 refine WC.mono (graphOf_w hM _ _ _ (HR.out.mono (by omega) fun q hq=>HG.out q hq)) ?_
 rintro _ ⟨cs,g2,n2,rfl,hn2,hg2,hgok⟩
 have HG2:Hide (∀ b,b < n→g2 b=g b):=⟨fun b hb=>by rw [hg2 b (by omega)]; exact HG.out b hb⟩
 have d0:=(hg2 n (by omega)).trans e0
 have d1:=(hg2 (n+1) (by omega)).trans e1
 have HGOK:=Hide.mk hgok
 obtain ⟨rv',nv',hcs,h1r',h1v'⟩:=hgok.one
 subst hcs
 have h1g:allOne [.lit (.int .i64 M.inp),.lit (.int .i64 M.out),rv',nv',.lit (.int .u64 (allK M.rows.length:Nat))]=true:=by simp [h1r',h1v']
 clear hg2 e0 e1 hgok
 try simp (maxSteps:=999999) (disch:=first | assumption | omega | (simp; done) | fail) [Tryd.results21, *]
 refine WC.mono (sat_w hM (sizeN x) x (Nat.le_refl _) hv _ _ _ _ (by rw [gput_lt (by omega)]; exact (HG2.out 0 hn0).trans hops) (by omega) (HGOK.out.mono (by omega) fun a ha=>gput_lt ha) (repN_mono (by omega) (fun a ha=>by rw [gput_lt (by omega)]; exact HG2.out a ha) HX.out)) ?_
 rintro _ ⟨z,rfl,hz,hsem⟩
 have HSEM:=Hide.mk hsem
 clear hsem
 try simp (maxSteps:=999999) (disch:=first | assumption | omega | (simp; done) | fail) [Tryd.results21, *]
 refine WC.mono (has_w z sn hz hsn63 _) ?_
 rintro _ rfl
 cases hzs:z.testBit sn with
 | false =>
  try simp (maxSteps:=999999) (disch:=first | assumption | omega | (simp; done) | fail) [Tryd.results21, *]
  refine ⟨_,_,_,_,_,⟨⟨rfl,rfl,rfl⟩,rfl,rfl⟩,by omega,fun q hq=>by rw [gput_lt (by omega)]; exact HG2.out q hq,Or.inr (Or.inr ⟨HSR.out,by omega,sOf z,HSEM.out,Or.inl ⟨hzs,rfl,rfl,rfl⟩⟩)⟩
 | true =>
  have hops4:x.op=7∨x.op=8∨x.op=9∨x.op=10:=by omega
  rcases hops4 with ho | ho | ho | ho
  ·obtain ⟨y,hys,yv,hysz⟩:=one_sub hv (Or.inl ho)
   obtain ⟨b0,off0,c0,hb0,hld0,hrp0,hia0⟩:=sub_k HX.out 0 (by rw [hys]; simp)
   have hyy0:x.subs[0]'(by rw [hys]; simp)=y:=by simp [hys]
   rw [hyy0] at hrp0
   simp only [Nat.zero_mul,Nat.add_zero,Int.natCast_zero] at hld0 hia0
   have hld0' : loadB (some (true,4)) (g2 b0) off0=some (.agg c0):=by rw [HG2.out b0 hb0]; exact hld0
   have HRP0:=Hide.mk hrp0
   clear hld0 hrp0
   try simp (maxSteps:=999999) (disch:=first | assumption | omega | (simp; done) | fail) [Tryd.results21, *]
   refine WC.mono (sat_w hM (sizeN x) y (by omega) yv _ _ _ _ (by rw [gput_lt (by omega)]; exact (HG2.out 0 hn0).trans hops) (by omega) (HGOK.out.mono (by omega) fun a ha=>gput_lt ha) (repN_mono (by omega) (fun a ha=>by rw [gput_lt (by omega)]; exact HG2.out a ha) HRP0.out)) ?_
   rintro _ ⟨z0,rfl,hz0,hsem0⟩
   have HSEM0:=Hide.mk hsem0
   clear hsem0
   try simp (maxSteps:=999999) (disch:=first | assumption | omega | (simp; done) | fail) [Tryd.results21, *]
   obtain ⟨w,hw1,hw2⟩:=wit7 hM ho hys hsnN HSEM.out HSEM0.out hzs
   have HW1:=Hide.mk hw1
   refine WC.mono (way_w hM sn (bitN sn) z0 1 hsnN (bitN_lt hsn63) hz0 _ _ _ (HGOK.out.mono (by omega) fun a ha=>gput_lt ha)) ?_
   rintro _ ⟨v,g3,n3,rfl,hn3,hg3,hwv⟩
   have HG3:Hide (∀ q,q < n→g3 q=g q):=⟨fun q hq=>by rw [hg3 q (by omega),gput_lt (by omega)]; exact HG2.out q hq⟩
   have HWV:=Hide.mk hwv
   have h1v:=hwv.one
   clear hg3 hwv
   try simp (maxSteps:=999999) (disch:=first | assumption | omega | (simp; done) | fail) [Tryd.results21, *]
   refine ⟨v,_,_,_,_,⟨⟨rfl,rfl,rfl⟩,rfl,rfl⟩,by omega,HG3.out,Or.inr (Or.inr ⟨HSR.out,by omega,sOf z,HSEM.out,Or.inr ⟨hzs,rfl,Or.inl ⟨ho,rfl,y,sOf z0,w,hys,HSEM0.out,HW1.out,?_⟩⟩⟩)⟩
   have:=HWV.out
   rw [hw2] at this
   exact this.lo (by omega)
  ·obtain ⟨y,hys,yv,hysz⟩:=one_sub hv (Or.inr (Or.inl ho))
   obtain ⟨b0,off0,c0,hb0,hld0,hrp0,hia0⟩:=sub_k HX.out 0 (by rw [hys]; simp)
   have hyy0:x.subs[0]'(by rw [hys]; simp)=y:=by simp [hys]
   rw [hyy0] at hrp0
   simp only [Nat.zero_mul,Nat.add_zero,Int.natCast_zero] at hld0 hia0
   have hld0' : loadB (some (true,4)) (g2 b0) off0=some (.agg c0):=by rw [HG2.out b0 hb0]; exact hld0
   have HRP0:=Hide.mk hrp0
   clear hld0 hrp0
   try simp (maxSteps:=999999) (disch:=first | assumption | omega | (simp; done) | fail) [Tryd.results21, *]
   refine WC.mono (sat_w hM (sizeN x) y (by omega) yv _ _ _ _ (by rw [gput_lt (by omega)]; exact (HG2.out 0 hn0).trans hops) (by omega) (HGOK.out.mono (by omega) fun a ha=>gput_lt ha) (repN_mono (by omega) (fun a ha=>by rw [gput_lt (by omega)]; exact HG2.out a ha) HRP0.out)) ?_
   rintro _ ⟨z0,rfl,hz0,hsem0⟩
   have HSEM0:=Hide.mk hsem0
   clear hsem0
   try simp (maxSteps:=999999) (disch:=first | assumption | omega | (simp; done) | fail) [Tryd.results21, *]
   obtain ⟨w,hw1,hw2⟩:=wit8 hM ho hys hsnN HSEM.out HSEM0.out hzs
   have HW1:=Hide.mk hw1
   refine WC.mono (way_w hM sn (allK M.rows.length) z0 0 hsnN (allK_lt _ h64) hz0 _ _ _ (HGOK.out.mono (by omega) fun a ha=>gput_lt ha)) ?_
   rintro _ ⟨v,g3,n3,rfl,hn3,hg3,hwv⟩
   have HG3:Hide (∀ q,q < n→g3 q=g q):=⟨fun q hq=>by rw [hg3 q (by omega),gput_lt (by omega)]; exact HG2.out q hq⟩
   have HWV:=Hide.mk hwv
   have h1v:=hwv.one
   clear hg3 hwv
   try simp (maxSteps:=999999) (disch:=first | assumption | omega | (simp; done) | fail) [Tryd.results21, *]
   refine ⟨v,_,_,_,_,⟨⟨rfl,rfl,rfl⟩,rfl,rfl⟩,by omega,HG3.out,Or.inr (Or.inr ⟨HSR.out,by omega,sOf z,HSEM.out,Or.inr ⟨hzs,rfl,Or.inr (Or.inl ⟨ho,rfl,y,sOf z0,w,hys,HSEM0.out,HW1.out,?_⟩)⟩⟩)⟩
   have:=HWV.out
   rw [hw2] at this
   exact this.lo (by omega)
  ·try simp (maxSteps:=999999) (disch:=first | assumption | omega | (simp; done) | fail) [Tryd.results21, *]
   refine WC.mono (lasso_w hM sn z hsnN hz hzs (wit9 hM ho HSEM.out) _ _ _ (HGOK.out.mono (by omega) fun a ha=>gput_lt ha)) ?_
   rintro _ ⟨v,g3,n3,rfl,hn3,hg3,hwv⟩
   have HG3:Hide (∀ q,q < n→g3 q=g q):=⟨fun q hq=>by rw [hg3 q (by omega),gput_lt (by omega)]; exact HG2.out q hq⟩
   have HWV:=Hide.mk hwv
   have h1v:=hwv.one
   clear hg3 hwv
   try simp (maxSteps:=999999) (disch:=first | assumption | omega | (simp; done) | fail) [Tryd.results21, *]
   exact ⟨v,_,_,_,_,⟨⟨rfl,rfl,rfl⟩,rfl,rfl⟩,by omega,HG3.out,Or.inr (Or.inr ⟨HSR.out,by omega,sOf z,HSEM.out,Or.inr ⟨hzs,rfl,Or.inr (Or.inr (Or.inr ⟨ho,rfl,HWV.out.lo (by omega)⟩))⟩⟩)⟩
  ·obtain ⟨y,y2,hys,yv,hysz,y2v,hysz2⟩:=two_subs hv ho
   obtain ⟨b0,off0,c0,hb0,hld0,hrp0,hia0⟩:=sub_k HX.out 0 (by rw [hys]; simp)
   have hyy0:x.subs[0]'(by rw [hys]; simp)=y:=by simp [hys]
   rw [hyy0] at hrp0
   simp only [Nat.zero_mul,Nat.add_zero,Int.natCast_zero] at hld0 hia0
   have hld0' : loadB (some (true,4)) (g2 b0) off0=some (.agg c0):=by rw [HG2.out b0 hb0]; exact hld0
   have HRP0:=Hide.mk hrp0
   clear hld0 hrp0
   obtain ⟨b1,off1,c1,hb1,hld1,hrp1,hia1⟩:=sub_k HX.out 1 (by rw [hys]; simp)
   have hyy1:x.subs[1]'(by rw [hys]; simp)=y2:=by simp [hys]
   rw [hyy1] at hrp1
   simp only [Nat.one_mul,Int.natCast_one] at hld1 hia1
   have hld1' : loadB (some (true,4)) (g2 b1) (off1+4)=some (.agg c1):=by rw [HG2.out b1 hb1]; exact hld1
   have HRP1:=Hide.mk hrp1
   clear hld1 hrp1
   try simp (maxSteps:=999999) (disch:=first | assumption | omega | (simp; done) | fail) [Tryd.results21, *]
   refine WC.mono (sat_w hM (sizeN x) y (by omega) yv _ _ _ _ (by rw [gput_lt (by omega)]; exact (HG2.out 0 hn0).trans hops) (by omega) (HGOK.out.mono (by omega) fun a ha=>gput_lt ha) (repN_mono (by omega) (fun a ha=>by rw [gput_lt (by omega)]; exact HG2.out a ha) HRP0.out)) ?_
   rintro _ ⟨z0,rfl,hz0,hsem0⟩
   have HSEM0:=Hide.mk hsem0
   clear hsem0
   try simp (maxSteps:=999999) (disch:=first | assumption | omega | (simp; done) | fail) [Tryd.results21, *]
   refine WC.mono (sat_w hM (sizeN x) y2 (by omega) y2v _ _ _ _ (by rw [gput_lt (by omega)]; exact (HG2.out 0 hn0).trans hops) (by omega) (HGOK.out.mono (by omega) fun a ha=>gput_lt ha) (repN_mono (by omega) (fun a ha=>by rw [gput_lt (by omega)]; exact HG2.out a ha) HRP1.out)) ?_
   rintro _ ⟨z1,rfl,hz1,hsem1⟩
   have HSEM1:=Hide.mk hsem1
   clear hsem1
   try simp (maxSteps:=999999) (disch:=first | assumption | omega | (simp; done) | fail) [Tryd.results21, *]
   obtain ⟨w,hw2⟩:=wit10 hM ho hys hsnN HSEM.out HSEM0.out HSEM1.out hzs
   have HW1:=Hide.mk hw2
   have hw2:wayM M sn (fun u=>z0.testBit u) (fun u=>z1.testBit u) 0=some w:=hw2
   refine WC.mono (way_w hM sn z0 z1 0 hsnN hz0 hz1 _ _ _ (HGOK.out.mono (by omega) fun a ha=>gput_lt ha)) ?_
   rintro _ ⟨v,g3,n3,rfl,hn3,hg3,hwv⟩
   have HG3:Hide (∀ q,q < n→g3 q=g q):=⟨fun q hq=>by rw [hg3 q (by omega),gput_lt (by omega)]; exact HG2.out q hq⟩
   have HWV:=Hide.mk hwv
   have h1v:=hwv.one
   clear hg3 hwv
   try simp (maxSteps:=999999) (disch:=first | assumption | omega | (simp; done) | fail) [Tryd.results21, *]
   refine ⟨v,_,_,_,_,⟨⟨rfl,rfl,rfl⟩,rfl,rfl⟩,by omega,HG3.out,Or.inr (Or.inr ⟨HSR.out,by omega,sOf z,HSEM.out,Or.inr ⟨hzs,rfl,Or.inr (Or.inr (Or.inl ⟨ho,rfl,y,y2,sOf z0,sOf z1,w,hys,HSEM0.out,HSEM1.out,HW1.out,?_⟩))⟩⟩)⟩
   have:=HWV.out
   rw [hw2] at this
   exact this.lo (by omega)
end Go.Ai
end
