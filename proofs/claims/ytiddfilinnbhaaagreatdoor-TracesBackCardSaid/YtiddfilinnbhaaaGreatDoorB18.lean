/- A small verified interpreter over names, its proofs, and what was proved with it. No condition. -/
import Derived.Test.YtiddfilinnbhaaaGreatDoorB14
import Derived.Test.YtiddfilinnbhaaaGreatDoorB12
set_option linter.all false
set_option linter.deprecated false
section
namespace Go.Ai
open Go.Proofs
set_option maxRecDepth 10000
set_option maxHeartbeats 40000000
theorem mkI128:mkI Tryz.prog 128=none:=by kernel_rfl
theorem mk128 {H:Mem} {a b:Int} (h0:0≤a) (h1:a≤b) (h2:b≤1048576) : mksS Tryz.prog H 128 none (some (.lit (.int .i64 a))) (some (.lit (.int .i64 b)))=.val (.sl H.next 0 a.toNat b.toNat) (H.add (.cells (rep [.lit (.int .i64 0),.lit (.int .i64 0)] b.toNat) true 0)) :=
 oMakeSlice_ok (e:=132) (size:=2) (bytes:=16) (z:=[.lit (.int .i64 0),.lit (.int .i64 0)]) (by kernel_rfl) (by decide) (by decide) (by kernel_rfl) h0 h1 h2
attribute [simp] mkI128 mk128
theorem sumT_bk {T:List (List (Int×Int))} {W:List (List Int)} : ∀ (E:List (Nat×Int)),sumT (E.map fun s=>(eW W s,respM T 0 (eW W s)))=sumW W E
 | []=>rfl
 | s :: E=>by show (eW W s).length+sumT (E.map _)=(eW W s).length+sumW W E; rw [sumT_bk E]
theorem Clip_nil (g:Nat→Option Blk) (n:Nat) : WC 3 Tryz.prog 70 [.lit (.slice none 0 0)] ⟨.fn g,n⟩ fun r=>r=.ret (.lit (.slice none 0 0)) ⟨.fn g,n⟩:=by
 refine WC.enterP (noO_ok _ _) hG [] Tryz.func70 rfl (by decide +kernel) (Nat.le_of_ble_eq_true (by kernel_rfl)) ?_
 iterate 8 all_goals try first|with_reducible refine spI (fun h=>?_) fun h=>?_|with_reducible refine spB (fun h=>?_) fun h=>?_|simp (maxSteps:=999999) (disch:=first|assumption|omega|(simp;done)|fail) [Tryz.results70, *]
theorem Clip_sl (g:Nat→Option Blk) (n b k:Nat) (hk:0 < k) (hk2:k≤100000) : WC 3 Tryz.prog 70 [.sl b 0 k k] ⟨.fn g,n⟩ fun r=>r=.ret (.sl b 0 k k) ⟨.fn g,n⟩:=by
 have hk1:¬k=0:=by omega
 refine WC.enterP (noO_ok _ _) hG [] Tryz.func70 rfl (by decide +kernel) (Nat.le_of_ble_eq_true (by kernel_rfl)) ?_
 iterate 8 all_goals try first|with_reducible refine spI (fun h=>?_) fun h=>?_|with_reducible refine spB (fun h=>?_) fun h=>?_|simp (maxSteps:=999999) (disch:=first|assumption|omega|(simp;done)|fail) [Tryz.results70, *]
theorem Clip_slq (g:Nat→Option Blk) (n b k:Nat) (hk:0 < k) (hk2:k≤100000) : WC 3 Tryz.prog 70 [.slq b 0 k 0] ⟨.fn g,n⟩ fun r=>r=.ret (.sl b 0 k k) ⟨.fn g,n⟩:=by
 have hk1:¬k=0:=by omega
 refine WC.enterP (noO_ok _ _) hG [] Tryz.func70 rfl (by decide +kernel) (Nat.le_of_ble_eq_true (by kernel_rfl)) ?_
 iterate 8 all_goals try first|with_reducible refine spI (fun h=>?_) fun h=>?_|with_reducible refine spB (fun h=>?_) fun h=>?_|simp (maxSteps:=999999) (disch:=first|assumption|omega|(simp;done)|fail) [Tryz.results70, *]
def Sh (g:Nat→Option Blk) (lo n:Nat) (wv rv:AV) (aw ar:List Int) (bw br:Nat) : Prop :=
 (aw=[]∧ar=[]∧wv=.lit (.slice none 0 0)∧rv=.lit (.slice none 0 0)) ∨
 (∃ x y,aw=[x]∧ar=[y]∧wv=.sl bw 0 1 1∧rv=.sl br 0 1 1∧lo≤bw∧bw < br∧br < n∧g bw=some (.cells [.lit (.int .i64 x)] true 0)∧g br=some (.cells [.lit (.int .i64 y)] true 0)) ∨
 (aw≠[]∧wv=.slq bw 0 aw.length 0∧rv=.slq br 0 aw.length 0∧lo≤bw∧bw < br∧br < n∧g bw=some (.cells (wdC aw) true 1)∧g br=some (.cells (wdC ar) true 1))
theorem SafeW.of {g:Nat→Option Blk} {lo n B b:Nat} {w:List Int} {own:Bool} {z c:Nat} (h:g b=some (.cells (wdC w) own z)) (h1:lo≤b) (h2:b < n) (h3:b≠B) : SafeW g lo n B w (.sl b 0 w.length c) :=
 ⟨fun a=>if a=b then g a else none,⟨fun a x hx=>(by
  have hx' : (if a=b then g a else none)=some x:=hx
  split at hx'
  ·rename_i e; subst e; exact ⟨hx',h1,h2,h3⟩
  ·cases hx'),RepW.of ((if_pos rfl).trans h) h2⟩⟩
theorem SafeW.nil2 {g:Nat→Option Blk} {lo n B:Nat} : SafeW g lo n B [] (.lit (.slice none 0 0)):=⟨fun _=>none,fun a x hx=>(by cases hx),.inl ⟨rfl,rfl,.inl rfl⟩⟩
theorem Back_w {I:Nat} {O:Int} {T:List (List (Int×Int))} {W:List (List Int)} (hI1:1≤I) (hI2:I≤16) (hO1:1≤O) (hO2:O≤16) (h0:0 < T.length) (hl:T.length≤65537) (hgo:goT I O T 0 1=some T.length) (hLab:Lab T W) (hE:(endsM T 0).length≤1024) (hW:∀ t,t < T.length→(W.getD t []).length≤256) (hWe:∀ s∈endsM T 0,(eW W s).length≤256) (hS:sumW W (endsM T 0)≤65536) (g:Nat→Option Blk) (n:Nat) (tv:AV) (hT:TreeV g n T tv) :
  WC 3 Tryz.prog 34 [.agg [.lit (.int .i64 I),.lit (.int .i64 O),tv]] ⟨.fn g,n⟩ fun r=>∃ us cs B g' n',r=.ret (.tup [.agg [.lit (.int .i64 I),.lit (.int .i64 O),.sl B 0 (endsM T 0).length (endsM T 0).length],.lit (.int .i64 0)]) ⟨.fn g',n'⟩∧us.Perm (bkM T W)∧(∀ (i j:Nat) (_:i < j) (hj:j < us.length),¬ cmpM us[j].1 (us[i]'(by omega)).1 < 0)∧n≤n'∧(∀ b,b < n→g' b=g b)∧n≤B∧B < n'∧g' B=some (.cells cs true 0)∧RowsF g' n n' B us cs∧∀ v∈cs,CapV v:=by
 have hlen:=@lenV Tryz.prog _ _ _ _ _ hT.choose_spec.1
 have h1t:=hT.choose_spec.1.one
 have hone:allOne [.lit (.int .i64 I),.lit (.int .i64 O),tv]=true:=by simp [h1t]
 have HOK:=Hide.mk (okT_of hgo)
 have HT:=Hide.mk hT
 have HLB:=Hide.mk hLab
 have HNE:Hide (0 < (endsM T 0).length):=⟨ends_ne (I:=I) (O:=O) hLab h0 fun r hr=>(okT_of hgo r hr).2⟩
 have HCK:=Hide.mk fun (gX:Nat→Option Blk) (n2:Nat) (hn:n≤n2) (hX:∀ b,b < n→gX b=g b)=>check_tree hI1 hI2 hO1 hO2 h0 hl hgo (fun r hr=>by have:=(okT_of hgo r hr).1; omega) gX n2 tv (hT.mono hn hX)
 have HEN:=Hide.mk fun (gX:Nat→Option Blk) (n2:Nat) (hn:n≤n2) (hX:∀ b,b < n→gX b=g b)=>ends_w hI1 hI2 h0 hl hgo hLab hE hW hS gX n2 tv (hT.mono hn hX)
 have HBK:Hide (bkM T W=(endsM T 0).map fun s=>(eW W s,respM T 0 (eW W s))):=⟨rfl⟩
 have HEM:=Hide.mk fun (s:Nat×Int) (hs:s∈endsM T 0)=>end_iff.1 hs
 have HRE:=Hide.mk fun (k i:Nat) (hk:k < T.length) (hi:i < (T[k]).length) (h:T[k][i]=(-1,-2))=>resp_end hLab hk hi h
 have HED:=Hide.mk fun (p j t:Nat) (o:Int) (h:EdO T p j t o)=>resp_ed hLab h
 have HWE:=Hide.mk hWe
 have HS:=Hide.mk hS
 generalize endsM T 0=E at *
 clear hT hgo hLab hW hS hWe
 have hW2:(T.length:Int)≤1048576:=by omega
 refine WC.enterP (noO_ok _ _) hG pl34 Tryz.func34 rfl (by decide +kernel) (Nat.le_of_ble_eq_true (by kernel_rfl)) ?_
 iterate 8 all_goals try first|with_reducible refine spI (fun h=>?_) fun h=>?_|with_reducible refine spB (fun h=>?_) fun h=>?_|simp (maxSteps:=999999) (disch:=first|assumption|omega|(simp;done)|fail) [*]
 refine WC.mono (HCK.out _ _ (by omega) fun b hb=>by simp (disch:=omega) only [gpl]) ?_
 rintro _ rfl
 iterate 8 all_goals try first|with_reducible refine spI (fun h=>?_) fun h=>?_|with_reducible refine spB (fun h=>?_) fun h=>?_|simp (maxSteps:=999999) (disch:=first|assumption|omega|(simp;done)|fail) [*]
 refine WC.mono (HEN.out _ _ (by omega) fun b hb=>by simp (disch:=omega) only [gpl]) ?_
 rintro _ ⟨g1,n1,BE,ov,rfl,hn1,hg1,hgr⟩
 have HG1:Hide (∀ b,b < n→g1 b=g b):=⟨fun b hb=>(hg1 b (by omega)).trans (by simp (disch:=omega) only [gpl])⟩
 have hx1:=hg1 n (by omega)
 have hx2:=hg1 (n+1) (by omega)
 simp (disch:=omega) only [gpl,gpe] at hx1 hx2
 have HOV:=Hide.mk (GrowV.slice hgr)
 have hone2:oneC ov=true:=hgr.one
 have hlo:=@lenV Tryz.prog _ _ _ _ _ HOV.out
 clear hg1 HEN HCK hgr
 iterate 8 all_goals try first|with_reducible refine spI (fun h=>?_) fun h=>?_|with_reducible refine spB (fun h=>?_) fun h=>?_|simp (maxSteps:=999999) (disch:=first|assumption|omega|(simp;done)|fail) [*]
 refine LX.ind (fun m gf H'=>∃ (k n2:Nat) (gL:Nat→Option Blk) (F:List AV),k≤T.length∧m=T.length - k∧H'=⟨.fn gL,n2⟩∧n1+1≤n2∧Hide (∀ b,b < n1→gL b=g1 b)∧gL n1=some (.cells F true 0)∧F.length=T.length * 2∧Hide (∀ t p j,EdT T p j t→p < k→F[t * 2]?=some (.lit (.int .i64 ((p:Nat) : Int)))∧F[t * 2+1]?=some (.lit (.int .i64 ((j:Nat) : Int)))) ∧
  gf 1=some (.ptr n 0)∧gf 2=some (.ptr (n+1) 0)∧gf 5=some ov∧gf 7=some (.sl n1 0 T.length T.length)∧gf 36=some tv∧gf 37=some (.lit (.int .i64 T.length))∧gf 38=some (.lit (.int .i64 k))) (m0:=T.length) ?_ ?_
 ·refine ⟨0,_,_,_,Nat.zero_le _,rfl,rfl,Nat.le_refl _,⟨fun b hb=>gpl hb⟩,gpe,?_,⟨fun t p j _ h=>by omega⟩,by simp,by simp,by simp,by simp,by simp,by simp,by simp⟩
  rw [rep_len]; simp
 rintro m gf H' ⟨k,n2,g2,F,hk,rfl,rfl,hn2,HG,hgF,hF,HF,w1,w2,w5,w7,w36,w37,w38⟩ ih
 have hgn:=(HG.out n (by omega)).trans hx1
 have hgz:=(HG.out (n+1) (by omega)).trans hx2
 refine LX.roundP (noO_ok _ _) hG pl34 (by decide +kernel) ?_
 by_cases hlt:k < T.length
 ·have hltI:(k:Int) < (T.length:Int):=by omega
  obtain ⟨a2,o2,q,ha2,hia2,hc2,hq⟩:=HT.out.at hlt
  rw [← HG1.out a2 ha2,← HG.out a2 (by omega)] at hc2
  have h1q:oneC q=true:=hq.one
  have hlq:=@lenV Tryz.prog _ _ _ _ _ hq
  have HO1:=Hide.mk (HOK.out _ (List.getElem_mem hlt))
  have hrl16:(T[k]).length≤16:=by have:=HO1.out.1; omega
  have HEDT:Hide (∀ (i:Nat) (h:i < (T[k]).length) (t:Nat),(T[k])[i].1=(t:Int)→EdT T k i t):=⟨fun i h t ht=>⟨_,by rw [List.getD_eq_getElem?_getD,List.getElem?_eq_getElem hlt]; simp [h],ht⟩⟩
  have HEDI:Hide (∀ (j t:Nat),EdT T k j t→∃ h:j < (T[k]).length,(T[k])[j].1=(t:Int)):=⟨fun j t ⟨e,h1,h2⟩=>by
   rw [List.getD_eq_getElem?_getD,List.getElem?_eq_getElem hlt] at h1
   obtain ⟨h3,h4⟩:=List.getElem?_eq_some_iff.1 h1
   exact ⟨h3,by rw [← h2]; exact congrArg _ h4⟩⟩
  have HQ:=Hide.mk hq
  clear hq
  generalize T[k]=row at *
  iterate 8 all_goals try first|with_reducible refine spI (fun h=>?_) fun h=>?_|with_reducible refine spB (fun h=>?_) fun h=>?_|simp (maxSteps:=999999) (disch:=first|assumption|omega|(simp;done)|fail) [*]
  refine LX.ind (fun m gf H'=>∃ (i n3:Nat) (gI:Nat→Option Blk) (F:List AV),i≤row.length∧m=row.length - i∧H'=⟨.fn gI,n3⟩∧n2≤n3∧Hide (∀ b,b < n1→gI b=g1 b)∧gI n1=some (.cells F true 0)∧F.length=T.length * 2∧Hide (∀ t p j,EdT T p j t→(p < k∨p=k∧j < i)→F[t * 2]?=some (.lit (.int .i64 ((p:Nat) : Int)))∧F[t * 2+1]?=some (.lit (.int .i64 ((j:Nat) : Int)))) ∧
   gf 1=some (.ptr n 0)∧gf 2=some (.ptr (n+1) 0)∧gf 5=some ov∧gf 7=some (.sl n1 0 T.length T.length)∧gf 8=some (.lit (.int .i64 k))∧gf 36=some tv∧gf 37=some (.lit (.int .i64 T.length))∧gf 38=some (.lit (.int .i64 k)) ∧
   gf 43=some q∧gf 44=some (.lit (.int .i64 row.length))∧gf 45=some (.lit (.int .i64 i))) (m0:=row.length) ?_ ?_
  ·exact ⟨0,n2,g2,F,Nat.zero_le _,rfl,rfl,Nat.le_refl _,HG,hgF,hF,⟨fun t p j h1 h2=>HF.out t p j h1 (by omega)⟩,by simp [*],by simp [*],by simp [*],by simp [*],by simp [*],by simp [*],by simp [*],by simp [*],by simp [*],by simp [*],by simp⟩
  clear hgF hF HF w1 w2 w5 w7 w36 w37 w38 hgn hgz
  rintro m gf H' ⟨i,n3,gI,F,hi,rfl,rfl,hn3,HGI,hgF,hF,HF,w1,w2,w5,w7,w8,w36,w37,w38,w43,w44,w45⟩ ih2
  refine LX.roundP (noO_ok _ _) hG pl34 (by decide +kernel) ?_
  by_cases hil:i < row.length
  ·have hilI:(i:Int) < (row.length:Int):=by omega
   obtain ⟨a3,o3,ha3,hia3,hc3⟩:=edge_at HQ.out hil
   rw [← HG1.out a3 ha3,← HGI.out a3 (by omega)] at hc3
   have HE1:=Hide.mk (HO1.out.2 _ (List.getElem_mem hil))
   have HEDx:=Hide.mk fun t ht=>HEDT.out i hil t ht
   have HDI:Hide (∀ j t,EdT T k j t→j < i+1→¬ j < i→((row[i]).1=(t:Int))):=⟨fun j t hE h1 h2=>by
    obtain ⟨h3,h4⟩:=HEDI.out j t hE
    have:j=i:=by omega
    subst this
    exact h4⟩
   generalize row[i]=e at *
   obtain ⟨to,eo⟩:=e
   dsimp only at HE1 HEDx HDI hc3
   by_cases ht:to = -1
   ·subst ht
    iterate 8 all_goals try first|with_reducible refine spI (fun h=>?_) fun h=>?_|with_reducible refine spB (fun h=>?_) fun h=>?_|simp (maxSteps:=999999) (disch:=first|assumption|omega|(simp;done)|fail) [*]
    refine ih2.out (row.length - (i+1)) _ _ (by omega) ⟨i+1,_,_,F,by omega,rfl,rfl,by omega,⟨fun b hb=>?_⟩,?_,hF,⟨fun t p j h1 h2=>HF.out t p j h1 ?_⟩,by simp [*],by simp [*],by simp [*],by simp [*],by simp [*],by simp [*],by simp [*],by simp [*],by simp [*],by simp [*],by simp⟩
    ·simp (disch:=omega) only [gpl,gpn]; exact HGI.out b hb
    ·simp (disch:=omega) only [gpl,gpn]; exact hgF
    ·by_cases h3:p < k
     ·exact .inl h3
     ·have hpk:p=k:=by omega
      subst hpk
      by_cases hji:j < i
      ·exact .inr ⟨rfl,hji⟩
      ·have:=HDI.out j t h1 (by omega) hji
       omega
   ·obtain ⟨t,rfl⟩ : ∃ t:Nat,to=t:=⟨to.toNat,by have:=HE1.out; omega⟩
    have htl:t < T.length:=by have:=HE1.out; omega
    have hEd:=HEDx.out t rfl
    have htF:t * 2+([.lit (.int .i64 (k:Int)),.lit (.int .i64 (i:Int))] : List AV).length≤F.length:=by simp; omega
    have htF2:t * 2+2≤F.length:=by omega
    have HPL:Hide ((putR F (t * 2) [.lit (.int .i64 (k:Int)),.lit (.int .i64 (i:Int))]).length=T.length * 2):=⟨by rw [putR_len htF]; exact hF⟩
    have HDN:Hide (∀ u p j,EdT T p j u→(p < k∨p=k∧j < i+1)→(putR F (t * 2) [.lit (.int .i64 (k:Int)),.lit (.int .i64 (i:Int))])[u * 2]?=some (.lit (.int .i64 ((p:Nat) : Int)))∧(putR F (t * 2) [.lit (.int .i64 (k:Int)),.lit (.int .i64 (i:Int))])[u * 2+1]?=some (.lit (.int .i64 ((j:Nat) : Int)))):=⟨fun u p j h1 h2=>by
     by_cases hut:u=t
     ·subst hut
      obtain ⟨e1,e2⟩:=HLB.out.uniq h1 hEd
      subst e1 e2
      exact ⟨putR_at0 htF2,putR_at1 htF2⟩
     ·rw [putR_ne htF (by simp; omega),putR_ne htF (by simp; omega)]
      refine HF.out u p j h1 ?_
      by_cases h3:p < k
      ·exact .inl h3
      ·have hpk:p=k:=by omega
       subst hpk
       by_cases hji:j < i
       ·exact .inr ⟨rfl,hji⟩
       ·have:=HDI.out j u h1 (by omega) hji
        omega⟩
    clear HDI HEDx
    iterate 8 all_goals try first|with_reducible refine spI (fun h=>?_) fun h=>?_|with_reducible refine spB (fun h=>?_) fun h=>?_|simp (maxSteps:=999999) (disch:=first|assumption|omega|(simp;done)|fail) [*]
    refine ih2.out (row.length - (i+1)) _ _ (by omega) ⟨i+1,_,_,putR F (t * 2) [.lit (.int .i64 (k:Int)),.lit (.int .i64 (i:Int))],by omega,rfl,rfl,by omega,⟨fun b hb=>?_⟩,?_,HPL.out,HDN,by simp [*],by simp [*],by simp [*],by simp [*],by simp [*],by simp [*],by simp [*],by simp [*],by simp [*],by simp [*],by simp⟩
    ·simp (disch:=omega) only [gpl,gpn]; exact HGI.out b hb
    ·simp (disch:=omega) only [gpl,gpn,gpe] <;> simp [putR]
  ·have hilI:¬(i:Int) < (row.length:Int):=by omega
   have hir:i=row.length:=by omega
   iterate 8 all_goals try first|with_reducible refine spI (fun h=>?_) fun h=>?_|with_reducible refine spB (fun h=>?_) fun h=>?_|simp (maxSteps:=999999) (disch:=first|assumption|omega|(simp;done)|fail) [*]
   refine ih.out (T.length - (k+1)) _ _ (by omega) ⟨k+1,_,gI,F,by omega,rfl,rfl,by omega,HGI,hgF,hF,⟨fun t p j h1 h2=>HF.out t p j h1 ?_⟩,by simp [*],by simp [*],by simp [*],by simp [*],by simp [*],by simp [*],by simp⟩
   by_cases h3:p < k
   ·exact .inl h3
   ·have hpk:p=k:=by omega
    subst hpk
    obtain ⟨h4,_⟩:=HEDI.out j t h1
    exact .inr ⟨rfl,by omega⟩
 ·have hltI:¬(k:Int) < (T.length:Int):=by omega
  have HFX:Hide (∀ t p j,EdT T p j t→F[t * 2]?=some (.lit (.int .i64 ((p:Nat) : Int)))∧F[t * 2+1]?=some (.lit (.int .i64 ((j:Nat) : Int)))):=⟨fun t p j h=>HF.out t p j h (by have:=h.lt; omega)⟩
  have HOV1:Hide (SliceV g1 n1 ov E.length (endC E)):=⟨SliceV.ext (Nat.le_refl _) (fun a x _ hx=>by
   split at hx
   ·exact hx
   ·cases hx) HOV.out⟩
  have hE2:(E.length:Int)≤1048576:=by omega
  clear HF HOV hk
  iterate 8 all_goals try first|with_reducible refine spI (fun h=>?_) fun h=>?_|with_reducible refine spB (fun h=>?_) fun h=>?_|simp (maxSteps:=999999) (disch:=first|assumption|omega|(simp;done)|fail) [*]
  refine LX.ind (fun m gf H'=>∃ (q nL:Nat) (gL:Nat→Option Blk) (cs Lr:List AV),q≤E.length∧m=E.length - q∧H'=⟨.fn gL,nL⟩∧n2+1+1≤nL∧Hide (∀ b,b < n2→gL b=g2 b)∧gL n2=some (.cells Lr true 0)∧Lr.length=E.length * 2∧Hide (Lr.take (q * 2)=cs)∧gL (n2+1)=some (.cells [.lit (.int .i64 I),.lit (.int .i64 O),.sl n2 0 q E.length] true 0)∧Hide (RowsF gL (n2+1+1) nL n2 ((bkM T W).take q) cs)∧Hide (∀ v∈cs,CapV v) ∧
   gf 1=some (.ptr n 0)∧gf 2=some (.ptr (n+1) 0)∧gf 5=some ov∧gf 7=some (.sl n1 0 T.length T.length)∧gf 12=some (.ptr (n2+1) 0)∧gf 70=some ov∧gf 71=some (.lit (.int .i64 E.length))∧gf 72=some (.lit (.int .i64 q))) (m0:=E.length) ?_ ?_
  ·refine ⟨0,_,_,[],rep [.lit (.slice none 0 0),.lit (.slice none 0 0)] E.length,Nat.zero_le _,rfl,rfl,Nat.le_refl _,⟨fun b hb=>?_⟩,?_,?_,⟨by simp⟩,gpe,⟨RowsF.nil⟩,⟨fun v hv=>by cases hv⟩,by simp [*],by simp [*],by simp [*],by simp [*],by simp [*],by simp [*],by simp,by simp⟩
   ·simp (disch:=omega) only [gpl]
   ·simp (disch:=omega) only [gpl,gpe]
   ·rw [rep_len]; simp
  clear w1 w2 w5 w7 w36 w37 w38
  rintro m gf H' ⟨q,nL,gL,cs,Lr,hq,rfl,rfl,hnL,HGL,hgLr,hLr,HLR,hgLb,HRF,HCV,w1,w2,w5,w7,w12,w70,w71,w72⟩ ih
  have hgLn:=(HGL.out n (by omega)).trans hgn
  have hgLz:=(HGL.out (n+1) (by omega)).trans hgz
  have hgLF:=(HGL.out n1 (by omega)).trans hgF
  refine LX.roundP (noO_ok _ _) hG pl34 (by decide +kernel) ?_
  by_cases hql:q < E.length
  ·have hqlI:(q:Int) < (E.length:Int):=by omega
   obtain ⟨a3,o3,ha3,hia3,hcE⟩:=end_at HOV1.out hql
   rw [← HG.out a3 ha3,← HGL.out a3 (by omega)] at hcE
   have HSM:=Hide.mk (HEM.out _ (List.getElem_mem hql))
   have HSE:=Hide.mk (HWE.out _ (List.getElem_mem hql))
   have HTK:Hide ((bkM T W).take (q+1)=(bkM T W).take q++[(eW W E[q],respM T 0 (eW W E[q]))]):=⟨by
    have hbl:q < (bkM T W).length:=by rw [HBK.out,List.length_map]; exact hql
    rw [take_snoc hbl]
    congr 2
    have:(bkM T W)[q]?=some (eW W E[q],respM T 0 (eW W E[q])):=by rw [HBK.out,List.getElem?_map,List.getElem?_eq_getElem hql]; rfl
    rw [List.getElem?_eq_getElem hbl] at this
    exact Option.some.inj this⟩
   have hLq:q * 2+2≤Lr.length:=by omega
   generalize E[q]=s at *
   obtain ⟨kk,ii⟩:=s
   dsimp only at hcE
   obtain ⟨SW,hSW⟩ : ∃ x,x=eW W (kk,ii):=⟨_,rfl⟩
   obtain ⟨SR,hSR⟩ : ∃ x,x=respM T 0 (eW W (kk,ii)):=⟨_,rfl⟩
   rw [← hSR,← hSW] at HTK
   have hswl:SW.length≤256:=by rw [hSW]; exact HSE.out
   by_cases hii:ii = -1
   ·have hkk:kk < T.length:=by
     rcases HSM.out with ⟨k,h1,i,h2,h3,h4⟩ | ⟨k,h1,h2,h3⟩
     ·injection h4 with e1 e2; omega
     ·injection h3 with e1 e2; omega
    have HW0:Hide (SW=W.getD kk []++([] : List Int).reverse∧SR=respM T 0 (W.getD kk [])++([] : List Int).reverse):=⟨by
     rw [hSW,hSR,hii]; unfold eW; simp⟩
    clear hSW hSR HSM HSE
    subst hii
    iterate 8 all_goals try first|with_reducible refine spI (fun h=>?_) fun h=>?_|with_reducible refine spB (fun h=>?_) fun h=>?_|simp (maxSteps:=999999) (disch:=first|assumption|omega|(simp;done)|fail) [*]
    refine LX.ind (fun m gf H'=>∃ (x nK bw br:Nat) (gK:Nat→Option Blk) (wv rv:AV) (aw ar:List Int),x < T.length∧x=m∧H'=⟨.fn gK,nK⟩∧nL+1+1≤nK∧Hide (∀ b,b < nL→gK b=gL b)∧gK (nL+1)=some (.cells [wv,rv] true 0)∧Hide (Sh gK (nL+1+1) nK wv rv aw ar bw br)∧Hide (aw.length=ar.length)∧aw.length≤256∧Hide (SW=W.getD x []++aw.reverse∧SR=respM T 0 (W.getD x [])++ar.reverse) ∧
     gf 1=some (.ptr n 0)∧gf 2=some (.ptr (n+1) 0)∧gf 5=some ov∧gf 7=some (.sl n1 0 T.length T.length)∧gf 12=some (.ptr (n2+1) 0)∧gf 15=some (.ptr (nL+1) 0)∧gf 16=some (.lit (.int .i64 ((x:Nat) : Int)))∧gf 70=some ov∧gf 71=some (.lit (.int .i64 E.length))∧gf 72=some (.lit (.int .i64 q))) (m0:=kk) ?_ ?_
    ·refine ⟨kk,_,0,0,_,_,_,[],[],hkk,rfl,rfl,Nat.le_refl _,⟨fun b hb=>?_⟩,gpe,⟨.inl ⟨rfl,rfl,rfl,rfl⟩⟩,⟨rfl⟩,by simp,HW0,by simp [*],by simp [*],by simp [*],by simp [*],by simp [*],by simp,by simp,by simp [*],by simp [*],by simp [*]⟩
     simp (disch:=omega) only [gpl]
    clear w1 w2 w5 w7 w12 w70 w71 w72 hcE
    rintro m gf H' ⟨x,nK,bw,br,gK,wv,rv,aw,ar,hx,rfl,rfl,hnK,HGK,hgU,HSH,HAL,haw,HWR,v1,v2,v5,v7,v12,v15,v16,v70,v71,v72⟩ ih2
    have hgKn:=(HGK.out n (by omega)).trans hgLn
    have hgKF:=(HGK.out n1 (by omega)).trans hgLF
    have hgKL:=(HGK.out n2 (by omega)).trans hgLr
    have hgKB:=(HGK.out (n2+1) (by omega)).trans hgLb
    refine LX.roundP (noO_ok _ _) hG pl34 (by decide +kernel) ?_
    by_cases hx0:x=0
    ·have hxI:((x:Nat) : Int)=0:=by omega
     have HSWR:Hide (SW=aw.reverse∧SR=ar.reverse):=⟨by
      obtain ⟨e1,e2⟩:=HWR.out
      rw [hx0,HLB.out.nil] at e1 e2
      exact ⟨e1,e2⟩⟩
     have HCF:=Hide.mk fun (gF:Nat→Option Blk) (nF:Nat) (wv' rv' : AV) (h1:nL≤nF) (h2:∀ a,n2+1+1≤a→a < nL→gF a=gL a) (h3:SafeW gF (n2+1+1) nF n2 SW wv') (h4:SafeW gF (n2+1+1) nF n2 SR rv') (h5:CapV wv') (h6:CapV rv')=>(show RowsF gF (n2+1+1) nF n2 ((bkM T W).take (q+1)) (cs++[wv',rv'])∧∀ v∈cs++[wv',rv'],CapV v from by
      refine ⟨?_,fun v hv=>?_⟩
      ·rw [HTK.out]
       exact (HRF.out.keep (Nat.le_refl _) h1 (.inr (.inl rfl)) fun a ha hb _=>h2 a ha hb).snoc h3 h4
      ·rcases List.mem_append.1 hv with h | h
       ·exact HCV.out v h
       ·rcases List.mem_cons.1 h with rfl | h
        ·exact h5
        ·rw [List.mem_singleton.1 h]; exact h6)
     subst hx0
     have v16' : gf 16=some (.lit (.int .i64 0)):=v16
     clear v16 hxI hx
     rcases HSH.out with ⟨rfl,rfl,rfl,rfl⟩ | ⟨xx,yy,rfl,rfl,rfl,rfl,hb1,hb2,hb3,hb4,hb5⟩ | ⟨hne,rfl,rfl,hb1,hb2,hb3,hb4,hb5⟩
     ·iterate 8 all_goals try first|with_reducible refine spI (fun h=>?_) fun h=>?_|with_reducible refine spB (fun h=>?_) fun h=>?_|simp (maxSteps:=999999) (disch:=first|assumption|omega|(simp;done)|fail) [*]
      refine WC.mono (rev_nil _ _) ?_
      rintro _ ⟨u1,rfl⟩
      iterate 8 all_goals try first|with_reducible refine spI (fun h=>?_) fun h=>?_|with_reducible refine spB (fun h=>?_) fun h=>?_|simp (maxSteps:=999999) (disch:=first|assumption|omega|(simp;done)|fail) [*]
      refine WC.mono (rev_nil _ _) ?_
      rintro _ ⟨u2,rfl⟩
      iterate 8 all_goals try first|with_reducible refine spI (fun h=>?_) fun h=>?_|with_reducible refine spB (fun h=>?_) fun h=>?_|simp (maxSteps:=999999) (disch:=first|assumption|omega|(simp;done)|fail) [*]
      refine WC.mono (Clip_nil _ _) ?_
      rintro _ rfl
      iterate 8 all_goals try first|with_reducible refine spI (fun h=>?_) fun h=>?_|with_reducible refine spB (fun h=>?_) fun h=>?_|simp (maxSteps:=999999) (disch:=first|assumption|omega|(simp;done)|fail) [*]
      refine WC.mono (Clip_nil _ _) ?_
      rintro _ rfl
      iterate 8 all_goals try first|with_reducible refine spI (fun h=>?_) fun h=>?_|with_reducible refine spB (fun h=>?_) fun h=>?_|simp (maxSteps:=999999) (disch:=first|assumption|omega|(simp;done)|fail) [*]
      obtain ⟨hrf2,hcv2⟩:=HCF.out (gput (gput (gput gK nK (some (.cells [.lit (.slice none 0 0),.lit (.slice none 0 0)] true 0))) n2 (some (.cells (putR Lr (q * 2) [.lit (.slice none 0 0),.lit (.slice none 0 0)]) true 0))) (n2+1) (some (.cells [.lit (.int .i64 I),.lit (.int .i64 O),.sl n2 0 (q+1) E.length] true 0))) (nK+1) (.lit (.slice none 0 0)) (.lit (.slice none 0 0)) (by omega) (fun a h1 h2=>by simp (disch:=omega) only [gpl,gpn]; exact HGK.out a h2) (by rw [HSWR.out.1]; exact SafeW.nil2) (by rw [HSWR.out.2]; exact SafeW.nil2) (fun a o n c h=>by cases h) (fun a o n c h=>by cases h)
      have HRF2:=Hide.mk hrf2
      have HCV2:=Hide.mk hcv2
      clear hrf2 hcv2
      have hLq2:q * 2+([.lit (.slice none 0 0),.lit (.slice none 0 0)] : List AV).length≤Lr.length:=by simp; omega
      refine ih.out (E.length - (q+1)) _ _ (by omega) ⟨q+1,nK+1,(gput (gput (gput gK nK (some (.cells [.lit (.slice none 0 0),.lit (.slice none 0 0)] true 0))) n2 (some (.cells (putR Lr (q * 2) [.lit (.slice none 0 0),.lit (.slice none 0 0)]) true 0))) (n2+1) (some (.cells [.lit (.int .i64 I),.lit (.int .i64 O),.sl n2 0 (q+1) E.length] true 0))),cs++[.lit (.slice none 0 0),.lit (.slice none 0 0)],putR Lr (q * 2) [.lit (.slice none 0 0),.lit (.slice none 0 0)],by omega,rfl,rfl,by omega,⟨fun b hb=>?_⟩,?_,?_,⟨?_⟩,gpe,HRF2,HCV2,by simp [*],by simp [*],by simp [*],by simp [*],by simp [*],by simp [*],by simp [*],by simp⟩
      ·simp (disch:=omega) only [gpl,gpn]; exact (HGK.out b (by omega)).trans (HGL.out b hb)
      ·simp (disch:=omega) only [gpl,gpe]
      ·rw [putR_len hLq2]; exact hLr
      ·have h9:=putR_take hLq2
       rw [HLR.out] at h9
       rw [Nat.add_mul]
       exact h9
     ·have HAR:Hide ([xx].reverse=[xx]∧[yy].reverse=[yy]):=⟨rfl,rfl⟩
      iterate 8 all_goals try first|with_reducible refine spI (fun h=>?_) fun h=>?_|with_reducible refine spB (fun h=>?_) fun h=>?_|simp (maxSteps:=999999) (disch:=first|assumption|omega|(simp;done)|fail) [*]
      refine WC.mono (rev_sl bw 1 0 _ [xx] (by simp) gK hb4 (by omega)) ?_
      rintro _ ⟨u1,gR,rfl,hr1,hr2⟩
      have HR2:=Hide.mk hr2
      have hgUR:=(hr2 (nL+1) (by omega)).trans hgU
      have hb5R:=(hr2 br (by omega)).trans hb5
      clear hr2
      iterate 8 all_goals try first|with_reducible refine spI (fun h=>?_) fun h=>?_|with_reducible refine spB (fun h=>?_) fun h=>?_|simp (maxSteps:=999999) (disch:=first|assumption|omega|(simp;done)|fail) [*]
      refine WC.mono (rev_sl br 1 0 _ [yy] (by simp) gR hb5R (by omega)) ?_
      rintro _ ⟨u2,gS,rfl,hs1,hs2⟩
      have HS2:=Hide.mk hs2
      have hgUS:=(hs2 (nL+1) (by omega)).trans hgUR
      have hgLS:=(hs2 n2 (by omega)).trans ((HR2.out n2 (by omega)).trans hgKL)
      have hgBS:=(hs2 (n2+1) (by omega)).trans ((HR2.out (n2+1) (by omega)).trans hgKB)
      have hbwS:=(hs2 bw (by omega)).trans hr1
      clear hs2 hr1 hb4 hb5 hb5R
      iterate 8 all_goals try first|with_reducible refine spI (fun h=>?_) fun h=>?_|with_reducible refine spB (fun h=>?_) fun h=>?_|simp (maxSteps:=999999) (disch:=first|assumption|omega|(simp;done)|fail) [*]
      refine WC.mono (Clip_sl _ _ bw 1 (by omega) (by omega)) ?_
      rintro _ rfl
      iterate 8 all_goals try first|with_reducible refine spI (fun h=>?_) fun h=>?_|with_reducible refine spB (fun h=>?_) fun h=>?_|simp (maxSteps:=999999) (disch:=first|assumption|omega|(simp;done)|fail) [*]
      refine WC.mono (Clip_sl _ _ br 1 (by omega) (by omega)) ?_
      rintro _ rfl
      iterate 8 all_goals try first|with_reducible refine spI (fun h=>?_) fun h=>?_|with_reducible refine spB (fun h=>?_) fun h=>?_|simp (maxSteps:=999999) (disch:=first|assumption|omega|(simp;done)|fail) [*]
      obtain ⟨hrf2,hcv2⟩:=HCF.out (gput (gput (gput gS nK (some (.cells [.sl bw 0 1 1,.sl br 0 1 1] true 0))) n2 (some (.cells (putR Lr (q * 2) [.sl bw 0 1 1,.sl br 0 1 1]) true 0))) (n2+1) (some (.cells [.lit (.int .i64 I),.lit (.int .i64 O),.sl n2 0 (q+1) E.length] true 0))) (nK+1) (.sl bw 0 1 1) (.sl br 0 1 1) (by omega) (fun a h1 h2=>by simp (disch:=omega) only [gpl,gpn]; rw [HS2.out a (by omega),HR2.out a (by omega)]; exact HGK.out a h2) (by rw [HSWR.out.1]; exact SafeW.of (w:=[xx]) (c:=1) (by simp (disch:=omega) only [gpl,gpn]; exact hbwS) (by omega) (by omega) (by omega)) (by rw [HSWR.out.2]; exact SafeW.of (w:=[yy]) (c:=1) (by simp (disch:=omega) only [gpl,gpn]; exact hs1) (by omega) (by omega) (by omega)) (fun a o n c h=>by cases h; omega) (fun a o n c h=>by cases h; omega)
      have HRF2:=Hide.mk hrf2
      have HCV2:=Hide.mk hcv2
      clear hrf2 hcv2
      have hLq2:q * 2+([.sl bw 0 1 1,.sl br 0 1 1] : List AV).length≤Lr.length:=by simp; omega
      refine ih.out (E.length - (q+1)) _ _ (by omega) ⟨q+1,nK+1,(gput (gput (gput gS nK (some (.cells [.sl bw 0 1 1,.sl br 0 1 1] true 0))) n2 (some (.cells (putR Lr (q * 2) [.sl bw 0 1 1,.sl br 0 1 1]) true 0))) (n2+1) (some (.cells [.lit (.int .i64 I),.lit (.int .i64 O),.sl n2 0 (q+1) E.length] true 0))),cs++[.sl bw 0 1 1,.sl br 0 1 1],putR Lr (q * 2) [.sl bw 0 1 1,.sl br 0 1 1],by omega,rfl,rfl,by omega,⟨fun b hb=>?_⟩,?_,?_,⟨?_⟩,gpe,HRF2,HCV2,by simp [*],by simp [*],by simp [*],by simp [*],by simp [*],by simp [*],by simp [*],by simp⟩
      ·simp (disch:=omega) only [gpl,gpn]; rw [HS2.out b (by omega),HR2.out b (by omega)]; exact (HGK.out b (by omega)).trans (HGL.out b hb)
      ·simp (disch:=omega) only [gpl,gpe]
      ·rw [putR_len hLq2]; exact hLr
      ·have h9:=putR_take hLq2
       rw [HLR.out] at h9
       rw [Nat.add_mul]
       exact h9
     ·have hawp:0 < aw.length:=List.length_pos_iff.2 hne
      have HAWR:Hide (aw.reverse.length=aw.length∧ar.reverse.length=aw.length):=⟨by rw [List.length_reverse],by rw [List.length_reverse]; exact HAL.out.symm⟩
      have HRV2:=Hide.mk fun (gX:Nat→Option Blk) (h:gX br=some (.cells (wdC ar) true 1))=>(by have:=rev_slq br 0 1 nK ar (by have:=HAL.out; omega) gX h (by omega); rw [← HAL.out] at this; exact this)
      iterate 8 all_goals try first|with_reducible refine spI (fun h=>?_) fun h=>?_|with_reducible refine spB (fun h=>?_) fun h=>?_|simp (maxSteps:=999999) (disch:=first|assumption|omega|(simp;done)|fail) [*]
      refine WC.mono (rev_slq bw 0 1 _ aw (by omega) gK hb4 (by omega)) ?_
      rintro _ ⟨u1,gR,rfl,hr1,hr2⟩
      have HR2:=Hide.mk hr2
      have hgUR:=(hr2 (nL+1) (by omega)).trans hgU
      have hb5R:=(hr2 br (by omega)).trans hb5
      clear hr2
      iterate 8 all_goals try first|with_reducible refine spI (fun h=>?_) fun h=>?_|with_reducible refine spB (fun h=>?_) fun h=>?_|simp (maxSteps:=999999) (disch:=first|assumption|omega|(simp;done)|fail) [*]
      refine WC.mono (HRV2.out gR hb5R) ?_
      rintro _ ⟨u2,gS,rfl,hs1,hs2⟩
      have HS2:=Hide.mk hs2
      have hgUS:=(hs2 (nL+1) (by omega)).trans hgUR
      have hgLS:=(hs2 n2 (by omega)).trans ((HR2.out n2 (by omega)).trans hgKL)
      have hgBS:=(hs2 (n2+1) (by omega)).trans ((HR2.out (n2+1) (by omega)).trans hgKB)
      have hbwS:=(hs2 bw (by omega)).trans hr1
      clear hs2 hr1 hb4 hb5 hb5R
      iterate 8 all_goals try first|with_reducible refine spI (fun h=>?_) fun h=>?_|with_reducible refine spB (fun h=>?_) fun h=>?_|simp (maxSteps:=999999) (disch:=first|assumption|omega|(simp;done)|fail) [*]
      refine WC.mono (Clip_slq _ _ bw aw.length (by omega) (by omega)) ?_
      rintro _ rfl
      iterate 8 all_goals try first|with_reducible refine spI (fun h=>?_) fun h=>?_|with_reducible refine spB (fun h=>?_) fun h=>?_|simp (maxSteps:=999999) (disch:=first|assumption|omega|(simp;done)|fail) [*]
      refine WC.mono (Clip_slq _ _ br aw.length (by omega) (by omega)) ?_
      rintro _ rfl
      iterate 8 all_goals try first|with_reducible refine spI (fun h=>?_) fun h=>?_|with_reducible refine spB (fun h=>?_) fun h=>?_|simp (maxSteps:=999999) (disch:=first|assumption|omega|(simp;done)|fail) [*]
      obtain ⟨hrf2,hcv2⟩:=HCF.out (gput (gput (gput gS nK (some (.cells [.sl bw 0 aw.length aw.length,.sl br 0 aw.length aw.length] true 0))) n2 (some (.cells (putR Lr (q * 2) [.sl bw 0 aw.length aw.length,.sl br 0 aw.length aw.length]) true 0))) (n2+1) (some (.cells [.lit (.int .i64 I),.lit (.int .i64 O),.sl n2 0 (q+1) E.length] true 0))) (nK+1) (.sl bw 0 aw.length aw.length) (.sl br 0 aw.length aw.length) (by omega) (fun a h1 h2=>by simp (disch:=omega) only [gpl,gpn]; rw [HS2.out a (by omega),HR2.out a (by omega)]; exact HGK.out a h2) (by rw [HSWR.out.1]; exact HAWR.out.1 ▸ SafeW.of (w:=aw.reverse) (c:=aw.reverse.length) (by simp (disch:=omega) only [gpl,gpn]; exact hbwS) (by omega) (by omega) (by omega)) (by rw [HSWR.out.2]; exact (by have h:=SafeW.of (g:=(gput (gput (gput gS nK (some (.cells [.sl bw 0 aw.length aw.length,.sl br 0 aw.length aw.length] true 0))) n2 (some (.cells (putR Lr (q * 2) [.sl bw 0 aw.length aw.length,.sl br 0 aw.length aw.length]) true 0))) (n2+1) (some (.cells [.lit (.int .i64 I),.lit (.int .i64 O),.sl n2 0 (q+1) E.length] true 0)))) (b:=br) (own:=true) (z:=1) (w:=ar.reverse) (c:=aw.length) (lo:=n2+1+1) (n:=nK+1) (B:=n2) (by simp (disch:=omega) only [gpl,gpn]; exact hs1) (by omega) (by omega) (by omega); rw [HAWR.out.2] at h; exact h)) (fun a o n c h=>by cases h; omega) (fun a o n c h=>by cases h; omega)
      have HRF2:=Hide.mk hrf2
      have HCV2:=Hide.mk hcv2
      clear hrf2 hcv2
      have hLq2:q * 2+([.sl bw 0 aw.length aw.length,.sl br 0 aw.length aw.length] : List AV).length≤Lr.length:=by simp; omega
      refine ih.out (E.length - (q+1)) _ _ (by omega) ⟨q+1,nK+1,(gput (gput (gput gS nK (some (.cells [.sl bw 0 aw.length aw.length,.sl br 0 aw.length aw.length] true 0))) n2 (some (.cells (putR Lr (q * 2) [.sl bw 0 aw.length aw.length,.sl br 0 aw.length aw.length]) true 0))) (n2+1) (some (.cells [.lit (.int .i64 I),.lit (.int .i64 O),.sl n2 0 (q+1) E.length] true 0))),cs++[.sl bw 0 aw.length aw.length,.sl br 0 aw.length aw.length],putR Lr (q * 2) [.sl bw 0 aw.length aw.length,.sl br 0 aw.length aw.length],by omega,rfl,rfl,by omega,⟨fun b hb=>?_⟩,?_,?_,⟨?_⟩,gpe,HRF2,HCV2,by simp [*],by simp [*],by simp [*],by simp [*],by simp [*],by simp [*],by simp [*],by simp⟩
      ·simp (disch:=omega) only [gpl,gpn]; rw [HS2.out b (by omega),HR2.out b (by omega)]; exact (HGK.out b (by omega)).trans (HGL.out b hb)
      ·simp (disch:=omega) only [gpl,gpe]
      ·rw [putR_len hLq2]; exact hLr
      ·have h9:=putR_take hLq2
       rw [HLR.out] at h9
       rw [Nat.add_mul]
       exact h9
    ·have hxI:¬((x:Nat) : Int)=0:=by omega
     obtain ⟨p,j,hEd⟩:=HLB.out.src x (by omega) hx
     obtain ⟨o,hO⟩:=hEd.out
     have HLE:=Hide.mk (HLB.out.ed p j x hEd)
     obtain ⟨hF1,hF2⟩:=HFX.out x p j hEd
     have hplt:p < T.length:=hEd.lt
     have HWN:Hide (SW=W.getD p []++(aw++[(j:Int)]).reverse∧SR=respM T 0 (W.getD p [])++(ar++[o]).reverse):=⟨by
      obtain ⟨e1,e2⟩:=HWR.out
      rw [HLE.out.2.2.2] at e1
      rw [HED.out p j x o hO] at e2
      rw [List.reverse_append,List.reverse_append]
      exact ⟨by rw [e1]; simp,by rw [e2]; simp⟩⟩
     have hawN:(aw++[(j:Int)]).length≤256:=by
      have h1:=congrArg List.length HWN.out.1
      rw [List.length_append,List.length_reverse] at h1
      omega
     have haw1:aw.length+1≤256:=by rw [List.length_append,List.length_singleton] at hawN; exact hawN
     have HALN:Hide ((aw++[(j:Int)]).length=(ar++[o]).length):=⟨by rw [List.length_append,List.length_append,HAL.out]; rfl⟩
     obtain ⟨hp1,hj1,hedge⟩:=hO
     obtain ⟨a4,o4,q4,ha4,hia4,hc4,hq4⟩:=HT.out.at hp1
     rw [← HG1.out a4 ha4,← HG.out a4 (by omega),← HGL.out a4 (by omega),← HGK.out a4 (by omega)] at hc4
     obtain ⟨a5,o5,ha5,hia5,hc5⟩:=edge1_at hq4 hj1
     rw [hedge,← HG1.out a5 ha5,← HG.out a5 (by omega),← HGL.out a5 (by omega),← HGK.out a5 (by omega)] at hc5
     have hpx:p < x:=HLE.out.2.2.1
     have hFl1:x * 2 < F.length:=by omega
     have hFl2:x * 2+1 < F.length:=by omega
     have hF1' : F[x * 2]'hFl1=.lit (.int .i64 ((p:Nat) : Int)):=(List.getElem?_eq_some_iff.1 hF1).2
     have hF2' : F[x * 2+1]'hFl2=.lit (.int .i64 ((j:Nat) : Int)):=(List.getElem?_eq_some_iff.1 hF2).2
     have hwl:=wdC_len aw
     have hrl:(wdC ar).length=aw.length:=by rw [wdC_len]; exact HAL.out.symm
     have HWS:=Hide.mk (wdC_snoc aw (j:Int))
     have HRS:=Hide.mk (wdC_snoc ar o)
     clear hedge hq4 hF1 hF2 hEd
     rcases HSH.out with ⟨rfl,rfl,rfl,rfl⟩ | ⟨xx,yy,rfl,rfl,rfl,rfl,hb1,hb2,hb3,hb4,hb5⟩ | ⟨hne,rfl,rfl,hb1,hb2,hb3,hb4,hb5⟩
     ·iterate 8 all_goals try first|with_reducible refine spI (fun h=>?_) fun h=>?_|with_reducible refine spB (fun h=>?_) fun h=>?_|simp (maxSteps:=999999) (disch:=first|assumption|omega|(simp;done)|fail) [*]
      refine ih2.out p _ _ hpx ⟨p,_,nK+1,nK+1+1+1,_,.slq (nK+1) 0 1 0,.slq (nK+1+1+1) 0 1 0,[]++[(j:Int)],[]++[o],hplt,rfl,rfl,by omega,⟨fun b hb=>?_⟩,?_,⟨.inr (.inr ⟨by simp,by simp,by simp,by omega,by omega,by omega,?_,?_⟩)⟩,HALN,hawN,HWN,by simp [*],by simp [*],by simp [*],by simp [*],by simp [*],by simp [*],by simp,by simp [*],by simp [*],by simp [*]⟩
      ·simp (disch:=omega) only [gpl,gpn]; exact HGK.out b hb
      ·simp (disch:=omega) only [gpl,gpn,gpe]
      ·rw [HWS.out]; simp (disch:=omega) only [gpl,gpn,gpe] <;> rfl
      ·rw [HRS.out]; simp (disch:=omega) only [gpl,gpn,gpe] <;> rfl
     ·iterate 8 all_goals try first|with_reducible refine spI (fun h=>?_) fun h=>?_|with_reducible refine spB (fun h=>?_) fun h=>?_|simp (maxSteps:=999999) (disch:=first|assumption|omega|(simp;done)|fail) [*]
      refine ih2.out p _ _ hpx ⟨p,_,nK+1,nK+1+1+1,_,.slq (nK+1) 0 2 0,.slq (nK+1+1+1) 0 2 0,[xx]++[(j:Int)],[yy]++[o],hplt,rfl,rfl,by omega,⟨fun b hb=>?_⟩,?_,⟨.inr (.inr ⟨by simp,by simp,by simp,by omega,by omega,by omega,?_,?_⟩)⟩,HALN,hawN,HWN,by simp [*],by simp [*],by simp [*],by simp [*],by simp [*],by simp [*],by simp,by simp [*],by simp [*],by simp [*]⟩
      ·simp (disch:=omega) only [gpl,gpn]; exact HGK.out b hb
      ·simp (disch:=omega) only [gpl,gpn,gpe]
      ·rw [HWS.out]; simp (disch:=omega) only [gpl,gpn,gpe] <;> rfl
      ·rw [HRS.out]; simp (disch:=omega) only [gpl,gpn,gpe] <;> rfl
     ·iterate 8 all_goals try first|with_reducible refine spI (fun h=>?_) fun h=>?_|with_reducible refine spB (fun h=>?_) fun h=>?_|simp (maxSteps:=999999) (disch:=first|assumption|omega|(simp;done)|fail) [*]
      refine ih2.out p _ _ hpx ⟨p,_,nK+1,nK+1+1+1,_,.slq (nK+1) 0 (aw.length+1) 0,.slq (nK+1+1+1) 0 (aw.length+1) 0,aw++[(j:Int)],ar++[o],hplt,rfl,rfl,by omega,⟨fun b hb=>?_⟩,?_,⟨.inr (.inr ⟨by simp,by simp,by simp,by omega,by omega,by omega,?_,?_⟩)⟩,HALN,hawN,HWN,by simp [*],by simp [*],by simp [*],by simp [*],by simp [*],by simp [*],by simp,by simp [*],by simp [*],by simp [*]⟩
      ·simp (disch:=omega) only [gpl,gpn]; exact HGK.out b hb
      ·simp (disch:=omega) only [gpl,gpn,gpe]
      ·rw [HWS.out]; simp (disch:=omega) only [gpl,gpn,gpe] <;> rfl
      ·rw [HRS.out]; simp (disch:=omega) only [gpl,gpn,gpe] <;> rfl
   ·have HW0:Hide (kk < T.length∧SW=W.getD kk []++[ii].reverse∧SR=respM T 0 (W.getD kk [])++[(-1:Int)].reverse):=⟨by
     rcases HSM.out with ⟨k,h1,i,h2,h3,h4⟩ | ⟨k,h1,h2,h3⟩
     ·injection h4 with e1 e2
      subst e1 e2
      refine ⟨h1,?_,?_⟩
      ·rw [hSW]; unfold eW; rw [if_neg hii]; rfl
      ·rw [hSR,HRE.out kk i h1 h2 h3]; rfl
     ·injection h3 with e1 e2; exact absurd e2 hii⟩
    have hkk:=HW0.out.1
    clear hSW hSR HSM HSE
    iterate 8 all_goals try first|with_reducible refine spI (fun h=>?_) fun h=>?_|with_reducible refine spB (fun h=>?_) fun h=>?_|simp (maxSteps:=999999) (disch:=first|assumption|omega|(simp;done)|fail) [*]
    refine LX.ind (fun m gf H'=>∃ (x nK bw br:Nat) (gK:Nat→Option Blk) (wv rv:AV) (aw ar:List Int),x < T.length∧x=m∧H'=⟨.fn gK,nK⟩∧nL+1+1≤nK∧Hide (∀ b,b < nL→gK b=gL b)∧gK (nL+1)=some (.cells [wv,rv] true 0)∧Hide (Sh gK (nL+1+1) nK wv rv aw ar bw br)∧Hide (aw.length=ar.length)∧aw.length≤256∧Hide (SW=W.getD x []++aw.reverse∧SR=respM T 0 (W.getD x [])++ar.reverse) ∧
     gf 1=some (.ptr n 0)∧gf 2=some (.ptr (n+1) 0)∧gf 5=some ov∧gf 7=some (.sl n1 0 T.length T.length)∧gf 12=some (.ptr (n2+1) 0)∧gf 15=some (.ptr (nL+1) 0)∧gf 16=some (.lit (.int .i64 ((x:Nat) : Int)))∧gf 70=some ov∧gf 71=some (.lit (.int .i64 E.length))∧gf 72=some (.lit (.int .i64 q))) (m0:=kk) ?_ ?_
    ·refine ⟨kk,_,nL+1+1,nL+1+1+1,_,_,_,[ii],[-1],hkk,rfl,rfl,by omega,⟨fun b hb=>?_⟩,?_,⟨.inr (.inl ⟨ii,-1,rfl,rfl,rfl,rfl,by omega,by omega,by omega,?_,?_⟩)⟩,⟨rfl⟩,by simp,⟨HW0.out.2⟩,by simp [*],by simp [*],by simp [*],by simp [*],by simp [*],by simp,by simp,by simp [*],by simp [*],by simp [*]⟩
     ·simp (disch:=omega) only [gpl,gpn]
     ·simp (disch:=omega) only [gpl,gpn,gpe]
     ·simp (disch:=omega) only [gpl,gpn,gpe]
     ·simp (disch:=omega) only [gpl,gpn,gpe]
    clear w1 w2 w5 w7 w12 w70 w71 w72 hcE
    rintro m gf H' ⟨x,nK,bw,br,gK,wv,rv,aw,ar,hx,rfl,rfl,hnK,HGK,hgU,HSH,HAL,haw,HWR,v1,v2,v5,v7,v12,v15,v16,v70,v71,v72⟩ ih2
    have hgKn:=(HGK.out n (by omega)).trans hgLn
    have hgKF:=(HGK.out n1 (by omega)).trans hgLF
    have hgKL:=(HGK.out n2 (by omega)).trans hgLr
    have hgKB:=(HGK.out (n2+1) (by omega)).trans hgLb
    refine LX.roundP (noO_ok _ _) hG pl34 (by decide +kernel) ?_
    by_cases hx0:x=0
    ·have hxI:((x:Nat) : Int)=0:=by omega
     have HSWR:Hide (SW=aw.reverse∧SR=ar.reverse):=⟨by
      obtain ⟨e1,e2⟩:=HWR.out
      rw [hx0,HLB.out.nil] at e1 e2
      exact ⟨e1,e2⟩⟩
     have HCF:=Hide.mk fun (gF:Nat→Option Blk) (nF:Nat) (wv' rv' : AV) (h1:nL≤nF) (h2:∀ a,n2+1+1≤a→a < nL→gF a=gL a) (h3:SafeW gF (n2+1+1) nF n2 SW wv') (h4:SafeW gF (n2+1+1) nF n2 SR rv') (h5:CapV wv') (h6:CapV rv')=>(show RowsF gF (n2+1+1) nF n2 ((bkM T W).take (q+1)) (cs++[wv',rv'])∧∀ v∈cs++[wv',rv'],CapV v from by
      refine ⟨?_,fun v hv=>?_⟩
      ·rw [HTK.out]
       exact (HRF.out.keep (Nat.le_refl _) h1 (.inr (.inl rfl)) fun a ha hb _=>h2 a ha hb).snoc h3 h4
      ·rcases List.mem_append.1 hv with h | h
       ·exact HCV.out v h
       ·rcases List.mem_cons.1 h with rfl | h
        ·exact h5
        ·rw [List.mem_singleton.1 h]; exact h6)
     subst hx0
     have v16' : gf 16=some (.lit (.int .i64 0)):=v16
     clear v16 hxI hx
     rcases HSH.out with ⟨rfl,rfl,rfl,rfl⟩ | ⟨xx,yy,rfl,rfl,rfl,rfl,hb1,hb2,hb3,hb4,hb5⟩ | ⟨hne,rfl,rfl,hb1,hb2,hb3,hb4,hb5⟩
     ·iterate 8 all_goals try first|with_reducible refine spI (fun h=>?_) fun h=>?_|with_reducible refine spB (fun h=>?_) fun h=>?_|simp (maxSteps:=999999) (disch:=first|assumption|omega|(simp;done)|fail) [*]
      refine WC.mono (rev_nil _ _) ?_
      rintro _ ⟨u1,rfl⟩
      iterate 8 all_goals try first|with_reducible refine spI (fun h=>?_) fun h=>?_|with_reducible refine spB (fun h=>?_) fun h=>?_|simp (maxSteps:=999999) (disch:=first|assumption|omega|(simp;done)|fail) [*]
      refine WC.mono (rev_nil _ _) ?_
      rintro _ ⟨u2,rfl⟩
      iterate 8 all_goals try first|with_reducible refine spI (fun h=>?_) fun h=>?_|with_reducible refine spB (fun h=>?_) fun h=>?_|simp (maxSteps:=999999) (disch:=first|assumption|omega|(simp;done)|fail) [*]
      refine WC.mono (Clip_nil _ _) ?_
      rintro _ rfl
      iterate 8 all_goals try first|with_reducible refine spI (fun h=>?_) fun h=>?_|with_reducible refine spB (fun h=>?_) fun h=>?_|simp (maxSteps:=999999) (disch:=first|assumption|omega|(simp;done)|fail) [*]
      refine WC.mono (Clip_nil _ _) ?_
      rintro _ rfl
      iterate 8 all_goals try first|with_reducible refine spI (fun h=>?_) fun h=>?_|with_reducible refine spB (fun h=>?_) fun h=>?_|simp (maxSteps:=999999) (disch:=first|assumption|omega|(simp;done)|fail) [*]
      obtain ⟨hrf2,hcv2⟩:=HCF.out (gput (gput (gput gK nK (some (.cells [.lit (.slice none 0 0),.lit (.slice none 0 0)] true 0))) n2 (some (.cells (putR Lr (q * 2) [.lit (.slice none 0 0),.lit (.slice none 0 0)]) true 0))) (n2+1) (some (.cells [.lit (.int .i64 I),.lit (.int .i64 O),.sl n2 0 (q+1) E.length] true 0))) (nK+1) (.lit (.slice none 0 0)) (.lit (.slice none 0 0)) (by omega) (fun a h1 h2=>by simp (disch:=omega) only [gpl,gpn]; exact HGK.out a h2) (by rw [HSWR.out.1]; exact SafeW.nil2) (by rw [HSWR.out.2]; exact SafeW.nil2) (fun a o n c h=>by cases h) (fun a o n c h=>by cases h)
      have HRF2:=Hide.mk hrf2
      have HCV2:=Hide.mk hcv2
      clear hrf2 hcv2
      have hLq2:q * 2+([.lit (.slice none 0 0),.lit (.slice none 0 0)] : List AV).length≤Lr.length:=by simp; omega
      refine ih.out (E.length - (q+1)) _ _ (by omega) ⟨q+1,nK+1,(gput (gput (gput gK nK (some (.cells [.lit (.slice none 0 0),.lit (.slice none 0 0)] true 0))) n2 (some (.cells (putR Lr (q * 2) [.lit (.slice none 0 0),.lit (.slice none 0 0)]) true 0))) (n2+1) (some (.cells [.lit (.int .i64 I),.lit (.int .i64 O),.sl n2 0 (q+1) E.length] true 0))),cs++[.lit (.slice none 0 0),.lit (.slice none 0 0)],putR Lr (q * 2) [.lit (.slice none 0 0),.lit (.slice none 0 0)],by omega,rfl,rfl,by omega,⟨fun b hb=>?_⟩,?_,?_,⟨?_⟩,gpe,HRF2,HCV2,by simp [*],by simp [*],by simp [*],by simp [*],by simp [*],by simp [*],by simp [*],by simp⟩
      ·simp (disch:=omega) only [gpl,gpn]; exact (HGK.out b (by omega)).trans (HGL.out b hb)
      ·simp (disch:=omega) only [gpl,gpe]
      ·rw [putR_len hLq2]; exact hLr
      ·have h9:=putR_take hLq2
       rw [HLR.out] at h9
       rw [Nat.add_mul]
       exact h9
     ·have HAR:Hide ([xx].reverse=[xx]∧[yy].reverse=[yy]):=⟨rfl,rfl⟩
      iterate 8 all_goals try first|with_reducible refine spI (fun h=>?_) fun h=>?_|with_reducible refine spB (fun h=>?_) fun h=>?_|simp (maxSteps:=999999) (disch:=first|assumption|omega|(simp;done)|fail) [*]
      refine WC.mono (rev_sl bw 1 0 _ [xx] (by simp) gK hb4 (by omega)) ?_
      rintro _ ⟨u1,gR,rfl,hr1,hr2⟩
      have HR2:=Hide.mk hr2
      have hgUR:=(hr2 (nL+1) (by omega)).trans hgU
      have hb5R:=(hr2 br (by omega)).trans hb5
      clear hr2
      iterate 8 all_goals try first|with_reducible refine spI (fun h=>?_) fun h=>?_|with_reducible refine spB (fun h=>?_) fun h=>?_|simp (maxSteps:=999999) (disch:=first|assumption|omega|(simp;done)|fail) [*]
      refine WC.mono (rev_sl br 1 0 _ [yy] (by simp) gR hb5R (by omega)) ?_
      rintro _ ⟨u2,gS,rfl,hs1,hs2⟩
      have HS2:=Hide.mk hs2
      have hgUS:=(hs2 (nL+1) (by omega)).trans hgUR
      have hgLS:=(hs2 n2 (by omega)).trans ((HR2.out n2 (by omega)).trans hgKL)
      have hgBS:=(hs2 (n2+1) (by omega)).trans ((HR2.out (n2+1) (by omega)).trans hgKB)
      have hbwS:=(hs2 bw (by omega)).trans hr1
      clear hs2 hr1 hb4 hb5 hb5R
      iterate 8 all_goals try first|with_reducible refine spI (fun h=>?_) fun h=>?_|with_reducible refine spB (fun h=>?_) fun h=>?_|simp (maxSteps:=999999) (disch:=first|assumption|omega|(simp;done)|fail) [*]
      refine WC.mono (Clip_sl _ _ bw 1 (by omega) (by omega)) ?_
      rintro _ rfl
      iterate 8 all_goals try first|with_reducible refine spI (fun h=>?_) fun h=>?_|with_reducible refine spB (fun h=>?_) fun h=>?_|simp (maxSteps:=999999) (disch:=first|assumption|omega|(simp;done)|fail) [*]
      refine WC.mono (Clip_sl _ _ br 1 (by omega) (by omega)) ?_
      rintro _ rfl
      iterate 8 all_goals try first|with_reducible refine spI (fun h=>?_) fun h=>?_|with_reducible refine spB (fun h=>?_) fun h=>?_|simp (maxSteps:=999999) (disch:=first|assumption|omega|(simp;done)|fail) [*]
      obtain ⟨hrf2,hcv2⟩:=HCF.out (gput (gput (gput gS nK (some (.cells [.sl bw 0 1 1,.sl br 0 1 1] true 0))) n2 (some (.cells (putR Lr (q * 2) [.sl bw 0 1 1,.sl br 0 1 1]) true 0))) (n2+1) (some (.cells [.lit (.int .i64 I),.lit (.int .i64 O),.sl n2 0 (q+1) E.length] true 0))) (nK+1) (.sl bw 0 1 1) (.sl br 0 1 1) (by omega) (fun a h1 h2=>by simp (disch:=omega) only [gpl,gpn]; rw [HS2.out a (by omega),HR2.out a (by omega)]; exact HGK.out a h2) (by rw [HSWR.out.1]; exact SafeW.of (w:=[xx]) (c:=1) (by simp (disch:=omega) only [gpl,gpn]; exact hbwS) (by omega) (by omega) (by omega)) (by rw [HSWR.out.2]; exact SafeW.of (w:=[yy]) (c:=1) (by simp (disch:=omega) only [gpl,gpn]; exact hs1) (by omega) (by omega) (by omega)) (fun a o n c h=>by cases h; omega) (fun a o n c h=>by cases h; omega)
      have HRF2:=Hide.mk hrf2
      have HCV2:=Hide.mk hcv2
      clear hrf2 hcv2
      have hLq2:q * 2+([.sl bw 0 1 1,.sl br 0 1 1] : List AV).length≤Lr.length:=by simp; omega
      refine ih.out (E.length - (q+1)) _ _ (by omega) ⟨q+1,nK+1,(gput (gput (gput gS nK (some (.cells [.sl bw 0 1 1,.sl br 0 1 1] true 0))) n2 (some (.cells (putR Lr (q * 2) [.sl bw 0 1 1,.sl br 0 1 1]) true 0))) (n2+1) (some (.cells [.lit (.int .i64 I),.lit (.int .i64 O),.sl n2 0 (q+1) E.length] true 0))),cs++[.sl bw 0 1 1,.sl br 0 1 1],putR Lr (q * 2) [.sl bw 0 1 1,.sl br 0 1 1],by omega,rfl,rfl,by omega,⟨fun b hb=>?_⟩,?_,?_,⟨?_⟩,gpe,HRF2,HCV2,by simp [*],by simp [*],by simp [*],by simp [*],by simp [*],by simp [*],by simp [*],by simp⟩
      ·simp (disch:=omega) only [gpl,gpn]; rw [HS2.out b (by omega),HR2.out b (by omega)]; exact (HGK.out b (by omega)).trans (HGL.out b hb)
      ·simp (disch:=omega) only [gpl,gpe]
      ·rw [putR_len hLq2]; exact hLr
      ·have h9:=putR_take hLq2
       rw [HLR.out] at h9
       rw [Nat.add_mul]
       exact h9
     ·have hawp:0 < aw.length:=List.length_pos_iff.2 hne
      have HAWR:Hide (aw.reverse.length=aw.length∧ar.reverse.length=aw.length):=⟨by rw [List.length_reverse],by rw [List.length_reverse]; exact HAL.out.symm⟩
      have HRV2:=Hide.mk fun (gX:Nat→Option Blk) (h:gX br=some (.cells (wdC ar) true 1))=>(by have:=rev_slq br 0 1 nK ar (by have:=HAL.out; omega) gX h (by omega); rw [← HAL.out] at this; exact this)
      iterate 8 all_goals try first|with_reducible refine spI (fun h=>?_) fun h=>?_|with_reducible refine spB (fun h=>?_) fun h=>?_|simp (maxSteps:=999999) (disch:=first|assumption|omega|(simp;done)|fail) [*]
      refine WC.mono (rev_slq bw 0 1 _ aw (by omega) gK hb4 (by omega)) ?_
      rintro _ ⟨u1,gR,rfl,hr1,hr2⟩
      have HR2:=Hide.mk hr2
      have hgUR:=(hr2 (nL+1) (by omega)).trans hgU
      have hb5R:=(hr2 br (by omega)).trans hb5
      clear hr2
      iterate 8 all_goals try first|with_reducible refine spI (fun h=>?_) fun h=>?_|with_reducible refine spB (fun h=>?_) fun h=>?_|simp (maxSteps:=999999) (disch:=first|assumption|omega|(simp;done)|fail) [*]
      refine WC.mono (HRV2.out gR hb5R) ?_
      rintro _ ⟨u2,gS,rfl,hs1,hs2⟩
      have HS2:=Hide.mk hs2
      have hgUS:=(hs2 (nL+1) (by omega)).trans hgUR
      have hgLS:=(hs2 n2 (by omega)).trans ((HR2.out n2 (by omega)).trans hgKL)
      have hgBS:=(hs2 (n2+1) (by omega)).trans ((HR2.out (n2+1) (by omega)).trans hgKB)
      have hbwS:=(hs2 bw (by omega)).trans hr1
      clear hs2 hr1 hb4 hb5 hb5R
      iterate 8 all_goals try first|with_reducible refine spI (fun h=>?_) fun h=>?_|with_reducible refine spB (fun h=>?_) fun h=>?_|simp (maxSteps:=999999) (disch:=first|assumption|omega|(simp;done)|fail) [*]
      refine WC.mono (Clip_slq _ _ bw aw.length (by omega) (by omega)) ?_
      rintro _ rfl
      iterate 8 all_goals try first|with_reducible refine spI (fun h=>?_) fun h=>?_|with_reducible refine spB (fun h=>?_) fun h=>?_|simp (maxSteps:=999999) (disch:=first|assumption|omega|(simp;done)|fail) [*]
      refine WC.mono (Clip_slq _ _ br aw.length (by omega) (by omega)) ?_
      rintro _ rfl
      iterate 8 all_goals try first|with_reducible refine spI (fun h=>?_) fun h=>?_|with_reducible refine spB (fun h=>?_) fun h=>?_|simp (maxSteps:=999999) (disch:=first|assumption|omega|(simp;done)|fail) [*]
      obtain ⟨hrf2,hcv2⟩:=HCF.out (gput (gput (gput gS nK (some (.cells [.sl bw 0 aw.length aw.length,.sl br 0 aw.length aw.length] true 0))) n2 (some (.cells (putR Lr (q * 2) [.sl bw 0 aw.length aw.length,.sl br 0 aw.length aw.length]) true 0))) (n2+1) (some (.cells [.lit (.int .i64 I),.lit (.int .i64 O),.sl n2 0 (q+1) E.length] true 0))) (nK+1) (.sl bw 0 aw.length aw.length) (.sl br 0 aw.length aw.length) (by omega) (fun a h1 h2=>by simp (disch:=omega) only [gpl,gpn]; rw [HS2.out a (by omega),HR2.out a (by omega)]; exact HGK.out a h2) (by rw [HSWR.out.1]; exact HAWR.out.1 ▸ SafeW.of (w:=aw.reverse) (c:=aw.reverse.length) (by simp (disch:=omega) only [gpl,gpn]; exact hbwS) (by omega) (by omega) (by omega)) (by rw [HSWR.out.2]; exact (by have h:=SafeW.of (g:=(gput (gput (gput gS nK (some (.cells [.sl bw 0 aw.length aw.length,.sl br 0 aw.length aw.length] true 0))) n2 (some (.cells (putR Lr (q * 2) [.sl bw 0 aw.length aw.length,.sl br 0 aw.length aw.length]) true 0))) (n2+1) (some (.cells [.lit (.int .i64 I),.lit (.int .i64 O),.sl n2 0 (q+1) E.length] true 0)))) (b:=br) (own:=true) (z:=1) (w:=ar.reverse) (c:=aw.length) (lo:=n2+1+1) (n:=nK+1) (B:=n2) (by simp (disch:=omega) only [gpl,gpn]; exact hs1) (by omega) (by omega) (by omega); rw [HAWR.out.2] at h; exact h)) (fun a o n c h=>by cases h; omega) (fun a o n c h=>by cases h; omega)
      have HRF2:=Hide.mk hrf2
      have HCV2:=Hide.mk hcv2
      clear hrf2 hcv2
      have hLq2:q * 2+([.sl bw 0 aw.length aw.length,.sl br 0 aw.length aw.length] : List AV).length≤Lr.length:=by simp; omega
      refine ih.out (E.length - (q+1)) _ _ (by omega) ⟨q+1,nK+1,(gput (gput (gput gS nK (some (.cells [.sl bw 0 aw.length aw.length,.sl br 0 aw.length aw.length] true 0))) n2 (some (.cells (putR Lr (q * 2) [.sl bw 0 aw.length aw.length,.sl br 0 aw.length aw.length]) true 0))) (n2+1) (some (.cells [.lit (.int .i64 I),.lit (.int .i64 O),.sl n2 0 (q+1) E.length] true 0))),cs++[.sl bw 0 aw.length aw.length,.sl br 0 aw.length aw.length],putR Lr (q * 2) [.sl bw 0 aw.length aw.length,.sl br 0 aw.length aw.length],by omega,rfl,rfl,by omega,⟨fun b hb=>?_⟩,?_,?_,⟨?_⟩,gpe,HRF2,HCV2,by simp [*],by simp [*],by simp [*],by simp [*],by simp [*],by simp [*],by simp [*],by simp⟩
      ·simp (disch:=omega) only [gpl,gpn]; rw [HS2.out b (by omega),HR2.out b (by omega)]; exact (HGK.out b (by omega)).trans (HGL.out b hb)
      ·simp (disch:=omega) only [gpl,gpe]
      ·rw [putR_len hLq2]; exact hLr
      ·have h9:=putR_take hLq2
       rw [HLR.out] at h9
       rw [Nat.add_mul]
       exact h9
    ·have hxI:¬((x:Nat) : Int)=0:=by omega
     obtain ⟨p,j,hEd⟩:=HLB.out.src x (by omega) hx
     obtain ⟨o,hO⟩:=hEd.out
     have HLE:=Hide.mk (HLB.out.ed p j x hEd)
     obtain ⟨hF1,hF2⟩:=HFX.out x p j hEd
     have hplt:p < T.length:=hEd.lt
     have HWN:Hide (SW=W.getD p []++(aw++[(j:Int)]).reverse∧SR=respM T 0 (W.getD p [])++(ar++[o]).reverse):=⟨by
      obtain ⟨e1,e2⟩:=HWR.out
      rw [HLE.out.2.2.2] at e1
      rw [HED.out p j x o hO] at e2
      rw [List.reverse_append,List.reverse_append]
      exact ⟨by rw [e1]; simp,by rw [e2]; simp⟩⟩
     have hawN:(aw++[(j:Int)]).length≤256:=by
      have h1:=congrArg List.length HWN.out.1
      rw [List.length_append,List.length_reverse] at h1
      omega
     have haw1:aw.length+1≤256:=by rw [List.length_append,List.length_singleton] at hawN; exact hawN
     have HALN:Hide ((aw++[(j:Int)]).length=(ar++[o]).length):=⟨by rw [List.length_append,List.length_append,HAL.out]; rfl⟩
     obtain ⟨hp1,hj1,hedge⟩:=hO
     obtain ⟨a4,o4,q4,ha4,hia4,hc4,hq4⟩:=HT.out.at hp1
     rw [← HG1.out a4 ha4,← HG.out a4 (by omega),← HGL.out a4 (by omega),← HGK.out a4 (by omega)] at hc4
     obtain ⟨a5,o5,ha5,hia5,hc5⟩:=edge1_at hq4 hj1
     rw [hedge,← HG1.out a5 ha5,← HG.out a5 (by omega),← HGL.out a5 (by omega),← HGK.out a5 (by omega)] at hc5
     have hpx:p < x:=HLE.out.2.2.1
     have hFl1:x * 2 < F.length:=by omega
     have hFl2:x * 2+1 < F.length:=by omega
     have hF1' : F[x * 2]'hFl1=.lit (.int .i64 ((p:Nat) : Int)):=(List.getElem?_eq_some_iff.1 hF1).2
     have hF2' : F[x * 2+1]'hFl2=.lit (.int .i64 ((j:Nat) : Int)):=(List.getElem?_eq_some_iff.1 hF2).2
     have hwl:=wdC_len aw
     have hrl:(wdC ar).length=aw.length:=by rw [wdC_len]; exact HAL.out.symm
     have HWS:=Hide.mk (wdC_snoc aw (j:Int))
     have HRS:=Hide.mk (wdC_snoc ar o)
     clear hedge hq4 hF1 hF2 hEd
     rcases HSH.out with ⟨rfl,rfl,rfl,rfl⟩ | ⟨xx,yy,rfl,rfl,rfl,rfl,hb1,hb2,hb3,hb4,hb5⟩ | ⟨hne,rfl,rfl,hb1,hb2,hb3,hb4,hb5⟩
     ·iterate 8 all_goals try first|with_reducible refine spI (fun h=>?_) fun h=>?_|with_reducible refine spB (fun h=>?_) fun h=>?_|simp (maxSteps:=999999) (disch:=first|assumption|omega|(simp;done)|fail) [*]
      refine ih2.out p _ _ hpx ⟨p,_,nK+1,nK+1+1+1,_,.slq (nK+1) 0 1 0,.slq (nK+1+1+1) 0 1 0,[]++[(j:Int)],[]++[o],hplt,rfl,rfl,by omega,⟨fun b hb=>?_⟩,?_,⟨.inr (.inr ⟨by simp,by simp,by simp,by omega,by omega,by omega,?_,?_⟩)⟩,HALN,hawN,HWN,by simp [*],by simp [*],by simp [*],by simp [*],by simp [*],by simp [*],by simp,by simp [*],by simp [*],by simp [*]⟩
      ·simp (disch:=omega) only [gpl,gpn]; exact HGK.out b hb
      ·simp (disch:=omega) only [gpl,gpn,gpe]
      ·rw [HWS.out]; simp (disch:=omega) only [gpl,gpn,gpe] <;> rfl
      ·rw [HRS.out]; simp (disch:=omega) only [gpl,gpn,gpe] <;> rfl
     ·iterate 8 all_goals try first|with_reducible refine spI (fun h=>?_) fun h=>?_|with_reducible refine spB (fun h=>?_) fun h=>?_|simp (maxSteps:=999999) (disch:=first|assumption|omega|(simp;done)|fail) [*]
      refine ih2.out p _ _ hpx ⟨p,_,nK+1,nK+1+1+1,_,.slq (nK+1) 0 2 0,.slq (nK+1+1+1) 0 2 0,[xx]++[(j:Int)],[yy]++[o],hplt,rfl,rfl,by omega,⟨fun b hb=>?_⟩,?_,⟨.inr (.inr ⟨by simp,by simp,by simp,by omega,by omega,by omega,?_,?_⟩)⟩,HALN,hawN,HWN,by simp [*],by simp [*],by simp [*],by simp [*],by simp [*],by simp [*],by simp,by simp [*],by simp [*],by simp [*]⟩
      ·simp (disch:=omega) only [gpl,gpn]; exact HGK.out b hb
      ·simp (disch:=omega) only [gpl,gpn,gpe]
      ·rw [HWS.out]; simp (disch:=omega) only [gpl,gpn,gpe] <;> rfl
      ·rw [HRS.out]; simp (disch:=omega) only [gpl,gpn,gpe] <;> rfl
     ·iterate 8 all_goals try first|with_reducible refine spI (fun h=>?_) fun h=>?_|with_reducible refine spB (fun h=>?_) fun h=>?_|simp (maxSteps:=999999) (disch:=first|assumption|omega|(simp;done)|fail) [*]
      refine ih2.out p _ _ hpx ⟨p,_,nK+1,nK+1+1+1,_,.slq (nK+1) 0 (aw.length+1) 0,.slq (nK+1+1+1) 0 (aw.length+1) 0,aw++[(j:Int)],ar++[o],hplt,rfl,rfl,by omega,⟨fun b hb=>?_⟩,?_,⟨.inr (.inr ⟨by simp,by simp,by simp,by omega,by omega,by omega,?_,?_⟩)⟩,HALN,hawN,HWN,by simp [*],by simp [*],by simp [*],by simp [*],by simp [*],by simp [*],by simp,by simp [*],by simp [*],by simp [*]⟩
      ·simp (disch:=omega) only [gpl,gpn]; exact HGK.out b hb
      ·simp (disch:=omega) only [gpl,gpn,gpe]
      ·rw [HWS.out]; simp (disch:=omega) only [gpl,gpn,gpe] <;> rfl
      ·rw [HRS.out]; simp (disch:=omega) only [gpl,gpn,gpe] <;> rfl
  ·have hqlI:¬(q:Int) < (E.length:Int):=by omega
   have hqE:q=E.length:=by omega
   subst hqE
   have hbl:(bkM T W).length=E.length:=by rw [HBK.out,List.length_map]
   have hcL:Lr=cs:=by rw [← HLR.out,List.take_of_length_le (by omega)]
   subst hcL
   have htk:(bkM T W).take E.length=bkM T W:=List.take_of_length_le (by omega)
   rw [htk] at HRF
   have HWI:=Hide.mk (within_big (I:=I) (O:=O) (ts:=bkM T W) (by omega) hO2 (by omega) (fun t ht=>by
    rw [HBK.out] at ht
    obtain ⟨s,hs,rfl⟩:=List.mem_map.1 ht
    exact HWE.out s hs) (by rw [HBK.out,sumT_bk]; exact HS.out) gL nL (.sl n2 0 E.length E.length) ⟨Lr,(by rw [hbl]; exact sliceV_all hgLr (by omega)),HRF.out.rows⟩)
   have hso:=sortT_w (c:=E.length) HRF.out hgLr (by rw [hbl]; exact HNE.out) (by omega) (fun u hu=>by
    rw [HBK.out] at hu
    obtain ⟨s,hs,rfl⟩:=List.mem_map.1 hu
    have:=HWE.out s hs
    exact Nat.le_trans this (by decide))
   rw [hbl] at hso
   have HSO:=Hide.mk hso
   have HBL:=Hide.mk hbl
   clear hso hbl htk hE2 HLR
   iterate 8 all_goals try first|with_reducible refine spI (fun h=>?_) fun h=>?_|with_reducible refine spB (fun h=>?_) fun h=>?_|simp (maxSteps:=999999) (disch:=first|assumption|omega|(simp;done)|fail) [*]
   refine WC.mono HWI.out ?_
   rintro _ rfl
   iterate 8 all_goals try first|with_reducible refine spI (fun h=>?_) fun h=>?_|with_reducible refine spB (fun h=>?_) fun h=>?_|simp (maxSteps:=999999) (disch:=first|assumption|omega|(simp;done)|fail) [*]
   refine WC.mono HSO.out ?_
   rintro _ ⟨us',cs',hp,hs,rfl,hrf,hmem⟩
   have HP:=Hide.mk hp
   have HSS:=Hide.mk hs
   have HRF3:=Hide.mk hrf
   have HMM:=Hide.mk hmem
   clear hp hs hrf hmem
   iterate 8 all_goals try first|with_reducible refine spI (fun h=>?_) fun h=>?_|with_reducible refine spB (fun h=>?_) fun h=>?_|simp (maxSteps:=999999) (disch:=first|assumption|omega|(simp;done)|fail) [Tryz.results34, *]
   refine ⟨us',cs',_,_,_,⟨rfl,rfl,rfl⟩,HP.out,fun i j h1 h2=>Int.not_lt.1 (HSS.out i j h1 h2),by omega,fun b hb=>?_,by omega,by omega,?_,?_,fun v hv=>HCV.out v (HMM.out v hv)⟩
   ·simp (disch:=omega) only [gpl,gpn]; exact (HGL.out b (by omega)).trans ((HG.out b (by omega)).trans (HG1.out b hb))
   ·simp (disch:=omega) only [gpl,gpn,gpe]
   ·exact HRF3.out.keep (by omega) (Nat.le_refl _) (.inr (.inl rfl)) fun a h1 h2 h3=>gpn (by omega)
end Go.Ai
end
