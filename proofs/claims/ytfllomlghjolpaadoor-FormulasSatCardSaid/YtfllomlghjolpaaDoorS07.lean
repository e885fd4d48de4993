/- A small verified interpreter over names, its proofs, and what was proved with it. No condition. -/
import Derived.ProofKit
import Derived.Deep.DeepHandedRow
import Derived.Test.YtfllomlghjolpaaDoorS06
import Derived.Test.YtfllomlghjolpaaDoorS05
import Derived.Test.YtfllomlghjolpaaDoorS03
set_option linter.all false
set_option linter.deprecated false
section
namespace Go.Ai
set_option maxRecDepth 10000
theorem dec_val:∀ (n u:Nat),u≤n→valL 0 (Lib.decDigits u)=u
  | n,u,hn=>by
    by_cases h:u < 10
    · rw [Lib.decDigits,dif_pos h]
      show 0 * 10+((UInt8.ofNat (48+u)).toNat - 48)=u
      rw [ofNat_dig h]
      omega
    · obtain ⟨n',rfl⟩ : ∃ n',n=n'+1:=⟨n - 1,by omega⟩
      have ih:=dec_val n' (u / 10) (by omega)
      rw [Lib.decDigits,dif_neg h,valL_snoc,ih,ofNat_dig (by omega)]
      omega
theorem dec_list (n:Nat) : (decB n).data.toList=Lib.decDigits n:=by unfold decB; simp
theorem dec_num {n:Nat} (h:n < 10000) : numM (decB n)=some n∧0 < (decB n).size∧digitsB (decB n):=by
  obtain ⟨⟨p1,p2,p3⟩,p4,p5⟩:=plain_dec n n (Nat.le_refl _)
  have hl:=dec_list n
  have hsz:=tl_len (decB n)
  have h4:=p5 3 (by omega)
  have h1:0 < (decB n).size:=by rw [← hsz,hl]; exact List.length_pos_iff.2 p1
  have hd:digitsB (decB n):=list_digits (by rw [hl]; exact p2)
  refine ⟨?_,h1,hd⟩
  have hno:¬(bAt (decB n) 0=48∧1 < (decB n).size):=by
    rintro ⟨h5,h6⟩
    cases hq:Lib.decDigits n with
    | nil=>exact p1 hq
    | cons c r =>
      rw [bAt_list h1] at h5
      simp only [hl,hq,List.getElem_cons_zero] at h5
      refine p3 c r hq (fun er=>?_) (by omega)
      rw [hl,hq,er] at hsz
      simp only [List.length_cons,List.length_nil] at hsz
      omega
  unfold numM
  rw [if_pos ⟨h1,by rw [← hsz,hl]; exact h4,hd,hno⟩,valB_list,hl,dec_val _ _ (Nat.le_refl _)]
def rkN (op:Nat) : Nat:=if op=6 then 1 else if op=5 then 2 else if subsM op=1 then 3 else 4
theorem rank_rk (op:Nat) : rankM op=(rkN op:Nat):=by
  unfold rankM rkN
  by_cases h1:op=6
  · simp [h1]
  · by_cases h2:op=5
    · simp [h2]
    · by_cases h3:subsM op=1
      · simp [h1,h2,h3]
      · simp [h1,h2,h3]
theorem rk_pos (op:Nat) : 1≤rkN op∧rkN op≤4:=by
  unfold rkN
  by_cases h1:op=6
  · rw [if_pos h1]; omega
  · rw [if_neg h1]
    by_cases h2:op=5
    · rw [if_pos h2]; omega
    · rw [if_neg h2]
      by_cases h3:subsM op=1
      · rw [if_pos h3]; omega
      · rw [if_neg h3]; omega
def NBl (w:ByteArray) : Prop:=0 < w.size∧bAt w 0≠32
theorem NBl.app {a b:ByteArray} (h:NBl a) : NBl (a++b):=⟨by rw [ba_size_append]; have:=h.1; omega,by rw [bAt_app_l h.1]; exact h.2⟩
theorem op_cases {o:Nat} (h:o < 15) : o=0∨o=1∨o=2∨o=3∨o=4∨o=5∨o=6∨o=7∨o=8∨o=9∨o=10∨o=11∨o=12∨o=13∨o=14:=by omega
theorem sign_letters {o:Nat} (h:o < 15) : ∀ i,i < (signB o).size→letterM (bAt (signB o) i)=true:=by
  rcases op_cases h with rfl | rfl | rfl | rfl | rfl | rfl | rfl | rfl | rfl | rfl | rfl | rfl | rfl | rfl | rfl <;> decide +kernel
theorem sign_nb {o:Nat} (h:o < 15) : NBl (signB o):=by
  rcases op_cases h with rfl | rfl | rfl | rfl | rfl | rfl | rfl | rfl | rfl | rfl | rfl | rfl | rfl | rfl | rfl <;> exact ⟨by decide,by decide⟩
theorem par_nb {t:ByteArray} {r l:Int} (h:NBl t) : NBl (parM t r l):=by
  unfold parM
  split
  · exact NBl.app (NBl.app ⟨by decide,by decide⟩)
  · exact h
theorem text_nb:∀ (m:Nat) (x:NodeM),sizeN x≤m→validM 10000 10000 10000 x=true→NBl (textM x)
  | 0,x,h,_=>by have:=size_pos x; omega
  | m+1,.mk op a b subs,h,hv=>by
    simp only [validM,Bool.and_eq_true,decide_eq_true_eq] at hv
    obtain ⟨h1,h2,h3,h4,h5,h6,h7⟩:=hv
    have hs:=sign_nb h1
    unfold textM
    match subs,h,h7 with
    | [],_,_ =>
      simp only [textL,joinM]
      split
      · exact hs
      · split
        · exact (((hs.app).app).app).app
        · exact (hs.app).app
    | [x],_,_ =>
      simp only [textL,joinM]
      exact (hs.app).app
    | x :: y :: l,h,h7 =>
      simp only [textL,joinM]
      simp only [validL,Bool.and_eq_true] at h7
      unfold sizeN sizeL at h
      have:=text_nb m x (by omega) h7.1
      split
      · exact ((((hs.app).app).app).app).app
      · exact ((((par_nb this).app).app).app).app
section
variable {s:ByteArray}
theorem RdOK.mono {k k' r r' : Nat} {x:NodeM} (h:RdOK (s:=s) k x k' r) (hr:r'≤r) : RdOK (s:=s) k x k' r' :=
  ⟨h.lt,h.le,fun h1=>h.sg (by omega),fun h1=>h.c2 (by omega),h.c1⟩
theorem read_par {k least:Nat} {y:NodeM} (hy:NBl (textM y)) (hr:∀ k,Has s k (textM y)→Stop s (k+(textM y).size)→RdOK (s:=s) k y (advM s (k+(textM y).size)) (rkN y.op))
    (hh:Has s k (parM (textM y) (rankM y.op) (least:Nat))) (hs:Stop s (k+(parM (textM y) (rankM y.op) (least:Nat)).size)) : RdOK (s:=s) k y (advM s (k+(parM (textM y) (rankM y.op) (least:Nat)).size)) least:=by
  by_cases h:rankM y.op < (least:Nat)
  · have e0:parM (textM y) (rankM y.op) (least:Nat)=openT++textM y++closeT:=by unfold parM; rw [if_pos h]; rfl
    rw [e0] at hh hs ⊢
    obtain ⟨h12,h3⟩:=hh.app
    obtain ⟨h1,h2⟩:=h12.app
    have e1:openT.size=1:=rfl
    have e2:closeT.size=1:=rfl
    have e3:(openT++textM y).size=1+(textM y).size:=by rw [ba_size_append,e1]
    rw [e1] at h2
    rw [e3] at h3
    have e4:(openT++textM y++closeT).size=1+(textM y).size+1:=by rw [ba_size_append,e3,e2]
    rw [e4] at hs ⊢
    have l3:=h3.le
    rw [e2] at l3
    have t1:tokB s k=openT:=tok_one h1 rfl (by decide) (by decide)
    have t2:tokB s (k+(1+(textM y).size))=closeT:=tok_one h3 rfl (by decide) (by decide)
    have n1:nxtM s k=k+1:=by unfold nxtM; rw [t1,e1,adv_at h2 hy]
    have hst:Stop s (k+1+(textM y).size):=by rw [Nat.add_assoc]; exact stop_byte h3 (by decide) (by decide) (by decide)
    have hb:bAt s (k+(1+(textM y).size))=41:=(h3.byte (by decide)).trans (by decide)
    have a2:advM s (k+1+(textM y).size)=k+(1+(textM y).size):=by rw [Nat.add_assoc]; exact adv_stay (.inr (by rw [hb]; decide))
    have R:=hr (k+1) h2 hst
    rw [a2] at R
    have hrd:=R.stop1 (by rw [t2]; decide) (by rw [t2]; decide)
    rw [← n1] at hrd
    have hsg:=SgT.paren t1 (by omega) hrd t2
    have n2:nxtM s (k+(1+(textM y).size))=advM s (k+(1+(textM y).size+1)):=by unfold nxtM; rw [t2,e2,Nat.add_assoc]
    rw [n2] at hsg
    have l4:=advM_le (s:=s) (j:=k+(1+(textM y).size+1)) (by omega)
    exact RdOK.ofS (by omega) l4.2 hsg _
  · have e0:parM (textM y) (rankM y.op) (least:Nat)=textM y:=by unfold parM; rw [if_neg h]
    rw [e0] at hh hs ⊢
    refine (hr k hh hs).mono ?_
    rw [rank_rk] at h
    omega
theorem stop_blank {k:Nat} (h:Has s k ⟨#[32]⟩) : Stop s k:=stop_byte h (by decide) (by decide) (by decide)
theorem read_text:∀ (m:Nat) (x:NodeM),sizeN x≤m→validM 10000 10000 10000 x=true→∀ (k:Nat),Has s k (textM x)→Stop s (k+(textM x).size)→RdOK (s:=s) k x (advM s (k+(textM x).size)) (rkN x.op)
  | 0,x,h,_=>by have:=size_pos x; omega
  | m+1,.mk op a b subs,h,hv=>by
    intro k hh hst
    have hnb:=text_nb (m+1) _ h hv
    simp only [validM,Bool.and_eq_true,decide_eq_true_eq] at hv
    obtain ⟨h1,h2,h3,h4,h5,h6,h7⟩:=hv
    obtain ⟨na,rfl⟩:=Int.eq_ofNat_of_zero_le h3
    obtain ⟨nb,rfl⟩:=Int.eq_ofNat_of_zero_le h4
    have hla:=hh.le
    have hadv:=advM_le (s:=s) (j:=k+(textM (.mk op na nb subs)).size) hla
    have hlt:k < advM s (k+(textM (.mk op na nb subs)).size):=by have:=hnb.1; omega
    have hsn:=sign_nb h1
    have hsl:=sign_letters h1
    have e32:(⟨#[32]⟩ : ByteArray).size=1:=rfl
    show RdOK k _ _ (rkN op)
    have done:SgT s k (.mk op na nb subs) (advM s (k+(textM (.mk op na nb subs)).size))→RdOK (s:=s) k (.mk op na nb subs) (advM s (k+(textM (.mk op na nb subs)).size)) (rkN op):=fun hg=>RdOK.ofS hlt hadv.2 hg _
    match subs,h,h2,h7 with
    | [],h,h2,h7 =>
      refine done ?_
      have ho:op=0∨op=1∨op=2∨op=3:=by
        have:subsM op=0:=h2.symm
        unfold subsM at this
        split at this
        · omega
        · split at this <;> omega
      by_cases h0:op=0
      · subst h0
        obtain ⟨rfl,rfl⟩ : na=0∧nb=0:=by simp at h5 h6; omega
        have ht:textM (.mk 0 (0:Nat) (0:Nat) [])=signB 0:=rfl
        rw [ht] at hh hst ⊢
        have t1:=tok_word hh hsn.1 hsl hst
        have:=SgT.tru t1
        unfold nxtM at this
        rw [t1] at this
        exact this
      · by_cases h30:op=3
        · subst h30
          have ha:na < 10000:=by simp at h5; omega
          have hb:nb < 10000:=by simp at h6; omega
          obtain ⟨da1,da2,da3⟩:=dec_num ha
          obtain ⟨db1,db2,db3⟩:=dec_num hb
          have ht:textM (.mk 3 (na:Nat) (nb:Nat) [])=signB 3++⟨#[32]⟩++decB na++⟨#[32]⟩++decB nb:=rfl
          rw [ht] at hh hst ⊢
          have nba:NBl (decB na):=⟨da2,by have:=digit_in (da3 0 da2); omega⟩
          have nbb:NBl (decB nb):=⟨db2,by have:=digit_in (db3 0 db2); omega⟩
          generalize decB na=A at *
          generalize decB nb=B at *
          obtain ⟨q4,q5⟩:=hh.app
          obtain ⟨q3,qb⟩:=q4.app
          obtain ⟨q2,q6⟩:=q3.app
          obtain ⟨q1,qa⟩:=q2.app
          simp only [ba_size_append,e32,← Nat.add_assoc] at qa q6 qb q5 hst ⊢
          have t1:=tok_word q1 hsn.1 hsl (stop_blank qa)
          have n1:nxtM s k=k+(signB 3).size+1:=by unfold nxtM; rw [t1]; exact adv_blank qa q6 nba
          have t2:=tok_num q6 da2 da3 (stop_blank qb)
          have n2:nxtM s (k+(signB 3).size+1)=k+(signB 3).size+1+A.size+1:=by unfold nxtM; rw [t2]; exact adv_blank qb q5 nbb
          have t3:=tok_num q5 db2 db3 hst
          have:=SgT.giv t1 (by rw [n1,t2]; exact da1) (by rw [n1,n2,t3]; exact db1)
          rw [n1,n2] at this
          unfold nxtM at this
          rw [t3] at this
          exact this
        · have ho2:op=1∨op=2:=by omega
          have ha:na < 10000:=by rcases ho2 with rfl | rfl <;> simp at h5 <;> omega
          obtain rfl:nb=0:=by rcases ho2 with rfl | rfl <;> simp at h6 <;> omega
          obtain ⟨da1,da2,da3⟩:=dec_num ha
          have ht:textM (.mk op (na:Nat) (0:Nat) [])=signB op++⟨#[32]⟩++decB na:=by rcases ho2 with rfl | rfl <;> rfl
          rw [ht] at hh hst ⊢
          have nba:NBl (decB na):=⟨da2,by have:=digit_in (da3 0 da2); omega⟩
          generalize decB na=A at *
          obtain ⟨q2,q6⟩:=hh.app
          obtain ⟨q1,qa⟩:=q2.app
          simp only [ba_size_append,e32,← Nat.add_assoc] at qa q6 hst ⊢
          have t1:=tok_word q1 hsn.1 hsl (stop_blank qa)
          have n1:nxtM s k=k+(signB op).size+1:=by unfold nxtM; rw [t1]; exact adv_blank qa q6 nba
          have t2:=tok_num q6 da2 da3 hst
          have:=SgT.one ho2 t1 (by rw [n1,t2]; exact da1)
          rw [n1] at this
          unfold nxtM at this
          rw [t2] at this
          exact this
    | [x],h,h2,h7 =>
      refine done ?_
      have hs1:subsM op=1:=h2.symm
      simp only [validL,Bool.and_eq_true] at h7
      have hsz:sizeN x≤m:=by unfold sizeN sizeL at h; omega
      have hx:=text_nb m x hsz h7.1
      have ht:textM (.mk op na nb [x])=signB op++⟨#[32]⟩++parM (textM x) (rankM x.op) 3:=rfl
      have hz:na=0∧nb=0:=by
        have e1:¬(op=1):=by rintro rfl; revert hs1; decide
        have e2:¬(op=2∨op=3):=by rintro (rfl | rfl) <;> (revert hs1; decide)
        have e3:¬(op=3):=by rintro rfl; revert hs1; decide
        rw [if_neg e1,if_neg e2] at h5
        rw [if_neg e3] at h6
        omega
      obtain ⟨rfl,rfl⟩:=hz
      rw [ht] at hh hst ⊢
      have hp:NBl (parM (textM x) (rankM x.op) 3):=par_nb hx
      have ih:=fun k q1 q2=>read_par (s:=s) (k:=k) (least:=3) hx (fun k=>read_text m x hsz h7.1 k) q1 q2
      have e3:(((3:Nat) : Int))=3:=rfl
      rw [e3] at ih
      generalize parM (textM x) (rankM x.op) 3=P at *
      obtain ⟨q2,q6⟩:=hh.app
      obtain ⟨q1,qa⟩:=q2.app
      simp only [ba_size_append,e32,← Nat.add_assoc] at qa q6 hst ⊢
      have t1:=tok_word q1 hsn.1 hsl (stop_blank qa)
      have n1:nxtM s k=k+(signB op).size+1:=by unfold nxtM; rw [t1]; exact adv_blank qa q6 hp
      have R:=ih _ q6 hst
      have l6:=q6.le
      have hsg:=R.sg (Nat.le_refl _)
      exact SgT.un h1 hs1 t1 (by omega) (by rw [n1]; exact hsg)
    | x :: y :: l,h,h2,h7 =>
      have h2' : l.length+2=subsM op:=h2
      have hs2:subsM op=2∧l=[]:=by
        have:subsM op≤2:=by unfold subsM; split; omega; split <;> omega
        exact ⟨by omega,List.length_eq_zero_iff.1 (by omega)⟩
      obtain ⟨hs2,rfl⟩:=hs2
      simp only [validL,Bool.and_eq_true] at h7
      obtain ⟨vx,vy,-⟩:=h7
      have hsx:sizeN x≤m:=by unfold sizeN sizeL at h; omega
      have hsy:sizeN y≤m:=by unfold sizeN sizeL sizeL at h; omega
      have hx:=text_nb m x hsx vx
      have hy:=text_nb m y hsy vy
      have rx:=fun k=>read_text m x hsx vx k
      have ry:=fun k=>read_text m y hsy vy k
      have ho:op=5∨op=6∨op=10∨op=14:=by unfold subsM at hs2; split at hs2; omega; split at hs2 <;> omega
      have hz:na=0∧nb=0:=by
        rw [if_neg (by omega),if_neg (by omega)] at h5
        rw [if_neg (by omega)] at h6
        omega
      obtain ⟨rfl,rfl⟩:=hz
      by_cases ho2:op=10∨op=14
      · refine done ?_
        have eU:(⟨#[32,85,32]⟩ : ByteArray)=⟨#[32]⟩++untilT++⟨#[32]⟩:=by decide +kernel
        have ht:textM (.mk op (0:Nat) (0:Nat) [x,y])=signB op++leftT++textM x++(⟨#[32]⟩++untilT++⟨#[32]⟩)++textM y++rightT:=by
          rw [← eU]
          show joinM op (0:Nat) (0:Nat) [(textM x,rankM x.op),(textM y,rankM y.op)]=_
          simp only [joinM]
          rw [if_pos ho2]
          rfl
        have el:leftT.size=1:=rfl
        have er:rightT.size=1:=rfl
        have eu:untilT.size=1:=rfl
        rw [ht] at hh hst ⊢
        generalize textM x=A at *
        generalize textM y=B at *
        obtain ⟨p5,qR⟩:=hh.app
        obtain ⟨p4,qB⟩:=p5.app
        obtain ⟨p3,qU3⟩:=p4.app
        obtain ⟨p2,qA⟩:=p3.app
        obtain ⟨q1,qL⟩:=p2.app
        obtain ⟨pu,qb2⟩:=qU3.app
        obtain ⟨qb1,qu⟩:=pu.app
        simp only [ba_size_append,e32,el,er,eu,← Nat.add_assoc] at qR qB qA qL qb2 qb1 qu hst ⊢
        have lR:=qR.le
        rw [er] at lR
        have t1:=tok_word q1 hsn.1 hsl (stop_byte qL (by decide) (by decide) (by decide))
        have n1:nxtM s k=k+(signB op).size:=by unfold nxtM; rw [t1]; exact adv_at qL ⟨by decide,by decide⟩
        have t2:tokB s (k+(signB op).size)=leftT:=tok_one qL rfl (by decide) (by decide)
        have n2:nxtM s (k+(signB op).size)=k+(signB op).size+1:=by unfold nxtM; rw [t2]; exact adv_at qA hx
        have R1:=rx _ qA (stop_blank qb1)
        have nbu:NBl untilT:=⟨by decide,by decide⟩
        have a1:=adv_blank qb1 qu nbu
        rw [a1] at R1
        have t3:tokB s (k+(signB op).size+1+A.size+1)=untilT:=tok_word qu (by decide) (by decide +kernel) (stop_blank qb2)
        have n3:nxtM s (k+(signB op).size+1+A.size+1)=k+(signB op).size+1+A.size+1+1+1:=by unfold nxtM; rw [t3]; exact adv_blank qb2 qB hy
        have R2:=ry _ qB (stop_byte qR (by decide) (by decide) (by decide))
        have hbR:bAt s (k+(signB op).size+1+A.size+1+1+1+B.size)=93:=(qR.byte (by decide)).trans (by decide)
        rw [adv_stay (.inr (by rw [hbR]; decide))] at R2
        have t4:tokB s (k+(signB op).size+1+A.size+1+1+1+B.size)=rightT:=tok_one qR rfl (by decide) (by decide)
        have d1:=R1.stop1 (by rw [t3]; decide) (by rw [t3]; decide)
        have d2:=R2.stop1 (by rw [t4]; decide) (by rw [t4]; decide)
        have:=SgT.two (k:=k) (x:=x) (y:=y) ho2 t1 (by omega) (by rw [n1]; exact t2) (by rw [n1,n2]; exact d1) t3 (by rw [n1,n2]; exact R1.lt) R1.le (by rw [n3]; exact d2) t4
        unfold nxtM at this
        rw [t4] at this
        exact this
      · have ht:textM (.mk op (0:Nat) (0:Nat) [x,y])=parM (textM x) (rankM x.op) (rankM op)++⟨#[32]⟩++signB op++⟨#[32]⟩++parM (textM y) (rankM y.op) (rankM op+1):=by
          show joinM op (0:Nat) (0:Nat) [(textM x,rankM x.op),(textM y,rankM y.op)]=_
          simp only [joinM]
          rw [if_neg ho2]
        obtain ⟨r,hr1,hr2,hr3,hr4⟩ : ∃ r:Nat,rankM op=(r:Nat)∧rkN op=r∧r < 3∧signB op=signB (bopM r)∧op=bopM r:=by
          rcases ho with rfl | rfl | h | h
          · exact ⟨2,rfl,rfl,by omega,rfl,rfl⟩
          · exact ⟨1,rfl,rfl,by omega,rfl,rfl⟩
          · exact absurd (.inl h) ho2
          · exact absurd (.inr h) ho2
        have er1:(r:Int)+1=((r+1:Nat) : Int):=rfl
        rw [ht] at hh hst hlt hadv ⊢
        rw [hr1,er1] at hh hst hlt hadv ⊢
        rw [hr2]
        have px:NBl (parM (textM x) (rankM x.op) (r:Nat)):=par_nb hx
        have py:NBl (parM (textM y) (rankM y.op) ((r+1:Nat) : Int)):=par_nb hy
        have Rx:=fun k q1 q2=>read_par (s:=s) (k:=k) (least:=r) hx rx q1 q2
        have Ry:=fun k q1 q2=>read_par (s:=s) (k:=k) (least:=r+1) hy ry q1 q2
        generalize parM (textM x) (rankM x.op) (r:Nat)=A at *
        generalize parM (textM y) (rankM y.op) ((r+1:Nat) : Int)=B at *
        obtain ⟨p4,qB⟩:=hh.app
        obtain ⟨p3,qb2⟩:=p4.app
        obtain ⟨p2,qs⟩:=p3.app
        obtain ⟨qA,qb1⟩:=p2.app
        simp only [ba_size_append,e32,← Nat.add_assoc] at qB qb2 qs qb1 hst hlt hadv ⊢
        have lB:=qB.le
        have R1:=Rx _ qA (stop_blank qb1)
        rw [adv_blank qb1 qs hsn] at R1
        have t1:=tok_word qs hsn.1 hsl (stop_blank qb2)
        have n1:nxtM s (k+A.size+1)=k+A.size+1+(signB op).size+1:=by unfold nxtM; rw [t1]; exact adv_blank qb2 qB py
        have R2:=Ry _ qB hst
        rw [← n1] at R2
        rw [n1] at R2
        generalize advM s (k+A.size+1+(signB op).size+1+B.size)=K at *
        have hB:=py.1
        rw [hr4.2]
        have t1' : tokB s (k+A.size+1)=signB (bopM r):=t1.trans hr4.1
        have R2lt:=R2.lt
        rcases (by omega:r=2∨r < 2) with h22 | h22
        · subst h22
          have c2:∀ z q,LpT s 2 (.mk (bopM 2) 0 0 [x,y]) K z q→RdT s 2 k z q:=fun z q hl=>R1.c2 (Nat.le_refl _) z q (LpT.step (by omega) t1' (by omega) (by rw [n1]; exact RdT.sing rfl (R2.sg (Nat.le_refl _))) (by rw [n1]; exact R2lt) R2.le hl)
          exact ⟨hlt,hadv.2,fun h=>absurd h (by decide),fun _=>c2,fun h5 z q hl=>RdT.step (by omega) (c2 _ _ (LpT.stop h5)) hlt hadv.2 hl⟩
        · have hr0:r=1:=by
            have:=rk_pos op
            omega
          subst hr0
          exact ⟨hlt,hadv.2,fun h=>absurd h (by decide),fun h=>absurd h (by decide),fun h5 z q hl=>R1.c1 (by rw [t1']; decide) z q (LpT.step (by omega) t1' (by omega) (by rw [n1]; exact R2.stop2 (Nat.le_refl _) h5) (by rw [n1]; exact R2lt) R2.le hl)⟩
end
noncomputable def parseM (s:ByteArray) : NodeM×Int×Int :=
  if 65536 < s.size then (.mk 0 0 0 [],0,3)
  else match readF s (20 * s.size+9) 1 (advM s 0) with
    | some (.err k)=>(.mk 0 0 0 [],(k:Nat),4)
    | some (.ok x k)=>if tokB s k≠⟨#[]⟩ then (.mk 0 0 0 [],(k:Nat),4) else if (smallM x 64).1=false then (.mk 0 0 0 [],0,3) else (x,0,0)
    | none=>(.mk 0 0 0 [],0,0)
theorem parse_text {x:NodeM} (hv:validM 10000 10000 10000 x=true) (hs:(smallM x 64).1=true) (hsz:(textM x).size≤65536) : parseM (textM x)=(x,0,0):=by
  have hnb:=text_nb _ x (Nat.le_refl _) hv
  have R:=read_text (s:=textM x) _ x (Nat.le_refl _) hv 0 (Has.self _) (.inl (Nat.zero_add _))
  have a0:advM (textM x) 0=0:=adv_at (Has.self _) hnb
  have a1:advM (textM x) (0+(textM x).size)=(textM x).size:=by rw [Nat.zero_add]; exact adv_stay (.inl rfl)
  rw [a1] at R
  have te:tokB (textM x) (textM x).size=⟨#[]⟩:=(tok_empty (Nat.le_refl _)).2 rfl
  have hrd:=R.stop1 (by rw [te]; decide) (by rw [te]; decide) (20 * (textM x).size+9) (by omega)
  unfold parseM
  rw [if_neg (by omega),a0,hrd]
  dsimp only
  rw [if_neg (fun e=>e te),if_neg (by rw [hs]; simp)]
end Go.Ai
end
section
namespace Go.Ai
set_option maxRecDepth 10000
set_option maxHeartbeats 4000000
def tokC (s:ByteArray) (k:Nat) : List AV:=[.lit (.string (tokB s k)),.lit (.int .i64 (k:Nat))]
def toksC (s:ByteArray) (l:List Nat) : List AV:=l.flatMap (tokC s)
structure RAt (s:ByteArray) (pos:List Nat) (ta:Nat) (g:Nat→Option Blk) (n:Nat) : Prop where
  tan:ta < n
  toks:Row g ta 0 (toksC s pos)
theorem RAt.keep {s:ByteArray} {pos:List Nat} {ta:Nat} {g g' : Nat→Option Blk} {n n' : Nat} (h:RAt s pos ta g n) (hn:n≤n') (hg:∀ a,a < n→g' a=g a) : RAt s pos ta g' n' :=
  ⟨by have:=h.tan; omega,h.toks.mono (hg _ h.tan)⟩
end Go.Ai
end
section
namespace Go.Ai
section
variable {P:Program} {H:Mem} {ev:Ev} {d:Option Tmp} {ty:TypeId} {p:String} {af:Array Edge} {g:Option (Nat×Bool)}
noncomputable def capS (P:Program) (H:Mem) (ev:Ev) (o:Oper) (q:Option TypeDesc) (x:Option AV) : R:=match x,q with
  | some (.sl _ _ _ n),some (.slice _)=>.val (.lit (.int .i64 n)) H
  | some (.lit (.slice none _ n)),some (.slice _)=>.val (.lit (.int .i64 n)) H
  | _,_=>opV P H ev o
theorem op_cap {x:Operand} {t:TypeId} : opV P H ev ⟨d,.call ⟨.builtin .cap,#[x],#[t]⟩,ty,p,af,g⟩=capS P H ev ⟨d,.call ⟨.builtin .cap,#[x],#[t]⟩,ty,p,af,g⟩ (P.underlying t) (ev x):=by
  unfold capS
  split
  · rename_i a off n k e hx hq
    show callOp P H ev ⟨d,.call ⟨.builtin .cap,#[x],#[t]⟩,ty,p,af,g⟩ ⟨.builtin .cap,#[x],#[t]⟩=_
    have e1:evals ev [x]=some [.sl a off n k]:=by rw [evals,hx]; rfl
    have hg:generic P ev ⟨d,.call ⟨.builtin .cap,#[x],#[t]⟩,ty,p,af,g⟩=none:=by
      unfold generic
      have h1:(Op.operands (.call ⟨.builtin .cap,#[x],#[t]⟩)).toList=[x]:=by simp [Op.operands,Call.operands]
      dsimp only
      rw [h1]
      have l1:toLit (.sl a off n k)=none:=rfl
      simp only [List.all_cons,List.all_nil,hx,l1,Bool.false_and,if_false]
      simp
    unfold callOp
    rw [show (#[x] : Array Operand).toList=[x] from rfl,e1]
    dsimp only
    unfold oBuiltin oCap
    dsimp only
    rw [hg]
    have e2:((⟨.builtin .cap,#[x],#[t]⟩ : Call).argTypes[0]?).bind P.underlying=P.underlying t:=rfl
    dsimp only
    rw [e2,hq]
    rfl
  · rename_i m n e hx hq
    show callOp P H ev ⟨d,.call ⟨.builtin .cap,#[x],#[t]⟩,ty,p,af,g⟩ ⟨.builtin .cap,#[x],#[t]⟩=_
    have e1:evals ev [x]=some [.lit (.slice none m n)]:=by rw [evals,hx]; rfl
    have hg:generic P ev ⟨d,.call ⟨.builtin .cap,#[x],#[t]⟩,ty,p,af,g⟩=some (.lit (.int .i64 n)):=by
      refine generic1 (u:=.slice none m n) (r:=.int .i64 n) (by simp [Op.operands,Call.operands]) hx fun ρ hρ=>?_
      rw [exec_builtin (b:=.cap) (c:=⟨.builtin .cap,#[x],#[t]⟩) rfl rfl]
      have ea:(#[x] : Array Operand).map ρ=#[ρ x]:=by simp
      rw [ea]
      have hcap:pureV P (Builtin.cap_ #[t] ty #[ρ x])=some (goInt n):=by
        rw [hρ]
        refine (pureV_then (m:=underlying t) (a:=TypeDesc.slice e) (pureV_underlying hq)).trans ?_
        rfl
      show pureV P (do pure (Next.value (← Builtin.cap_ #[t] ty #[ρ x])))=_
      exact (pureV_then hcap).trans rfl
    unfold callOp
    rw [show (#[x] : Array Operand).toList=[x] from rfl,e1]
    dsimp only
    unfold oBuiltin oCap
    dsimp only
    rw [hg]
  · rfl
theorem capS_congr {tk:Nat} (_h0:tick=tk) {o:Oper} {q q' : Option TypeDesc} {x x' : Option AV} {H H' : Mem} (h1:H=H') (h2:q=q') (h3:x=x') : capS P H ev o q x=capS P H' ev o q' x':=by rw [h1,h2,h3]
attribute [congr] capS_congr
theorem capS_sl {o:Oper} {e:TypeId} {a off n k:Nat} : capS P H ev o (some (.slice e)) (some (.sl a off n k))=.val (.lit (.int .i64 k)) H:=(rfl)
theorem capS_nil {o:Oper} {e:TypeId} {n k:Nat} : capS P H ev o (some (.slice e)) (some (.lit (.slice none n k)))=.val (.lit (.int .i64 k)) H:=(rfl)
attribute [simp] op_cap capS_sl capS_nil
end
end Go.Ai
end
section
namespace Go.Ai
open Go.RowKit (Below)
variable {B G:Nat} {P:Program} {n n0:Nat} {ρ0 ρ:Rn} {w0 w:World} {fr:Fr} {H:Mem} {a:Act} {W:WF}
noncomputable def execDW (G:Nat) (P:Program) (n:Nat) (O:CallF) : Code→Fr→Mode→Mem→(OutD→Prop)→Prop
  | .seq x y,fr,u,H,Q=>execDW G P n O x fr u H fun r=>match r with
    | .norm fr u H=>execDW G P n O y fr u H Q
    | r=>Q r
  | .cond c x y,fr,u,H,Q=>match fr.ev c with
    | some (.lit (.bool true))=>execDW G P n O x fr u H Q
    | some (.lit (.bool false))=>execDW G P n O y fr u H Q
    | _=>False
  | .region _ ops false,fr,u,H,Q=>match seqOpsD P O ops ops.toList fr u H with
    | .bad=>False
    | r=>Q r
  | c,fr,u,H,Q=>XW G P n c fr H fun o=>match o with
    | .norm fr H=>Q (.norm fr u H)
    | .ret fr H=>Q (.ret fr u H)
    | _=>False
noncomputable def endDW (P:Program) (g:Func) (K:Mode→Mem→Prop) : OutD→Prop
  | .norm fr u H=>match fr.defers,resultsA P g fr H,u with
    | [],some _,.recovered _=>K .returning H
    | [],some _,.returning=>K .returning H
    | [],some _,.panicking v=>K (.panicking v) H
    | _,_,_=>False
  | .ret fr u H=>match fr.defers,resultsA P g fr H,u with
    | [],some _,.recovered _=>K .returning H
    | [],some _,.returning=>K .returning H
    | [],some _,.panicking v=>K (.panicking v) H
    | _,_,_=>False
  | .bad=>False
noncomputable def lastW (P:Program) (fn:Func) (fr:Fr) (K:COut→Prop) : Mode→Mem→Prop
  | .returning,H=>match resultsA P fn fr H with
    | some v=>K (.ret v H)
    | none=>False
  | .panicking v,H=>K (.panic v H)
  | .recovered _,_=>False
noncomputable def deferW (G:Nat) (P:Program) (O:CallF) (fn:Func) (fr:Fr) (K:COut→Prop) (u:Mode) (H:Mem) : Prop :=
  match fr.defers with
  | []=>lastW P fn fr K u H
  | [(.func f,cap,args)]=>∃ g c,P.funcs[f]?=some g∧g.body=some c∧hasBody P f=true∧dstsOk g.ntmps c=true∧(args++cap).length≤g.ntmps ∧
    execDW G P g.ntmps O c (frameW (args++cap)) u H (endDW P g (lastW P fn fr K))
  | _=>False
noncomputable def leaveX (G:Nat) (P:Program) (O:CallF) (fn:Func) (K:COut→Prop) : Out→Prop
  | .norm fr H=>deferW G P O fn fr K .returning H
  | .ret fr H=>deferW G P O fn fr K .returning H
  | .panic v fr H=>deferW G P O fn fr K (.panicking v) H
  | _=>False
end Go.Ai
end
section
namespace Go.Ai
set_option maxRecDepth 10000
theorem repL_append {g:Nat→Option Blk} {b:Nat} : ∀ {l m:List NodeM} {r s:List AV},repL g b l r→repL g b m s→repL g b (l++m) (r++s)
  | [],m,r,s,h,k=>by have h' : r=[]:=h; subst h'; exact k
  | x :: l,m,r,s,⟨c,q,h1,h2,h3⟩,k=>⟨c,q++s,by rw [h1,List.append_assoc],h2,repL_append h3 k⟩
theorem repL_split {g:Nat→Option Blk} {b:Nat} : ∀ {l m:List NodeM} {r:List AV},repL g b (l++m) r→∃ r1 r2,r=r1++r2∧repL g b l r1∧repL g b m r2
  | [],m,r,h=>⟨[],r,rfl,rfl,h⟩
  | x :: l,m,r,⟨c,q,h1,h2,h3⟩=>by
    obtain ⟨r1,r2,h4,h5,h6⟩:=repL_split h3
    exact ⟨c++r1,r2,by rw [h1,h4,List.append_assoc],⟨c,r1,rfl,h2,h5⟩,h6⟩
theorem repL_one' {g:Nat→Option Blk} {b:Nat} {x:NodeM} {cs:List AV} (h:repL g b [x] cs) : repN g b x cs:=by
  obtain ⟨c,r,h1,h2,h3⟩:=h
  have h3' : r=[]:=h3
  subst h3'
  rw [h1,List.append_nil]; exact h2
structure StkR (g gk:Nat→Option Blk) (lo n A:Nat) (sv:AV) (l:List NodeM) (r:List AV) : Prop where
  grow:GrowV g lo n A sv l.length 4 r
  rep:repL gk n l.reverse r
  kk:∀ q z,gk q=some z→g q=some z∧q≠A∧lo≤q∧q < n
theorem StkR.start {g:Nat→Option Blk} {lo n:Nat} : StkR g (fun _=>none) lo n 0 (.lit (.slice none 0 0)) [] []:=⟨.inl ⟨rfl,rfl,rfl⟩,rfl,fun _ _ h=>by cases h⟩
theorem StkR.push {g gk g2:Nat→Option Blk} {lo n n2 A B:Nat} {sv:AV} {l:List NodeM} {r X:List AV} {x:NodeM} (h:StkR g gk lo n A sv l r) (h1:n≤B) (h2:B < n2) (hlo:lo≤n) (hg:∀ q,lo≤q→q < n→q≠A→g2 q=g q)
    (hB:g2 B=some (.cells (r++X) true 4)) (hX:X.length=4) (hx:∀ q b,repN q b x X) : StkR g2 gk lo n2 B (.slq B 0 (l.length+1) 0) (x :: l) (r++X):=by
  have hl:=repL_len h.rep
  rw [List.length_reverse] at hl
  refine ⟨.mk hB (by omega) h2 ?_,?_,fun q z hz=>?_⟩
  · rw [List.length_append,hl,hX]; omega
  · rw [List.reverse_cons]
    exact repL_append (repL_ext (by omega) (fun _ _ _ h=>h) h.rep) (repL_one (hx _ _))
  · obtain ⟨k1,k2,k3,k4⟩:=h.kk q z hz
    exact ⟨(hg q k3 k4 k2).trans k1,by omega,k3,by omega⟩
theorem StkR.pop {g gk g2:Nat→Option Blk} {lo n n2 A B S op k:Nat} {sv:AV} {l t subs:List NodeM} {r r0 cs:List AV} (h:StkR g gk lo n A sv l r) (h1:n≤S) (h2:S < n2) (h3:n≤B) (h4:B < n2) (h5:S≠B) (hlo:lo≤n)
    (hg:∀ q,lo≤q→q < n→q≠A→g2 q=g q) (hS:g2 S=some (.cells cs true 0)) (hB:g2 B=some (.cells (r0++[.lit (.int .u8 op),.lit (.int .i64 0),.lit (.int .i64 0),.sl S 0 k k]) true 4))
    (h0:repL gk n t.reverse r0) (hs:repL gk n subs cs) (hk:subs.length=k) (hop:op < 256) :
    StkR g2 (gput gk S (some (.cells cs true 0))) lo n2 B (.slq B 0 (t.length+1) 0) (.mk op 0 0 subs :: t) (r0++[.lit (.int .u8 op),.lit (.int .i64 0),.lit (.int .i64 0),.sl S 0 k k]):=by
  have hl:=repL_len h0
  rw [List.length_reverse] at hl
  have hext:∀ a z,a < n→gk a=some z→gput gk S (some (.cells cs true 0)) a=some z:=fun a z ha hz=>by rw [gput_lt (by omega)]; exact hz
  refine ⟨.mk hB (by omega) h4 ?_,?_,fun q z hz=>?_⟩
  · rw [List.length_append,hl]; simp; omega
  · rw [List.reverse_cons]
    exact repL_append (repL_ext (by omega) hext h0) (repL_one (node_rep hs hk hop h1 h2))
  · rcases gput_v hz with ⟨rfl,h⟩ | ⟨_,hz⟩
    · cases h; exact ⟨hS,h5,by omega,h2⟩
    · obtain ⟨k1,k2,k3,k4⟩:=h.kk q z hz
      exact ⟨(hg q k3 k4 k2).trans k1,by omega,k3,by omega⟩
theorem StkR.last {g gk:Nat→Option Blk} {lo n A:Nat} {sv:AV} {x:NodeM} {t:List NodeM} {r:List AV} (h:StkR g gk lo n A sv (x :: t) r) : ∃ r0 cx,sv=.slq A 0 (t.length+1) 0∧lo≤A∧A < n∧g A=some (.cells r true 4)∧r.length=(t.length+1) * 4 ∧
    r.take (t.length * 4)=r0∧(r.drop (t.length * 4)).take 4=cx∧repL gk n t.reverse r0∧repN gk n x cx:=by
  rcases h.grow with ⟨h9,_⟩ | ⟨_,h1,hA0,hA1,hA,hrl⟩
  · simp at h9
  · have hrep:=h.rep
    rw [List.reverse_cons] at hrep
    obtain ⟨r1,r2,rfl,h2,h3⟩:=repL_split hrep
    have h4:=repL_len h2
    have h5:=repL_len h3
    rw [List.length_reverse] at h4
    refine ⟨r1,r2,h1,hA0,hA1,hA,hrl,?_,?_,h2,repL_one' h3⟩
    · rw [List.take_left' h4]
    · rw [List.drop_left' h4,List.take_of_length_le (by rw [h5]; simp)]
theorem StkR.last2 {g gk:Nat→Option Blk} {lo n A:Nat} {sv:AV} {x y:NodeM} {t:List NodeM} {r:List AV} (h:StkR g gk lo n A sv (y :: x :: t) r) : ∃ r0 cx cy,sv=.slq A 0 (t.length+1+1) 0∧lo≤A∧A < n∧g A=some (.cells r true 4)∧r.length=(t.length+1+1) * 4 ∧
    r.take (t.length * 4)=r0∧(r.drop (t.length * 4)).take 4=cx∧(r.drop ((t.length+1) * 4)).take 4=cy∧repL gk n t.reverse r0∧repN gk n x cx∧repN gk n y cy:=by
  obtain ⟨r0,cy,h1,h2,h3,h4,h5,h6,h7,h8,h9⟩:=h.last
  rw [List.reverse_cons] at h8
  obtain ⟨r1,r2,rfl,k2,k3⟩:=repL_split h8
  have k4:=repL_len k2
  have k5:=repL_len k3
  rw [List.length_reverse] at k4
  have k6:r=(r1++r2)++r.drop ((t.length+1) * 4):=by
    have:=List.take_append_drop ((t.length+1) * 4) r
    have h6' : r.take ((t.length+1) * 4)=r1++r2:=h6
    rw [h6'] at this
    exact this.symm
  refine ⟨r1,r2,cy,h1,h2,h3,h4,h5,?_,?_,h7,k2,repL_one' k3,h9⟩
  · rw [k6,List.append_assoc,List.take_left' k4]
  · rw [k6,List.append_assoc,List.drop_left' k4,List.take_left' (by rw [k5]; simp)]
def stepG (o:Nat) (kN kI kO:Int) (l:List NodeM) : List NodeM :=
  if o=5∨o=6∨o=10∨o=14 then match l with | y :: x :: t=>.mk o 0 0 [x,y] :: t | l=>.mk 1 kN 0 [] :: l
  else if 4≤o then match l with | x :: t=>.mk o 0 0 [x] :: t | []=>[.mk 1 kN 0 []]
  else if o=2 then .mk 2 kI 0 [] :: l
  else if o=3 then .mk 3 kI kO [] :: l
  else if o=0 then .mk 0 0 0 [] :: l
  else .mk 1 kN 0 [] :: l
def stepF (N I O c:Nat) (l:List NodeM) : List NodeM:=stepG (c % 15) ((c / 15 % N:Nat) : Int) ((c / 15 % I:Nat) : Int) ((c / 15 / 3 % O:Nat) : Int) l
def ofS (N I O:Nat) : List Nat→List NodeM→List NodeM
  | [],l=>l
  | c :: cs,l=>ofS N I O cs (stepF N I O c l)
def topN:List NodeM→NodeM
  | x :: _=>x
  | []=>.mk 0 0 0 []
def ofF (st inp out:Nat) (codes:List Nat) : NodeM:=topN (ofS (1+st % 6) (1+inp % 3) (1+out % 3) (codes.take 12) [])
end Go.Ai
end
section
namespace Go.Ai
set_option maxRecDepth 10000
def StkOK (st inp out:Int) (m:Nat) (l:List NodeM) : Prop:=(∀ x∈l,validM st inp out x=true)∧sizeL l≤m
theorem valid_mk {st inp out:Int} {o:Nat} {a b:Int} {l:List NodeM} (h1:o < 15) (h2:l.length=subsM o) (h3:0≤a) (h4:0≤b) (h5:a < if o=1 then st else if o=2∨o=3 then inp else 1) (h6:b < if o=3 then out else 1)
    (h7:∀ x∈l,validM st inp out x=true) : validM st inp out (.mk o a b l)=true:=by
  have h8:validL st inp out l=true:=by
    clear h2 h3 h4 h5 h6 h1
    induction l with
    | nil=>rfl
    | cons x l ih =>
      unfold validL
      rw [h7 x (List.mem_cons_self ..),ih (fun y hy=>h7 y (List.mem_cons_of_mem _ hy))]
      rfl
  unfold validM
  simp only [Bool.and_eq_true,decide_eq_true_eq]
  exact ⟨h1,h2,h3,h4,h5,h6,h8⟩
theorem stepF_ok {N I O:Nat} (hN:0 < N) (hI:0 < I) (hO:0 < O) (c m:Nat) {l:List NodeM} (h:StkOK N I O m l) : StkOK N I O (m+1) (stepF N I O c l):=by
  have ho:c % 15 < 15:=Nat.mod_lt _ (by omega)
  have kN:=Nat.mod_lt (c / 15) hN
  have kI:=Nat.mod_lt (c / 15) hI
  have kO:=Nat.mod_lt (c / 15 / 3) hO
  have h1:validM N I O (.mk 1 ((c / 15 % N:Nat) : Int) 0 [])=true:=valid_mk (by omega) rfl (by omega) (by omega) (by rw [if_pos rfl]; exact Int.ofNat_lt.2 kN) (by rw [if_neg (by decide)]; decide) (by simp)
  have push:∀ {x:NodeM} {t:List NodeM},validM N I O x=true→sizeN x+sizeL t≤m+1→(∀ y∈t,y∈l)→StkOK N I O (m+1) (x :: t):=fun {x t} hx hs ht =>
    ⟨fun y hy=>by
      rcases List.mem_cons.1 hy with rfl | hy
      · exact hx
      · exact h.1 y (ht y hy),by unfold sizeL; exact hs⟩
  have hsz:=h.2
  unfold stepF stepG
  split
  · rename_i hb
    have hsub:subsM (c % 15)=2:=by unfold subsM; rw [if_neg (by omega)]; rw [if_pos hb]
    split
    · rename_i y x t
      simp only [sizeL] at hsz
      refine push (valid_mk ho (by rw [hsub]; rfl) (by omega) (by omega) ?_ ?_ fun z hz=>?_) ?_ (fun z hz=>by simp [hz])
      · rw [if_neg (by omega),if_neg (by omega)]; omega
      · rw [if_neg (by omega)]; omega
      · rcases List.mem_cons.1 hz with rfl | hz
        · exact h.1 _ (by simp)
        · rcases List.mem_cons.1 hz with rfl | hz
          · exact h.1 _ (by simp)
          · cases hz
      · simp only [sizeN,sizeL]; omega
    · exact push h1 (by simp only [sizeN,sizeL]; omega) (fun _ hy=>hy)
  split
  · rename_i hb h4
    have hsub:subsM (c % 15)=1:=by unfold subsM; rw [if_neg (by omega),if_neg hb]
    split
    · rename_i x t
      simp only [sizeL] at hsz
      refine push (valid_mk ho (by rw [hsub]; rfl) (by omega) (by omega) ?_ ?_ fun z hz=>?_) ?_ (fun z hz=>by simp [hz])
      · rw [if_neg (by omega),if_neg (by omega)]; omega
      · rw [if_neg (by omega)]; omega
      · rcases List.mem_cons.1 hz with rfl | hz
        · exact h.1 _ (by simp)
        · cases hz
      · simp only [sizeN,sizeL]; omega
    · exact push h1 (by simp only [sizeN,sizeL]; omega) (fun _ hy=>by cases hy)
  have leaf:∀ {x:NodeM},validM N I O x=true→sizeN x=1→StkOK N I O (m+1) (x :: l):=fun hx h1=>push hx (by omega) (fun _ hy=>hy)
  split
  · exact leaf (valid_mk (by omega) rfl (by omega) (by omega) (by rw [if_neg (by decide),if_pos (by decide)]; exact Int.ofNat_lt.2 kI) (by rw [if_neg (by decide)]; decide) (by simp)) rfl
  split
  · exact leaf (valid_mk (by omega) rfl (by omega) (by omega) (by rw [if_neg (by decide),if_pos (by decide)]; exact Int.ofNat_lt.2 kI) (by rw [if_pos rfl]; exact Int.ofNat_lt.2 kO) (by simp)) rfl
  split
  · exact leaf (valid_mk (by omega) rfl (by omega) (by omega) (by rw [if_neg (by decide),if_neg (by decide)]; decide) (by rw [if_neg (by decide)]; decide) (by simp)) rfl
  · exact leaf h1 rfl
theorem ofS_ok {N I O:Nat} (hN:0 < N) (hI:0 < I) (hO:0 < O) : ∀ (cs:List Nat) (m:Nat) {l:List NodeM},StkOK N I O m l→StkOK N I O (m+cs.length) (ofS N I O cs l)
  | [],m,l,h=>h
  | c :: cs,m,l,h=>by
    have:=ofS_ok hN hI hO cs (m+1) (stepF_ok hN hI hO c m h)
    unfold ofS
    rw [List.length_cons,show m+(cs.length+1)=m+1+cs.length by omega]
    exact this
theorem ofF_ok (st inp out:Nat) (codes:List Nat) : validM ((1+st % 6:Nat) : Int) ((1+inp % 3:Nat) : Int) ((1+out % 3:Nat) : Int) (ofF st inp out codes)=true∧sizeN (ofF st inp out codes)≤12:=by
  have h:=ofS_ok (N:=1+st % 6) (I:=1+inp % 3) (O:=1+out % 3) (by omega) (by omega) (by omega) (codes.take 12) 0 (l:=[]) ⟨fun _ h=>(by cases h),Nat.le_refl _⟩
  unfold ofF
  cases hl:ofS (1+st % 6) (1+inp % 3) (1+out % 3) (codes.take 12) [] with
  | nil=>exact ⟨valid_mk (by omega) rfl (by omega) (by omega) (by rw [if_neg (by decide),if_neg (by decide)]; decide) (by rw [if_neg (by decide)]; decide) (by simp),by show sizeN (.mk 0 0 0 [])≤12; decide⟩
  | cons x l =>
    rw [hl] at h
    refine ⟨h.1 x (List.mem_cons_self ..),?_⟩
    have h2:=h.2
    rw [List.length_take] at h2
    unfold sizeL at h2
    show sizeN x≤12
    omega
mutual
theorem valid_mono {a b c a' b' c' : Int} (h1:a≤a') (h2:b≤b') (h3:c≤c') : ∀ (x:NodeM),validM a b c x=true→validM a' b' c' x=true
  | .mk op p q l=>fun h=>by
    unfold validM at h ⊢
    simp only [Bool.and_eq_true,decide_eq_true_eq] at h ⊢
    obtain ⟨e1,e2,e3,e4,e5,e6,e7⟩:=h
    refine ⟨e1,e2,e3,e4,?_,?_,validL_mono h1 h2 h3 l e7⟩
    · split at e5
      · rw [if_pos (by assumption)]; omega
      · rename_i hn
        rw [if_neg hn]
        split at e5
        · rw [if_pos (by assumption)]; omega
        · rw [if_neg (by assumption)]; omega
    · split at e6
      · rw [if_pos (by assumption)]; omega
      · rw [if_neg (by assumption)]; omega
theorem validL_mono {a b c a' b' c' : Int} (h1:a≤a') (h2:b≤b') (h3:c≤c') : ∀ (l:List NodeM),validL a b c l=true→validL a' b' c' l=true
  | [],h=>h
  | x :: l,h=>by
    unfold validL at h ⊢
    rw [Bool.and_eq_true] at h ⊢
    exact ⟨valid_mono h1 h2 h3 x h.1,validL_mono h1 h2 h3 l h.2⟩
end
end Go.Ai
end
section
namespace Go.Ai
open Go.ChangeShapes Go.WideShapes Go.ChangeAt Go.RowKit
variable {H:Type} {enc:TypeId×Value→H} {P:Program}
theorem post_below {f:Func} {s:ChangeSpec} {apart fresh handsOn again:Bool} {W W' : World} {args:Array Value} {v:Value} {ds gs:List (DataW H)} {before pa pv:List MemPlace}
    (hW:DataW.Whole enc P f.params.toList s.vars apart W args.toList ds gs before)
    (hres:∀ (b:Nat) (sp:Nat→Bool) (hd:Bool),DataW.TrodAll enc P W' b sp hd f.resultTypes.toList (v.resultList f.resultTypes.size) (s.fn H (ds++gs)).results [])
    (hargs:∀ sp:Nat→Bool,(∀ p∈before,sp p.block=true)→DataW.TrodAll enc P W' 0 sp true f.params.toList args.toList (s.fn H (ds++gs)).args pa)
    (hvars:∀ sp:Nat→Bool,(∀ p∈before,sp p.block=true)→DataW.TrodVars enc P W' sp s.vars (s.fn H (ds++gs)).vars pv)
    (hps:before=pa++pv) (hB:Below W.heap.size W W')
    (hok:∀ (j:Nat) (t:TypeId) (r:Value),f.resultTypes[j]?=some t→(v.resultList f.resultTypes.size)[j]?=some r→Value.okWide P W' .any 0 t r) :
    s.post enc P f apart fresh handsOn again W args v W':=by
  have hlt:∀ p∈before,p.block < W.heap.size:=fun p hp=>hW.lt p hp
  have hold:∀ p∈before,(fun b=>decide (b < W.heap.size)) p.block=true:=fun p hp=>by simpa using hlt p hp
  refine ⟨ds,gs,before,[],pa,pv,hW,hres _ _ _,hargs _ hold,hvars _ hold,World.keptBut_mono (fun p hp=>⟨hp,?_⟩) (hB.frame (·∈before)),fun _=>?_⟩
  · rw [hps,List.mem_append] at hp
    exact Or.inr hp
  · obtain ⟨_,_,_,_,_,hz,hn⟩:=hW
    refine ⟨hok,_,_,([]++pa)++pv,⟨[]++pa,pv,trodAll_append (hargs _ (fun _ _=>rfl)) (hres _ _ _),hvars _ (fun _ _=>rfl),rfl,?_,?_⟩,?_⟩
    · intro b off hp
      have hp' : MemPlace.cell b off∈before:=by rw [hps]; simpa using hp
      rw [hB.frozen (p:=⟨b,off,none⟩) (hlt _ hp')]
      exact hz b off hp'
    · intro ha
      have:=hn ha
      rw [hps] at this
      simpa using this
    · intro p hp _
      rw [hps]
      simpa using hp
end Go.Ai
end
section
namespace Go.Ai
open Go.ChangeShapes Go.WideShapes Go.ChangeAt Go.RowKit
variable {B G:Nat} {P:Program} {ρ:Rn} {w:World}
theorem vrs_lits {ρ:Rn} {k:IntKind} : ∀ (zs:List Int),VRs ρ (zs.map fun z=>.lit (.int k z)) (zs.map fun z=>.int k z)
  | []=>rfl
  | z :: zs=>⟨.int k z,_,rfl,rfl,vrs_lits zs⟩
theorem name_ints {k:IntKind} {g:Nat→Option Blk} {n:Nat} {v:Value} (s:Sim B G ρ ⟨.fn g,n⟩ w) (hno:NoOwn ⟨.fn g,n⟩)
    (h:v=.slice none 0 0∨∃ (a:Addr) (len cap:Nat) (zs:List Int),v=.slice (some a) len cap∧len≤cap∧zs.length=cap∧∀ i,i < zs.length→w.cell? (a.add i)=some (.int k (zs.getD i 0))) :
    ∃ (ρ' : Rn) (g' : Nat→Option Blk) (n' : Nat) (av:AV) (zs:List Int),Sim B G ρ' ⟨.fn g',n'⟩ w∧NoOwn ⟨.fn g',n'⟩∧VR ρ' av v∧Sub ρ ρ'∧oneC av=true∧n≤n'∧(∀ a,a < n→g' a=g a) ∧
      ((zs.length=0∧(av=.lit (.slice none 0 0)∨av=.es))∨∃ c,av=.sl n 0 zs.length c∧n < n'∧Row g' n 0 (zs.map fun z=>.lit (.int k z))) ∧
      (v=.slice none 0 0→zs=[])∧(∀ (a:Addr) (len cap:Nat) (ys:List Int),v=.slice (some a) len cap→(∀ i,i < ys.length→w.cell? (a.add i)=some (.int k (ys.getD i 0)))→ys.length=cap→len≤cap→zs=ys.take len):=by
  rcases h with rfl | ⟨a,len,cap,zs,rfl,hlen,hz,hc⟩
  · exact ⟨ρ,g,n,.lit (.slice none 0 0),[],s,hno,rfl,fun _ _ h=>h,rfl,Nat.le_refl _,fun _ _=>rfl,.inl ⟨rfl,.inl rfl⟩,fun _=>rfl,fun a len cap ys h=>by cases h⟩
  · have hys:∀ ys:List Int,(∀ i,i < ys.length→w.cell? (a.add i)=some (.int k (ys.getD i 0)))→ys.length=cap→ys=zs:=by
      intro ys h1 h2
      refine List.ext_getElem (by omega) fun i h3 h4=>?_
      have e:=(h1 i h3).symm.trans (hc i h4)
      simp only [Option.some.injEq,Value.int.injEq,true_and] at e
      rw [List.getD_eq_getElem?_getD,List.getD_eq_getElem?_getD,List.getElem?_eq_getElem h3,List.getElem?_eq_getElem h4] at e
      exact e
    by_cases h0:cap=0
    · subst h0
      have hl0:len=0:=by omega
      subst hl0
      exact ⟨ρ,g,n,.es,[],s,hno,⟨a,0,rfl⟩,fun _ _ h=>h,rfl,Nat.le_refl _,fun _ _=>rfl,.inl ⟨rfl,.inr rfl⟩,fun _=>rfl,fun a' len' cap' ys h1 h2 h3 h4=>by
        cases h1; rw [List.take_zero]⟩
    · obtain ⟨b,o,spt⟩:=a
      have hsp:spt=none:=by
        have h1:=hc 0 (by omega)
        have h2:(Addr.mk b o spt).add 0=⟨b,o,spt⟩:=by unfold Addr.add; rw [if_pos rfl]
        rw [h2] at h1
        exact spot_of_cell h1
      subst hsp
      have hbr:∀ ρ' : Rn,BR B ρ' (.cells (zs.map fun z=>.lit (.int k z)) false 0) b o 0 w:=fun ρ' =>
        br_of_cells (vrs_lits zs) (by intro e; have:=congrArg List.length e; simp at this; subst this; simp at hz; omega) (fun i hi=>by
          have hi' : i < zs.length:=by simpa using hi
          have h1:=hc i hi'
          rw [Addr.add_eq] at h1
          rw [h1,List.getElem?_map,List.getElem?_eq_getElem hi',List.getD_eq_getElem?_getD,List.getElem?_eq_getElem hi']
          rfl)
      have s2:=s.see hno (x:=.cells (zs.map fun z=>.lit (.int k z)) false 0) (b:=b) (o:=o) (k:=0) rfl (hbr _)
      refine ⟨_,gput g n (some (.cells (zs.map fun z=>.lit (.int k z)) false 0)),n+1,.sl n 0 len cap,zs.take len,s2,hno.add rfl,⟨b,o,0,upd_same _ _ _,hlen,rfl⟩,sub_upd s.none,rfl,Nat.le_succ _,fun a ha=>gput_lt ha,.inr ⟨cap,?_,Nat.lt_succ_self _,?_⟩,(fun h=>by cases h),fun a' len' cap' ys h1 h2 h3 h4=>?_⟩
      · rw [List.length_take,Nat.min_eq_left (by omega)]
      · refine ⟨zs.map fun z=>.lit (.int k z),false,0,if_pos rfl,?_,?_⟩
        · simp; omega
        · rw [List.drop_zero,List.length_map,← List.map_take,List.length_take,Nat.min_eq_left (by omega)]
      · cases h1
        rw [hys ys h2 h3]
end Go.Ai
end
