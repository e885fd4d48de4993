/- A small verified interpreter over names, its proofs, and what was proved with it. No condition. -/
import Derived.Test.YtfhkfifjbgcpiaaDoorPDA
import Derived.Test.YtfhkfifjbgcpiaaDoorPD6
set_option linter.all false
set_option linter.deprecated false
section
namespace Go.Ai
open Go.Proofs
set_option maxRecDepth 10000
set_option maxHeartbeats 40000000
def RLevOK (vs:List VarM) (va:Nat) (s:ByteArray) (pos:List Nat) (ta m:Nat) : Prop:=∀ (rank i k:Nat) (g:Nat→Option Blk) (n:Nat),RAt vs va s pos ta g n→pos[i]?=some k→1≤rank→rank≤8→20 * (s.size - k)+(10 - rank)≤m →
  WC 6 Tryd.prog 42 [.sl va 0 vs.length vs.length,.slq ta 0 pos.length 0,.lit (.int .i64 i),.lit (.int .i64 rank)] ⟨.fn g,n⟩ fun r=>∃ res,readF vs s m rank k=some res∧REnd pos g n res r
section
variable {vs:List VarM} {va:Nat} {s:ByteArray} {pos:List Nat} {ta:Nat}
theorem ratom_w (hP:PosOK s pos) (hpl:pos.length≤1000001) (hs:s.size≤1000000) (hvl:vs.length≤1000000) {m:Nat} (hR:RLevOK vs va s pos ta m) (i k:Nat) (g:Nat→Option Blk) (n:Nat) (h:RAt vs va s pos ta g n) (hi:pos[i]?=some k) (hm:20 * (s.size - k)≤m) :
    WC 6 Tryd.prog 61 [.sl va 0 vs.length vs.length,.slq ta 0 pos.length 0,.lit (.int .i64 i)] ⟨.fn g,n⟩ fun r=>∃ res,atomF vs s (m+1) k=some res∧REnd pos g n res r:=by
  have hle:=(hP i k hi).1
  have hnx:=(hP i k hi).2
  have hil:i < pos.length:=(List.getElem?_eq_some_iff.1 hi).1
  have hiI:(i:Int) < (pos.length:Int):=by omega
  have hta:=h.tan
  have hva:=h.van
  have r1:=(row_tok (z:=1) h.toks hi).1
  have HROW:Hide (∀ j (hj:j < vs.length),loadB (some (false,1)) (g va) (0+j * 3)=some (.lit (.string vs[j].name))):=⟨fun j hj=>(row_var (s:=1) h.vars hj).1⟩
  rw [Nat.zero_add] at r1
  have HH:=Hide.mk h
  have HP:=Hide.mk hP
  have HI:=Hide.mk hi
  have HR:=Hide.mk hR
  clear h hP hR hi
  have HAT:Hide (atomF vs s (m+1) k=atomF vs s (m+1) k):=⟨rfl⟩
  by_cases c1:tokB s k=⟨#[]⟩
  · have hres:atomF vs s (m+1) k=some (.err 4 k):=by rw [atomF,if_pos c1]
    have HRES:=Hide.mk hres
    clear hres hnx
    rw [c1] at r1
    refine WC.enterP (noO_ok _ _) hG6 [] Tryd.func61 rfl (by decide +kernel) (Nat.le_of_ble_eq_true (by kernel_rfl)) ?_
    iterate 20 (all_goals try (first | with_reducible refine splitI (fun h=>?_) (fun h=>?_) | with_reducible refine splitBI (fun h=>?_) (fun h=>?_) | simp (config:={ maxSteps:=1000000 }) (disch:=first | assumption | omega | (simp; done) | fail) [Tryd.results61, *]))
    exact ⟨_,HRES.out,zeroN,0,0,.lit (.slice none 0 0),i,4,_,_,rfl,by omega,fun a ha=>(by simp (disch:=omega) only [gput_lt]),FreshN.leaf (by omega),rfl,by omega,HI.out⟩
  have hk:k < s.size:=by
    have hne:k≠s.size:=fun e=>c1 ((tok_empty hle).2 e)
    omega
  have hnk:=nxtM_lt hk
  have htk:=tok_size hk
  have htn:=tokN_le hk
  have HN:=Hide.mk (hnx hk)
  clear hnx
  by_cases c2:tokB s k=openT
  · have c2' : tokB s k=⟨#[40]⟩:=c2
    rw [c2'] at r1
    refine WC.enterP (noO_ok _ _) hG6 [] Tryd.func61 rfl (by decide +kernel) (Nat.le_of_ble_eq_true (by kernel_rfl)) ?_
    iterate 20 (all_goals try (first | with_reducible refine splitI (fun h=>?_) (fun h=>?_) | with_reducible refine splitBI (fun h=>?_) (fun h=>?_) | simp (config:={ maxSteps:=1000000 }) (disch:=first | assumption | omega | (simp; done) | fail) [Tryd.results61, *]))
    refine WC.mono (HR.out 1 (i+1) (nxtM s k) _ _ (HH.out.keep (by omega) (fun a ha=>(by simp (disch:=omega) only [gput_lt]))) HN.out (by omega) (by omega) (by omega)) ?_
    rintro _ ⟨res,hrd,x,op,q,sv2,j,e,g1,n1,rfl,hn1,hg1,hfr,hend⟩
    have HRD:=Hide.mk hrd
    have HFR:=Hide.mk hfr
    have HG1:=Hide.mk hg1
    have e1:g1 n=some (.cells [.lit (.int .u8 0),.lit (.int .i64 0),.lit (.slice none 0 0),.lit (.int .i64 0),.lit (.int .i64 0)] true 0):=by rw [hg1 n (by omega)]; simp
    have h1c:oneC sv2=true:=by
      obtain ⟨_,_,_,hcc,h1c⟩:=repN_one hfr.rep
      cases hcc; exact h1c
    have h1a:allOne [.lit (.int .u8 op),.lit (.int .i64 q),sv2]=true:=by simp [h1c]
    have h1b0:∀ a b:Int,allOne [.lit (.int .u8 op),.lit (.int .i64 q),sv2,.lit (.int .i64 a),.lit (.int .i64 b)]=true:=fun a b=>by simp [h1c]
    have hnn1:¬n=n1:=by omega
    have h1b:=h1b0 j e
    have h1b4:=h1b0 j 4
    have h1bj:=h1b0 ((j:Int)+1) 0
    clear hrd hfr hg1 h1b0
    cases res with
    | err c k2 =>
      obtain ⟨rfl,hc0,hj⟩:=hend
      have hres:atomF vs s (m+1) k=some (.err e k2):=by rw [atomF,if_neg c1,if_pos c2,HRD.out]
      have HRES:=Hide.mk hres
      have HJ:=Hide.mk hj
      clear hres hj
      iterate 20 (all_goals try (first | with_reducible refine splitI (fun h=>?_) (fun h=>?_) | with_reducible refine splitBI (fun h=>?_) (fun h=>?_) | simp (config:={ maxSteps:=1000000 }) (disch:=first | assumption | omega | (simp; done) | fail) [Tryd.results61, *]))
      refine ⟨_,HRES.out,x,op,q,sv2,j,e,_,_,rfl,by omega,fun a ha=>?_,HFR.out.keep (by omega) (by omega) (fun a h4 h5=>?_),rfl,hc0,HJ.out⟩
      · simp (disch:=omega) only [gput_lt]
        rw [HG1.out a (by omega)]
        simp (disch:=omega) only [gput_lt]
      · simp (disch:=omega) only [gput_ne]
    | ok y k2 =>
      obtain ⟨rfl,rfl,hj⟩:=hend
      have hle2:=(HP.out j k2 hj).1
      have hnx2:=(HP.out j k2 hj).2
      have hjl:j < pos.length:=(List.getElem?_eq_some_iff.1 hj).1
      have hjI:(j:Int) < (pos.length:Int):=by omega
      have r2:=(row_tok (z:=1) HH.out.toks hj).1
      rw [Nat.zero_add] at r2
      have e2:g1 ta=g ta:=by rw [HG1.out ta (by omega)]; simp (disch:=omega) only [gput_lt]
      rw [← e2] at r2
      have HJ:=Hide.mk hj
      clear hj e2
      by_cases c3:tokB s k2=closeT
      · have c3' : tokB s k2=⟨#[41]⟩:=c3
        rw [c3'] at r2
        have hk2:k2 < s.size:=by
          have hne:k2≠s.size:=fun e=>by
            have h0:=(tok_empty hle2).2 e
            rw [h0] at c3
            exact absurd (congrArg ByteArray.size c3) (by decide)
          omega
        have hres:atomF vs s (m+1) k=some (.ok x (nxtM s k2)):=by rw [atomF,if_neg c1,if_pos c2,HRD.out]; exact if_pos c3
        have HRES:=Hide.mk hres
        clear hres
        iterate 20 (all_goals try (first | with_reducible refine splitI (fun h=>?_) (fun h=>?_) | with_reducible refine splitBI (fun h=>?_) (fun h=>?_) | simp (config:={ maxSteps:=1000000 }) (disch:=first | assumption | omega | (simp; done) | fail) [Tryd.results61, *]))
        refine ⟨_,HRES.out,x,op,q,sv2,j+1,0,_,_,rfl,by omega,fun a ha=>?_,HFR.out.keep (by omega) (by omega) (fun a h4 h5=>?_),rfl,rfl,hnx2 hk2⟩
        · simp (disch:=omega) only [gput_lt]
          rw [HG1.out a (by omega)]
          simp (disch:=omega) only [gput_lt]
        · simp (disch:=omega) only [gput_ne]
      · have c3' : ¬tokB s k2=⟨#[41]⟩:=c3
        have hres:atomF vs s (m+1) k=some (.err 4 k2):=by rw [atomF,if_neg c1,if_pos c2,HRD.out]; exact if_neg c3
        have HRES:=Hide.mk hres
        clear hres
        iterate 20 (all_goals try (first | with_reducible refine splitI (fun h=>?_) (fun h=>?_) | with_reducible refine splitBI (fun h=>?_) (fun h=>?_) | simp (config:={ maxSteps:=1000000 }) (disch:=first | assumption | omega | (simp; done) | fail) [Tryd.results61, *]))
        refine ⟨_,HRES.out,x,op,q,sv2,j,4,_,_,rfl,by omega,fun a ha=>?_,HFR.out.keep (by omega) (by omega) (fun a h4 h5=>?_),rfl,by omega,HJ.out⟩
        · simp (disch:=omega) only [gput_lt]
          rw [HG1.out a (by omega)]
          simp (disch:=omega) only [gput_lt]
        · simp (disch:=omega) only [gput_ne]
  have hsz:0 < (tokB s k).size:=by omega
  have hsz2:(tokB s k).size≤s.size:=by omega
  have HDG:Hide (digitM (bAt (tokB s k) 0)=true→digitsB (tokB s k)):=⟨fun h=>tok_digits hk h⟩
  have HAF:Hide (atomF vs s (m+1) k=if digitM (bAt (tokB s k) 0)=true then
      if bAt (tokB s k) 0=48∧1 < (tokB s k).size then some (.err 4 k)
      else if 2147483648 < valB (tokB s k) then some (.err 3 k)
      else some (.ok (.mk 0 (valB (tokB s k) : Nat) []) (nxtM s k))
    else if letterM (bAt (tokB s k) 0)=true∧reservedM (tokB s k)=false then
      match idxM vs (tokB s k) with
      | some i=>some (.ok (.mk 1 (i:Nat) []) (nxtM s k))
      | none=>some (.err 10 k)
    else some (.err 4 k)):=⟨by rw [atomF,if_neg c1,if_neg c2]; rfl⟩
  have c1' : ¬tokB s k=⟨#[]⟩:=c1
  have c2' : ¬tokB s k=⟨#[40]⟩:=c2
  generalize atomF vs s (m+1) k=AF at HAF ⊢
  clear c1 c2 HR HAT htk
  have e0:(⟨#[]⟩ : ByteArray).size=0:=rfl
  by_cases c4:reservedM (tokB s k)=true
  · have hres:AF=some (.err 4 k):=by
      rw [HAF.out]
      have hd:¬digitM (bAt (tokB s k) 0)=true:=by
        unfold reservedM at c4
        simp only [Bool.or_eq_true,decide_eq_true_eq] at c4
        rcases c4 with (h | h) | h <;> rw [h] <;> decide
      rw [if_neg hd,if_neg (by rw [c4]; simp)]
    have HRES:=Hide.mk hres
    unfold reservedM at c4
    simp only [Bool.or_eq_true,decide_eq_true_eq] at c4
    clear hres HAF HDG
    rcases c4 with (c4 | c4) | c4
    · have c4' : tokB s k=⟨#[97,110,100]⟩:=c4
      rw [c4'] at r1
      refine WC.enterP (noO_ok _ _) hG6 [] Tryd.func61 rfl (by decide +kernel) (Nat.le_of_ble_eq_true (by kernel_rfl)) ?_
      iterate 20 (all_goals try (first | with_reducible refine splitI (fun h=>?_) (fun h=>?_) | with_reducible refine splitBI (fun h=>?_) (fun h=>?_) | simp (config:={ maxSteps:=1000000 }) (disch:=first | assumption | omega | (simp; done) | fail) [Tryd.results61, *]))
      exact ⟨_,HRES.out,zeroN,0,0,.lit (.slice none 0 0),i,4,_,_,rfl,by omega,fun a ha=>(by simp (disch:=omega) only [gput_lt]),FreshN.leaf (by omega),rfl,by omega,HI.out⟩
    · have c4' : tokB s k=⟨#[111,114]⟩:=c4
      rw [c4'] at r1
      refine WC.enterP (noO_ok _ _) hG6 [] Tryd.func61 rfl (by decide +kernel) (Nat.le_of_ble_eq_true (by kernel_rfl)) ?_
      iterate 20 (all_goals try (first | with_reducible refine splitI (fun h=>?_) (fun h=>?_) | with_reducible refine splitBI (fun h=>?_) (fun h=>?_) | simp (config:={ maxSteps:=1000000 }) (disch:=first | assumption | omega | (simp; done) | fail) [Tryd.results61, *]))
      exact ⟨_,HRES.out,zeroN,0,0,.lit (.slice none 0 0),i,4,_,_,rfl,by omega,fun a ha=>(by simp (disch:=omega) only [gput_lt]),FreshN.leaf (by omega),rfl,by omega,HI.out⟩
    · have c4' : tokB s k=⟨#[110,111,116]⟩:=c4
      rw [c4'] at r1
      refine WC.enterP (noO_ok _ _) hG6 [] Tryd.func61 rfl (by decide +kernel) (Nat.le_of_ble_eq_true (by kernel_rfl)) ?_
      iterate 20 (all_goals try (first | with_reducible refine splitI (fun h=>?_) (fun h=>?_) | with_reducible refine splitBI (fun h=>?_) (fun h=>?_) | simp (config:={ maxSteps:=1000000 }) (disch:=first | assumption | omega | (simp; done) | fail) [Tryd.results61, *]))
      exact ⟨_,HRES.out,zeroN,0,0,.lit (.slice none 0 0),i,4,_,_,rfl,by omega,fun a ha=>(by simp (disch:=omega) only [gput_lt]),FreshN.leaf (by omega),rfl,by omega,HI.out⟩
  have hrf:reservedM (tokB s k)=false:=by simpa using c4
  have c5:¬tokB s k=⟨#[97,110,100]⟩:=fun e=>c4 (by rw [e]; decide)
  have c6:¬tokB s k=⟨#[111,114]⟩:=fun e=>c4 (by rw [e]; decide)
  have c7:¬tokB s k=⟨#[110,111,116]⟩:=fun e=>c4 (by rw [e]; decide)
  have h0z:(0:Int).toNat < (tokB s k).size:=hsz
  rw [hrf] at HAF
  clear hrf c4
  generalize htg:tokB s k=t at *
  clear htg
  by_cases c8:digitM (bAt t 0)=true
  · have hdg:=HDG.out c8
    have HAF2:Hide (AF=if bAt t 0=48∧1 < t.size then some (.err 4 k)
      else if 2147483648 < valB t then some (.err 3 k)
      else some (.ok (.mk 0 (valB t:Nat) []) (nxtM s k))):=⟨by rw [HAF.out,if_pos c8]⟩
    have HD:=Hide.mk hdg
    obtain ⟨d1,d2⟩:=digit_in c8
    clear HAF HDG hdg c8
    generalize hb0:bAt t 0=c at *
    by_cases c9:c=48∧1 < t.size
    · have hres:=HAF2.out
      rw [if_pos c9] at hres
      have HRES:=Hide.mk hres
      obtain ⟨rfl,c10⟩:=c9
      have c10I:(1:Int) < (t.size:Int):=by omega
      clear hres HAF2
      refine WC.enterP (noO_ok _ _) hG6 [] Tryd.func61 rfl (by decide +kernel) (Nat.le_of_ble_eq_true (by kernel_rfl)) ?_
      iterate 20 (all_goals try (first | with_reducible refine splitI (fun h=>?_) (fun h=>?_) | with_reducible refine splitBI (fun h=>?_) (fun h=>?_) | simp (config:={ maxSteps:=1000000 }) (disch:=first | assumption | omega | (simp; done) | fail) [Tryd.results61, *]))
      exact ⟨_,HRES.out,zeroN,0,0,.lit (.slice none 0 0),i,4,_,_,rfl,by omega,fun a ha=>(by simp (disch:=omega) only [gput_lt]),FreshN.leaf (by omega),rfl,by omega,HI.out⟩
    · have HAF3:Hide (AF=if 2147483648 < valB t then some (.err 3 k) else some (.ok (.mk 0 (valB t:Nat) []) (nxtM s k))):=⟨by rw [HAF2.out,if_neg c9]⟩
      have hsplit:(c=48∧¬(1:Int) < (t.size:Int))∨¬c=48:=by
        by_cases e:c=48
        · exact .inl ⟨e,by have:=mt (And.intro e) c9; omega⟩
        · exact .inr e
      clear c9 HAF2
      rcases hsplit with ⟨c5,c6⟩ | c5
      all_goals
        refine WC.enterP (noO_ok _ _) hG6 [] Tryd.func61 rfl (by decide +kernel) (Nat.le_of_ble_eq_true (by kernel_rfl)) ?_
        iterate 20 (all_goals try (first | with_reducible refine splitI (fun h=>?_) (fun h=>?_) | with_reducible refine splitBI (fun h=>?_) (fun h=>?_) | simp (config:={ maxSteps:=1000000 }) (disch:=first | assumption | omega | (simp; done) | fail) [Tryd.results61, *]))
        refine LX.ind (fun m' gf H'=>∃ (j:Nat) (v:Int),j≤t.size∧m'=t.size - j∧H'=⟨.fn (gput g n (some (.cells [.lit (.int .u8 0),.lit (.int .i64 0),.lit (.slice none 0 0),.lit (.int .i64 0),.lit (.int .i64 0)] true 0))),n+1⟩∧gf 2=some (.lit (.int .i64 i))∧gf 6=some (.ptr n 0)∧gf 7=some (.lit (.string t))∧gf 9=some (.lit (.int .i64 v))∧gf 10=some (.lit (.int .i64 j)) ∧
          0≤v∧v≤3000000000∧(v=(valN t j 0 0:Nat)∨(v=3000000000∧3000000000 < valN t j 0 0))) (m0:=t.size) ?_ ?_
        · exact ⟨0,0,Nat.zero_le _,rfl,rfl,by simp,by simp,by simp,by simp,by simp,by omega,by omega,.inl rfl⟩
        rintro m' gf H' ⟨j,v,hj,rfl,rfl,q2,q6,q7,q9,q10,hv0,hv1,hv⟩ ih
        refine LX.roundP (noO_ok _ _) hG6 [] (by decide +kernel) ?_
        have HV:=Hide.mk hv
        clear hv
        by_cases hlt:j < t.size
        · have hltI:(j:Int) < (t.size:Int):=by omega
          have hck:=digit_in (HD.out j hlt)
          have hst:=valN_snoc (s:=t) j 0 0
          rw [Nat.zero_add] at hst
          generalize hcj:bAt t j=cj at hck hst
          have HST:=Hide.mk hst
          clear hst
          rcases (by omega:(3000000000:Int) < 10 * v+(cj - 48)∨¬(3000000000:Int) < 10 * v+(cj - 48)) with hb | hb
          · iterate 20 (all_goals try (first | with_reducible refine splitI (fun h=>?_) (fun h=>?_) | with_reducible refine splitBI (fun h=>?_) (fun h=>?_) | simp (config:={ maxSteps:=1000000 }) (disch:=first | assumption | omega | (simp; done) | fail) [Tryd.results61, *]))
            refine ih.out (t.size - (j+1)) _ _ (by omega) ⟨j+1,3000000000,by omega,rfl,rfl,by simp [*],by simp [*],by simp [*],by simp [*],by simp [*],by omega,by omega,.inr ⟨rfl,?_⟩⟩
            have h1:=HST.out
            have h2:=HV.out
            omega
          · iterate 20 (all_goals try (first | with_reducible refine splitI (fun h=>?_) (fun h=>?_) | with_reducible refine splitBI (fun h=>?_) (fun h=>?_) | simp (config:={ maxSteps:=1000000 }) (disch:=first | assumption | omega | (simp; done) | fail) [Tryd.results61, *]))
            refine ih.out (t.size - (j+1)) _ _ (by omega) ⟨j+1,10 * v+(cj - 48),by omega,rfl,rfl,by simp [*],by simp [*],by simp [*],by simp [*],by simp [*],by omega,by omega,.inl ?_⟩
            have h1:=HST.out
            have h2:=HV.out
            omega
        · have hltI:¬(j:Int) < (t.size:Int):=by omega
          have hvb:valN t j 0 0=valB t:=by rw [show j=t.size by omega]; rfl
          have hv:=HV.out
          rw [hvb] at hv
          clear hvb HV
          by_cases hbig:2147483648 < valB t
          · have hbI:(2147483648:Int) < v:=by omega
            have hres:=HAF3.out
            rw [if_pos hbig] at hres
            have HRES:=Hide.mk hres
            clear hres HAF3 hv hbig
            iterate 20 (all_goals try (first | with_reducible refine splitI (fun h=>?_) (fun h=>?_) | with_reducible refine splitBI (fun h=>?_) (fun h=>?_) | simp (config:={ maxSteps:=1000000 }) (disch:=first | assumption | omega | (simp; done) | fail) [Tryd.results61, *]))
            exact ⟨_,HRES.out,zeroN,0,0,.lit (.slice none 0 0),i,3,_,_,rfl,by omega,fun a ha=>(by simp (disch:=omega) only [gput_lt]),FreshN.leaf (by omega),rfl,by omega,HI.out⟩
          · have hbI:¬(2147483648:Int) < v:=by omega
            have hres:=HAF3.out
            rw [if_neg hbig] at hres
            have hvv:v=(valB t:Nat):=by omega
            rw [← hvv] at hres
            have HRES:=Hide.mk hres
            clear hres HAF3 hv hbig hvv
            iterate 20 (all_goals try (first | with_reducible refine splitI (fun h=>?_) (fun h=>?_) | with_reducible refine splitBI (fun h=>?_) (fun h=>?_) | simp (config:={ maxSteps:=1000000 }) (disch:=first | assumption | omega | (simp; done) | fail) [Tryd.results61, *]))
            exact ⟨_,HRES.out,.mk 0 v [],0,v,.lit (.slice none 0 0),i+1,0,_,_,rfl,by omega,fun a ha=>(by simp (disch:=omega) only [gput_lt]),FreshN.leaf (by omega),rfl,rfl,HN.out⟩
  have hnd:¬(48≤bAt t 0∧bAt t 0≤57):=fun h=>c8 (by simpa [digitM] using h)
  by_cases c9:letterM (bAt t 0)=true
  · have HAF2:Hide (AF=match idxM vs t with
      | some i=>some (.ok (.mk 1 (i:Nat) []) (nxtM s k))
      | none=>some (.err 10 k)):=⟨by rw [HAF.out,if_neg c8,if_pos ⟨c9,rfl⟩]⟩
    have hl:(97≤bAt t 0∧bAt t 0≤122)∨(65≤bAt t 0∧bAt t 0≤90):=by simpa [letterM] using c9
    clear HAF HDG c8 c9
    generalize hb0:bAt t 0=c at *
    rcases (by omega:(48≤c∧¬c≤57∧97≤c∧c≤122)∨(48≤c∧¬c≤57∧¬97≤c∧65≤c∧c≤90)) with ⟨d1,d2,d3,d4⟩ | ⟨d1,d2,d3,d4,d5⟩
    all_goals
      clear hnd hl
      refine WC.enterP (noO_ok _ _) hG6 [] Tryd.func61 rfl (by decide +kernel) (Nat.le_of_ble_eq_true (by kernel_rfl)) ?_
      iterate 20 (all_goals try (first | with_reducible refine splitI (fun h=>?_) (fun h=>?_) | with_reducible refine splitBI (fun h=>?_) (fun h=>?_) | simp (config:={ maxSteps:=1000000 }) (disch:=first | assumption | omega | (simp; done) | fail) [Tryd.results61, *]))
      refine LX.ind (fun m' gf H'=>∃ (j:Nat),j≤vs.length∧m'=vs.length - j∧H'=⟨.fn (gput g n (some (.cells [.lit (.int .u8 0),.lit (.int .i64 0),.lit (.slice none 0 0),.lit (.int .i64 0),.lit (.int .i64 0)] true 0))),n+1⟩∧gf 0=some (.sl va 0 vs.length vs.length)∧gf 2=some (.lit (.int .i64 i))∧gf 6=some (.ptr n 0)∧gf 7=some (.lit (.string t))∧gf 11=some (.lit (.int .i64 j)) ∧
        idxM vs t=idxV t (vs.drop j) j) (m0:=vs.length) ?_ ?_
      · exact ⟨0,Nat.zero_le _,rfl,rfl,by simp,by simp,by simp,by simp,by simp,rfl⟩
      rintro m' gf H' ⟨j,hj,rfl,rfl,q0,q2,q6,q7,q11,hx⟩ ih
      refine LX.roundP (noO_ok _ _) hG6 [] (by decide +kernel) ?_
      have HX:=Hide.mk hx
      clear hx
      by_cases hlt:j < vs.length
      · have hltI:(j:Int) < (vs.length:Int):=by omega
        have r2:=HROW.out j hlt
        rw [Nat.zero_add] at r2
        have hdr:vs.drop j=vs[j] :: vs.drop (j+1):=List.drop_eq_getElem_cons hlt
        by_cases hnm:vs[j].name=t
        · have hres:=HAF2.out
          rw [HX.out,hdr,idxV,if_pos hnm] at hres
          have HRES:=Hide.mk hres
          rw [hnm] at r2
          clear hres HAF2 hdr
          iterate 20 (all_goals try (first | with_reducible refine splitI (fun h=>?_) (fun h=>?_) | with_reducible refine splitBI (fun h=>?_) (fun h=>?_) | simp (config:={ maxSteps:=1000000 }) (disch:=first | assumption | omega | (simp; done) | fail) [Tryd.results61, *]))
          exact ⟨_,HRES.out,.mk 1 (j:Nat) [],1,(j:Nat),.lit (.slice none 0 0),i+1,0,_,_,rfl,by omega,fun a ha=>(by simp (disch:=omega) only [gput_lt]),FreshN.leaf (by omega),rfl,rfl,HN.out⟩
        · have hx2:idxM vs t=idxV t (vs.drop (j+1)) (j+1):=by rw [HX.out,hdr,idxV,if_neg hnm]
          have HX2:=Hide.mk hx2
          clear hx2 hdr
          generalize vs[j].name=nm at r2 hnm
          iterate 20 (all_goals try (first | with_reducible refine splitI (fun h=>?_) (fun h=>?_) | with_reducible refine splitBI (fun h=>?_) (fun h=>?_) | simp (config:={ maxSteps:=1000000 }) (disch:=first | assumption | omega | (simp; done) | fail) [Tryd.results61, *]))
          refine ih.out (vs.length - (j+1)) _ _ (by omega) ⟨j+1,by omega,rfl,rfl,by simp [*],by simp [*],by simp [*],by simp [*],by simp [*],HX2.out⟩
      · have hltI:¬(j:Int) < (vs.length:Int):=by omega
        have hres:=HAF2.out
        rw [HX.out,List.drop_eq_nil_of_le (by omega),idxV] at hres
        have HRES:=Hide.mk hres
        clear hres HAF2
        iterate 20 (all_goals try (first | with_reducible refine splitI (fun h=>?_) (fun h=>?_) | with_reducible refine splitBI (fun h=>?_) (fun h=>?_) | simp (config:={ maxSteps:=1000000 }) (disch:=first | assumption | omega | (simp; done) | fail) [Tryd.results61, *]))
        exact ⟨_,HRES.out,zeroN,0,0,.lit (.slice none 0 0),i,10,_,_,rfl,by omega,fun a ha=>(by simp (disch:=omega) only [gput_lt]),FreshN.leaf (by omega),rfl,by omega,HI.out⟩
  · have hres:AF=some (.err 4 k):=by rw [HAF.out,if_neg c8,if_neg (fun h=>c9 h.1)]
    have HRES:=Hide.mk hres
    have hl:¬((97≤bAt t 0∧bAt t 0≤122)∨(65≤bAt t 0∧bAt t 0≤90)):=fun h=>c9 (by simpa [letterM] using h)
    clear hres HAF HDG c8 c9
    generalize hb0:bAt t 0=c at *
    rcases (by omega:¬48≤c∧¬97≤c∧¬65≤c∨(48≤c∧¬c≤57∧¬97≤c∧¬65≤c)∨(48≤c∧¬c≤57∧¬97≤c∧65≤c∧¬c≤90)∨(48≤c∧¬c≤57∧97≤c∧65≤c∧¬c≤122∧¬c≤90)) with ⟨d1,d2,d3⟩ | ⟨d1,d2,d3,d4⟩ | ⟨d1,d2,d3,d4,d5⟩ | ⟨d1,d2,d3,d4,d5,d6⟩
    all_goals
      clear hnd hl
      refine WC.enterP (noO_ok _ _) hG6 [] Tryd.func61 rfl (by decide +kernel) (Nat.le_of_ble_eq_true (by kernel_rfl)) ?_
      iterate 20 (all_goals try (first | with_reducible refine splitI (fun h=>?_) (fun h=>?_) | with_reducible refine splitBI (fun h=>?_) (fun h=>?_) | simp (config:={ maxSteps:=1000000 }) (disch:=first | assumption | omega | (simp; done) | fail) [Tryd.results61, *]))
      exact ⟨_,HRES.out,zeroN,0,0,.lit (.slice none 0 0),i,4,_,_,rfl,by omega,fun a ha=>(by simp (disch:=omega) only [gput_lt]),FreshN.leaf (by omega),rfl,by omega,HI.out⟩
end
end Go.Ai
end
