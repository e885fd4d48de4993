/- A small verified interpreter over names, its proofs, and what was proved with it. No condition. -/
import Derived.Test.YtfhkfifjbgcpiaaDoorPD5
set_option linter.all false
set_option linter.deprecated false
section
namespace Go.Ai
open Go.Proofs
set_option maxRecDepth 10000
set_option maxHeartbeats 40000000
def AtoiOK (s0:ByteArray) : Prop:=∀ (s:ByteArray) (g:Nat→Option Blk) (n:Nat),g 3=some (.cells bY false 0)→3 < n→0 < s.size→s.size≤s0.size→digitsB s→(bAt s 0=48→s.size=1) →
  WC 6 Tryd.prog 65 [.lit (.string s)] ⟨.fn g,n⟩ fun r=>∃ (v:Int) (e:AV) (g' : Nat→Option Blk) (n' : Nat),r=.ret (.tup [.lit (.int .i64 v),e]) ⟨.fn g',n'⟩∧n≤n'∧(∀ a,a < n→g' a=g a) ∧
    ((valB s≤2147483648∧e=.lit .nilIface∧v=(valB s:Nat))∨(2147483648 < valB s∧((e=.lit .nilIface∧2147483648 < v)∨∃ a o,e=.iface 120 (.ptr a o))))
theorem atoiOK_short {s0:ByteArray} (h:s0.size < 19) (hv:∀ s:ByteArray,s.size≤s0.size→digitsB s→valB s≤2147483648) : AtoiOK s0:=fun s g n _ _ h0 h1 hd _=>by
  refine WC.mono (atoi_short s h0 (by omega) hd g n) ?_
  rintro _ rfl
  exact ⟨_,_,g,n,rfl,Nat.le_refl _,fun _ _=>rfl,.inl ⟨hv s h1 hd,rfl,rfl⟩⟩
theorem runF_all {F:Nat→Int→Bool} {s:ByteArray} {k:Nat} : ∀ (m j i:Nat),j≤i→i < runF F s k m j→F i (bAt s (k+i))=true
  | 0,j,i,h,h'=>by unfold runF at h'; omega
  | m+1,j,i,h,h'=>by
    unfold runF at h'
    split at h'
    · split at h'
      · rename_i e
        by_cases hij:i=j
        · rw [hij]; exact e
        · exact runF_all m (j+1) i (by omega) h'
      · omega
    · omega
theorem bAt_extract {s:ByteArray} {k m j:Nat} (h:j < m) (hm:k+m≤s.size) : bAt (s.extract k (k+m)) j=bAt s (k+j):=by
  have hsz:(s.extract k (k+m)).size=m:=by rw [ByteArray.size_extract]; omega
  unfold bAt
  rw [dif_pos (by omega),dif_pos (by omega)]
  rw [ByteArray.getElem_extract]
theorem tok_at {s:ByteArray} {k j:Nat} (hk:k < s.size) (h:j < (tokB s k).size) : bAt (tokB s k) j=bAt s (k+j):=by
  rw [tok_size hk] at h
  unfold tokB
  rw [if_neg (by omega)]
  exact bAt_extract h (tokN_le hk).2
theorem tok_digits {s:ByteArray} {k:Nat} (hk:k < s.size) (h:digitM (bAt (tokB s k) 0)=true) : digitsB (tokB s k):=by
  have h1:=tok_size hk
  have h2:=tokN_le hk
  rw [tok_at hk (by omega),Nat.add_zero] at h
  intro j hj
  rw [tok_at hk hj]
  by_cases hj0:j=0
  · rw [hj0]; exact h
  · rw [h1] at hj
    have hl:¬letterM (bAt s k)=true:=by
      have:=digit_in h
      simp only [letterM,Bool.or_eq_true,Bool.and_eq_true,decide_eq_true_eq]
      omega
    unfold tokN at hj
    rw [if_neg hl,if_pos h] at hj
    exact runF_all (F:=fDigit) _ 1 j (by omega) hj
section
variable {vs:List VarM} {sv:AV} {s:ByteArray} {p:Nat}
def ReadOK (vs:List VarM) (sv:AV) (s:ByteArray) (p m:Nat) : Prop:=∀ (rank k:Nat) (g:Nat→Option Blk) (n:Nat),PAt vs sv s p g n k→1≤rank→rank≤8→20 * (s.size - k)+(10 - rank)≤m →
  WC 6 Tryd.prog 34 [.ptr p 0,.lit (.int .i64 rank)] ⟨.fn g,n⟩ fun r=>∃ res,readF vs s m rank k=some res∧PEnd sv s p g n res r
theorem atom_w (hA:AtoiOK s) (hs:s.size≤1000000) (h1:oneC sv=true) (hcs:cellsOf sv=[sv]) (hvl:vs.length≤1000000) {m:Nat} (hR:ReadOK vs sv s p m) (k:Nat) (g:Nat→Option Blk) (n:Nat) (h:PAt vs sv s p g n k) (hm:20 * (s.size - k)≤m) :
    WC 6 Tryd.prog 59 [.ptr p 0] ⟨.fn g,n⟩ fun r=>∃ res,atomF vs s (m+1) k=some res∧PEnd sv s p g n res r:=by
  have hp:=h.cell
  have hpn:=h.pn
  have hp0:=h.p0
  have hle:=h.le
  have HH:=Hide.mk h
  have hpn' : ¬p=n:=by omega
  have hpn1:¬p=n+1:=by omega
  have hpn2:¬p=n+2:=by omega
  clear h
  unfold parB at hp
  have HNX:=Hide.mk (fun (g:Nat→Option Blk) (n:Nat) (k:Nat) (h:PAt vs sv s p g n k)=>next_par h hs h1)
  have HA:=Hide.mk hA
  have HR:=Hide.mk hR
  clear hA hR
  by_cases c1:tokB s k=⟨#[]⟩
  · have hres:atomF vs s (m+1) k=some (.err 4 k):=by rw [atomF,if_pos c1]
    have HRES:=Hide.mk hres
    clear hres
    rw [c1] at hp
    refine WC.enterP (noO_ok _ _) hG6 [] Tryd.func59 rfl (by decide +kernel) (Nat.le_of_ble_eq_true (by kernel_rfl)) ?_
    iterate 20 (all_goals try (first | with_reducible refine splitI (fun h=>?_) (fun h=>?_) | with_reducible refine splitBI (fun h=>?_) (fun h=>?_) | simp (disch:=first | assumption | omega | (simp; done) | fail) [Tryd.results59, *]))
    refine WC.mono (refuse_w _ _ 4 _ rfl) ?_
    rintro _ rfl
    iterate 4 (all_goals try (simp (disch:=first | assumption | omega | (simp; done) | fail) [Tryd.results59, *]))
    refine ⟨_,HRES.out,_,_,rfl,by omega,fun a ha hne=>by simp (disch:=omega) only [gput_lt],by simp (disch:=omega) only [gput_lt]; exact HH.out.cell,hle⟩
  have hk:k < s.size:=by
    have hne:k≠s.size:=fun e=>c1 ((tok_empty hle).2 e)
    omega
  have hnk:=nxtM_lt hk
  have htk:=tok_size hk
  have htn:=tokN_le hk
  have NX:∀ (e:ByteArray),Hide (tokB s k=e→tokB s k=e):=fun e=>⟨id⟩
  by_cases c2:tokB s k=openT
  · have c2' : tokB s k=⟨#[40]⟩:=c2
    rw [c2'] at hp
    refine WC.enterP (noO_ok _ _) hG6 [] Tryd.func59 rfl (by decide +kernel) (Nat.le_of_ble_eq_true (by kernel_rfl)) ?_
    iterate 20 (all_goals try (first | with_reducible refine splitI (fun h=>?_) (fun h=>?_) | with_reducible refine splitBI (fun h=>?_) (fun h=>?_) | simp (disch:=first | assumption | omega | (simp; done) | fail) [Tryd.results59, *]))
    refine WC.mono (HNX.out _ _ k (HH.out.keep (by omega) (fun a ha=>by simp (disch:=omega) only [gput_lt]))) ?_
    rintro _ ⟨g1,n1,rfl,hn1,hg1,hp1⟩
    have HG1:=Hide.mk hg1
    have e2:g1 (n+1)=some (.cells [.lit (.string ⟨#[40]⟩)] true 0):=by rw [hg1 _ (by omega) (by omega)]; simp
    have P1:PAt vs sv s p g1 n1 (nxtM s k):=HH.out.step (by omega) (fun a ha hne=>by rw [hg1 a (by omega) hne]; simp (disch:=omega) only [gput_lt]) hp1 (nxtM_le hle)
    have HP1:=Hide.mk P1
    clear hg1 P1
    iterate 20 (all_goals try (first | with_reducible refine splitI (fun h=>?_) (fun h=>?_) | with_reducible refine splitBI (fun h=>?_) (fun h=>?_) | simp (disch:=first | assumption | omega | (simp; done) | fail) [Tryd.results59, *]))
    refine WC.mono (HR.out 1 (nxtM s k) _ _ HP1.out (by omega) (by omega) (by omega)) ?_
    rintro _ ⟨res,hrd,hend⟩
    have HRD:=Hide.mk hrd
    clear hrd
    cases res with
    | err e k2 =>
      obtain ⟨g2,n2,rfl,hn2,hg2,hp2,hk2⟩:=hend
      have hres:atomF vs s (m+1) k=some (.err e k2):=by rw [atomF,if_neg c1,if_pos c2,HRD.out]
      have HRES:=Hide.mk hres
      have HG2:=Hide.mk hg2
      clear hres hg2
      iterate 20 (all_goals try (first | with_reducible refine splitI (fun h=>?_) (fun h=>?_) | with_reducible refine splitBI (fun h=>?_) (fun h=>?_) | simp (disch:=first | assumption | omega | (simp; done) | fail) [Tryd.results59, *]))
      refine ⟨_,HRES.out,_,_,rfl,by omega,fun a ha hne=>?_,hp2,hk2⟩
      rw [HG2.out a (by omega) hne,HG1.out a (by omega) hne]
      simp (disch:=omega) only [gput_lt]
    | ok x k2 =>
      obtain ⟨cs,g2,n2,rfl,hn2,hg2,hp2,hk2,hfr⟩:=hend
      have hcs3:=repN_len hfr.rep
      obtain ⟨op,kk,sv2,hcc,h1c⟩:=repN_one hfr.rep
      subst hcc
      have h1a:allOne [.lit (.int .u8 op),.lit (.int .i64 kk),sv2]=true:=by simp [h1c]
      have hpn3:¬p=n2:=by omega
      have hnn2:¬n=n2:=by omega
      have HFR:=Hide.mk hfr
      have HG2:=Hide.mk hg2
      have P2:PAt vs sv s p g2 n2 k2:=HP1.out.step (by omega) hg2 hp2 hk2
      have HP2:=Hide.mk P2
      have hp2':=hp2
      unfold parB at hp2'
      clear hg2 P2 hfr
      by_cases c3:tokB s k2=closeT
      · have c3' : tokB s k2=⟨#[41]⟩:=c3
        rw [c3'] at hp2'
        have hres:atomF vs s (m+1) k=some (.ok x (nxtM s k2)):=by rw [atomF,if_neg c1,if_pos c2,HRD.out]; exact if_pos c3
        have HRES:=Hide.mk hres
        clear hres hp2
        iterate 20 (all_goals try (first | with_reducible refine splitI (fun h=>?_) (fun h=>?_) | with_reducible refine splitBI (fun h=>?_) (fun h=>?_) | simp (disch:=first | assumption | omega | (simp; done) | fail) [Tryd.results59, *]))
        refine WC.mono (HNX.out _ _ k2 (HP2.out.keep (by omega) (fun a ha=>by simp (disch:=omega) only [gput_lt]))) ?_
        rintro _ ⟨g3,n3,rfl,hn3,hg3,hp3⟩
        have HG3:=Hide.mk hg3
        have e4:g3 n2=some (.cells [.lit (.int .u8 op),.lit (.int .i64 kk),sv2] true 0):=by
          rw [hg3 n2 (by omega) (by omega)]
          simp (disch:=omega) only [gput_lt,gput_eq]
          try rfl
        have e5:g3 n=g2 n:=by
          rw [hg3 n (by omega) (by omega)]
          simp (disch:=omega) only [gput_lt]
        have e6:=HG2.out n (by omega) (by omega)
        have e7:=HG1.out n (by omega) (by omega)
        rw [e6,e7] at e5
        simp (disch:=omega) only [gput_lt,gput_eq] at e5
        clear hg3 e6 e7
        iterate 20 (all_goals try (first | with_reducible refine splitI (fun h=>?_) (fun h=>?_) | with_reducible refine splitBI (fun h=>?_) (fun h=>?_) | simp (disch:=first | assumption | omega | (simp; done) | fail) [Tryd.results59, *]))
        refine ⟨_,HRES.out,_,_,_,rfl,by omega,fun a ha hne=>?_,?_,nxtM_le hk2,?_⟩
        · simp (disch:=omega) only [gput_lt]
          rw [HG3.out a (by omega) hne]
          simp (disch:=omega) only [gput_lt]
          rw [HG2.out a (by omega) hne,HG1.out a (by omega) hne]
          simp (disch:=omega) only [gput_lt]
        · rw [gput_ne hpn']; exact hp3
        · refine HFR.out.keep (by omega) (by omega) (fun a h4 h5=>?_)
          rw [gput_ne (by omega),HG3.out a (by omega) (by omega)]
          simp (disch:=omega) only [gput_lt]
      · have c3' : ¬tokB s k2=⟨#[41]⟩:=c3
        have hres:atomF vs s (m+1) k=some (.err 4 k2):=by rw [atomF,if_neg c1,if_pos c2,HRD.out]; exact if_neg c3
        have HRES:=Hide.mk hres
        clear hres hp2
        iterate 20 (all_goals try (first | with_reducible refine splitI (fun h=>?_) (fun h=>?_) | with_reducible refine splitBI (fun h=>?_) (fun h=>?_) | simp (disch:=first | assumption | omega | (simp; done) | fail) [Tryd.results59, *]))
        refine WC.mono (refuse_w _ _ 4 _ rfl) ?_
        rintro _ rfl
        iterate 4 (all_goals try (simp (disch:=first | assumption | omega | (simp; done) | fail) [Tryd.results59, *]))
        refine ⟨_,HRES.out,_,_,rfl,by omega,fun a ha hne=>?_,?_,hk2⟩
        · simp (disch:=omega) only [gput_lt]
          rw [HG2.out a (by omega) hne,HG1.out a (by omega) hne]
          simp (disch:=omega) only [gput_lt]
        · simp (disch:=omega) only [gput_lt]; exact HP2.out.cell
  have c1' : ¬tokB s k=⟨#[]⟩:=c1
  have c2' : ¬tokB s k=⟨#[40]⟩:=c2
  have hsz:0 < (tokB s k).size:=by omega
  have hsz2:(tokB s k).size≤s.size:=by omega
  have h0z:(0:Int).toNat < (tokB s k).size:=hsz
  by_cases c3:digitM (bAt (tokB s k) 0)=true
  · have h48:digitM 48=true:=rfl
    have hdg:=tok_digits hk c3
    have HDG:=Hide.mk hdg
    have HATK:Hide (atomF vs s (m+1) k=if bAt (tokB s k) 0=48∧1 < (tokB s k).size then some (.err 4 k)
      else if 2147483648 < valB (tokB s k) then some (.err 3 k)
      else some (.ok (.mk 0 (valB (tokB s k) : Nat) []) (nxtM s k))):=⟨by rw [atomF,if_neg c1,if_neg c2,if_pos c3]⟩
    have HTK:Hide (∀ (g1:Nat→Option Blk),g1 p=some (parB sv s k)→g1 p=some (.cells [sv,.lit (.string s),.lit (.string (tokB s k)),.lit (.int .i64 (k:Nat))] true 0)):=⟨fun _ h=>h⟩
    clear hdg htk htn c1 c2
    generalize htg:tokB s k=t at *
    have HTG:=Hide.mk htg
    clear htg
    by_cases c4:bAt t 0=48∧1 < t.size
    · have hres:=HATK.out
      rw [if_pos c4] at hres
      have HRES:=Hide.mk hres
      obtain ⟨c5,c6⟩:=c4
      have c6I:(1:Int) < (t.size:Int):=by omega
      clear hres
      refine WC.enterP (noO_ok _ _) hG6 [] Tryd.func59 rfl (by decide +kernel) (Nat.le_of_ble_eq_true (by kernel_rfl)) ?_
      iterate 20 (all_goals try (first | with_reducible refine splitI (fun h=>?_) (fun h=>?_) | with_reducible refine splitBI (fun h=>?_) (fun h=>?_) | simp (disch:=first | assumption | omega | (simp; done) | fail) [Tryd.results59, *]))
      refine WC.mono (digit_w noO (noO_ok _ _) _ _) ?_
      rintro _ rfl
      iterate 20 (all_goals try (first | with_reducible refine splitI (fun h=>?_) (fun h=>?_) | with_reducible refine splitBI (fun h=>?_) (fun h=>?_) | simp (disch:=first | assumption | omega | (simp; done) | fail) [Tryd.results59, *]))
      refine WC.mono (refuse_w _ _ 4 _ rfl) ?_
      rintro _ rfl
      iterate 4 (all_goals try (simp (disch:=first | assumption | omega | (simp; done) | fail) [Tryd.results59, *]))
      refine ⟨_,HRES.out,_,_,rfl,by omega,fun a ha hne=>by simp (disch:=omega) only [gput_lt],by simp (disch:=omega) only [gput_lt]; exact HH.out.cell,hle⟩
    · have HC4:=Hide.mk c4
      have hat:=HA.out t
      have HLEAD:Hide (bAt t 0=48→t.size=1):=⟨fun e=>by
        apply Classical.byContradiction
        intro h; exact c4 ⟨e,by omega⟩⟩
      have HATK2:Hide (atomF vs s (m+1) k=if 2147483648 < valB t then some (.err 3 k) else some (.ok (.mk 0 (valB t:Nat) []) (nxtM s k))):=⟨by rw [HATK.out,if_neg c4]⟩
      have hsplit:(bAt t 0=48∧¬(1:Int) < (t.size:Int))∨¬bAt t 0=48:=by
        by_cases e:bAt t 0=48
        · exact .inl ⟨e,by have:=HLEAD.out e; omega⟩
        · exact .inr e
      clear c4
      have HAT:=Hide.mk hat
      clear hat
      rcases hsplit with ⟨c5,c6⟩ | c5
      all_goals
        refine WC.enterP (noO_ok _ _) hG6 [] Tryd.func59 rfl (by decide +kernel) (Nat.le_of_ble_eq_true (by kernel_rfl)) ?_
        iterate 20 (all_goals try (first | with_reducible refine splitI (fun h=>?_) (fun h=>?_) | with_reducible refine splitBI (fun h=>?_) (fun h=>?_) | simp (disch:=first | assumption | omega | (simp; done) | fail) [Tryd.results59, *]))
        refine WC.mono (digit_w noO (noO_ok _ _) _ _) ?_
        rintro _ rfl
        iterate 20 (all_goals try (first | with_reducible refine splitI (fun h=>?_) (fun h=>?_) | with_reducible refine splitBI (fun h=>?_) (fun h=>?_) | simp (disch:=first | assumption | omega | (simp; done) | fail) [Tryd.results59, *]))
        refine WC.mono (HAT.out _ _ (by simp (disch:=omega) only [gput_lt]; exact HH.out.er) (by omega) hsz hsz2 HDG.out HLEAD.out) ?_
        rintro _ ⟨v,e,g1,n1,rfl,hn1,hg1,hcase⟩
        have HG1:=Hide.mk hg1
        have e2:g1 (n+1)=some (.cells [.lit (.string t)] true 0):=by rw [hg1 _ (by omega)]; simp
        have P1:PAt vs sv s p g1 n1 k:=HH.out.keep (by omega) (fun a ha=>by rw [hg1 a (by omega)]; simp (disch:=omega) only [gput_lt])
        have HP1:=Hide.mk P1
        have hp1:=HTK.out _ P1.cell
        have e3:g1 n=some (.cells [.lit (.int .u8 0),.lit (.int .i64 0),.lit (.slice none 0 0)] true 0):=by
          rw [hg1 _ (by omega)]
          simp (disch:=omega) only [gput_lt,gput_eq]
        clear hg1 P1
        rcases hcase with ⟨h5,rfl,rfl⟩ | ⟨h5,h6⟩
        · have hres:=HATK2.out
          rw [if_neg (by omega)] at hres
          have HRES:=Hide.mk hres
          have h5I:¬(2147483648:Int) < (valB t:Nat):=by omega
          clear hres
          generalize valB t=v at *
          iterate 20 (all_goals try (first | with_reducible refine splitI (fun h=>?_) (fun h=>?_) | with_reducible refine splitBI (fun h=>?_) (fun h=>?_) | simp (disch:=first | assumption | omega | (simp; done) | fail) [Tryd.results59, *]))
          refine WC.mono (HNX.out _ _ k HP1.out) ?_
          rintro _ ⟨g2,n2,rfl,hn2,hg2,hp2⟩
          have HG2:=Hide.mk hg2
          have e5:g2 n=some (.cells [.lit (.int .u8 0),.lit (.int .i64 0),.lit (.slice none 0 0)] true 0):=by rw [hg2 n (by omega) (by omega),e3]
          clear hg2
          iterate 20 (all_goals try (first | with_reducible refine splitI (fun h=>?_) (fun h=>?_) | with_reducible refine splitBI (fun h=>?_) (fun h=>?_) | simp (disch:=first | assumption | omega | (simp; done) | fail) [Tryd.results59, *]))
          refine ⟨_,HRES.out,_,_,_,rfl,by omega,fun a ha hne=>?_,?_,nxtM_le hle,FreshN.leaf (by omega)⟩
          · simp (disch:=omega) only [gput_lt]
            rw [HG2.out a (by omega) hne,HG1.out a (by omega)]
            simp (disch:=omega) only [gput_lt]
          · rw [gput_ne hpn']; exact hp2
        · have hres:=HATK2.out
          rw [if_pos (by omega)] at hres
          have HRES:=Hide.mk hres
          clear hres
          rcases h6 with ⟨rfl,h6⟩ | ⟨a,o,rfl⟩
          all_goals
            iterate 20 (all_goals try (first | with_reducible refine splitI (fun h=>?_) (fun h=>?_) | with_reducible refine splitBI (fun h=>?_) (fun h=>?_) | simp (disch:=first | assumption | omega | (simp; done) | fail) [Tryd.results59, *]))
            refine WC.mono (refuse_w _ _ 3 _ rfl) ?_
            rintro _ rfl
            iterate 4 (all_goals try (simp (disch:=first | assumption | omega | (simp; done) | fail) [Tryd.results59, *]))
            refine ⟨_,HRES.out,_,_,rfl,by omega,fun a ha hne=>?_,HP1.out.cell,hle⟩
            rw [HG1.out a (by omega)]
            simp (disch:=omega) only [gput_lt]
  have c3' : digitM (bAt (tokB s k) 0)=false:=by simpa using c3
  have HTK:Hide (∀ (g1:Nat→Option Blk),g1 p=some (parB sv s k)→g1 p=some (.cells [sv,.lit (.string s),.lit (.string (tokB s k)),.lit (.int .i64 (k:Nat))] true 0)):=⟨fun _ h=>h⟩
  by_cases c4:letterM (bAt (tokB s k) 0)=true∧reservedM (tokB s k)=false
  · have HATK:Hide (atomF vs s (m+1) k=match idxM vs (tokB s k) with | some i=>some (.ok (.mk 1 (i:Nat) []) (nxtM s k)) | none=>some (.err 10 k)):=⟨by rw [atomF,if_neg c1,if_neg c2,if_neg c3,if_pos c4]; rfl⟩
    clear htk htn c1 c2 c3
    generalize htg:tokB s k=t at *
    have HTG:=Hide.mk htg
    obtain ⟨c5,c6⟩:=c4
    clear htg
    refine WC.enterP (noO_ok _ _) hG6 [] Tryd.func59 rfl (by decide +kernel) (Nat.le_of_ble_eq_true (by kernel_rfl)) ?_
    iterate 20 (all_goals try (first | with_reducible refine splitI (fun h=>?_) (fun h=>?_) | with_reducible refine splitBI (fun h=>?_) (fun h=>?_) | simp (disch:=first | assumption | omega | (simp; done) | fail) [Tryd.results59, *]))
    refine WC.mono (digit_w noO (noO_ok _ _) _ _) ?_
    rintro _ rfl
    iterate 20 (all_goals try (first | with_reducible refine splitI (fun h=>?_) (fun h=>?_) | with_reducible refine splitBI (fun h=>?_) (fun h=>?_) | simp (disch:=first | assumption | omega | (simp; done) | fail) [Tryd.results59, *]))
    refine WC.mono (letter_w noO (noO_ok _ _) _ _) ?_
    rintro _ rfl
    iterate 20 (all_goals try (first | with_reducible refine splitI (fun h=>?_) (fun h=>?_) | with_reducible refine splitBI (fun h=>?_) (fun h=>?_) | simp (disch:=first | assumption | omega | (simp; done) | fail) [Tryd.results59, *]))
    refine WC.mono (reserved_w noO (noO_ok _ _) _ _) ?_
    rintro _ rfl
    iterate 20 (all_goals try (first | with_reducible refine splitI (fun h=>?_) (fun h=>?_) | with_reducible refine splitBI (fun h=>?_) (fun h=>?_) | simp (disch:=first | assumption | omega | (simp; done) | fail) [Tryd.results59, *]))
    refine WC.mono (index_w vs t (n+1) sv _ _ (by omega) (by simp) (HH.out.vars.mono (by omega) (fun a ha=>by simp (disch:=omega) only [gput_lt])) hvl) ?_
    rintro _ rfl
    have HATK2:=HATK.out
    unfold idxI
    cases hix:idxM vs t with
    | none =>
      rw [hix] at HATK2
      have HRES:=Hide.mk HATK2
      clear HATK2
      dsimp only
      iterate 20 (all_goals try (first | with_reducible refine splitI (fun h=>?_) (fun h=>?_) | with_reducible refine splitBI (fun h=>?_) (fun h=>?_) | simp (disch:=first | assumption | omega | (simp; done) | fail) [Tryd.results59, *]))
      refine WC.mono (refuse_w _ _ 10 _ rfl) ?_
      rintro _ rfl
      iterate 4 (all_goals try (simp (disch:=first | assumption | omega | (simp; done) | fail) [Tryd.results59, *]))
      refine ⟨_,HRES.out,_,_,rfl,by omega,fun a ha hne=>by simp (disch:=omega) only [gput_lt],by simp (disch:=omega) only [gput_lt]; exact HH.out.cell,hle⟩
    | some i =>
      rw [hix] at HATK2
      have HRES:=Hide.mk HATK2
      clear HATK2
      have hi0:¬((i:Nat) : Int) < 0:=by omega
      dsimp only
      iterate 20 (all_goals try (first | with_reducible refine splitI (fun h=>?_) (fun h=>?_) | with_reducible refine splitBI (fun h=>?_) (fun h=>?_) | simp (disch:=first | assumption | omega | (simp; done) | fail) [Tryd.results59, *]))
      refine WC.mono (HNX.out _ _ k (HH.out.keep (by omega) (fun a ha=>by simp (disch:=omega) only [gput_lt]))) ?_
      rintro _ ⟨g2,n2,rfl,hn2,hg2,hp2⟩
      have HG2:=Hide.mk hg2
      have e5:g2 n=some (.cells [.lit (.int .u8 0),.lit (.int .i64 0),.lit (.slice none 0 0)] true 0):=by
        rw [hg2 n (by omega) (by omega)]
        simp (disch:=omega) only [gput_lt,gput_eq]
      clear hg2
      iterate 20 (all_goals try (first | with_reducible refine splitI (fun h=>?_) (fun h=>?_) | with_reducible refine splitBI (fun h=>?_) (fun h=>?_) | simp (disch:=first | assumption | omega | (simp; done) | fail) [Tryd.results59, *]))
      refine ⟨_,HRES.out,_,_,_,rfl,by omega,fun a ha hne=>?_,?_,nxtM_le hle,FreshN.leaf (by omega)⟩
      · simp (disch:=omega) only [gput_lt]
        rw [HG2.out a (by omega) hne]
        simp (disch:=omega) only [gput_lt]
      · rw [gput_ne hpn']; exact hp2
  · have hres:atomF vs s (m+1) k=some (.err 4 k):=by rw [atomF,if_neg c1,if_neg c2,if_neg c3,if_neg c4]
    have HRES:=Hide.mk hres
    have hsplit:letterM (bAt (tokB s k) 0)=false∨(letterM (bAt (tokB s k) 0)=true∧reservedM (tokB s k)=true):=by
      cases e1:letterM (bAt (tokB s k) 0) with
      | false=>exact .inl rfl
      | true =>
        cases e2:reservedM (tokB s k) with
        | false=>exact absurd ⟨e1,e2⟩ c4
        | true=>exact .inr ⟨rfl,rfl⟩
    clear htk htn c1 c2 c3 c4 hres
    generalize htg:tokB s k=t at *
    have HTG:=Hide.mk htg
    clear htg
    rcases hsplit with c5 | ⟨c5,c6⟩
    all_goals
      refine WC.enterP (noO_ok _ _) hG6 [] Tryd.func59 rfl (by decide +kernel) (Nat.le_of_ble_eq_true (by kernel_rfl)) ?_
      iterate 20 (all_goals try (first | with_reducible refine splitI (fun h=>?_) (fun h=>?_) | with_reducible refine splitBI (fun h=>?_) (fun h=>?_) | simp (disch:=first | assumption | omega | (simp; done) | fail) [Tryd.results59, *]))
      refine WC.mono (digit_w noO (noO_ok _ _) _ _) ?_
      rintro _ rfl
      iterate 20 (all_goals try (first | with_reducible refine splitI (fun h=>?_) (fun h=>?_) | with_reducible refine splitBI (fun h=>?_) (fun h=>?_) | simp (disch:=first | assumption | omega | (simp; done) | fail) [Tryd.results59, *]))
      refine WC.mono (letter_w noO (noO_ok _ _) _ _) ?_
      rintro _ rfl
      iterate 20 (all_goals try (first | with_reducible refine splitI (fun h=>?_) (fun h=>?_) | with_reducible refine splitBI (fun h=>?_) (fun h=>?_) | simp (disch:=first | assumption | omega | (simp; done) | fail) [Tryd.results59, *]))
      try
        refine WC.mono (reserved_w noO (noO_ok _ _) _ _) ?_
        rintro _ rfl
        iterate 20 (all_goals try (first | with_reducible refine splitI (fun h=>?_) (fun h=>?_) | with_reducible refine splitBI (fun h=>?_) (fun h=>?_) | simp (disch:=first | assumption | omega | (simp; done) | fail) [Tryd.results59, *]))
      refine WC.mono (refuse_w _ _ 4 _ rfl) ?_
      rintro _ rfl
      iterate 4 (all_goals try (simp (disch:=first | assumption | omega | (simp; done) | fail) [Tryd.results59, *]))
      refine ⟨_,HRES.out,_,_,rfl,by omega,fun a ha hne=>by simp (disch:=omega) only [gput_lt],by simp (disch:=omega) only [gput_lt]; exact HH.out.cell,hle⟩
end
end Go.Ai
end
section
namespace Go.Ai
open Go.Proofs
set_option maxRecDepth 10000
set_option maxHeartbeats 40000000
theorem binAt_le {rank:Int} {t:ByteArray} : ∀ (l:List OpRow) (k:Nat),binAt rank t l k≤k+l.length
  | [],k=>by simp [binAt]
  | r :: l,k=>by
    unfold binAt
    split
    · omega
    · have:=binAt_le (rank:=rank) (t:=t) l (k+1)
      simp only [List.length_cons]
      omega
theorem binM_lt (rank:Int) (t:ByteArray) : binM rank t < 256:=by
  have:=binAt_le (rank:=rank) (t:=t) opRows 0
  rw [opRows_len] at this
  unfold binM
  omega
theorem nxtM_ge {s:ByteArray} {k:Nat} (h:k≤s.size) : k≤nxtM s k:=by
  have h1:=(advM_le (tok_le h)).1
  unfold nxtM
  omega
theorem read_le {vs:List VarM} {s:ByteArray} : ∀ (m:Nat),(∀ rank k x k',k≤s.size→readF vs s m rank k=some (.ok x k')→k≤k'∧k'≤s.size)∧(∀ rank x0 k x k',k≤s.size→loopF vs s m rank x0 k=some (.ok x k')→k≤k'∧k'≤s.size) ∧
    (∀ k x k',k≤s.size→atomF vs s m k=some (.ok x k')→k≤k'∧k'≤s.size)
  | 0=>⟨fun _ _ _ _ _ h=>(by rw [readF] at h; cases h),fun _ _ _ _ _ _ h=>(by rw [loopF] at h; cases h),fun _ _ _ _ h=>(by rw [atomF] at h; cases h)⟩
  | m+1=>by
    obtain ⟨i1,i2,i3⟩:=read_le (vs:=vs) (s:=s) m
    refine ⟨fun rank k x k' hk h=>?_,fun rank x0 k x k' hk h=>?_,fun k x k' hk h=>?_⟩
    · have n1:=nxtM_ge hk
      have n2:=nxtM_le hk
      rw [readF] at h
      split at h
      · exact i3 _ _ _ hk h
      · split at h
        · split at h
          · rename_i x1 k1 e
            cases h
            have:=i1 _ _ _ _ n2 e
            omega
          · rename_i hno; exact absurd h (hno x k')
        · split at h
          · split at h
            · rename_i x1 k1 e
              cases h
              have:=i1 _ _ _ _ n2 e
              omega
            · rename_i hno; exact absurd h (hno x k')
          · split at h
            · rename_i x1 k1 e
              have:=i1 _ _ _ _ hk e
              have:=i2 _ _ _ _ _ this.2 h
              omega
            · rename_i hno; exact absurd h (hno x k')
    · have n1:=nxtM_ge hk
      have n2:=nxtM_le hk
      rw [loopF] at h
      split at h
      · cases h; omega
      · split at h
        · rename_i y k1 e
          have h3:=i1 _ _ _ _ n2 e
          split at h
          · cases h; omega
          · have:=i2 _ _ _ _ _ h3.2 h
            omega
        · rename_i hno; exact absurd h (hno x k')
    · have n1:=nxtM_ge hk
      have n2:=nxtM_le hk
      rw [atomF] at h
      split at h
      · cases h
      · split at h
        · split at h
          · rename_i x1 k1 e
            have h3:=i1 _ _ _ _ n2 e
            have n3:=nxtM_ge h3.2
            have n4:=nxtM_le h3.2
            split at h
            · cases h; omega
            · cases h
          · rename_i hno; exact absurd h (hno x k')
        · split at h
          · split at h
            · cases h
            · split at h
              · cases h
              · cases h; omega
          · split at h
            · split at h
              · cases h; omega
              · cases h
            · cases h
def FreshQ (g:Nat→Option Blk) (n q n' : Nat) (x:NodeM) (cs:List AV) : Prop:=∃ gk:Nat→Option Blk,(∀ a z,gk a=some z→g a=some z∧n≤a∧a < n'∧a≠q)∧repN gk n' x cs
theorem FreshQ.rep {g:Nat→Option Blk} {n q n' : Nat} {x:NodeM} {cs:List AV} (h:FreshQ g n q n' x cs) : repN g n' x cs:=by
  obtain ⟨gk,h1,h3⟩:=h
  exact repN_ext (Nat.le_refl _) (fun a z _ hz=>(h1 a z hz).1) h3
theorem FreshQ.of {g g' : Nat→Option Blk} {n q n' n2:Nat} {x:NodeM} {cs:List AV} (h:FreshN g n n' x cs) (h1:n'≤q) (h2:n'≤n2) (hg:∀ a,n≤a→a < n'→g' a=g a) : FreshQ g' n q n2 x cs:=by
  obtain ⟨gk,h3,h4⟩:=h
  refine ⟨gk,fun a z hz=>?_,repN_ext h2 (fun a z _ hz=>hz) h4⟩
  obtain ⟨e1,e2,e3⟩:=h3 a z hz
  exact ⟨(hg a e2 e3).trans e1,e2,by omega,by omega⟩
theorem FreshQ.fresh {g g' : Nat→Option Blk} {n0 n q n' n2:Nat} {x:NodeM} {cs:List AV} (h:FreshQ g n q n' x cs) (h0:n0≤n) (h2:n'≤n2) (hg:∀ a,n≤a→a < n'→a≠q→g' a=g a) : FreshN g' n0 n2 x cs:=by
  obtain ⟨gk,h1,h3⟩:=h
  refine ⟨gk,fun a z hz=>?_,repN_ext h2 (fun a z _ hz=>hz) h3⟩
  obtain ⟨e1,e2,e3,e4⟩:=h1 a z hz
  exact ⟨(hg a e2 e3 e4).trans e1,by omega,by omega⟩
theorem FreshQ.keep {g g' : Nat→Option Blk} {n q n' n2:Nat} {x:NodeM} {cs:List AV} (h:FreshQ g n q n' x cs) (h2:n'≤n2) (hg:∀ a,n≤a→a < n'→a≠q→g' a=g a) : FreshQ g' n q n2 x cs:=by
  obtain ⟨gk,h1,h3⟩:=h
  refine ⟨gk,fun a z hz=>?_,repN_ext h2 (fun a z _ hz=>hz) h3⟩
  obtain ⟨e1,e2,e3,e4⟩:=h1 a z hz
  exact ⟨(hg a e2 e3 e4).trans e1,by omega,by omega,e4⟩
theorem FreshQ.bin {g g' : Nat→Option Blk} {n q n1 n' n2 S op:Nat} {x y:NodeM} {cs ds:List AV} (hx:FreshQ g n q n' x cs) (hy:FreshN g n1 n' y ds) (hn:n≤n1) (hq:q < n1) (hop:op < 256) (hS:g' S=some (.cells (cs++ds) true 0)) (hS0:n≤S) (hS1:n'≤S) (hS2:S < n2) (hSq:S≠q)
    (hg:∀ a,n≤a→a < n'→a≠q→g' a=g a) : FreshQ g' n q n2 (.mk op 0 [x,y]) [.lit (.int .u8 op),.lit (.int .i64 0),.sl S 0 2 2]:=by
  obtain ⟨gk,h1,h3⟩:=hx
  obtain ⟨gl,h4,h5⟩:=hy
  have key:repL (fun a=>if n≤a∧a < n'∧a≠q then g a else none) n' [x,y] (cs++ds):=by
    refine ⟨cs,ds,rfl,repN_ext (Nat.le_refl _) (fun a z _ hz=>?_) h3,repL_one (repN_ext (Nat.le_refl _) (fun a z _ hz=>?_) h5)⟩
    · obtain ⟨e1,e2⟩:=h1 a z hz
      rw [if_pos e2,e1]
    · obtain ⟨e1,e2,e3⟩:=h4 a z hz
      rw [if_pos ⟨by omega,e3,by omega⟩,e1]
  refine ⟨gput (fun a=>if n≤a∧a < n'∧a≠q then g a else none) S (some (.cells (cs++ds) true 0)),fun a z hz=>?_,node_rep key rfl hop hS1 hS2⟩
  rcases gput_v hz with ⟨rfl,rfl⟩ | ⟨_,hz⟩
  · exact ⟨hS,hS0,hS2,hSq⟩
  · split at hz
    · rename_i h; exact ⟨(hg a h.1 h.2.1 h.2.2).trans hz,h.1,by omega,h.2.2⟩
    · cases hz
theorem cell65:loadB (some (false,1)) (some opsB) 65=some (.lit (.int .i64 3)):=ops_cell 9 2 (by omega) (by omega)
theorem cell16:loadB (some (false,1)) (some opsB) 16=some (.lit (.int .i64 7)):=ops_cell 2 2 (by omega) (by omega)
theorem binM_empty (rank:Int) : binM rank ⟨#[]⟩=0:=by
  have h1:¬(0:Nat)=2:=by omega
  simp [binM,binAt,opRows]
theorem PAt.low {vs:List VarM} {sv:AV} {s:ByteArray} {p n n' k:Nat} {g g' : Nat→Option Blk} (h:PAt vs sv s p g n k) (hn:n≤n') (hg:∀ a,a≤p→g' a=g a) : PAt vs sv s p g' n' k :=
  ⟨(hg 0 (Nat.zero_le _)).trans h.ops,(hg 3 (by have:=h.p0; omega)).trans h.er,h.p0,by have:=h.pn; omega,h.vars.mono (Nat.le_refl _) (fun a ha=>hg a (Nat.le_of_lt ha)),(hg p (Nat.le_refl _)).trans h.cell,h.le⟩
section
variable {vs:List VarM} {sv:AV} {s:ByteArray} {p:Nat}
theorem read_w (hA:AtoiOK s) (hs:s.size≤1000000) (h1:oneC sv=true) (hcs:cellsOf sv=[sv]) (hvl:vs.length≤1000000) : ∀ m,m≤100000000→ReadOK vs sv s p m:=by
  intro m
  induction m using Nat.strongRecOn with
  | _ m IH =>
  intro hmm rank k g n h hr1 hr2 hm
  have hp:=h.cell
  have hops:=h.ops
  have l65:=cell65
  have l16:=cell16
  have hpn:=h.pn
  have hp0:=h.p0
  have hle:=h.le
  have HH:=Hide.mk h
  have hpn' : ¬p=n:=by omega
  clear h
  unfold parB at hp
  have HNX:=Hide.mk (fun (g:Nat→Option Blk) (n:Nat) (k:Nat) (h:PAt vs sv s p g n k)=>next_par h hs h1)
  obtain ⟨m,rfl⟩ : ∃ m',m=m'+1:=⟨m - 1,by omega⟩
  have HI:=Hide.mk IH
  clear IH
  by_cases c1:7 < rank
  · have hrk:rank=8:=by omega
    subst hrk
    have HAT:=Hide.mk (fun (m' : Nat) (hm' : m=m'+1) (g:Nat→Option Blk) (n:Nat) (h:PAt vs sv s p g n k)=>atom_w hA hs h1 hcs hvl (HI.out m' (by omega) (by omega)) k g n h (by omega))
    obtain ⟨m',rfl⟩ : ∃ m',m=m'+1:=⟨m - 1,by omega⟩
    have HRF:Hide (∀ r,atomF vs s (m'+1) k=some r→readF vs s (m'+1+1) 8 k=some r):=⟨fun r e=>by rw [readF,if_pos (by omega)]; exact e⟩
    refine WC.enterP (noO_ok _ _) hG6 pl34 Tryd.func34 rfl (by decide +kernel) (Nat.le_of_ble_eq_true (by kernel_rfl)) ?_
    iterate 20 (all_goals try (first | with_reducible refine splitI (fun h=>?_) (fun h=>?_) | with_reducible refine splitBI (fun h=>?_) (fun h=>?_) | simp (disch:=first | assumption | omega | (simp; done) | fail) [Tryd.results34, *]))
    refine WC.mono (HAT.out m' rfl _ _ (HH.out.keep (by omega) (fun a ha=>by simp (disch:=omega) only [gput_lt]))) ?_
    rintro _ ⟨res,hrd,hend⟩
    have HRES:=Hide.mk (HRF.out _ hrd)
    clear hrd
    cases res with
    | err e k2 =>
      obtain ⟨g2,n2,rfl,hn2,hg2,hp2,hk2⟩:=hend
      have HG2:=Hide.mk hg2
      clear hg2
      iterate 20 (all_goals try (first | with_reducible refine splitI (fun h=>?_) (fun h=>?_) | with_reducible refine splitBI (fun h=>?_) (fun h=>?_) | simp (disch:=first | assumption | omega | (simp; done) | fail) [Tryd.results34, *]))
      refine ⟨_,HRES.out,_,_,rfl,by omega,fun a ha hne=>?_,hp2,hk2⟩
      rw [HG2.out a (by omega) hne]
      simp (disch:=omega) only [gput_lt]
    | ok x k2 =>
      obtain ⟨cs,g2,n2,rfl,hn2,hg2,hp2,hk2,hfr⟩:=hend
      obtain ⟨op,kk,sv2,hcc,h1c⟩:=repN_one hfr.rep
      subst hcc
      have h1a:allOne [.lit (.int .u8 op),.lit (.int .i64 kk),sv2]=true:=by simp [h1c]
      have HFR:=Hide.mk hfr
      have HG2:=Hide.mk hg2
      have e5:g2 n=some (.cells [.lit (.int .u8 0),.lit (.int .i64 0),.lit (.slice none 0 0)] true 0):=by
        rw [hg2 n (by omega) (by omega)]
        simp (disch:=omega) only [gput_lt,gput_eq]
      clear hg2 hfr
      iterate 20 (all_goals try (first | with_reducible refine splitI (fun h=>?_) (fun h=>?_) | with_reducible refine splitBI (fun h=>?_) (fun h=>?_) | simp (disch:=first | assumption | omega | (simp; done) | fail) [Tryd.results34, *]))
      refine ⟨_,HRES.out,_,_,_,rfl,by omega,fun a ha hne=>?_,?_,hk2,HFR.out.keep (by omega) (by omega) (fun a h4 h5=>gput_ne (by omega))⟩
      · rw [gput_lt ha,HG2.out a (by omega) hne]
        simp (disch:=omega) only [gput_lt]
      · rw [gput_ne hpn']; exact hp2
  by_cases c3:rank=3∧tokB s k=notT
  · obtain ⟨hrk,htk⟩:=c3
    subst hrk
    have htk' : tokB s k=⟨#[110,111,116]⟩:=htk
    rw [htk'] at hp
    have hks:k < s.size:=by
      have hne:k≠s.size:=fun e=>by
        have h0:=(tok_empty hle).2 e
        rw [htk'] at h0
        exact absurd (congrArg ByteArray.size h0) (by decide)
      omega
    have hnk:=nxtM_lt hks
    refine WC.enterP (noO_ok _ _) hG6 pl34 Tryd.func34 rfl (by decide +kernel) (Nat.le_of_ble_eq_true (by kernel_rfl)) ?_
    iterate 20 (all_goals try (first | with_reducible refine splitI (fun h=>?_) (fun h=>?_) | with_reducible refine splitBI (fun h=>?_) (fun h=>?_) | simp (disch:=first | assumption | omega | (simp; done) | fail) [Tryd.results34, *]))
    refine WC.mono (HNX.out _ _ k (HH.out.keep (by omega) (fun a ha=>by simp (disch:=omega) only [gput_lt]))) ?_
    rintro _ ⟨g1,n1,rfl,hn1,hg1,hp1⟩
    have HG1:=Hide.mk hg1
    have P1:PAt vs sv s p g1 n1 (nxtM s k):=HH.out.step (by omega) (fun a ha hne=>by rw [hg1 a (by omega) hne]; simp (disch:=omega) only [gput_lt]) hp1 (nxtM_le hle)
    have HP1:=Hide.mk P1
    clear hg1 P1
    iterate 20 (all_goals try (first | with_reducible refine splitI (fun h=>?_) (fun h=>?_) | with_reducible refine splitBI (fun h=>?_) (fun h=>?_) | simp (disch:=first | assumption | omega | (simp; done) | fail) [Tryd.results34, *]))
    refine WC.mono (HI.out m (by omega) (by omega) 3 (nxtM s k) _ _ HP1.out (by omega) (by omega) (by omega)) ?_
    rintro _ ⟨res,hrd,hend⟩
    have HRD:=Hide.mk hrd
    clear hrd
    cases res with
    | err e k2 =>
      obtain ⟨g2,n2,rfl,hn2,hg2,hp2,hk2⟩:=hend
      have hres:readF vs s (m+1) 3 k=some (.err e k2):=by rw [readF,if_neg (by omega),if_pos ⟨rfl,htk⟩,HRD.out]
      have HRES:=Hide.mk hres
      have HG2:=Hide.mk hg2
      clear hres hg2
      iterate 20 (all_goals try (first | with_reducible refine splitI (fun h=>?_) (fun h=>?_) | with_reducible refine splitBI (fun h=>?_) (fun h=>?_) | simp (disch:=first | assumption | omega | (simp; done) | fail) [Tryd.results34, *]))
      refine ⟨_,HRES.out,_,_,rfl,by omega,fun a ha hne=>?_,hp2,hk2⟩
      rw [HG2.out a (by omega) hne,HG1.out a (by omega) hne]
      simp (disch:=omega) only [gput_lt]
    | ok x k2 =>
      obtain ⟨cs,g2,n2,rfl,hn2,hg2,hp2,hk2,hfr⟩:=hend
      have hres:readF vs s (m+1) 3 k=some (.ok (.mk 9 0 [x]) k2):=by rw [readF,if_neg (by omega),if_pos ⟨rfl,htk⟩,HRD.out]
      have HRES:=Hide.mk hres
      obtain ⟨op,kk,sv2,hcc,h1c⟩:=repN_one hfr.rep
      subst hcc
      have h1a:allOne [.lit (.int .u8 op),.lit (.int .i64 kk),sv2]=true:=by simp [h1c]
      have HFR:=Hide.mk hfr
      have HG2:=Hide.mk hg2
      have hnn2:¬n=n2:=by omega
      have hpn2:¬p=n2:=by omega
      have e5:g2 n=some (.cells [.lit (.int .u8 0),.lit (.int .i64 0),.lit (.slice none 0 0)] true 0):=by
        rw [hg2 n (by omega) (by omega),HG1.out n (by omega) (by omega)]
        simp (disch:=omega) only [gput_lt,gput_eq]
      clear hg2 hfr hres
      iterate 20 (all_goals try (first | with_reducible refine splitI (fun h=>?_) (fun h=>?_) | with_reducible refine splitBI (fun h=>?_) (fun h=>?_) | simp (disch:=first | assumption | omega | (simp; done) | fail) [Tryd.results34, *]))
      refine ⟨_,HRES.out,_,_,_,rfl,by omega,fun a ha hne=>?_,?_,hk2,(FreshN.node (FreshL.one (HFR.out.keep (n0:=n+1) (by omega) (Nat.le_refl _) (fun _ _ _=>rfl))) rfl (by omega) ?_ (Nat.le_refl _) (by omega) (by omega) ?_).keep (n0:=n) (by omega) (Nat.le_refl _) (fun _ _ _=>rfl)⟩
      · simp (disch:=omega) only [gput_lt]
        rw [HG2.out a (by omega) hne,HG1.out a (by omega) hne]
        simp (disch:=omega) only [gput_lt]
      · simp (disch:=omega) only [gput_lt,gput_ne]; exact hp2
      · rw [gput_ne (by omega),gput_eq]
      · intro a h4 h5
        rw [gput_ne (by omega),gput_ne (by omega)]
  by_cases c7:rank=7∧tokB s k=negT
  · obtain ⟨hrk,htk⟩:=c7
    subst hrk
    have htk' : tokB s k=⟨#[45]⟩:=htk
    rw [htk'] at hp
    have hks:k < s.size:=by
      have hne:k≠s.size:=fun e=>by
        have h0:=(tok_empty hle).2 e
        rw [htk'] at h0
        exact absurd (congrArg ByteArray.size h0) (by decide)
      omega
    have hnk:=nxtM_lt hks
    refine WC.enterP (noO_ok _ _) hG6 pl34 Tryd.func34 rfl (by decide +kernel) (Nat.le_of_ble_eq_true (by kernel_rfl)) ?_
    iterate 20 (all_goals try (first | with_reducible refine splitI (fun h=>?_) (fun h=>?_) | with_reducible refine splitBI (fun h=>?_) (fun h=>?_) | simp (disch:=first | assumption | omega | (simp; done) | fail) [Tryd.results34, *]))
    refine WC.mono (HNX.out _ _ k (HH.out.keep (by omega) (fun a ha=>by simp (disch:=omega) only [gput_lt]))) ?_
    rintro _ ⟨g1,n1,rfl,hn1,hg1,hp1⟩
    have HG1:=Hide.mk hg1
    have P1:PAt vs sv s p g1 n1 (nxtM s k):=HH.out.step (by omega) (fun a ha hne=>by rw [hg1 a (by omega) hne]; simp (disch:=omega) only [gput_lt]) hp1 (nxtM_le hle)
    have HP1:=Hide.mk P1
    clear hg1 P1
    iterate 20 (all_goals try (first | with_reducible refine splitI (fun h=>?_) (fun h=>?_) | with_reducible refine splitBI (fun h=>?_) (fun h=>?_) | simp (disch:=first | assumption | omega | (simp; done) | fail) [Tryd.results34, *]))
    refine WC.mono (HI.out m (by omega) (by omega) 7 (nxtM s k) _ _ HP1.out (by omega) (by omega) (by omega)) ?_
    rintro _ ⟨res,hrd,hend⟩
    have HRD:=Hide.mk hrd
    clear hrd
    cases res with
    | err e k2 =>
      obtain ⟨g2,n2,rfl,hn2,hg2,hp2,hk2⟩:=hend
      have hres:readF vs s (m+1) 7 k=some (.err e k2):=by rw [readF,if_neg (by omega),if_neg (by simp),if_pos ⟨rfl,htk⟩,HRD.out]
      have HRES:=Hide.mk hres
      have HG2:=Hide.mk hg2
      clear hres hg2
      iterate 20 (all_goals try (first | with_reducible refine splitI (fun h=>?_) (fun h=>?_) | with_reducible refine splitBI (fun h=>?_) (fun h=>?_) | simp (disch:=first | assumption | omega | (simp; done) | fail) [Tryd.results34, *]))
      refine ⟨_,HRES.out,_,_,rfl,by omega,fun a ha hne=>?_,hp2,hk2⟩
      rw [HG2.out a (by omega) hne,HG1.out a (by omega) hne]
      simp (disch:=omega) only [gput_lt]
    | ok x k2 =>
      obtain ⟨cs,g2,n2,rfl,hn2,hg2,hp2,hk2,hfr⟩:=hend
      have hres:readF vs s (m+1) 7 k=some (.ok (.mk 2 0 [x]) k2):=by rw [readF,if_neg (by omega),if_neg (by simp),if_pos ⟨rfl,htk⟩,HRD.out]
      have HRES:=Hide.mk hres
      obtain ⟨op,kk,sv2,hcc,h1c⟩:=repN_one hfr.rep
      subst hcc
      have h1a:allOne [.lit (.int .u8 op),.lit (.int .i64 kk),sv2]=true:=by simp [h1c]
      have HFR:=Hide.mk hfr
      have HG2:=Hide.mk hg2
      have hnn2:¬n=n2:=by omega
      have hpn2:¬p=n2:=by omega
      have e5:g2 n=some (.cells [.lit (.int .u8 0),.lit (.int .i64 0),.lit (.slice none 0 0)] true 0):=by
        rw [hg2 n (by omega) (by omega),HG1.out n (by omega) (by omega)]
        simp (disch:=omega) only [gput_lt,gput_eq]
      clear hg2 hfr hres
      iterate 20 (all_goals try (first | with_reducible refine splitI (fun h=>?_) (fun h=>?_) | with_reducible refine splitBI (fun h=>?_) (fun h=>?_) | simp (disch:=first | assumption | omega | (simp; done) | fail) [Tryd.results34, *]))
      refine ⟨_,HRES.out,_,_,_,rfl,by omega,fun a ha hne=>?_,?_,hk2,(FreshN.node (FreshL.one (HFR.out.keep (n0:=n+1) (by omega) (Nat.le_refl _) (fun _ _ _=>rfl))) rfl (by omega) ?_ (Nat.le_refl _) (by omega) (by omega) ?_).keep (n0:=n) (by omega) (Nat.le_refl _) (fun _ _ _=>rfl)⟩
      · simp (disch:=omega) only [gput_lt]
        rw [HG2.out a (by omega) hne,HG1.out a (by omega) hne]
        simp (disch:=omega) only [gput_lt]
      · simp (disch:=omega) only [gput_lt,gput_ne]; exact hp2
      · rw [gput_ne (by omega),gput_eq]
      · intro a h4 h5
        rw [gput_ne (by omega),gput_ne (by omega)]
  obtain ⟨ri,hri⟩ : ∃ ri:Int,ri=(rank:Nat):=⟨_,rfl⟩
  rw [← hri]
  have hri1:1≤ri:=by omega
  have hri7:ri≤7:=by omega
  have hri8:¬7 < ri:=by omega
  have hsplit:(((ri=3)=True)∧((ri=7)=False)∧¬tokB s k=⟨#[110,111,116]⟩)∨(((ri=3)=False)∧((ri=7)=True)∧¬tokB s k=⟨#[45]⟩)∨(((ri=3)=False)∧((ri=7)=False)∧True):=by
    by_cases e1:rank=3
    · exact .inl ⟨eq_true (by omega),eq_false (by omega),fun e=>c3 ⟨e1,e⟩⟩
    · by_cases e2:rank=7
      · exact .inr (.inl ⟨eq_false (by omega),eq_true (by omega),fun e=>c7 ⟨e2,e⟩⟩)
      · exact .inr (.inr ⟨eq_false (by omega),eq_false (by omega),trivial⟩)
  have HRF:Hide (∀ x k1,readF vs s m (rank+1) k=some (.ok x k1)→readF vs s (m+1) rank k=loopF vs s m rank x k1):=⟨fun x k1 e=>by rw [readF,if_neg c1,if_neg c3,if_neg c7,e]⟩
  have HRE:Hide (∀ e k1,readF vs s m (rank+1) k=some (.err e k1)→readF vs s (m+1) rank k=some (.err e k1)):=⟨fun x k1 e=>by rw [readF,if_neg c1,if_neg c3,if_neg c7,e]⟩
  have HIR:Hide (∀ (m' k' : Nat) (g' : Nat→Option Blk) (n' : Nat),m'≤m→PAt vs sv s p g' n' k'→20 * (s.size - k')+(9 - rank)≤m'→WC 6 Tryd.prog 34 [.ptr p 0,.lit (.int .i64 (ri+1))] ⟨.fn g',n'⟩ fun r=>∃ res,readF vs s m' (rank+1) k'=some res∧PEnd sv s p g' n' res r):=⟨fun m' k' g' n' h1 h2 h3=>by
    have e:ri+1=((rank+1:Nat) : Int):=by omega
    rw [e]
    exact HI.out m' (by omega) (by omega) (rank+1) k' g' n' h2 (by omega) (by omega) (by omega)⟩
  have HBIN:Hide (∀ (k' : Nat) (g' : Nat→Option Blk) (n' : Nat),PAt vs sv s p g' n' k'→WC 6 Tryd.prog 60 [.ptr p 0,.lit (.int .i64 ri)] ⟨.fn g',n'⟩ fun r=>r=.ret (.lit (.int .u8 (binM ri (tokB s k')))) ⟨.fn g',n'⟩):=⟨fun k' g' n' h2=>binary_w g' n' p 0 ri (tokB s k') h2.ops h2.pn (by rw [h2.cell]; rfl)⟩
  have HL0:Hide (∀ m' x k',binM ri (tokB s k')=0→loopF vs s (m'+1) rank x k'=some (.ok x k')):=⟨fun m' x k' e=>by rw [hri] at e; rw [loopF,if_pos e]⟩
  have HLE:Hide (∀ m' x k' e k3,¬binM ri (tokB s k')=0→readF vs s m' (rank+1) (nxtM s k')=some (.err e k3)→loopF vs s (m'+1) rank x k'=some (.err e k3)):=⟨fun m' x k' e k3 e1 e2=>by rw [hri] at e1; rw [loopF,if_neg e1,e2]⟩
  have HL1:Hide (∀ m' x k' y k3,¬binM ri (tokB s k')=0→readF vs s m' (rank+1) (nxtM s k')=some (.ok y k3)→loopF vs s (m'+1) rank x k'=if ri=4 then some (.ok (.mk (binM ri (tokB s k')) 0 [x,y]) k3) else loopF vs s m' rank (.mk (binM ri (tokB s k')) 0 [x,y]) k3):=⟨fun m' x k' y k3 e1 e2=>by
    rw [hri] at e1; rw [loopF,if_neg e1,e2,hri]
    dsimp only
    by_cases h4:rank=4
    · rw [if_pos h4,if_pos (by omega)]
    · rw [if_neg h4,if_neg (by omega)]⟩
  have HRI:=Hide.mk hri
  clear c1 c3 c7 hri
  have HMM:Hide (20 * (s.size - k)+(10 - rank)≤m+1):=⟨hm⟩
  rcases hsplit with ⟨e1,e2,e3⟩ | ⟨e1,e2,e3⟩ | ⟨e1,e2,-⟩
  all_goals
    refine WC.enterP (noO_ok _ _) hG6 pl34 Tryd.func34 rfl (by decide +kernel) (Nat.le_of_ble_eq_true (by kernel_rfl)) ?_
    iterate 20 (all_goals try (first | with_reducible refine splitI (fun h=>?_) (fun h=>?_) | with_reducible refine splitBI (fun h=>?_) (fun h=>?_) | simp (disch:=first | assumption | omega | (simp; done) | fail) [Tryd.results34, *]))
    refine WC.mono (HIR.out m k _ _ (Nat.le_refl _) (HH.out.keep (by omega) (fun a ha=>by simp (disch:=omega) only [gput_lt])) (by omega)) ?_
    rintro _ ⟨res,hrd,hend⟩
    have HRD:=Hide.mk hrd
    clear hrd
    cases res with
    | err e k2 =>
      obtain ⟨g2,n2,rfl,hn2,hg2,hp2,hk2⟩:=hend
      have hres:=HRE.out _ _ HRD.out
      have HRES:=Hide.mk hres
      have HG2:=Hide.mk hg2
      clear hres hg2
      iterate 20 (all_goals try (first | with_reducible refine splitI (fun h=>?_) (fun h=>?_) | with_reducible refine splitBI (fun h=>?_) (fun h=>?_) | simp (disch:=first | assumption | omega | (simp; done) | fail) [Tryd.results34, *]))
      refine ⟨_,HRES.out,_,_,rfl,by omega,fun a ha hne=>?_,hp2,hk2⟩
      rw [HG2.out a (by omega) hne]
      simp (disch:=omega) only [gput_lt]
    | ok x k1 =>
      obtain ⟨cs,g1,n1,rfl,hn1,hg1,hp1,hk1,hfr⟩:=hend
      have hkk:=((read_le m).1 _ _ _ _ hle HRD.out).1
      have hres:=HRF.out _ _ HRD.out
      have HRES:=Hide.mk hres
      obtain ⟨op,kk,sv2,hcc,h1c⟩:=repN_one hfr.rep
      subst hcc
      have h1a:allOne [.lit (.int .u8 op),.lit (.int .i64 kk),sv2]=true:=by simp [h1c]
      have HFR:=Hide.mk hfr
      have HG1:=Hide.mk hg1
      have hnn1:¬n=n1:=by omega
      have hpn1:¬p=n1:=by omega
      have e5:g1 n=some (.cells [.lit (.int .u8 0),.lit (.int .i64 0),.lit (.slice none 0 0)] true 0):=by
        rw [hg1 n (by omega) (by omega)]
        simp (disch:=omega) only [gput_lt,gput_eq]
      have P1:PAt vs sv s p g1 n1 k1:=HH.out.step (by omega) (fun a ha hne=>by rw [hg1 a (by omega) hne]; simp (disch:=omega) only [gput_lt]) hp1 hk1
      have HP1:=Hide.mk P1
      clear hg1 hfr hres P1
      iterate 20 (all_goals try (first | with_reducible refine splitI (fun h=>?_) (fun h=>?_) | with_reducible refine splitBI (fun h=>?_) (fun h=>?_) | simp (disch:=first | assumption | omega | (simp; done) | fail) [Tryd.results34, *]))
      refine WC.mono (HBIN.out k1 _ _ (HP1.out.keep (by omega) (fun a ha=>by simp (disch:=omega) only [gput_lt]))) ?_
      rintro _ rfl
      iterate 20 (all_goals try (first | with_reducible refine splitI (fun h=>?_) (fun h=>?_) | with_reducible refine splitBI (fun h=>?_) (fun h=>?_) | simp (disch:=first | assumption | omega | (simp; done) | fail) [Tryd.results34, *]))
      refine LX.ind (fun m' gf H'=>∃ (x' : NodeM) (k' n' : Nat) (g' : Nat→Option Blk) (op' : Int) (kk' : Int) (sv' : AV),H'=⟨.fn g',n'⟩∧n1 < n'∧g' n1=some (.cells [.lit (.int .u8 op'),.lit (.int .i64 kk'),sv'] true 0)∧oneC sv'=true ∧
        FreshQ g' (n+1) n1 n' x' [.lit (.int .u8 op'),.lit (.int .i64 kk'),sv']∧(∀ a,a < n→a≠p→g' a=g a)∧g' n=some (.cells [.lit (.int .u8 0),.lit (.int .i64 0),.lit (.slice none 0 0)] true 0)∧PAt vs sv s p g' n' k'∧k≤k' ∧
        gf 0=some (.ptr p 0)∧gf 1=some (.lit (.int .i64 ri))∧gf 4=some (.ptr n 0)∧gf 5=some (.ptr n1 0)∧gf 6=some (.lit (.int .u8 (binM ri (tokB s k')))) ∧
        readF vs s (m+1) rank k=loopF vs s m' rank x' k'∧20 * (s.size - k')+1≤m'∧m'≤m) (m0:=m) ?_ ?_
      · refine ⟨x,k1,n1+1,_,op,kk,sv2,rfl,by omega,?_,h1c,FreshQ.of HFR.out (Nat.le_refl _) (by omega) (fun a h4 h5=>by simp (disch:=omega) only [gput_lt]),fun a ha hne=>?_,?_,HP1.out.keep (by omega) (fun a ha=>by simp (disch:=omega) only [gput_lt]),hkk,by simp,by simp,by simp,by simp,by simp,HRES.out,by omega,Nat.le_refl _⟩
        · simp (disch:=omega) only [gput_lt,gput_eq]
        · simp (disch:=omega) only [gput_lt]
          rw [HG1.out a (by omega) hne]
          simp (disch:=omega) only [gput_lt]
        · simp (disch:=omega) only [gput_lt]
          exact e5
      rintro m' gf H' ⟨x',k',n',g',op',kk',sv',rfl,hn',hq',h1c',hfq,hg',hz',P',hkk',q0,q1,q4,q5,q6,hres',hm1,hm2⟩ ih
      refine LX.roundP (noO_ok _ _) hG6 pl34 (by decide +kernel) ?_
      have h1a' : allOne [.lit (.int .u8 op'),.lit (.int .i64 kk'),sv']=true:=by simp [h1c']
      have HG':=Hide.mk hg'
      have HP':=Hide.mk P'
      have HFQ:=Hide.mk hfq
      have HRS:=Hide.mk hres'
      have hop':=(repN_op hfq.rep)
      have hple:=P'.le
      clear hg' P' hfq hres' HP1 HG1 HFR HRES HRD HRF HRE e5 hp1 hp
      by_cases c8:binM ri (tokB s k')=0
      · obtain ⟨m'',rfl⟩ : ∃ m'',m'=m''+1:=⟨m' - 1,by omega⟩
        have hfin:=HRS.out.trans (HL0.out m'' x' k' c8)
        rw [c8] at q6
        have HFIN:=Hide.mk hfin
        clear hfin c8
        iterate 20 (all_goals try (first | with_reducible refine splitI (fun h=>?_) (fun h=>?_) | with_reducible refine splitBI (fun h=>?_) (fun h=>?_) | simp (disch:=first | assumption | omega | (simp; done) | fail) [Tryd.results34, *]))
        refine ⟨_,HFIN.out,_,_,_,rfl,by omega,fun a ha hne=>?_,?_,HP'.out.le,HFQ.out.fresh (by omega) (by omega) (fun a h4 h5 h6=>by rw [gput_ne (by omega)])⟩
        · rw [gput_ne (by omega)]; exact HG'.out a ha hne
        · rw [gput_ne hpn']; exact HP'.out.cell
      · obtain ⟨m'',rfl⟩ : ∃ m'',m'=m''+1:=⟨m' - 1,by omega⟩
        have hks:k' < s.size:=by
          have hne:k'≠s.size:=fun e=>c8 (by rw [(tok_empty hple).2 e,binM_empty])
          omega
        have hnk:=nxtM_lt hks
        have HC8:=Hide.mk c8
        have hob:=binM_lt ri (tokB s k')
        have HLE':=Hide.mk (fun e k3 h=>HRS.out.trans (HLE.out m'' x' k' e k3 HC8.out h))
        have HL1':=Hide.mk (fun y k3 h=>HRS.out.trans (HL1.out m'' x' k' y k3 HC8.out h))
        have hoI:¬((binM ri (tokB s k') : Nat) : Int)=0:=by omega
        generalize binM ri (tokB s k')=o at *
        iterate 20 (all_goals try (first | with_reducible refine splitI (fun h=>?_) (fun h=>?_) | with_reducible refine splitBI (fun h=>?_) (fun h=>?_) | simp (disch:=first | assumption | omega | (simp; done) | fail) [Tryd.results34, *]))
        refine WC.mono (HNX.out _ _ k' HP'.out) ?_
        rintro _ ⟨g2,n2,rfl,hn2,hg2,hp2⟩
        have HG2:=Hide.mk hg2
        have P2:PAt vs sv s p g2 n2 (nxtM s k'):=HP'.out.step (by omega) hg2 hp2 (nxtM_le hple)
        have HP2:=Hide.mk P2
        have e2q:=(hg2 n1 (by omega) (by omega)).trans hq'
        have e2n:=(hg2 n (by omega) (by omega)).trans hz'
        clear hg2 P2 hp2
        iterate 20 (all_goals try (first | with_reducible refine splitI (fun h=>?_) (fun h=>?_) | with_reducible refine splitBI (fun h=>?_) (fun h=>?_) | simp (disch:=first | assumption | omega | (simp; done) | fail) [Tryd.results34, *]))
        refine WC.mono (HIR.out m'' (nxtM s k') _ _ (by omega) HP2.out (by have:=HMM.out; omega)) ?_
        rintro _ ⟨res,hrd,hend⟩
        have HRD2:=Hide.mk hrd
        clear hrd
        cases res with
        | err e k3 =>
          obtain ⟨g3,n3,rfl,hn3,hg3,hp3,hk3⟩:=hend
          have hres:=HLE'.out _ _ HRD2.out
          have HRES:=Hide.mk hres
          have HG3:=Hide.mk hg3
          clear hres hg3
          iterate 20 (all_goals try (first | with_reducible refine splitI (fun h=>?_) (fun h=>?_) | with_reducible refine splitBI (fun h=>?_) (fun h=>?_) | simp (disch:=first | assumption | omega | (simp; done) | fail) [Tryd.results34, *]))
          refine ⟨_,HRES.out,_,_,rfl,by omega,fun a ha hne=>?_,hp3,hk3⟩
          rw [HG3.out a (by omega) hne,HG2.out a (by omega) hne,HG'.out a ha hne]
        | ok y k3 =>
          obtain ⟨ds,g3,n3,rfl,hn3,hg3,hp3,hk3,hfr⟩:=hend
          have hkk3:=((read_le m'').1 _ _ _ _ (nxtM_le hple) HRD2.out).1
          have hres:=HL1'.out _ _ HRD2.out
          have HRES:=Hide.mk hres
          obtain ⟨op2,kk2,sv2,hcc,h1c2⟩:=repN_one hfr.rep
          subst hcc
          have h1b:allOne [.lit (.int .u8 op2),.lit (.int .i64 kk2),sv2]=true:=by simp [h1c2]
          have HFR:=Hide.mk hfr
          have HG3:=Hide.mk hg3
          have hn13:¬n1=n3:=by omega
          have hnn3:¬n=n3:=by omega
          have hpn3:¬p=n3:=by omega
          have e3q:=(hg3 n1 (by omega) (by omega)).trans e2q
          have e3n:=(hg3 n (by omega) (by omega)).trans e2n
          have P3:PAt vs sv s p g3 n3 k3:=HP2.out.step (by omega) hg3 hp3 hk3
          have HP3:=Hide.mk P3
          clear hg3 hfr hres P3 hp3
          by_cases h4:(ri=4)=True
          · have hres:=HRES.out
            rw [if_pos (by rw [h4]; trivial)] at hres
            have HFIN:=Hide.mk hres
            clear hres
            iterate 20 (all_goals try (first | with_reducible refine splitI (fun h=>?_) (fun h=>?_) | with_reducible refine splitBI (fun h=>?_) (fun h=>?_) | simp (disch:=first | assumption | omega | (simp; done) | fail) [Tryd.results34, *]))
            refine ⟨_,HFIN.out,_,_,_,rfl,by omega,fun a ha hne=>?_,?_,hk3,((HFQ.out.keep (g':=g3) (n2:=n3) (by omega) (fun a h5 h6 h7=>(HG3.out a (by omega) (by omega)).trans (HG2.out a (by omega) (by omega)))).bin HFR.out (n2:=n3+1) (by omega) (by omega) hob (S:=n3) ?_ (by omega) (Nat.le_refl _) (by omega) (by omega) ?_).fresh (g':=_) (by omega) (Nat.le_refl _) (fun _ _ _ _=>rfl)⟩
            · simp (disch:=omega) only [gput_lt]
              rw [HG3.out a (by omega) hne,HG2.out a (by omega) hne,HG'.out a ha hne]
            · simp (disch:=omega) only [gput_lt,gput_ne]
              exact HP3.out.cell
            · simp (disch:=omega) only [gput_ne,gput_eq]
              rfl
            · intro a h5 h6 h7
              simp (disch:=omega) only [gput_ne]
          · have h4' : (ri=4)=False:=eq_false (fun e=>h4 (eq_true e))
            have hres:=HRES.out
            rw [if_neg (by rw [h4']; exact id)] at hres
            have HFIN:=Hide.mk hres
            clear hres h4
            iterate 20 (all_goals try (first | with_reducible refine splitI (fun h=>?_) (fun h=>?_) | with_reducible refine splitBI (fun h=>?_) (fun h=>?_) | simp (disch:=first | assumption | omega | (simp; done) | fail) [Tryd.results34, *]))
            refine WC.mono (HBIN.out k3 _ _ (HP3.out.low (by omega) (fun a ha=>by simp (disch:=omega) only [gput_ne]))) ?_
            rintro _ rfl
            iterate 20 (all_goals try (first | with_reducible refine splitI (fun h=>?_) (fun h=>?_) | with_reducible refine splitBI (fun h=>?_) (fun h=>?_) | simp (disch:=first | assumption | omega | (simp; done) | fail) [Tryd.results34, *]))
            refine ih.out m'' _ _ (by omega) ⟨.mk o 0 [x',y],k3,n3+1,_,o,0,.sl n3 0 2 2,rfl,by omega,gput_eq,rfl,(HFQ.out.keep (g':=g3) (n2:=n3) (by omega) (fun a h5 h6 h7=>(HG3.out a (by omega) (by omega)).trans (HG2.out a (by omega) (by omega)))).bin HFR.out (n2:=n3+1) (by omega) (by omega) hob (S:=n3) ?_ (by omega) (Nat.le_refl _) (by omega) (by omega) ?_,fun a ha hne=>?_,?_,HP3.out.low (by omega) (fun a ha=>by simp (disch:=omega) only [gput_ne]),by omega,by simp [*],by simp [*],by simp [*],by simp [*],by simp [*],HFIN.out,by omega,by omega⟩
            · simp (disch:=omega) only [gput_ne,gput_eq]
              rfl
            · intro a h5 h6 h7
              simp (disch:=omega) only [gput_ne]
            · simp (disch:=omega) only [gput_ne]
              rw [HG3.out a (by omega) hne,HG2.out a (by omega) hne,HG'.out a ha hne]
            · simp (disch:=omega) only [gput_ne]
              exact e3n
end
end Go.Ai
end
section
namespace Go.Ai
open Go.Proofs
set_option maxRecDepth 10000
set_option maxHeartbeats 4000000
theorem lastW_ret {P:Program} {fn:Func} {fr:Fr} {K:COut→Prop} {H:Mem} : lastW P fn fr K .returning H=endW P fn.results.toList K fr H:=by
  unfold lastW resultsA endW
  dsimp only
  rcases resVars P fr H fn.results.toList with _ | l
  · rfl
  · match l with
    | []=>rfl
    | [_]=>rfl
    | _ :: _ :: _=>rfl
theorem leaveX_nil {G:Nat} {P:Program} {O:CallF} {fn:Func} {K:COut→Prop} {H:Mem} {gf:Nat→Option AV} : leaveX G P O fn K (.ret (.f gf []) H)=endW P fn.results.toList K (.f gf []) H:=lastW_ret
attribute [simp] leaveX_nil
theorem endDW_ret {P:Program} {g:Func} {K:Mode→Mem→Prop} {fr:Fr} {H:Mem} (hd:fr.defers=[]) (hr:g.results.toList=[]) (h:K .returning H) : endDW P g K (.norm fr .returning H):=by
  unfold endDW resultsA
  dsimp only
  rw [hd,hr]
  exact h
theorem endDW_rec {P:Program} {g:Func} {K:Mode→Mem→Prop} {fr:Fr} {H:Mem} {v:AV} (hd:fr.defers=[]) (hr:g.results.toList=[]) (h:K .returning H) : endDW P g K (.norm fr (.recovered v) H):=by
  unfold endDW resultsA
  dsimp only
  rw [hd,hr]
  exact h
theorem XW_skip {G:Nat} {P:Program} {n:Nat} {fr:Fr} {H:Mem} {Q:Out→Prop} (h:Q (.norm fr H)) : XW G P n .skip fr H Q:=fun _ _ _ _ ρ _ _ s=>wp_skip ⟨_,h,ρ,s⟩
theorem parse_ret {K:COut→Prop} {gf:Nat→Option AV} {g:Nat→Option Blk} {n:Nat} {q x a e:AV}
    (h:endW Tryd.prog Tryd.f13.results.toList K (.f gf [(.func 32,[q,x,a,e],[])]) ⟨.fn (gput (gput g n (some (.cells [.lit (.int .i64 0)] true 0))) n (some (.cells [.lit (.int .i64 0)] true 0))),n+1⟩) :
    leaveX 6 Tryd.prog noO Tryd.f13 K (.ret (.f gf [(.func 32,[q,x,a,e],[])]) ⟨.fn g,n⟩):=by
  refine ⟨Tryd.f32,_,Tryd.func32,rfl,hb32,by decide +kernel,Nat.le_of_ble_eq_true (by kernel_rfl),?_⟩
  show execDW 6 Tryd.prog 19 noO (.seq (.region 0 _ false) _) _ _ _ _
  unfold execDW
  unfold execDW
  rw [show ([]++[q,x,a,e] : List AV)=[q,x,a,e] from rfl]
  dsimp only
  show (match seqOpsD Tryd.prog noO _ (_ :: _) (frameW [q,x,a,e]) .returning ⟨.fn g,n⟩ with | .bad=>False | r=>_)
  rw [seqD_rec (by kernel_rfl),seqD_val (v:=.lit (.tuple #[.agg #[.int .i64 0],.bool false])) (H':=⟨.fn g,n⟩) (by kernel_rfl),seqD_val (v:=.lit (.tuple #[.agg #[.int .i64 0],.bool false])) (H':=⟨.fn g,n⟩) (by kernel_rfl),
    seqD_val (v:=.lit (.agg #[.int .i64 0])) (H':=⟨.fn g,n⟩) (by kernel_rfl),seqD_val (v:=.lit (.bool false)) (H':=⟨.fn g,n⟩) (by kernel_rfl),
    seqD_val (v:=.ptr n 0) (H':=⟨.fn (gput g n (some (.cells [.lit (.int .i64 0)] true 0))),n+1⟩) (by kernel_rfl)]
  rw [seqD_skip (H':=⟨.fn (gput (gput g n (some (.cells [.lit (.int .i64 0)] true 0))) n (some (.cells [.lit (.int .i64 0)] true 0))),n+1⟩) ?_]
  rotate_left 1
  · show oStore Tryd.prog ⟨.fn (gput g n (some (.cells [.lit (.int .i64 0)] true 0))),n+1⟩ 69 (some (.ptr n 0)) (some (.lit (.agg #[.int .i64 0])))=_
    rw [oStore_ptr,show cellsOf (.lit (.agg #[.int .i64 0]))=[.lit (.int .i64 0)] from rfl]
    simp
  rw [seqD_val (v:=.lit (.bool false)) (H':=⟨.fn (gput (gput g n (some (.cells [.lit (.int .i64 0)] true 0))) n (some (.cells [.lit (.int .i64 0)] true 0))),n+1⟩) (by kernel_rfl)]
  show execDW 6 Tryd.prog 19 noO (.seq (.region 1 _ false) (.cond _ _ _)) _ _ _ _
  unfold execDW
  unfold execDW
  dsimp only
  rw [seqD_val (v:=.lit (.bool false)) (H':=⟨.fn (gput (gput g n (some (.cells [.lit (.int .i64 0)] true 0))) n (some (.cells [.lit (.int .i64 0)] true 0))),n+1⟩) (by kernel_rfl)]
  show execDW 6 Tryd.prog 19 noO (.cond (.tmp 11) _ .skip) _ _ _ _
  unfold execDW
  show execDW 6 Tryd.prog 19 noO .skip _ _ _ _
  refine XW_skip ?_
  refine endDW_ret rfl rfl ?_
  rw [lastW_ret]
  exact h
theorem seqD_recP {P:Program} {O:CallF} {ops:Array Oper} {l:List Oper} {fr:Fr} {H:Mem} {d:Option Tmp} {op:Op} {t:TypeId} {p:String} {af:Array Edge} {v:AV} (h:opV P H fr.ev ⟨d,op,t,p,af,none⟩=.recover) : seqOpsD P O ops (⟨d,op,t,p,af,none⟩ :: l) fr (.panicking v) H=seqOpsD P O ops l (fr.put d v) (.recovered v) H:=by
  show (afterD O ⟨d,op,t,p,af,none⟩ fr (.panicking v) (seqOpsD P O ops l) H (opV P H fr.ev ⟨d,op,t,p,af,none⟩))=_
  rw [h]
  show fr.putK d v _=_
  rw [Fr.putK_eq]
theorem parse_panic {K:COut→Prop} {gf:Nat→Option AV} {g:Nat→Option Blk} {n q p x a e:Nat} {v k:Int} {c1 c2 c3 c4 c5 c6 c7 c8:AV} (hq:g q=some (.cells [.ptr p 0] true 0)) (hp:g p=some (.cells [c6,c7,c8,.lit (.int .i64 k)] true 0)) (hx:g x=some (.cells [c1,c2,c3] true 0))
    (ha:g a=some (.cells [c4] true 0)) (he:g e=some (.cells [c5] true 0)) (lq:q < n) (lp:p < n) (lx:x < n) (la:a < n) (le:e < n) (nxa:¬x=a) (nxe:¬x=e) (nae:¬a=e) (nqx:¬q=x) (npx:¬p=x) (nqa:¬q=a) (npa:¬p=a)
    (h:∀ g1 n1,n≤n1→(∀ b,b < n→b≠x→b≠a→b≠e→g1 b=g b)→g1 x=some (.cells [.lit (.int .u8 0),.lit (.int .i64 0),.lit (.slice none 0 0)] true 0)→g1 a=some (.cells [.lit (.int .i64 k)] true 0)→g1 e=some (.cells [.lit (.int .i64 v)] true 0) →
      endW Tryd.prog Tryd.f13.results.toList K (.f gf [(.func 32,[.ptr q 0,.ptr x 0,.ptr a 0,.ptr e 0],[])]) ⟨.fn g1,n1⟩) :
    leaveX 6 Tryd.prog noO Tryd.f13 K (.panic (.iface 69 (.agg [.lit (.int .i64 v)])) (.f gf [(.func 32,[.ptr q 0,.ptr x 0,.ptr a 0,.ptr e 0],[])]) ⟨.fn g,n⟩):=by
  refine ⟨Tryd.f32,_,Tryd.func32,rfl,hb32,by decide +kernel,Nat.le_of_ble_eq_true (by kernel_rfl),?_⟩
  show execDW 6 Tryd.prog 19 noO (.seq (.region 0 _ false) _) _ _ _ _
  unfold execDW
  unfold execDW
  rw [show ([]++[.ptr q 0,.ptr x 0,.ptr a 0,.ptr e 0] : List AV)=[.ptr q 0,.ptr x 0,.ptr a 0,.ptr e 0] from rfl]
  dsimp only
  show (match seqOpsD Tryd.prog noO _ (_ :: _) (frameW [.ptr q 0,.ptr x 0,.ptr a 0,.ptr e 0]) _ ⟨.fn g,n⟩ with | .bad=>False | r=>_)
  rw [seqD_recP (by kernel_rfl),seqD_val (v:=.tup [.agg [.lit (.int .i64 v)],.lit (.bool true)]) (H':=⟨.fn g,n⟩) (by kernel_rfl),seqD_val (v:=.tup [.agg [.lit (.int .i64 v)],.lit (.bool true)]) (H':=⟨.fn g,n⟩) (by kernel_rfl),
    seqD_val (v:=.agg [.lit (.int .i64 v)]) (H':=⟨.fn g,n⟩) (by kernel_rfl),seqD_val (v:=.lit (.bool true)) (H':=⟨.fn g,n⟩) (by kernel_rfl),
    seqD_val (v:=.ptr n 0) (H':=⟨.fn (gput g n (some (.cells [.lit (.int .i64 0)] true 0))),n+1⟩) (by kernel_rfl)]
  rw [seqD_skip (H':=⟨.fn (gput (gput g n (some (.cells [.lit (.int .i64 0)] true 0))) n (some (.cells [.lit (.int .i64 v)] true 0))),n+1⟩) ?_]
  rotate_left 1
  · show oStore Tryd.prog ⟨.fn (gput g n (some (.cells [.lit (.int .i64 0)] true 0))),n+1⟩ 69 (some (.ptr n 0)) (some (.agg [.lit (.int .i64 v)]))=_
    rw [oStore_ptr,show cellsOf (.agg [.lit (.int .i64 v)])=[.lit (.int .i64 v)] from rfl]
    simp
  rw [seqD_val (v:=.lit (.bool true)) (H':=⟨.fn (gput (gput g n (some (.cells [.lit (.int .i64 0)] true 0))) n (some (.cells [.lit (.int .i64 v)] true 0))),n+1⟩) (by kernel_rfl)]
  show execDW 6 Tryd.prog 19 noO (.seq (.region 1 _ false) (.cond _ _ _)) _ _ _ _
  unfold execDW
  unfold execDW
  dsimp only
  rw [seqD_val (v:=.lit (.bool true)) (H':=⟨.fn (gput (gput g n (some (.cells [.lit (.int .i64 0)] true 0))) n (some (.cells [.lit (.int .i64 v)] true 0))),n+1⟩) (by kernel_rfl)]
  show execDW 6 Tryd.prog 19 noO (.cond (.tmp 11) _ .skip) _ _ _ _
  unfold execDW
  show execDW 6 Tryd.prog 19 noO (.region 2 _ true) _ _ _ _
  refine XW.planned (noO_ok _ _) hG6 pl32 (by decide +kernel) ?_
  have hqn:¬q=n:=by omega
  have hpn:¬p=n:=by omega
  have hxn:¬x=n:=by omega
  have han:¬a=n:=by omega
  have hen:¬e=n:=by omega
  have nax:¬a=x:=fun h=>nxa h.symm
  have nex:¬e=x:=fun h=>nxe h.symm
  have nea:¬e=a:=fun h=>nae h.symm
  have HK:=Hide.mk h
  clear h
  show regP Tryd.prog _ _ _ _ (Fr.f _ _) _
  iterate 12 (all_goals try (first | with_reducible refine splitI (fun h=>?_) (fun h=>?_) | with_reducible refine splitBI (fun h=>?_) (fun h=>?_) | simp (disch:=first | assumption | omega | (simp; done) | fail) [Tryd.results32,gput_ne, *]))
  refine endDW_rec rfl rfl ?_
  rw [lastW_ret]
  refine HK.out _ _ (by omega) (fun b h1 h2 h3 h4=>?_) ?_ ?_ ?_
  · rw [gput_ne h4,gput_ne h3,gput_ne h2,gput_lt h1]
  · rw [gput_ne nxe,gput_ne nxa,gput_same]
  · rw [gput_ne nae,gput_same]
  · rw [gput_same]
end Go.Ai
end
section
namespace Go.Ai
open Go.Proofs
set_option maxRecDepth 10000
set_option maxHeartbeats 40000000
theorem read_size {vs:List VarM} {s:ByteArray} : ∀ (m:Nat),(∀ rank k x k',k≤s.size→readF vs s m rank k=some (.ok x k')→sizeN x+k≤k')∧(∀ rank x0 k x k',k≤s.size→loopF vs s m rank x0 k=some (.ok x k')→sizeN x+k≤sizeN x0+k') ∧
    (∀ k x k',k≤s.size→atomF vs s m k=some (.ok x k')→sizeN x+k≤k')
  | 0=>⟨fun _ _ _ _ _ h=>(by rw [readF] at h; cases h),fun _ _ _ _ _ _ h=>(by rw [loopF] at h; cases h),fun _ _ _ _ h=>(by rw [atomF] at h; cases h)⟩
  | m+1=>by
    obtain ⟨i1,i2,i3⟩:=read_size (vs:=vs) (s:=s) m
    obtain ⟨l1,l2,l3⟩:=read_le (vs:=vs) (s:=s) m
    have full:∀ k,k≤s.size→tokB s k≠⟨#[]⟩→k < s.size:=fun k hk h=>by
      have:k≠s.size:=fun e=>h ((tok_empty hk).2 e)
      omega
    refine ⟨fun rank k x k' hk h=>?_,fun rank x0 k x k' hk h=>?_,fun k x k' hk h=>?_⟩
    · have n2:=nxtM_le hk
      rw [readF] at h
      split at h
      · exact i3 _ _ _ hk h
      · split at h
        · rename_i e0
          have n1:=nxtM_lt (full k hk (by rw [e0.2]; decide))
          split at h
          · rename_i x1 k1 e
            cases h
            have:=i1 _ _ _ _ n2 e
            simp only [sizeN,sizeL]
            omega
          · rename_i hno; exact absurd h (hno x k')
        · split at h
          · rename_i e0
            have n1:=nxtM_lt (full k hk (by rw [e0.2]; decide))
            split at h
            · rename_i x1 k1 e
              cases h
              have:=i1 _ _ _ _ n2 e
              simp only [sizeN,sizeL]
              omega
            · rename_i hno; exact absurd h (hno x k')
          · split at h
            · rename_i x1 k1 e
              have h1:=i1 _ _ _ _ hk e
              have h2:=i2 _ _ _ _ _ (l1 _ _ _ _ hk e).2 h
              omega
            · rename_i hno; exact absurd h (hno x k')
    · have n2:=nxtM_le hk
      rw [loopF] at h
      split at h
      · cases h; omega
      · rename_i e0
        have n1:=nxtM_lt (full k hk (fun e=>e0 (by rw [e,binM_empty])))
        split at h
        · rename_i y k1 e
          have h3:=l1 _ _ _ _ n2 e
          have h4:=i1 _ _ _ _ n2 e
          split at h
          · cases h
            simp only [sizeN,sizeL]
            omega
          · have:=i2 _ _ _ _ _ h3.2 h
            simp only [sizeN,sizeL] at this
            omega
        · rename_i hno; exact absurd h (hno x k')
    · have n2:=nxtM_le hk
      rw [atomF] at h
      split at h
      · cases h
      · rename_i e0
        have n1:=nxtM_lt (full k hk e0)
        split at h
        · split at h
          · rename_i x1 k1 e
            have h3:=l1 _ _ _ _ n2 e
            have h4:=i1 _ _ _ _ n2 e
            have n3:=nxtM_ge h3.2
            split at h
            · cases h; omega
            · cases h
          · rename_i hno; exact absurd h (hno x k')
        · split at h
          · split at h
            · cases h
            · split at h
              · cases h
              · cases h
                simp only [sizeN,sizeL]
                omega
          · split at h
            · split at h
              · cases h
                simp only [sizeN,sizeL]
                omega
              · cases h
            · cases h
end Go.Ai
end
section
namespace Go.Ai
open Go.Proofs
set_option maxRecDepth 10000
set_option maxHeartbeats 40000000
def zeroN:NodeM:=.mk 0 0 []
def parseM (vs:List VarM) (s:ByteArray) : NodeM×Int×Int :=
  if checkVarsM vs≠0 then (zeroN,0,checkVarsM vs)
  else if 65536 < s.size then (zeroN,0,3)
  else match readF vs s (20 * s.size+9) 1 (advM s 0) with
    | some (.err e k)=>(zeroN,(k:Nat),e)
    | some (.ok x k)=>if tokB s k≠⟨#[]⟩ then (zeroN,(k:Nat),4) else if checkM vs x≠0 then (zeroN,0,checkM vs x) else (x,0,0)
    | none=>(zeroN,0,0)
def ParQ (ret:NodeM×Int×Int) (g:Nat→Option Blk) (n:Nat) (r:COut) : Prop:=∃ cs g' n',r=.ret (.tup [.agg cs,.lit (.int .i64 ret.2.1),.lit (.int .i64 ret.2.2)]) ⟨.fn g',n'⟩∧n≤n'∧(∀ a,a < n→g' a=g a)∧FreshN g' n n' ret.1 cs
theorem Parse_w (vs:List VarM) (s:ByteArray) (hA:AtoiOK s) (hs:s.size≤1000000) (g:Nat→Option Blk) (n:Nat) (sv:AV) (hg:g 0=some opsB) (hge:g 3=some (.cells bY false 0)) (hn0:3 < n) (hsv:SliceV g n sv vs.length (vs.flatMap VarM.cells)) (hn:vs.length≤1000000) :
    WC 6 Tryd.prog 13 [sv,.lit (.string s)] ⟨.fn g,n⟩ fun r=>ParQ (parseM vs s) g n r:=by
  have hcsv:cellsOf sv=[sv]:=by rcases hsv with ⟨_,_,rfl | rfl⟩ | ⟨a,off,_,⟨c,rfl⟩ | ⟨c,rfl⟩,_⟩ <;> rfl
  have h1sv:oneC sv=true:=by rcases hsv with ⟨_,_,rfl | rfl⟩ | ⟨a,off,_,⟨c,rfl⟩ | ⟨c,rfl⟩,_⟩ <;> rfl
  generalize hret:parseM vs s=ret
  have HRET:=Hide.mk hret
  clear hret
  have HSV:=Hide.mk hsv
  clear hsv
  have HA:=Hide.mk hA
  clear hA
  refine WC.enterX (noO_ok _ _) hG6 [] Tryd.func13 rfl (by decide +kernel) (Nat.le_of_ble_eq_true (by kernel_rfl)) ?_
  iterate 12 (all_goals try (first | with_reducible refine splitI (fun h=>?_) (fun h=>?_) | with_reducible refine splitBI (fun h=>?_) (fun h=>?_) | simp (disch:=first | assumption | omega | (simp; done) | fail) [Tryd.results13, *]))
  refine WC.mono (checkVars_w vs _ _ _ (HSV.out.mono (by omega) (fun a ha=>by simp (disch:=omega) only [gput_lt])) (by omega)) ?_
  rintro _ rfl
  by_cases h0:checkVarsM vs=0
  · rw [h0]
    have HR1:Hide ((if 65536 < s.size then (zeroN,(0:Int),(3:Int)) else match readF vs s (20 * s.size+9) 1 (advM s 0) with
      | some (.err e k)=>(zeroN,((k:Nat) : Int),e)
      | some (.ok x k)=>if tokB s k≠⟨#[]⟩ then (zeroN,((k:Nat) : Int),4) else if checkM vs x≠0 then (zeroN,0,checkM vs x) else (x,0,0)
      | none=>(zeroN,0,0))=ret):=⟨by rw [← HRET.out,parseM]; exact (if_neg (fun h=>h h0)).symm⟩
    clear HRET
    have HC0:=Hide.mk h0
    clear h0
    by_cases hbig:65536 < s.size
    · have hbigI:(65536:Int) < (s.size:Int):=by omega
      have e1:ret=(zeroN,0,3):=by rw [← HR1.out,if_pos hbig]
      subst e1
      iterate 12 (all_goals try (first | with_reducible refine splitI (fun h=>?_) (fun h=>?_) | with_reducible refine splitBI (fun h=>?_) (fun h=>?_) | simp (disch:=first | assumption | omega | (simp; done) | fail) [Tryd.results13, *]))
      refine ⟨_,_,_,rfl,by omega,fun a ha=>?_,FreshN.leaf (by omega)⟩
      simp (disch:=omega) only [gput_lt]
    · have hbigI:¬(65536:Int) < (s.size:Int):=by omega
      have HR2:=HR1.out
      rw [if_neg hbig] at HR2
      have HR3:=Hide.mk HR2
      clear HR2 HR1
      iterate 12 (all_goals try (first | with_reducible refine splitI (fun h=>?_) (fun h=>?_) | with_reducible refine splitBI (fun h=>?_) (fun h=>?_) | simp (disch:=first | assumption | omega | (simp; done) | fail) [Tryd.results13, *]))
      refine WC.mono (next_w s ⟨#[]⟩ 0 (n+1+1+1) sv _ _ hs (by simp) (by omega) (Nat.zero_le _) h1sv) ?_
      rintro _ ⟨g1,n1,rfl,hn1,hg1,hp1⟩
      rw [show (0+(⟨#[]⟩ : ByteArray).size)=0 from rfl,nextM_eq] at hp1
      have P1:PAt vs sv s (n+1+1+1) g1 n1 (advM s 0):=⟨by rw [hg1 0 (by omega) (by omega)]; simpa (disch:=omega) [gput_lt] using hg,by rw [hg1 3 (by omega) (by omega)]; simpa (disch:=omega) [gput_lt] using hge,by omega,by omega,HSV.out.mono (by omega) (fun a ha=>by exact (hg1 a (by omega) (by omega)).trans (by simp (disch:=omega) only [gput_lt])),hp1,(advM_le (Nat.zero_le _)).2⟩
      have q1:g1 (n+1+1+1+1)=some (.cells [.ptr (n+1+1+1) 0] true 0):=by rw [hg1 _ (by omega) (by omega)]; simp
      have x1:g1 n=some (.cells [.lit (.int .u8 0),.lit (.int .i64 0),.lit (.slice none 0 0)] true 0):=by rw [hg1 _ (by omega) (by omega)]; simp (disch:=omega) only [gput_lt,gput_same]
      have a1:g1 (n+1)=some (.cells [.lit (.int .i64 0)] true 0):=by rw [hg1 _ (by omega) (by omega)]; simp
      have e1:g1 (n+1+1)=some (.cells [.lit (.int .i64 0)] true 0):=by rw [hg1 _ (by omega) (by omega)]; simp
      have o1:Hide (∀ a,a < n→g1 a=g a):=⟨fun a ha=>by rw [hg1 a (by omega) (by omega)]; simp (disch:=omega) only [gput_lt]⟩
      have HP1:=Hide.mk P1
      clear hg1 P1 hp1
      have HRW:=Hide.mk (read_w (p:=n+1+1+1) HA.out hs h1sv hcsv hn)
      generalize advM s 0=k0 at *
      iterate 14 (all_goals try (first | with_reducible refine splitI (fun h=>?_) (fun h=>?_) | with_reducible refine splitBI (fun h=>?_) (fun h=>?_) | simp (disch:=first | assumption | omega | (simp; done) | fail) [Tryd.results13, *]))
      refine WC.mono (HRW.out (20 * s.size+9) (by omega) 1 k0 _ _ HP1.out (by omega) (by omega) (by omega)) ?_
      rintro _ ⟨res,hrd,hend⟩
      have HR4:=HR3.out
      rw [hrd] at HR4
      have HRD:=Hide.mk hrd
      clear hrd HR3
      cases res with
      | err e k2 =>
        obtain ⟨g2,n2,rfl,hn2,hg2,hp2,hk2⟩:=hend
        dsimp only at HR4
        subst HR4
        have HG2:=Hide.mk hg2
        have q2:=(hg2 _ (by omega) (by omega)).trans q1
        have x2:=(hg2 _ (by omega) (by omega)).trans x1
        have a2:=(hg2 _ (by omega) (by omega)).trans a1
        have e2:=(hg2 _ (by omega) (by omega)).trans e1
        clear hg2
        iterate 14 (all_goals try (first | with_reducible refine splitI (fun h=>?_) (fun h=>?_) | with_reducible refine splitBI (fun h=>?_) (fun h=>?_) | simp (disch:=first | assumption | omega | (simp; done) | fail) [Tryd.results13, *]))
        unfold parB at hp2
        refine parse_panic q2 hp2 x2 a2 e2 (by omega) (by omega) (by omega) (by omega) (by omega) (by omega) (by omega) (by omega) (by omega) (by omega) (by omega) (by omega) (fun g3 n3 hn3 hg3 gx ga ge=>?_)
        have HG3:=Hide.mk hg3
        clear hg3
        iterate 4 (all_goals try simp (disch:=first | assumption | omega | (simp; done) | fail) [Tryd.results13, *])
        have hg3:=HG3.out
        refine ⟨_,_,_,rfl,by omega,fun a ha=>?_,FreshN.leaf (by omega)⟩
        rw [hg3 a (by omega) (by omega) (by omega) (by omega),HG2.out a (by omega) (by omega)]
        exact o1.out a ha
      | ok x k2 =>
        obtain ⟨cs,g2,n2,rfl,hn2,hg2,hp2,hk2,hfr⟩:=hend
        dsimp only at HR4
        have HR5:=Hide.mk HR4
        clear HR4
        have hsz:sizeN x≤1000000:=by
          have:=(read_size _).1 _ _ _ _ HP1.out.le HRD.out
          omega
        have HG2:=Hide.mk hg2
        have q2:=(hg2 _ (by omega) (by omega)).trans q1
        have x2:=(hg2 _ (by omega) (by omega)).trans x1
        have a2:=(hg2 _ (by omega) (by omega)).trans a1
        have e2:=(hg2 _ (by omega) (by omega)).trans e1
        have P2:PAt vs sv s (n+1+1+1) g2 n2 k2:=HP1.out.step (by omega) hg2 hp2 hk2
        have HP2:=Hide.mk P2
        clear hg2 P2
        unfold parB at hp2
        obtain ⟨op,kk,sv2,hcc,h1c⟩:=repN_one hfr.rep
        subst hcc
        have h1a:allOne [.lit (.int .u8 op),.lit (.int .i64 kk),sv2]=true:=by simp [h1c]
        have HFR:=Hide.mk hfr
        clear hfr
        by_cases hte:tokB s k2=⟨#[]⟩
        · rw [hte] at hp2
          have HR6:=HR5.out
          rw [if_neg (fun h=>h hte)] at HR6
          have HR7:=Hide.mk HR6
          clear HR6 HR5
          iterate 14 (all_goals try (first | with_reducible refine splitI (fun h=>?_) (fun h=>?_) | with_reducible refine splitBI (fun h=>?_) (fun h=>?_) | simp (disch:=first | assumption | omega | (simp; done) | fail) [Tryd.results13, *]))
          refine WC.mono (check_w vs x _ _ sv _ (by rw [gput_lt (by omega)]; exact HP2.out.ops) (by omega) (HSV.out.mono (by omega) (fun a ha=>by rw [gput_lt ha,HG2.out a (by omega) (by omega)]; exact o1.out a ha)) hn hsz (HFR.out.keep (n0:=n1) (Nat.le_refl _) (Nat.le_refl _) (fun a h1 h2=>gput_gt (by omega))).rep) ?_
          rintro _ rfl
          by_cases hck:checkM vs x=0
          · have HR8:=HR7.out
            rw [if_neg (fun h=>h hck)] at HR8
            subst HR8
            rw [hck]
            clear HR7 hck
            iterate 14 (all_goals try (first | with_reducible refine splitI (fun h=>?_) (fun h=>?_) | with_reducible refine splitBI (fun h=>?_) (fun h=>?_) | simp (disch:=first | assumption | omega | (simp; done) | fail) [Tryd.results13, *]))
            refine parse_ret ?_
            iterate 6 (all_goals try (simp (disch:=first | assumption | omega | (simp; done) | fail) [Tryd.results13, *]))
            refine ⟨_,_,_,rfl,by omega,fun a ha=>?_,HFR.out.keep (by omega) (by omega) (fun a h1 h2=>?_)⟩
            · simp (disch:=omega) only [gput_lt]
              rw [HG2.out a (by omega) (by omega)]
              exact o1.out a ha
            · simp (disch:=omega) only [gput_lt,gput_gt]
          · have HR8:=HR7.out
            rw [if_pos hck] at HR8
            subst HR8
            clear HR7
            generalize checkM vs x=cv at hck
            iterate 14 (all_goals try (first | with_reducible refine splitI (fun h=>?_) (fun h=>?_) | with_reducible refine splitBI (fun h=>?_) (fun h=>?_) | simp (disch:=first | assumption | omega | (simp; done) | fail) [Tryd.results13, *]))
            refine parse_ret ?_
            iterate 6 (all_goals try (simp (disch:=first | assumption | omega | (simp; done) | fail) [Tryd.results13, *]))
            refine ⟨_,_,_,rfl,by omega,fun a ha=>?_,FreshN.leaf (by omega)⟩
            simp (disch:=omega) only [gput_lt]
            rw [HG2.out a (by omega) (by omega)]
            exact o1.out a ha
        · have HR6:=HR5.out
          rw [if_pos hte] at HR6
          subst HR6
          clear HR5
          have hteI:¬tokB s k2=⟨#[]⟩:=hte
          iterate 14 (all_goals try (first | with_reducible refine splitI (fun h=>?_) (fun h=>?_) | with_reducible refine splitBI (fun h=>?_) (fun h=>?_) | simp (disch:=first | assumption | omega | (simp; done) | fail) [Tryd.results13, *]))
          refine WC.mono (refuse_w _ _ 4 _ rfl) ?_
          rintro _ rfl
          iterate 4 (all_goals try (simp (disch:=first | assumption | omega | (simp; done) | fail) [Tryd.results13, *]))
          refine parse_panic ((gput_gt (by omega)).trans q2) ((gput_gt (by omega)).trans hp2) gput_same ((gput_gt (by omega)).trans a2) ((gput_gt (by omega)).trans e2) (by omega) (by omega) (by omega) (by omega) (by omega) (by omega) (by omega) (by omega) (by omega) (by omega) (by omega) (by omega) (fun g3 n3 hn3 hg3 gx ga ge=>?_)
          have HG3:=Hide.mk hg3
          clear hg3
          iterate 4 (all_goals try simp (disch:=first | assumption | omega | (simp; done) | fail) [Tryd.results13, *])
          have hg3:=HG3.out
          refine ⟨_,_,_,rfl,by omega,fun a ha=>?_,FreshN.leaf (by omega)⟩
          rw [hg3 a (by omega) (by omega) (by omega) (by omega),gput_lt ha,HG2.out a (by omega) (by omega)]
          exact o1.out a ha
  · have e1:ret=(zeroN,0,checkVarsM vs):=by rw [← HRET.out,parseM,if_pos h0]
    subst e1
    generalize checkVarsM vs=cv at *
    iterate 12 (all_goals try (first | with_reducible refine splitI (fun h=>?_) (fun h=>?_) | with_reducible refine splitBI (fun h=>?_) (fun h=>?_) | simp (disch:=first | assumption | omega | (simp; done) | fail) [Tryd.results13, *]))
    refine ⟨_,_,_,rfl,by omega,fun a ha=>?_,FreshN.leaf (by omega)⟩
    simp (disch:=omega) only [gput_lt]
end Go.Ai
end
section
namespace Go.Ai
open Go.Proofs
set_option maxRecDepth 10000
set_option maxHeartbeats 4000000
def oneT:ByteArray:=⟨#[49]⟩
def unitN:NodeM:=.mk 0 1 []
theorem read_one (vs:List VarM) : readF vs oneT (20 * oneT.size+9) 1 (advM oneT 0)=some (.ok unitN 1):=by kernel_rfl
theorem check_one {vs:List VarM} (h:checkVarsM vs=0) : checkM vs unitN=0:=by
  unfold checkM
  rw [if_neg (fun e=>e h)]
  rfl
theorem parse_one (vs:List VarM) : parseM vs oneT=if checkVarsM vs=0 then (unitN,0,0) else (zeroN,0,checkVarsM vs):=by
  unfold parseM
  by_cases h:checkVarsM vs=0
  · rw [if_neg (fun e=>e h),if_pos h,if_neg (by decide),read_one]
    dsimp only
    rw [if_neg (fun e=>e (by kernel_rfl)),if_neg (fun e=>e (check_one h))]
  · rw [if_pos h,if_neg h]
theorem atoi_one:AtoiOK oneT:=by
  refine atoiOK_short (by decide) (fun s hs hd=>?_)
  have h1:oneT.size=1:=rfl
  unfold valB
  by_cases h0:s.size=0
  · rw [h0]; exact Nat.zero_le _
  · have e:s.size=1:=by omega
    have:=digit_in (hd 0 (by omega))
    rw [e]
    simp only [valN]
    omega
end Go.Ai
end
