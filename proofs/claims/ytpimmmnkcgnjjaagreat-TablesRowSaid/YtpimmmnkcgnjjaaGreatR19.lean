/- A small verified interpreter over names, its proofs, and what was proved with it. No condition. -/
import Derived.Test.YtpimmmnkcgnjjaaGreatR14
import Derived.Test.YtpimmmnkcgnjjaaGreatR18
import Derived.Test.YtpimmmnkcgnjjaaGreatR12
set_option linter.all false
set_option linter.deprecated false
section
namespace Go.Ai
open Go.Proofs
set_option maxRecDepth 10000
set_option maxHeartbeats 40000000
structure InQ (g:Nat→Option Blk) (n st inp out:Nat) (es:List Nat) (ev:AV) (ws:List (List Nat)) (wv:AV) (sb:List Nat) (sbv:AV) (eb:List (List Nat)) (ebv:AV) : Prop where
 i:InG g n st inp out es ev ws wv
 bs:∀ b∈sb,b < 256
 be:∀ w∈eb,∀ b∈w,b < 256
 s:RepB g n sb sbv
 e:ListB g n eb ebv
theorem InQ.mono {g g' : Nat→Option Blk} {n n' st inp out:Nat} {es:List Nat} {ev:AV} {ws:List (List Nat)} {wv:AV} {sb:List Nat} {sbv:AV} {eb:List (List Nat)} {ebv:AV} (h:InQ g n st inp out es ev ws wv sb sbv eb ebv) (hn:n≤n') (hg:∀ a,a < n→g' a=g a) : InQ g' n' st inp out es ev ws wv sb sbv eb ebv :=
 ⟨h.i.mono hn hg,h.bs,h.be,SliceV.mono hn hg h.s,h.e.mono hn hg⟩
theorem QTab_w {st inp out:Nat} (part:Bool) {es:List Nat} {ev:AV} {ws:List (List Nat)} {wv:AV} (ia ib ic:Int) {sb:List Nat} {eb:List (List Nat)} (full:Bool) (g:Nat→Option Blk) (n:Nat) {sbv ebv:AV} (h:InQ g n st inp out es ev ws wv sb sbv eb ebv) :
  ∃ (I:Nat) (O:Int) (M:MachM) (S E:List (List Int)) (L:List (List Int×List Int)),M=machOf st inp out part es∧M.inp=I∧M.out=O∧S=qSx M sb∧E=qEx M eb∧L=qLx M ws full S E∧TabP I O S E (rowsL I L)∧QOK M S E L∧WC 0 Tryz.prog 16 [.agg [.lit (.int .u8 st),.lit (.int .u8 inp),.lit (.int .u8 out),.lit (.bool part),ev,wv,.lit (.int .u8 ia),.lit (.int .u8 ib),.lit (.int .u8 ic),sbv,ebv,.lit (.bool full)]] ⟨.fn g,n⟩ fun r=>∃ sv e2 tv g' n',r=.ret (.agg [.lit (.int .i64 I),.lit (.int .i64 O),sv,e2,.lit (.int .i64 I),.lit (.int .i64 O),tv]) ⟨.fn g',n'⟩∧n≤n'∧(∀ b,b < n→g' b=g b)∧TabV g' n' S E (rowsL I L) sv e2 tv:=by
 have hM:=machOf_ok st inp out part es
 have hM3:(machOf st inp out part es).inp≤3:=by show 1+((inp % 3:Nat) : Int)≤3; omega
 have hI:(machOf st inp out part es).inp=((1+inp % 3:Nat) : Int):=by show 1+((inp % 3:Nat) : Int)=_; omega
 have hI3:1+inp % 3≤3:=by omega
 generalize 1+inp % 3=I at *
 have hq:=q_ok hM hM3 ws sb eb full
 refine ⟨I,_,_,_,_,_,rfl,hI,rfl,rfl,rfl,rfl,hq.tab hM hI rfl hI3,hq,WC.mono (QOf_w (part:=part) ia ib ic h.bs h.be full g n h.i sbv ebv h.s h.e) ?_⟩
 rintro _ ⟨sv,e2,tv,g',n',rfl,h1,h2,h3,h4,h5⟩
 rw [hI,Int.toNat_natCast] at h5
 refine ⟨sv,e2,tv,g',n',?_,h1,h2,⟨h3,h4,h5⟩⟩
 rw [hI]
theorem RowK.rep {g:Nat→Option Blk} {lo n:Nat} {r:Option (List Int)} {rv:AV} (h:RowK g lo n r rv) : RepW g n (r.getD []) rv:=by
 cases r with
 | none=>have h' : rv=.lit (.slice none 0 0):=h; rw [h']; exact .inl ⟨rfl,rfl,.inl rfl⟩
 | some r=>exact h.1.rep
theorem AnsK.rep {g:Nat→Option Blk} {lo n:Nat} {r:Option (List Int)} {rv:AV} (h:AnsK g lo n r rv) : RepW g n (r.getD []) rv:=by
 cases r with
 | none=>have h' : rv=.lit (.slice none 0 0):=h; rw [h']; exact .inl ⟨rfl,rfl,.inl rfl⟩
 | some r=>exact h.1.rep
theorem RowK.cap {g:Nat→Option Blk} {lo n:Nat} {r:Option (List Int)} {rv:AV} (h:RowK g lo n r rv) {H:Mem} {ev:Ev} {o:Oper} {e:TypeId} : capS Tryz.prog H ev o (some (.slice e)) (some rv)=.val (.lit (.int .i64 (r.getD []).length)) H:=by
 cases r with
 | none=>have h' : rv=.lit (.slice none 0 0):=h; rw [h']; exact capS_nil
 | some r =>
  rcases h.2 with ⟨h1,rfl⟩ | ⟨a,o,rfl⟩
  ·rw [Option.getD_some,h1]; exact capS_nil
  ·exact capS_sl
theorem rowUlen {T:List (List (Int×Int))} {w:List Int} : ∀ {E:List (List Int)} {r:List Int},(∀ e∈E,e.length≤300)→rowU T w E=some r→r.length≤300 * E.length
 | [],r,_,h=>by rw [rowU] at h; cases h; simp
 | e :: E,r,he,h=>by
  rw [rowU] at h
  cases hA:ansM T 0 (w++e) with
  | none=>rw [hA] at h; cases h
  | some u =>
   rw [hA] at h
   cases hR:rowU T w E with
   | none=>rw [hR] at h; cases h
   | some q =>
    rw [hR] at h
    cases h
    have h1:=rowUlen (fun e he'=>he e (by simp [he'])) hR
    have h2:=ansM_len _ _ _ hA
    have h3:=he e (by simp)
    rw [List.length_append] at h2
    simp only [List.length_append,List.length_drop,List.length_cons]
    omega
theorem tablesRow_w {st inp out:Nat} {part:Bool} {es:List Nat} {ev:AV} {ws:List (List Nat)} {wv:AV} (ia ib ic:Int) {sb:List Nat} {eb:List (List Nat)} {full:Bool} (g:Nat→Option Blk) (n:Nat) {sbv ebv:AV} (h:InQ g n st inp out es ev ws wv sb sbv eb ebv) {w:List Int} (xv:AV) (hx:RepW g n w xv) :
  WC 0 Tryz.prog 6 [.agg [.lit (.int .u8 st),.lit (.int .u8 inp),.lit (.int .u8 out),.lit (.bool part),ev,wv,.lit (.int .u8 ia),.lit (.int .u8 ib),.lit (.int .u8 ic),sbv,ebv,.lit (.bool full)],xv] ⟨.fn g,n⟩ fun r=>r=.ret (.lit (.bool true)) ⟨.fn g,n⟩:=by
 refine WC.drop1 rfl ?_
 have h1e:=h.i.se.one
 have h1w:=h.i.sw.choose_spec.1.one
 have h1s:=h.s.one
 have h1b:=h.e.choose_spec.1.one
 have hone:allOne [.lit (.int .u8 st),.lit (.int .u8 inp),.lit (.int .u8 out),.lit (.bool part),ev,wv,.lit (.int .u8 ia),.lit (.int .u8 ib),.lit (.int .u8 ic),sbv,ebv,.lit (.bool full)]=true:=by simp [h1e,h1w,h1s,h1b]
 have hlen:=@lenV Tryz.prog _ _ _ _ _ hx
 have HX:=Hide.mk hx
 by_cases hw3:w.length > 300
 ·have hw3I:(300:Int) < (w.length:Int):=by omega
  clear h hx
  refine WC.enterP (noO_ok _ _) hG pl6 Tryz.func6 rfl (by decide +kernel) (Nat.le_of_ble_eq_true (by kernel_rfl)) ?_
  iterate 8 (all_goals try (first | with_reducible refine splitI (fun h=>?_) (fun h=>?_) | with_reducible refine splitBI (fun h=>?_) (fun h=>?_) | simp (config:={ maxSteps:=1000000 }) (disch:=first | assumption | omega | (simp; done) | fail) [Tryz.results6, *]))
  exact ⟨show n≤n+1 by omega,fun b (hb:b < n)=>gput_lt hb⟩
 ·have hw3I:¬(300:Int) < (w.length:Int):=by omega
  have HQ:=Hide.mk (fun (gX:Nat→Option Blk) (n2:Nat) (hn:n≤n2) (hX:∀ b,b < n→gX b=g b)=>QTab_w part ia ib ic full gX n2 (h.mono hn hX))
  clear h hx
  refine WC.enterP (noO_ok _ _) hG pl6 Tryz.func6 rfl (by decide +kernel) (Nat.le_of_ble_eq_true (by kernel_rfl)) ?_
  iterate 8 (all_goals try (first | with_reducible refine splitI (fun h=>?_) (fun h=>?_) | with_reducible refine splitBI (fun h=>?_) (fun h=>?_) | simp (config:={ maxSteps:=1000000 }) (disch:=first | assumption | omega | (simp; done) | fail) [Tryz.results6, *]))
  obtain ⟨I,O,M,S,E,L,hM,hMI,hMO,hS,hE,hL,hp,hq,hw⟩:=HQ.out (gput g n (some (.cells [.lit (.int .u8 st),.lit (.int .u8 inp),.lit (.int .u8 out),.lit (.bool part),ev,wv,.lit (.int .u8 ia),.lit (.int .u8 ib),.lit (.int .u8 ic),sbv,ebv,.lit (.bool full)] true 0))) (n+1) (by omega) (fun b hb=>gput_lt hb)
  clear HQ hM hMI hMO hS hE hL hq
  generalize rowsL I L=T at *
  refine WC.mono hw ?_
  rintro _ ⟨sv,e2,tv,g1,n1,rfl,hn1,hg1,htv⟩
  have h1sv:=htv.s.one
  have h1e2:=htv.e.one
  have h1tv:=htv.t.choose_spec.1.one
  have hone2:allOne [.lit (.int .i64 I),.lit (.int .i64 O),sv,e2,.lit (.int .i64 I),.lit (.int .i64 O),tv]=true:=by simp [h1sv,h1e2,h1tv]
  have hlenE:=@lenV Tryz.prog _ _ _ _ _ htv.e.choose_spec.1
  have HG1:Hide (∀ b,b < n→g1 b=g b):=⟨fun b hb=>(hg1 b (by omega)).trans (gput_lt hb)⟩
  have hgn1:=(hg1 n (by omega)).trans gput_eq
  have HTV:=Hide.mk htv
  have HP:=Hide.mk hp
  have hEl:=hp.el
  have hi1:=hp.i1
  have hi2:=hp.i2
  clear hw hg1 htv
  iterate 8 (all_goals try (first | with_reducible refine splitI (fun h=>?_) (fun h=>?_) | with_reducible refine splitBI (fun h=>?_) (fun h=>?_) | simp (config:={ maxSteps:=1000000 }) (disch:=first | assumption | omega | (simp; done) | fail) [Tryz.results6, *]))
  refine WC.mono (TRow_w HP.out (w:=w) (by omega) _ _ sv e2 tv xv (HTV.out.mono (by omega) fun b hb=>gput_lt hb) (SliceV.mono (by omega) (fun b hb=>(gput_lt (by omega)).trans (HG1.out b hb)) HX.out)) ?_
  rintro _ ⟨rv,bb,g2,n2,rfl,hn2,hg2,hres⟩
  have HG2:Hide (∀ b,b < n1→g2 b=g1 b):=⟨fun b hb=>(hg2 b (by omega)).trans (gput_lt hb)⟩
  have hgt2:=(hg2 n1 (by omega)).trans gput_eq
  have HRES:=Hide.mk hres
  clear hg2 hres
  cases bb
  rotate_left
  ·iterate 8 (all_goals try (first | with_reducible refine splitI (fun h=>?_) (fun h=>?_) | with_reducible refine splitBI (fun h=>?_) (fun h=>?_) | simp (config:={ maxSteps:=1000000 }) (disch:=first | assumption | omega | (simp; done) | fail) [Tryz.results6, *]))
   refine LX.cut (K:=exitK 0 fun gf gN nc=>g2=gN∧n2=nc∧gf 1=some xv∧gf 2=some (.ptr n 0)∧gf 5=some (.ptr n1 0)∧gf 6=some rv∧gf 8=some (.lit (.int .i64 (rowErr I E w)))∧gf 9=some (.lit (.int .i64 0))∧gf 10=some (.lit (.int .i64 (longM E:Nat)))∧gf 7=some (.lit (.bool true))) ?_ ?_
   ·refine LX.ind (fun m gf H'=>∃ k:Nat,k≤E.length∧m=E.length - k∧H'=⟨.fn g2,n2⟩∧gf 1=some xv∧gf 2=some (.ptr n 0)∧gf 5=some (.ptr n1 0)∧gf 6=some rv∧gf 8=some (.lit (.int .i64 (rowErr I E w)))∧gf 9=some (.lit (.int .i64 0))∧gf 10=some (.lit (.int .i64 (longM (E.take k) : Nat)))∧gf 7=some (.lit (.bool true))∧gf 11=some (.lit (.int .i64 k))) (m0:=E.length) ?_ ?_
    ·exact ⟨0,Nat.zero_le _,rfl,rfl,by simp [*],by simp [*],by simp [*],by simp [*],by simp [*],by simp [*],by simp [longM],by simp [*],by simp⟩
    rintro m gf H' ⟨k,hk,rfl,rfl,w1,w2,w5,w6,w8,w9,w10,w7,w11⟩ ih
    refine LX.roundP (noO_ok _ _) hG pl6 (by decide +kernel) ?_
    by_cases hlt:k < E.length
    ·have hltI:(k:Int) < (E.length:Int):=by omega
     obtain ⟨aE,oE,qe,haE,hiaE,hcE,hqe⟩:=HTV.out.e.listV.at hlt
     rw [← HG2.out aE haE] at hcE
     have hlenq:=@lenV Tryz.prog _ _ _ _ _ hqe
     have HLM:Hide (longM (E.take (k+1))=max (longM (E.take k)) (E[k]).length):=⟨by rw [take_snoc hlt,longM_snoc]⟩
     have hel:=(HP.out.ew _ (List.getElem_mem hlt)).2.1
     clear hqe
     generalize E[k]=e at *
     iterate 8 (all_goals try (first | with_reducible refine splitI (fun h=>?_) (fun h=>?_) | with_reducible refine splitBI (fun h=>?_) (fun h=>?_) | simp (config:={ maxSteps:=1000000 }) (disch:=first | assumption | omega | (simp; done) | fail) [Tryz.results6, *]))
     refine ih.out (E.length - (k+1)) _ _ (by omega) ⟨k+1,by omega,rfl,rfl,by simp [*],by simp [*],by simp [*],by simp [*],by simp [*],by simp [*],?_,by simp [*],by simp⟩
     rw [HLM.out]
     by_cases hm:longM (E.take k) < e.length
     ·rw [if_pos hm,Nat.max_eq_right (by omega)]; simp
     ·rw [if_neg hm,Nat.max_eq_left (by omega)]; simp
    ·have hltI:¬(k:Int) < (E.length:Int):=by omega
     rw [List.take_of_length_le (by omega)] at w10
     iterate 8 (all_goals try (first | with_reducible refine splitI (fun h=>?_) (fun h=>?_) | with_reducible refine splitBI (fun h=>?_) (fun h=>?_) | simp (config:={ maxSteps:=1000000 }) (disch:=first | assumption | omega | (simp; done) | fail) [Tryz.results6, *]))
   rintro _ ⟨gf,_,_,rfl,rfl,rfl,w1,w2,w5,w6,w8,w9,w10,w7⟩
   obtain ⟨w0,hw0⟩ : ∃ w0:Int,w0=if w.length+longM E > 256 then 3 else 0:=⟨_,rfl⟩
   have hlE:longM E≤300:=longM_leT fun e he=>(HP.out.ew e he).2.1
   have hP0:(256:Int) < (w.length:Int)+(longM E:Int)∨¬(256:Int) < (w.length:Int)+(longM E:Int):=by omega
   have HW0:=Hide.mk hw0
   have hv:Hide (w0=3∨w0=0):=⟨by rw [hw0]; split <;> simp⟩
   clear hw0
   rcases hP0 with hP | hP
   rotate_left
   have hw0v:w0=0:=by rw [HW0.out,if_neg (by omega)]
   rotate_left
   have hw0v:w0=3:=by rw [HW0.out,if_pos (by omega)]
   all_goals
    iterate 8 (all_goals try (first | with_reducible refine splitI (fun h=>?_) (fun h=>?_) | with_reducible refine splitBI (fun h=>?_) (fun h=>?_) | simp (config:={ maxSteps:=1000000 }) (disch:=first | assumption | omega | (simp; done) | fail) [Tryz.results6, *]))
    refine LX.cut (K:=exitK 2 fun gf gN nc=>g2=gN∧n2=nc∧gf 1=some xv∧gf 2=some (.ptr n 0)∧gf 5=some (.ptr n1 0)∧gf 6=some rv∧gf 8=some (.lit (.int .i64 (rowErr I E w)))∧gf 9=some (.lit (.int .i64 (rowErr I E w)))∧gf 7=some (.lit (.bool true))) ?_ ?_
    rotate_left
    ·rintro _ ⟨gf,_,_,rfl,rfl,rfl,w1,w2,w5,w6,w8,w9,w7⟩
     rcases HRES.out with ⟨er,eb,e3⟩ | ⟨er,eb,hrk⟩
     ·cases eb
     ·rw [er] at w8 w9
      have HIN:Hide (inW w I=true):=⟨by
       unfold rowErr at er
       split at er
       ·cases er
       ·split at er
        ·cases er
        ·rename_i h
         cases h2:inW w I with
         | true=>rfl
         | false=>exact absurd h2 h⟩
      have HRT:=Hide.mk (RowT_w (O:=O) HP.out.t0 HP.out.ok (w:=w) (E:=E) (by omega) (by omega) HIN.out HP.out.ew sv h1sv g2 n2 e2 tv xv (HTV.out.e.listV.mono (by omega) HG2.out) (HTV.out.t.mono (by omega) HG2.out) (SliceV.mono (by omega) (fun b hb=>(HG2.out b (by omega)).trans (HG1.out b hb)) HX.out))
      rw [← eb] at HRT
      have HRK:=Hide.mk hrk
      have HRL:Hide ((rowU T w E).getD []=[]∨((rowU T w E).getD []).length≤6000):=⟨by
       cases hU:rowU T w E with
       | none=>exact .inl rfl
       | some r=>right; have:=rowUlen (fun e he=>(HP.out.ew e he).2.1) hU; rw [Option.getD_some]; omega⟩
      have hlenR:=@lenV Tryz.prog _ _ _ _ _ hrk.rep
      have hcapR:=@RowK.cap _ _ _ _ _ hrk
      have hrl6:((rowU T w E).getD []).length≤6000:=by
       rcases HRL.out with h | h
       ·rw [h]; simp
       ·exact h
      clear eb hrk
      generalize rowU T w E=RU at *
      iterate 8 (all_goals try (first | with_reducible refine splitI (fun h=>?_) (fun h=>?_) | with_reducible refine splitBI (fun h=>?_) (fun h=>?_) | simp (config:={ maxSteps:=1000000 }) (disch:=first | assumption | omega | (simp; done) | fail) [Tryz.results6, *]))
      refine WC.mono HRT.out ?_
      rintro _ ⟨rv2,g3,n3,rfl,hn3,hg3,hak⟩
      have HG3:=Hide.mk hg3
      have HSM:=Hide.mk (rsame_w (RU.getD []) (RU.getD []) (by omega) (by omega) g3 n3 rv rv2 (SliceV.mono (by omega) hg3 HRK.out.rep) hak.rep)
      simp only [decide_true] at HSM
      clear hg3 hak HRT
      iterate 8 (all_goals try (first | with_reducible refine splitI (fun h=>?_) (fun h=>?_) | with_reducible refine splitBI (fun h=>?_) (fun h=>?_) | simp (config:={ maxSteps:=1000000 }) (disch:=first | assumption | omega | (simp; done) | fail) [Tryz.results6, *]))
      refine WC.mono HSM.out ?_
      rintro _ rfl
      iterate 8 (all_goals try (first | with_reducible refine splitI (fun h=>?_) (fun h=>?_) | with_reducible refine splitBI (fun h=>?_) (fun h=>?_) | simp (config:={ maxSteps:=1000000 }) (disch:=first | assumption | omega | (simp; done) | fail) [Tryz.results6, *]))
      refine WC.mono (lives_w _) ?_
      rintro _ rfl
      iterate 8 (all_goals try (first | with_reducible refine splitI (fun h=>?_) (fun h=>?_) | with_reducible refine splitBI (fun h=>?_) (fun h=>?_) | simp (config:={ maxSteps:=1000000 }) (disch:=first | assumption | omega | (simp; done) | fail) [Tryz.results6, *]))
      exact ⟨show n≤n3 by omega,fun b (hb:b < n)=>show g3 b=g b by rw [HG3.out b (by omega),HG2.out b (by omega)]; exact HG1.out b hb⟩
    refine LX.ind (fun m gf H'=>∃ k:Nat,k≤w.length∧m=w.length - k∧H'=⟨.fn g2,n2⟩∧gf 1=some xv∧gf 2=some (.ptr n 0)∧gf 5=some (.ptr n1 0)∧gf 6=some rv∧gf 8=some (.lit (.int .i64 (rowErr I E w)))∧gf 9=some (.lit (.int .i64 (if inW (w.take k) I=false then 1 else w0)))∧gf 7=some (.lit (.bool true))∧gf 12=some (.lit (.int .i64 k))∧Hide (w.length≤256∨k=0)) (m0:=w.length) ?_ ?_
    ·exact ⟨0,Nat.zero_le _,rfl,rfl,by simp [*],by simp [*],by simp [*],by simp [*],by simp [*],by simp [inW,hw0v, *],by simp [*],by simp,⟨.inr rfl⟩⟩
    clear w1 w2 w5 w6 w8 w9 w10 w7
    rintro m gf H' ⟨k,hk,rfl,rfl,w1,w2,w5,w6,w8,w9,w7,w12,HK0⟩ ih
    refine LX.roundP (noO_ok _ _) hG pl6 (by decide +kernel) ?_
    by_cases hlt:k < w.length
    ·have hltI:(k:Int) < (w.length:Int):=by omega
     by_cases hl6:w.length≤256
     ·have hl6I:(w.length:Int)≤256:=by omega
      obtain ⟨a2,o2,ha2,hia2,hc2⟩:=RepW.at HX.out hlt
      rw [← HG1.out a2 ha2,← HG2.out a2 (by omega)] at hc2
      have HTK:Hide (inW (w.take (k+1)) I=(inW (w.take k) I && decide (0≤w[k]∧w[k] < (I:Int)))):=⟨by unfold inW; rw [take_snoc hlt,List.all_append]; simp⟩
      generalize w[k]=x at *
      by_cases hx0:x < 0
      ·have HB:Hide (inW (w.take (k+1)) I=false):=⟨by rw [HTK.out,decide_eq_false (by omega),Bool.and_false]⟩
       iterate 8 (all_goals try (first | with_reducible refine splitI (fun h=>?_) (fun h=>?_) | with_reducible refine splitBI (fun h=>?_) (fun h=>?_) | simp (config:={ maxSteps:=1000000 }) (disch:=first | assumption | omega | (simp; done) | fail) [Tryz.results6, *]))
       exact ih.out (w.length - (k+1)) _ _ (by omega) ⟨k+1,by omega,rfl,rfl,by simp [*],by simp [*],by simp [*],by simp [*],by simp [*],by rw [if_pos HB.out]; simp,by simp [*],by simp,⟨.inl hl6⟩⟩
      ·by_cases hx1:(I:Int)≤x
       ·have HB:Hide (inW (w.take (k+1)) I=false):=⟨by rw [HTK.out,decide_eq_false (by omega),Bool.and_false]⟩
        iterate 8 (all_goals try (first | with_reducible refine splitI (fun h=>?_) (fun h=>?_) | with_reducible refine splitBI (fun h=>?_) (fun h=>?_) | simp (config:={ maxSteps:=1000000 }) (disch:=first | assumption | omega | (simp; done) | fail) [Tryz.results6, *]))
        exact ih.out (w.length - (k+1)) _ _ (by omega) ⟨k+1,by omega,rfl,rfl,by simp [*],by simp [*],by simp [*],by simp [*],by simp [*],by rw [if_pos HB.out]; simp,by simp [*],by simp,⟨.inl hl6⟩⟩
       ·have HB:Hide (inW (w.take (k+1)) I=inW (w.take k) I):=⟨by rw [HTK.out,decide_eq_true (by omega),Bool.and_true]⟩
        iterate 8 (all_goals try (first | with_reducible refine splitI (fun h=>?_) (fun h=>?_) | with_reducible refine splitBI (fun h=>?_) (fun h=>?_) | simp (config:={ maxSteps:=1000000 }) (disch:=first | assumption | omega | (simp; done) | fail) [Tryz.results6, *]))
        exact ih.out (w.length - (k+1)) _ _ (by omega) ⟨k+1,by omega,rfl,rfl,by simp [*],by simp [*],by simp [*],by simp [*],by simp [*],by rw [HB.out]; simp [*],by simp [*],by simp,⟨.inl hl6⟩⟩
     ·have hl6I:¬(w.length:Int)≤256:=by omega
      have HE:Hide ((if inW (w.take k) I=false then 1 else w0)=rowErr I E w):=⟨by
       have hk0:k=0:=HK0.out.resolve_left hl6
       rw [hk0,if_neg (by simp [inW]),HW0.out,if_pos (by omega)]
       unfold rowErr
       rw [if_pos (by omega)]⟩
      rw [HE.out] at w9
      iterate 8 (all_goals try (first | with_reducible refine splitI (fun h=>?_) (fun h=>?_) | with_reducible refine splitBI (fun h=>?_) (fun h=>?_) | simp (config:={ maxSteps:=1000000 }) (disch:=first | assumption | omega | (simp; done) | fail) [Tryz.results6, *]))
    ·have hltI:¬(k:Int) < (w.length:Int):=by omega
     have HE:Hide ((if inW (w.take k) I=false then 1 else w0)=rowErr I E w):=⟨by
      have hl6:w.length≤256:=by rcases HK0.out with h | h <;> omega
      rw [List.take_of_length_le (by omega),HW0.out]
      unfold rowErr
      rw [if_neg (show ¬w.length > 256 by omega)]⟩
     rw [HE.out] at w9
     iterate 8 (all_goals try (first | with_reducible refine splitI (fun h=>?_) (fun h=>?_) | with_reducible refine splitBI (fun h=>?_) (fun h=>?_) | simp (config:={ maxSteps:=1000000 }) (disch:=first | assumption | omega | (simp; done) | fail) [Tryz.results6, *]))
  ·iterate 8 (all_goals try (first | with_reducible refine splitI (fun h=>?_) (fun h=>?_) | with_reducible refine splitBI (fun h=>?_) (fun h=>?_) | simp (config:={ maxSteps:=1000000 }) (disch:=first | assumption | omega | (simp; done) | fail) [Tryz.results6, *]))
   refine LX.cut (K:=exitK 0 fun gf gN nc=>g2=gN∧n2=nc∧gf 1=some xv∧gf 2=some (.ptr n 0)∧gf 5=some (.ptr n1 0)∧gf 6=some rv∧gf 8=some (.lit (.int .i64 (rowErr I E w)))∧gf 9=some (.lit (.int .i64 0))∧gf 10=some (.lit (.int .i64 (longM E:Nat)))∧gf 7=some (.lit (.bool false))) ?_ ?_
   ·refine LX.ind (fun m gf H'=>∃ k:Nat,k≤E.length∧m=E.length - k∧H'=⟨.fn g2,n2⟩∧gf 1=some xv∧gf 2=some (.ptr n 0)∧gf 5=some (.ptr n1 0)∧gf 6=some rv∧gf 8=some (.lit (.int .i64 (rowErr I E w)))∧gf 9=some (.lit (.int .i64 0))∧gf 10=some (.lit (.int .i64 (longM (E.take k) : Nat)))∧gf 7=some (.lit (.bool false))∧gf 11=some (.lit (.int .i64 k))) (m0:=E.length) ?_ ?_
    ·exact ⟨0,Nat.zero_le _,rfl,rfl,by simp [*],by simp [*],by simp [*],by simp [*],by simp [*],by simp [*],by simp [longM],by simp [*],by simp⟩
    rintro m gf H' ⟨k,hk,rfl,rfl,w1,w2,w5,w6,w8,w9,w10,w7,w11⟩ ih
    refine LX.roundP (noO_ok _ _) hG pl6 (by decide +kernel) ?_
    by_cases hlt:k < E.length
    ·have hltI:(k:Int) < (E.length:Int):=by omega
     obtain ⟨aE,oE,qe,haE,hiaE,hcE,hqe⟩:=HTV.out.e.listV.at hlt
     rw [← HG2.out aE haE] at hcE
     have hlenq:=@lenV Tryz.prog _ _ _ _ _ hqe
     have HLM:Hide (longM (E.take (k+1))=max (longM (E.take k)) (E[k]).length):=⟨by rw [take_snoc hlt,longM_snoc]⟩
     have hel:=(HP.out.ew _ (List.getElem_mem hlt)).2.1
     clear hqe
     generalize E[k]=e at *
     iterate 8 (all_goals try (first | with_reducible refine splitI (fun h=>?_) (fun h=>?_) | with_reducible refine splitBI (fun h=>?_) (fun h=>?_) | simp (config:={ maxSteps:=1000000 }) (disch:=first | assumption | omega | (simp; done) | fail) [Tryz.results6, *]))
     refine ih.out (E.length - (k+1)) _ _ (by omega) ⟨k+1,by omega,rfl,rfl,by simp [*],by simp [*],by simp [*],by simp [*],by simp [*],by simp [*],?_,by simp [*],by simp⟩
     rw [HLM.out]
     by_cases hm:longM (E.take k) < e.length
     ·rw [if_pos hm,Nat.max_eq_right (by omega)]; simp
     ·rw [if_neg hm,Nat.max_eq_left (by omega)]; simp
    ·have hltI:¬(k:Int) < (E.length:Int):=by omega
     rw [List.take_of_length_le (by omega)] at w10
     iterate 8 (all_goals try (first | with_reducible refine splitI (fun h=>?_) (fun h=>?_) | with_reducible refine splitBI (fun h=>?_) (fun h=>?_) | simp (config:={ maxSteps:=1000000 }) (disch:=first | assumption | omega | (simp; done) | fail) [Tryz.results6, *]))
   rintro _ ⟨gf,_,_,rfl,rfl,rfl,w1,w2,w5,w6,w8,w9,w10,w7⟩
   obtain ⟨w0,hw0⟩ : ∃ w0:Int,w0=if w.length+longM E > 256 then 3 else 0:=⟨_,rfl⟩
   have hlE:longM E≤300:=longM_leT fun e he=>(HP.out.ew e he).2.1
   have hP0:(256:Int) < (w.length:Int)+(longM E:Int)∨¬(256:Int) < (w.length:Int)+(longM E:Int):=by omega
   have HW0:=Hide.mk hw0
   have hv:Hide (w0=3∨w0=0):=⟨by rw [hw0]; split <;> simp⟩
   clear hw0
   rcases hP0 with hP | hP
   rotate_left
   have hw0v:w0=0:=by rw [HW0.out,if_neg (by omega)]
   rotate_left
   have hw0v:w0=3:=by rw [HW0.out,if_pos (by omega)]
   all_goals
    iterate 8 (all_goals try (first | with_reducible refine splitI (fun h=>?_) (fun h=>?_) | with_reducible refine splitBI (fun h=>?_) (fun h=>?_) | simp (config:={ maxSteps:=1000000 }) (disch:=first | assumption | omega | (simp; done) | fail) [Tryz.results6, *]))
    refine LX.cut (K:=exitK 2 fun gf gN nc=>g2=gN∧n2=nc∧gf 1=some xv∧gf 2=some (.ptr n 0)∧gf 5=some (.ptr n1 0)∧gf 6=some rv∧gf 8=some (.lit (.int .i64 (rowErr I E w)))∧gf 9=some (.lit (.int .i64 (rowErr I E w)))∧gf 7=some (.lit (.bool false))) ?_ ?_
    rotate_left
    ·rintro _ ⟨gf,_,_,rfl,rfl,rfl,w1,w2,w5,w6,w8,w9,w7⟩
     rcases HRES.out with ⟨er,eb,e3⟩ | ⟨er,eb,hrk⟩
     ·subst e3
      iterate 8 (all_goals try (first | with_reducible refine splitI (fun h=>?_) (fun h=>?_) | with_reducible refine splitBI (fun h=>?_) (fun h=>?_) | simp (config:={ maxSteps:=1000000 }) (disch:=first | assumption | omega | (simp; done) | fail) [Tryz.results6, *]))
      refine WC.mono (lives_w _) ?_
      rintro _ rfl
      iterate 8 (all_goals try (first | with_reducible refine splitI (fun h=>?_) (fun h=>?_) | with_reducible refine splitBI (fun h=>?_) (fun h=>?_) | simp (config:={ maxSteps:=1000000 }) (disch:=first | assumption | omega | (simp; done) | fail) [Tryz.results6, *]))
      exact ⟨show n≤n2 by omega,fun b (hb:b < n)=>show g2 b=g b by rw [HG2.out b (by omega)]; exact HG1.out b hb⟩
     ·rw [er] at w8 w9
      have HIN:Hide (inW w I=true):=⟨by
       unfold rowErr at er
       split at er
       ·cases er
       ·split at er
        ·cases er
        ·rename_i h
         cases h2:inW w I with
         | true=>rfl
         | false=>exact absurd h2 h⟩
      have HRT:=Hide.mk (RowT_w (O:=O) HP.out.t0 HP.out.ok (w:=w) (E:=E) (by omega) (by omega) HIN.out HP.out.ew sv h1sv g2 n2 e2 tv xv (HTV.out.e.listV.mono (by omega) HG2.out) (HTV.out.t.mono (by omega) HG2.out) (SliceV.mono (by omega) (fun b hb=>(HG2.out b (by omega)).trans (HG1.out b hb)) HX.out))
      rw [← eb] at HRT
      have HRK:=Hide.mk hrk
      have HRL:Hide ((rowU T w E).getD []=[]∨((rowU T w E).getD []).length≤6000):=⟨by
       cases hU:rowU T w E with
       | none=>exact .inl rfl
       | some r=>right; have:=rowUlen (fun e he=>(HP.out.ew e he).2.1) hU; rw [Option.getD_some]; omega⟩
      have hlenR:=@lenV Tryz.prog _ _ _ _ _ hrk.rep
      have hcapR:=@RowK.cap _ _ _ _ _ hrk
      have hrl6:((rowU T w E).getD []).length≤6000:=by
       rcases HRL.out with h | h
       ·rw [h]; simp
       ·exact h
      clear eb hrk
      generalize rowU T w E=RU at *
      iterate 8 (all_goals try (first | with_reducible refine splitI (fun h=>?_) (fun h=>?_) | with_reducible refine splitBI (fun h=>?_) (fun h=>?_) | simp (config:={ maxSteps:=1000000 }) (disch:=first | assumption | omega | (simp; done) | fail) [Tryz.results6, *]))
      refine WC.mono HRT.out ?_
      rintro _ ⟨rv2,g3,n3,rfl,hn3,hg3,hak⟩
      have HG3:=Hide.mk hg3
      have HSM:=Hide.mk (rsame_w (RU.getD []) (RU.getD []) (by omega) (by omega) g3 n3 rv rv2 (SliceV.mono (by omega) hg3 HRK.out.rep) hak.rep)
      simp only [decide_true] at HSM
      clear hg3 hak HRT
      iterate 8 (all_goals try (first | with_reducible refine splitI (fun h=>?_) (fun h=>?_) | with_reducible refine splitBI (fun h=>?_) (fun h=>?_) | simp (config:={ maxSteps:=1000000 }) (disch:=first | assumption | omega | (simp; done) | fail) [Tryz.results6, *]))
      refine WC.mono HSM.out ?_
      rintro _ rfl
      iterate 8 (all_goals try (first | with_reducible refine splitI (fun h=>?_) (fun h=>?_) | with_reducible refine splitBI (fun h=>?_) (fun h=>?_) | simp (config:={ maxSteps:=1000000 }) (disch:=first | assumption | omega | (simp; done) | fail) [Tryz.results6, *]))
      refine WC.mono (lives_w _) ?_
      rintro _ rfl
      iterate 8 (all_goals try (first | with_reducible refine splitI (fun h=>?_) (fun h=>?_) | with_reducible refine splitBI (fun h=>?_) (fun h=>?_) | simp (config:={ maxSteps:=1000000 }) (disch:=first | assumption | omega | (simp; done) | fail) [Tryz.results6, *]))
      exact ⟨show n≤n3 by omega,fun b (hb:b < n)=>show g3 b=g b by rw [HG3.out b (by omega),HG2.out b (by omega)]; exact HG1.out b hb⟩
    refine LX.ind (fun m gf H'=>∃ k:Nat,k≤w.length∧m=w.length - k∧H'=⟨.fn g2,n2⟩∧gf 1=some xv∧gf 2=some (.ptr n 0)∧gf 5=some (.ptr n1 0)∧gf 6=some rv∧gf 8=some (.lit (.int .i64 (rowErr I E w)))∧gf 9=some (.lit (.int .i64 (if inW (w.take k) I=false then 1 else w0)))∧gf 7=some (.lit (.bool false))∧gf 12=some (.lit (.int .i64 k))∧Hide (w.length≤256∨k=0)) (m0:=w.length) ?_ ?_
    ·exact ⟨0,Nat.zero_le _,rfl,rfl,by simp [*],by simp [*],by simp [*],by simp [*],by simp [*],by simp [inW,hw0v, *],by simp [*],by simp,⟨.inr rfl⟩⟩
    clear w1 w2 w5 w6 w8 w9 w10 w7
    rintro m gf H' ⟨k,hk,rfl,rfl,w1,w2,w5,w6,w8,w9,w7,w12,HK0⟩ ih
    refine LX.roundP (noO_ok _ _) hG pl6 (by decide +kernel) ?_
    by_cases hlt:k < w.length
    ·have hltI:(k:Int) < (w.length:Int):=by omega
     by_cases hl6:w.length≤256
     ·have hl6I:(w.length:Int)≤256:=by omega
      obtain ⟨a2,o2,ha2,hia2,hc2⟩:=RepW.at HX.out hlt
      rw [← HG1.out a2 ha2,← HG2.out a2 (by omega)] at hc2
      have HTK:Hide (inW (w.take (k+1)) I=(inW (w.take k) I && decide (0≤w[k]∧w[k] < (I:Int)))):=⟨by unfold inW; rw [take_snoc hlt,List.all_append]; simp⟩
      generalize w[k]=x at *
      by_cases hx0:x < 0
      ·have HB:Hide (inW (w.take (k+1)) I=false):=⟨by rw [HTK.out,decide_eq_false (by omega),Bool.and_false]⟩
       iterate 8 (all_goals try (first | with_reducible refine splitI (fun h=>?_) (fun h=>?_) | with_reducible refine splitBI (fun h=>?_) (fun h=>?_) | simp (config:={ maxSteps:=1000000 }) (disch:=first | assumption | omega | (simp; done) | fail) [Tryz.results6, *]))
       exact ih.out (w.length - (k+1)) _ _ (by omega) ⟨k+1,by omega,rfl,rfl,by simp [*],by simp [*],by simp [*],by simp [*],by simp [*],by rw [if_pos HB.out]; simp,by simp [*],by simp,⟨.inl hl6⟩⟩
      ·by_cases hx1:(I:Int)≤x
       ·have HB:Hide (inW (w.take (k+1)) I=false):=⟨by rw [HTK.out,decide_eq_false (by omega),Bool.and_false]⟩
        iterate 8 (all_goals try (first | with_reducible refine splitI (fun h=>?_) (fun h=>?_) | with_reducible refine splitBI (fun h=>?_) (fun h=>?_) | simp (config:={ maxSteps:=1000000 }) (disch:=first | assumption | omega | (simp; done) | fail) [Tryz.results6, *]))
        exact ih.out (w.length - (k+1)) _ _ (by omega) ⟨k+1,by omega,rfl,rfl,by simp [*],by simp [*],by simp [*],by simp [*],by simp [*],by rw [if_pos HB.out]; simp,by simp [*],by simp,⟨.inl hl6⟩⟩
       ·have HB:Hide (inW (w.take (k+1)) I=inW (w.take k) I):=⟨by rw [HTK.out,decide_eq_true (by omega),Bool.and_true]⟩
        iterate 8 (all_goals try (first | with_reducible refine splitI (fun h=>?_) (fun h=>?_) | with_reducible refine splitBI (fun h=>?_) (fun h=>?_) | simp (config:={ maxSteps:=1000000 }) (disch:=first | assumption | omega | (simp; done) | fail) [Tryz.results6, *]))
        exact ih.out (w.length - (k+1)) _ _ (by omega) ⟨k+1,by omega,rfl,rfl,by simp [*],by simp [*],by simp [*],by simp [*],by simp [*],by rw [HB.out]; simp [*],by simp [*],by simp,⟨.inl hl6⟩⟩
     ·have hl6I:¬(w.length:Int)≤256:=by omega
      have HE:Hide ((if inW (w.take k) I=false then 1 else w0)=rowErr I E w):=⟨by
       have hk0:k=0:=HK0.out.resolve_left hl6
       rw [hk0,if_neg (by simp [inW]),HW0.out,if_pos (by omega)]
       unfold rowErr
       rw [if_pos (by omega)]⟩
      rw [HE.out] at w9
      iterate 8 (all_goals try (first | with_reducible refine splitI (fun h=>?_) (fun h=>?_) | with_reducible refine splitBI (fun h=>?_) (fun h=>?_) | simp (config:={ maxSteps:=1000000 }) (disch:=first | assumption | omega | (simp; done) | fail) [Tryz.results6, *]))
    ·have hltI:¬(k:Int) < (w.length:Int):=by omega
     have HE:Hide ((if inW (w.take k) I=false then 1 else w0)=rowErr I E w):=⟨by
      have hl6:w.length≤256:=by rcases HK0.out with h | h <;> omega
      rw [List.take_of_length_le (by omega),HW0.out]
      unfold rowErr
      rw [if_neg (show ¬w.length > 256 by omega)]⟩
     rw [HE.out] at w9
     iterate 8 (all_goals try (first | with_reducible refine splitI (fun h=>?_) (fun h=>?_) | with_reducible refine splitBI (fun h=>?_) (fun h=>?_) | simp (config:={ maxSteps:=1000000 }) (disch:=first | assumption | omega | (simp; done) | fail) [Tryz.results6, *]))
end Go.Ai
end
