/- A small verified interpreter over names, its proofs, and what was proved with it. No condition. -/
import Derived.Test.YtfhkfifjbgcpiaaDoorPD8
import Derived.Test.YtfhkfifjbgcpiaaDoorPD3
set_option linter.all false
set_option linter.deprecated false
section
namespace Go.Ai
open Go.Proofs
set_option maxRecDepth 10000
set_option maxHeartbeats 4000000
def posL (s:ByteArray) (k:Nat) : List Nat:=if h:k < s.size then k :: posL s (nxtM s k) else [k]
termination_by s.size - k
decreasing_by
  have h1:=nxtM_lt h
  have h2:=nxtM_le (s:=s) (k:=k) (by omega)
  omega
theorem posL_lt {s:ByteArray} {k:Nat} (h:k < s.size) : posL s k=k :: posL s (nxtM s k):=by rw [posL,dif_pos h]
theorem posL_end {s:ByteArray} {k:Nat} (h:k=s.size) : posL s k=[k]:=by rw [posL,dif_neg (by omega)]
def tokC (s:ByteArray) (k:Nat) : List AV:=[.lit (.string (tokB s k)),.lit (.int .i64 (k:Nat))]
def toksC (s:ByteArray) (l:List Nat) : List AV:=l.flatMap (tokC s)
theorem toksC_len (s:ByteArray) : ∀ (l:List Nat),(toksC s l).length=l.length * 2
  | []=>rfl
  | k :: l=>by
    have:=toksC_len s l
    unfold toksC at this ⊢
    rw [List.flatMap_cons,List.length_append,this,List.length_cons]
    show 2+_=_
    omega
theorem toksC_snoc (s:ByteArray) (l:List Nat) (k:Nat) : toksC s l++[.lit (.string (tokB s k)),.lit (.int .i64 (k:Nat))]=toksC s (l++[k]):=by
  unfold toksC
  rw [List.flatMap_append]
  simp [tokC]
theorem posL_head (s:ByteArray) (k:Nat) : (posL s k)[0]?=some k:=by
  rw [posL]
  split <;> rfl
theorem posL_size {s:ByteArray} : ∀ (m k:Nat),k≤s.size→s.size - k≤m→(posL s k).length≤s.size - k+1
  | m,k,hk,hm=>by
    by_cases h:k < s.size
    · have h1:=nxtM_lt h
      have h2:=nxtM_le (s:=s) (k:=k) hk
      obtain ⟨m',rfl⟩ : ∃ m',m=m'+1:=⟨m - 1,by omega⟩
      have:=posL_size m' (nxtM s k) h2 (by omega)
      rw [posL_lt h,List.length_cons]
      omega
    · rw [posL_end (by omega)]
      simp
def PosOK (s:ByteArray) (pos:List Nat) : Prop:=∀ i k,pos[i]?=some k→k≤s.size∧(k < s.size→pos[i+1]?=some (nxtM s k))
theorem posL_ok {s:ByteArray} : ∀ (m k:Nat),k≤s.size→s.size - k≤m→PosOK s (posL s k)
  | m,k,hk,hm=>by
    by_cases h:k < s.size
    · have h1:=nxtM_lt h
      have h2:=nxtM_le (s:=s) (k:=k) hk
      obtain ⟨m',rfl⟩ : ∃ m',m=m'+1:=⟨m - 1,by omega⟩
      have ih:=posL_ok m' (nxtM s k) h2 (by omega)
      rw [posL_lt h]
      intro i j hj
      cases i with
      | zero =>
        have e:k=j:=Option.some.inj hj
        subst e
        refine ⟨hk,fun _=>?_⟩
        show (posL s (nxtM s k))[0]?=_
        exact posL_head s _
      | succ i=>exact ih i j hj
    · have hks:k=s.size:=by omega
      rw [posL_end hks]
      intro i j hj
      cases i with
      | zero =>
        have e:k=j:=Option.some.inj hj
        subst e
        exact ⟨hk,fun h'=>absurd h' h⟩
      | succ i=>cases hj
theorem row_tok {s:ByteArray} {pos:List Nat} {g:Nat→Option Blk} {a off:Nat} (hr:Row g a off (toksC s pos)) {i k z:Nat} (h:pos[i]?=some k) :
    loadB (some (false,z)) (g a) (off+i * 2)=some (.lit (.string (tokB s k)))∧loadB (some (false,z)) (g a) (off+i * 2+1)=some (.lit (.int .i64 (k:Nat))):=by
  obtain ⟨hi,hk⟩:=List.getElem?_eq_some_iff.1 h
  have hl:=toksC_len s pos
  have key:∀ j,j < 2→loadB (some (false,z)) (g a) (off+(i * 2+j))=(tokC s pos[i])[j]?:=by
    intro j hj
    have h1:i * 2+j < (toksC s pos).length:=by omega
    rw [hr.one h1,← List.getElem?_eq_getElem h1]
    unfold toksC
    rw [← flat_at (f:=tokC s) (sz:=2) pos i hi (fun _ _=>rfl),List.getElem?_take_of_lt hj,List.getElem?_drop]
  rw [hk] at key
  exact ⟨key 0 (by omega),by rw [Nat.add_assoc]; exact key 1 (by omega)⟩
structure RAt (vs:List VarM) (va:Nat) (s:ByteArray) (pos:List Nat) (ta:Nat) (g:Nat→Option Blk) (n:Nat) : Prop where
  van:va < n
  tan:ta < n
  vars:Row g va 0 (vs.flatMap VarM.cells)
  toks:Row g ta 0 (toksC s pos)
theorem RAt.keep {vs:List VarM} {va:Nat} {s:ByteArray} {pos:List Nat} {ta:Nat} {g g' : Nat→Option Blk} {n n' : Nat} (h:RAt vs va s pos ta g n) (hn:n≤n') (hg:∀ a,a < n→g' a=g a) : RAt vs va s pos ta g' n' :=
  ⟨by have:=h.van; omega,by have:=h.tan; omega,h.vars.mono (hg _ h.van),h.toks.mono (hg _ h.tan)⟩
def REnd (pos:List Nat) (g:Nat→Option Blk) (n:Nat) (res:ParR) (r:COut) : Prop :=
  ∃ (x:NodeM) (op:Nat) (q:Int) (sv:AV) (j:Nat) (e:Int) (g' : Nat→Option Blk) (n' : Nat),r=.ret (.agg [.lit (.int .u8 op),.lit (.int .i64 q),sv,.lit (.int .i64 j),.lit (.int .i64 e)]) ⟨.fn g',n'⟩∧n≤n'∧(∀ a,a < n→g' a=g a)∧FreshN g' n n' x [.lit (.int .u8 op),.lit (.int .i64 q),sv] ∧
    match res with
    | .ok y k=>e=0∧x=y∧pos[j]?=some k
    | .err c k=>e=c∧¬c=0∧pos[j]?=some k
def binR (rank:Int) (t:ByteArray) : Nat→Nat
  | 0=>0
  | k+1=>if 3≤k∧k≠9∧rankM k=rank∧sgn k=t then k else binR rank t k
theorem binR_all (rank:Int) (t:ByteArray) : binR rank t 12=binM rank t:=by
  have key:∀ (a:ByteArray) (rank:Int),a∈[(⟨#[43]⟩ : ByteArray),⟨#[45]⟩,⟨#[42]⟩,⟨#[61]⟩,⟨#[60]⟩,⟨#[60,61]⟩,⟨#[97,110,100]⟩,⟨#[111,114]⟩]→binR rank a 12=binM rank a:=by
    intro a rank h
    simp only [List.mem_cons,List.not_mem_nil,or_false] at h
    by_cases h5:rank=1∨rank=2∨rank=4∨rank=5∨rank=6
    · rcases h5 with rfl | rfl | rfl | rfl | rfl <;> rcases h with rfl | rfl | rfl | rfl | rfl | rfl | rfl | rfl <;> decide +kernel
    · have n1:¬1=rank:=by omega
      have n2:¬2=rank:=by omega
      have n4:¬4=rank:=by omega
      have n5:¬5=rank:=by omega
      have n6:¬6=rank:=by omega
      simp [binR,binM,binAt,opRows,rankM,n1,n2,n4,n5,n6]
  by_cases h:t∈[(⟨#[43]⟩ : ByteArray),⟨#[45]⟩,⟨#[42]⟩,⟨#[61]⟩,⟨#[60]⟩,⟨#[60,61]⟩,⟨#[97,110,100]⟩,⟨#[111,114]⟩]
  · exact key t rank h
  · simp only [List.mem_cons,List.not_mem_nil,or_false,not_or] at h
    obtain ⟨h1,h2,h3,h4,h5,h6,h7,h8⟩:=h
    have e1:¬(⟨#[43]⟩ : ByteArray)=t:=fun e=>h1 e.symm
    have e2:¬(⟨#[45]⟩ : ByteArray)=t:=fun e=>h2 e.symm
    have e3:¬(⟨#[42]⟩ : ByteArray)=t:=fun e=>h3 e.symm
    have e4:¬(⟨#[61]⟩ : ByteArray)=t:=fun e=>h4 e.symm
    have e5:¬(⟨#[60]⟩ : ByteArray)=t:=fun e=>h5 e.symm
    have e6:¬(⟨#[60,61]⟩ : ByteArray)=t:=fun e=>h6 e.symm
    have e7:¬(⟨#[97,110,100]⟩ : ByteArray)=t:=fun e=>h7 e.symm
    have e8:¬(⟨#[111,114]⟩ : ByteArray)=t:=fun e=>h8 e.symm
    simp [binR,binM,binAt,opRows,rankM,sgn,rowAt,e1,e2,e3,e4,e5,e6,e7,e8]
end Go.Ai
end
section
namespace Go.Ai
open Go.Proofs
set_option maxRecDepth 10000
set_option maxHeartbeats 40000000
theorem less_len {s:ByteArray} {i:Nat} (h:i < s.size) : runF fLess s i (s.size - i - 1) 1=if i+1 < s.size∧bAt s (i+1)=61 then 2 else 1:=by
  by_cases h1:i+1 < s.size
  · obtain ⟨m,hm⟩ : ∃ m,s.size - i - 1=m+1:=⟨s.size - i - 2,by omega⟩
    rw [hm,runF,if_pos h1]
    by_cases h2:bAt s (i+1)=61
    · have e:fLess 1 (bAt s (i+1))=true:=by rw [h2]; rfl
      rw [if_pos e,if_pos (And.intro h1 h2)]
      cases m with
      | zero=>rfl
      | succ m =>
        rw [runF]
        split
        · rw [if_neg (by simp [fLess])]
        · rfl
    · have e:¬fLess 1 (bAt s (i+1))=true:=by simp [fLess,h2]
      rw [if_neg e,if_neg (fun h=>h2 h.2)]
  · rw [if_neg (fun h=>h1 h.1),show s.size - i - 1=0 by omega]
    rfl
theorem run_step {F:Nat→Int→Bool} {s:ByteArray} {i j:Nat} (h:i+j < s.size) : runF F s i (s.size - i - j) j=if F j (bAt s (i+j))=true then runF F s i (s.size - i - (j+1)) (j+1) else j:=by
  rw [show s.size - i - j=(s.size - i - (j+1))+1 by omega,runF,if_pos h]
theorem run_end {F:Nat→Int→Bool} {s:ByteArray} {i j:Nat} (h:s.size≤i+j) : runF F s i (s.size - i - j) j=j:=by
  rw [show s.size - i - j=0 by omega]
  rfl
def OutR (s:ByteArray) (g:Nat→Option Blk) (n n' : Nat) (out:AV) (done:List Nat) : Prop :=
  (out=.lit (.slice none 0 0)∧done=[])∨∃ a,n≤a∧a < n'∧out=.slq a 0 done.length 0∧g a=some (.cells (toksC s done) true 2)
theorem tokens_w (s:ByteArray) (hs:s.size≤1000000) (g:Nat→Option Blk) (n:Nat) :
    WC 6 Tryd.prog 41 [.lit (.string s)] ⟨.fn g,n⟩ fun r=>∃ a g' n',r=.ret (.slq a 0 (posL s (advM s 0)).length 0) ⟨.fn g',n'⟩∧n≤a∧a < n'∧(∀ b,b < n→g' b=g b)∧g' a=some (.cells (toksC s (posL s (advM s 0))) true 2):=by
  generalize hret:posL s (advM s 0)=ret
  have HRET:=Hide.mk hret
  clear hret
  refine WC.enterP (noO_ok _ _) hG6 [] Tryd.func41 rfl (by decide +kernel) (Nat.le_of_ble_eq_true (by kernel_rfl)) ?_
  iterate 12 (all_goals try (first | with_reducible refine splitI (fun h=>?_) (fun h=>?_) | with_reducible refine splitBI (fun h=>?_) (fun h=>?_) | simp (config:={ maxSteps:=1000000 }) (disch:=first | assumption | omega | (simp; done) | fail) [Tryd.results41, *]))
  refine LX.ind (fun m gf H'=>∃ (i n' : Nat) (g' : Nat→Option Blk) (out:AV) (done:List Nat),i≤s.size∧m=s.size - i∧H'=⟨.fn g',n'⟩∧n≤n'∧(∀ b,b < n→g' b=g b)∧gf 0=some (.lit (.string s))∧gf 4=some (.lit (.int .i64 i))∧gf 3=some out ∧
    OutR s g' n n' out done∧done++posL s (advM s i)=ret∧done.length≤i) (m0:=s.size) ?_ ?_
  · exact ⟨0,n,g,.lit (.slice none 0 0),[],Nat.zero_le _,rfl,rfl,Nat.le_refl _,fun _ _=>rfl,by simp,by simp,by simp,.inl ⟨rfl,rfl⟩,HRET.out,Nat.le_refl _⟩
  rintro m gf H' ⟨i,n',g',out,done,hi,rfl,rfl,hn',hg',q0,q4,q3,hout,hpos,hdl⟩ ih
  refine LX.roundP (noO_ok _ _) hG6 [] (by decide +kernel) ?_
  have HOUT:=Hide.mk hout
  clear hout
  have HG:=Hide.mk hg'
  have HP:=Hide.mk hpos
  clear hg' hpos
  by_cases hlt:i < s.size
  · have hltI:(i:Int) < (s.size:Int):=by omega
    have hb:=u8_bat s i
    have htk:=tokN_le hlt
    have HNX:Hide (∀ (out' : AV) (g2:Nat→Option Blk) (n2:Nat),bAt s i≠32→n'≤n2→(∀ b,b < n→g2 b=g b)→OutR s g2 n n2 out' (done++[i])→∀ gf2:Nat→Option AV,gf2 0=some (.lit (.string s))→gf2 4=some (.lit (.int .i64 ((i+tokN s i:Nat) : Int)))→gf2 3=some out' →
      ∃ (i' n'' : Nat) (g' : Nat→Option Blk) (out:AV) (done:List Nat),i'≤s.size∧s.size - (i+tokN s i)=s.size - i'∧(⟨.fn g2,n2⟩ : Mem)=⟨.fn g',n''⟩∧n≤n''∧(∀ b,b < n→g' b=g b)∧gf2 0=some (.lit (.string s))∧gf2 4=some (.lit (.int .i64 i'))∧gf2 3=some out ∧
    OutR s g' n n'' out done∧done++posL s (advM s i')=ret∧done.length≤i'):=⟨fun out' g2 n2 h32 hn2 hg2 hout2 gf2 e0 e4 e3=>by
      refine ⟨i+tokN s i,n2,g2,out',done++[i],htk.2,rfl,rfl,by omega,hg2,e0,e4,e3,hout2,?_,by rw [List.length_append]; simp; omega⟩
      have h1:=HP.out
      rw [adv_stay (.inr h32),posL_lt hlt] at h1
      rw [← h1,List.append_assoc]
      unfold nxtM
      rw [tok_size hlt]
      rfl⟩
    have HTOK:Hide (s.extract i (i+tokN s i)=tokB s i):=⟨by unfold tokB; rw [if_neg (by omega)]⟩
    have HTK:Hide (tokN s i=if letterM (bAt s i)=true then runF fPart s i (s.size - i - 1) 1 else if digitM (bAt s i)=true then runF fDigit s i (s.size - i - 1) 1 else if bAt s i=60 then runF fLess s i (s.size - i - 1) 1 else 1):=⟨rfl⟩
    generalize hc:bAt s i=c at hb HNX HTK
    rcases (by omega:(97≤c∧c≤122)∨(65≤c∧c≤90)∨(48≤c∧c≤57)∨c=60∨c=32∨(c < 48∧¬c=32)∨(57 < c∧c < 65∧¬c=60)∨(90 < c∧c < 97)∨122 < c) with hL | hL | hL | hL | hL | hL | hL | hL | hL
    all_goals
      first | (have z0:97≤c:=by omega) | (have z0:¬97≤c:=by omega)
      first | (have z1:c≤122:=by omega) | (have z1:¬c≤122:=by omega)
      first | (have z2:65≤c:=by omega) | (have z2:¬65≤c:=by omega)
      first | (have z3:c≤90:=by omega) | (have z3:¬c≤90:=by omega)
      first | (have z4:48≤c:=by omega) | (have z4:¬48≤c:=by omega)
      first | (have z5:c≤57:=by omega) | (have z5:¬c≤57:=by omega)
      first | (have z6:c=60:=by omega) | (have z6:¬c=60:=by omega)
      first | (have z7:c=32:=by omega) | (have z7:¬c=32:=by omega)
      iterate 14 (all_goals try (first | with_reducible refine splitI (fun h=>?_) (fun h=>?_) | with_reducible refine splitBI (fun h=>?_) (fun h=>?_) | simp (config:={ maxSteps:=1000000 }) (disch:=first | assumption | omega | (simp; done) | fail) [Tryd.results41, *]))
    · have hT0:tokN s i=runF fPart s i (s.size - i - 1) 1:=by rw [HTK.out,if_pos (by simp only [letterM,Bool.or_eq_true,decide_eq_true_eq]; omega)]
      clear HTK
      refine LX.ind (fun m2 gf2 H2=>∃ (j:Nat),1≤j∧i+j≤s.size∧m2=s.size - (i+j)∧H2=⟨.fn g',n'⟩∧gf2 0=some (.lit (.string s))∧gf2 3=some out∧gf2 4=some (.lit (.int .i64 i))∧gf2 5=some (.lit (.int .i64 ((i:Int)+(j:Int))))∧gf2 6=some (.lit (.int .u8 c))∧gf2 7=some (.lit (.bool true)) ∧
        tokN s i=runF fPart s i (s.size - i - j) j) (m0:=s.size - (i+1)) ?_ ?_
      · exact ⟨1,Nat.le_refl _,by omega,rfl,rfl,by simp [*],by simp [*],by simp [*],by simp [*],by simp [*],by simp [*],hT0⟩
      rintro m2 gf2 H2 ⟨j,hj1,hj2,rfl,rfl,w0,w3,w4,w5,w6,w7,hrun⟩ ih2
      refine LX.roundP (noO_ok _ _) hG6 [] (by decide +kernel) ?_
      have HRUN:=Hide.mk hrun
      clear hrun hT0
      have htn:((i:Int)+(j:Int)).toNat=i+j:=by omega
      by_cases hlt2:i+j < s.size
      · have hlt2I:(i:Int)+(j:Int) < (s.size:Int):=by omega
        have hst:=run_step (F:=fPart) hlt2
        generalize hd:bAt s (i+j)=d at hst
        have HST:=Hide.mk hst
        clear hst
        rcases (by omega:((97≤d∧d≤122)∨(¬97≤d∧65≤d∧d≤90)∨(¬97≤d∧65≤d∧¬d≤90∧d=95)∨(¬97≤d∧¬65≤d∧¬d=95∧48≤d∧d≤57))∨((¬97≤d∧¬65≤d∧¬d=95∧¬48≤d)∨(¬97≤d∧¬65≤d∧¬d=95∧48≤d∧¬d≤57)∨(¬97≤d∧65≤d∧¬d≤90∧¬d=95∧48≤d∧¬d≤57)∨(97≤d∧¬d≤122∧65≤d∧¬d≤90∧¬d=95∧48≤d∧¬d≤57))) with h | h
        · have hF:fPart j d=true:=by simp only [fPart,fDigit,partM,letterM,digitM,Bool.or_eq_true,decide_eq_true_eq]; omega
          have hrun2:tokN s i=runF fPart s i (s.size - i - (j+1)) (j+1):=by rw [HRUN.out,HST.out,if_pos hF]
          have HRUN2:=Hide.mk hrun2
          clear hF hrun2 HST HRUN
          rcases h with ⟨y0,y1⟩ | ⟨y0,y1,y2⟩ | ⟨y0,y1,y2,y3⟩ | ⟨y0,y1,y2,y3,y4⟩
          all_goals
            iterate 20 (all_goals try (first | with_reducible refine splitI (fun h=>?_) (fun h=>?_) | with_reducible refine splitBI (fun h=>?_) (fun h=>?_) | simp (config:={ maxSteps:=1000000 }) (disch:=first | assumption | omega | (simp; done) | fail) [Tryd.results41, *]))
            refine ih2.out (s.size - (i+(j+1))) _ _ (by omega) ⟨j+1,by omega,by omega,rfl,rfl,by simp [*],by simp [*],by simp [*],?_,by simp [*],by simp [*],HRUN2.out⟩
            simp [*]
            try omega
        · have hF:¬fPart j d=true:=by simp only [fPart,fDigit,partM,letterM,digitM,Bool.or_eq_true,decide_eq_true_eq]; omega
          have hT:tokN s i=j:=by rw [HRUN.out,HST.out,if_neg hF]
          clear hF HST HRUN
          rcases h with ⟨y0,y1,y2,y3⟩ | ⟨y0,y1,y2,y3,y4⟩ | ⟨y0,y1,y2,y3,y4,y5⟩ | ⟨y0,y1,y2,y3,y4,y5,y6⟩
          all_goals
            rw [hT] at HNX HTOK htk
            clear hT
            have hsn:=fun l=>toksC_snoc s l i
            rw [← HTOK.out] at hsn
            rcases HOUT.out with ⟨rfl,rfl⟩ | ⟨a,ha1,ha2,rfl,hga⟩
            all_goals
              try have hl:(toksC s done).length=done.length * 2:=toksC_len s done
              iterate 30 (all_goals try (first | with_reducible refine splitI (fun h=>?_) (fun h=>?_) | with_reducible refine splitBI (fun h=>?_) (fun h=>?_) | simp (config:={ maxSteps:=1000000 }) (disch:=first | assumption | omega | (simp; done) | fail) [Tryd.results41, *]))
            all_goals first
              | (exfalso; omega)
              | exact ih.out (s.size - (i+j)) _ _ (by omega) (HNX.out (.slq (n'+1) 0 1 0) _ (n'+1+1) (by omega) (by omega) (fun b hb=>by simp (disch:=omega) only [gput_lt]; exact HG.out b hb) (.inr ⟨n'+1,by omega,by omega,rfl,by rw [← hsn]; simp [toksC]⟩) _ (by simp [*]) (by simp [*] <;> omega) (by simp [*]))
              | exact ih.out (s.size - (i+j)) _ _ (by omega) (HNX.out (.slq (n'+1) 0 (done.length+1) 0) _ (n'+1+1) (by omega) (by omega) (fun b hb=>by simp (disch:=omega) only [gput_lt,gput_ne]; exact HG.out b hb) (.inr ⟨n'+1,by omega,by omega,by simp,by rw [← hsn]; simp⟩) _ (by simp [*]) (by simp [*] <;> omega) (by simp [*]))
      · have hlt2I:¬(i:Int)+(j:Int) < (s.size:Int):=by omega
        have hT:tokN s i=j:=by rw [HRUN.out,run_end (by omega)]
        clear HRUN
        rw [hT] at HNX HTOK htk
        clear hT
        have hsn:=fun l=>toksC_snoc s l i
        rw [← HTOK.out] at hsn
        rcases HOUT.out with ⟨rfl,rfl⟩ | ⟨a,ha1,ha2,rfl,hga⟩
        all_goals
          try have hl:(toksC s done).length=done.length * 2:=toksC_len s done
          iterate 30 (all_goals try (first | with_reducible refine splitI (fun h=>?_) (fun h=>?_) | with_reducible refine splitBI (fun h=>?_) (fun h=>?_) | simp (config:={ maxSteps:=1000000 }) (disch:=first | assumption | omega | (simp; done) | fail) [Tryd.results41, *]))
        all_goals first
          | (exfalso; omega)
          | exact ih.out (s.size - (i+j)) _ _ (by omega) (HNX.out (.slq (n'+1) 0 1 0) _ (n'+1+1) (by omega) (by omega) (fun b hb=>by simp (disch:=omega) only [gput_lt]; exact HG.out b hb) (.inr ⟨n'+1,by omega,by omega,rfl,by rw [← hsn]; simp [toksC]⟩) _ (by simp [*]) (by simp [*] <;> omega) (by simp [*]))
          | exact ih.out (s.size - (i+j)) _ _ (by omega) (HNX.out (.slq (n'+1) 0 (done.length+1) 0) _ (n'+1+1) (by omega) (by omega) (fun b hb=>by simp (disch:=omega) only [gput_lt,gput_ne]; exact HG.out b hb) (.inr ⟨n'+1,by omega,by omega,by simp,by rw [← hsn]; simp⟩) _ (by simp [*]) (by simp [*] <;> omega) (by simp [*]))
    · have hT0:tokN s i=runF fPart s i (s.size - i - 1) 1:=by rw [HTK.out,if_pos (by simp only [letterM,Bool.or_eq_true,decide_eq_true_eq]; omega)]
      clear HTK
      refine LX.ind (fun m2 gf2 H2=>∃ (j:Nat),1≤j∧i+j≤s.size∧m2=s.size - (i+j)∧H2=⟨.fn g',n'⟩∧gf2 0=some (.lit (.string s))∧gf2 3=some out∧gf2 4=some (.lit (.int .i64 i))∧gf2 5=some (.lit (.int .i64 ((i:Int)+(j:Int))))∧gf2 6=some (.lit (.int .u8 c))∧gf2 7=some (.lit (.bool true)) ∧
        tokN s i=runF fPart s i (s.size - i - j) j) (m0:=s.size - (i+1)) ?_ ?_
      · exact ⟨1,Nat.le_refl _,by omega,rfl,rfl,by simp [*],by simp [*],by simp [*],by simp [*],by simp [*],by simp [*],hT0⟩
      rintro m2 gf2 H2 ⟨j,hj1,hj2,rfl,rfl,w0,w3,w4,w5,w6,w7,hrun⟩ ih2
      refine LX.roundP (noO_ok _ _) hG6 [] (by decide +kernel) ?_
      have HRUN:=Hide.mk hrun
      clear hrun hT0
      have htn:((i:Int)+(j:Int)).toNat=i+j:=by omega
      by_cases hlt2:i+j < s.size
      · have hlt2I:(i:Int)+(j:Int) < (s.size:Int):=by omega
        have hst:=run_step (F:=fPart) hlt2
        generalize hd:bAt s (i+j)=d at hst
        have HST:=Hide.mk hst
        clear hst
        rcases (by omega:((97≤d∧d≤122)∨(¬97≤d∧65≤d∧d≤90)∨(¬97≤d∧65≤d∧¬d≤90∧d=95)∨(¬97≤d∧¬65≤d∧¬d=95∧48≤d∧d≤57))∨((¬97≤d∧¬65≤d∧¬d=95∧¬48≤d)∨(¬97≤d∧¬65≤d∧¬d=95∧48≤d∧¬d≤57)∨(¬97≤d∧65≤d∧¬d≤90∧¬d=95∧48≤d∧¬d≤57)∨(97≤d∧¬d≤122∧65≤d∧¬d≤90∧¬d=95∧48≤d∧¬d≤57))) with h | h
        · have hF:fPart j d=true:=by simp only [fPart,fDigit,partM,letterM,digitM,Bool.or_eq_true,decide_eq_true_eq]; omega
          have hrun2:tokN s i=runF fPart s i (s.size - i - (j+1)) (j+1):=by rw [HRUN.out,HST.out,if_pos hF]
          have HRUN2:=Hide.mk hrun2
          clear hF hrun2 HST HRUN
          rcases h with ⟨y0,y1⟩ | ⟨y0,y1,y2⟩ | ⟨y0,y1,y2,y3⟩ | ⟨y0,y1,y2,y3,y4⟩
          all_goals
            iterate 20 (all_goals try (first | with_reducible refine splitI (fun h=>?_) (fun h=>?_) | with_reducible refine splitBI (fun h=>?_) (fun h=>?_) | simp (config:={ maxSteps:=1000000 }) (disch:=first | assumption | omega | (simp; done) | fail) [Tryd.results41, *]))
            refine ih2.out (s.size - (i+(j+1))) _ _ (by omega) ⟨j+1,by omega,by omega,rfl,rfl,by simp [*],by simp [*],by simp [*],?_,by simp [*],by simp [*],HRUN2.out⟩
            simp [*]
            try omega
        · have hF:¬fPart j d=true:=by simp only [fPart,fDigit,partM,letterM,digitM,Bool.or_eq_true,decide_eq_true_eq]; omega
          have hT:tokN s i=j:=by rw [HRUN.out,HST.out,if_neg hF]
          clear hF HST HRUN
          rcases h with ⟨y0,y1,y2,y3⟩ | ⟨y0,y1,y2,y3,y4⟩ | ⟨y0,y1,y2,y3,y4,y5⟩ | ⟨y0,y1,y2,y3,y4,y5,y6⟩
          all_goals
            rw [hT] at HNX HTOK htk
            clear hT
            have hsn:=fun l=>toksC_snoc s l i
            rw [← HTOK.out] at hsn
            rcases HOUT.out with ⟨rfl,rfl⟩ | ⟨a,ha1,ha2,rfl,hga⟩
            all_goals
              try have hl:(toksC s done).length=done.length * 2:=toksC_len s done
              iterate 30 (all_goals try (first | with_reducible refine splitI (fun h=>?_) (fun h=>?_) | with_reducible refine splitBI (fun h=>?_) (fun h=>?_) | simp (config:={ maxSteps:=1000000 }) (disch:=first | assumption | omega | (simp; done) | fail) [Tryd.results41, *]))
            all_goals first
              | (exfalso; omega)
              | exact ih.out (s.size - (i+j)) _ _ (by omega) (HNX.out (.slq (n'+1) 0 1 0) _ (n'+1+1) (by omega) (by omega) (fun b hb=>by simp (disch:=omega) only [gput_lt]; exact HG.out b hb) (.inr ⟨n'+1,by omega,by omega,rfl,by rw [← hsn]; simp [toksC]⟩) _ (by simp [*]) (by simp [*] <;> omega) (by simp [*]))
              | exact ih.out (s.size - (i+j)) _ _ (by omega) (HNX.out (.slq (n'+1) 0 (done.length+1) 0) _ (n'+1+1) (by omega) (by omega) (fun b hb=>by simp (disch:=omega) only [gput_lt,gput_ne]; exact HG.out b hb) (.inr ⟨n'+1,by omega,by omega,by simp,by rw [← hsn]; simp⟩) _ (by simp [*]) (by simp [*] <;> omega) (by simp [*]))
      · have hlt2I:¬(i:Int)+(j:Int) < (s.size:Int):=by omega
        have hT:tokN s i=j:=by rw [HRUN.out,run_end (by omega)]
        clear HRUN
        rw [hT] at HNX HTOK htk
        clear hT
        have hsn:=fun l=>toksC_snoc s l i
        rw [← HTOK.out] at hsn
        rcases HOUT.out with ⟨rfl,rfl⟩ | ⟨a,ha1,ha2,rfl,hga⟩
        all_goals
          try have hl:(toksC s done).length=done.length * 2:=toksC_len s done
          iterate 30 (all_goals try (first | with_reducible refine splitI (fun h=>?_) (fun h=>?_) | with_reducible refine splitBI (fun h=>?_) (fun h=>?_) | simp (config:={ maxSteps:=1000000 }) (disch:=first | assumption | omega | (simp; done) | fail) [Tryd.results41, *]))
        all_goals first
          | (exfalso; omega)
          | exact ih.out (s.size - (i+j)) _ _ (by omega) (HNX.out (.slq (n'+1) 0 1 0) _ (n'+1+1) (by omega) (by omega) (fun b hb=>by simp (disch:=omega) only [gput_lt]; exact HG.out b hb) (.inr ⟨n'+1,by omega,by omega,rfl,by rw [← hsn]; simp [toksC]⟩) _ (by simp [*]) (by simp [*] <;> omega) (by simp [*]))
          | exact ih.out (s.size - (i+j)) _ _ (by omega) (HNX.out (.slq (n'+1) 0 (done.length+1) 0) _ (n'+1+1) (by omega) (by omega) (fun b hb=>by simp (disch:=omega) only [gput_lt,gput_ne]; exact HG.out b hb) (.inr ⟨n'+1,by omega,by omega,by simp,by rw [← hsn]; simp⟩) _ (by simp [*]) (by simp [*] <;> omega) (by simp [*]))
    · have hT0:tokN s i=runF fDigit s i (s.size - i - 1) 1:=by rw [HTK.out,if_neg (by simp only [letterM,Bool.or_eq_true,decide_eq_true_eq]; omega),if_pos (by simp only [digitM,decide_eq_true_eq]; omega)]
      clear HTK
      refine LX.ind (fun m2 gf2 H2=>∃ (j:Nat),1≤j∧i+j≤s.size∧m2=s.size - (i+j)∧H2=⟨.fn g',n'⟩∧gf2 0=some (.lit (.string s))∧gf2 3=some out∧gf2 4=some (.lit (.int .i64 i))∧gf2 5=some (.lit (.int .i64 ((i:Int)+(j:Int))))∧gf2 6=some (.lit (.int .u8 c))∧gf2 7=some (.lit (.bool false)) ∧
        tokN s i=runF fDigit s i (s.size - i - j) j) (m0:=s.size - (i+1)) ?_ ?_
      · exact ⟨1,Nat.le_refl _,by omega,rfl,rfl,by simp [*],by simp [*],by simp [*],by simp [*],by simp [*],by simp [*],hT0⟩
      rintro m2 gf2 H2 ⟨j,hj1,hj2,rfl,rfl,w0,w3,w4,w5,w6,w7,hrun⟩ ih2
      refine LX.roundP (noO_ok _ _) hG6 [] (by decide +kernel) ?_
      have HRUN:=Hide.mk hrun
      clear hrun hT0
      have htn:((i:Int)+(j:Int)).toNat=i+j:=by omega
      by_cases hlt2:i+j < s.size
      · have hlt2I:(i:Int)+(j:Int) < (s.size:Int):=by omega
        have hst:=run_step (F:=fDigit) hlt2
        generalize hd:bAt s (i+j)=d at hst
        have HST:=Hide.mk hst
        clear hst
        rcases (by omega:((48≤d∧d≤57))∨((¬48≤d)∨(48≤d∧¬d≤57))) with h | h
        · have hF:fDigit j d=true:=by simp only [fPart,fDigit,partM,letterM,digitM,Bool.or_eq_true,decide_eq_true_eq]; omega
          have hrun2:tokN s i=runF fDigit s i (s.size - i - (j+1)) (j+1):=by rw [HRUN.out,HST.out,if_pos hF]
          have HRUN2:=Hide.mk hrun2
          clear hF hrun2 HST HRUN
          rcases h with ⟨y0,y1⟩
          all_goals
            iterate 20 (all_goals try (first | with_reducible refine splitI (fun h=>?_) (fun h=>?_) | with_reducible refine splitBI (fun h=>?_) (fun h=>?_) | simp (config:={ maxSteps:=1000000 }) (disch:=first | assumption | omega | (simp; done) | fail) [Tryd.results41, *]))
            refine ih2.out (s.size - (i+(j+1))) _ _ (by omega) ⟨j+1,by omega,by omega,rfl,rfl,by simp [*],by simp [*],by simp [*],?_,by simp [*],by simp [*],HRUN2.out⟩
            simp [*]
            try omega
        · have hF:¬fDigit j d=true:=by simp only [fPart,fDigit,partM,letterM,digitM,Bool.or_eq_true,decide_eq_true_eq]; omega
          have hT:tokN s i=j:=by rw [HRUN.out,HST.out,if_neg hF]
          clear hF HST HRUN
          rcases h with ⟨y0⟩ | ⟨y0,y1⟩
          all_goals
            rw [hT] at HNX HTOK htk
            clear hT
            have hsn:=fun l=>toksC_snoc s l i
            rw [← HTOK.out] at hsn
            rcases HOUT.out with ⟨rfl,rfl⟩ | ⟨a,ha1,ha2,rfl,hga⟩
            all_goals
              try have hl:(toksC s done).length=done.length * 2:=toksC_len s done
              iterate 30 (all_goals try (first | with_reducible refine splitI (fun h=>?_) (fun h=>?_) | with_reducible refine splitBI (fun h=>?_) (fun h=>?_) | simp (config:={ maxSteps:=1000000 }) (disch:=first | assumption | omega | (simp; done) | fail) [Tryd.results41, *]))
            all_goals first
              | (exfalso; omega)
              | exact ih.out (s.size - (i+j)) _ _ (by omega) (HNX.out (.slq (n'+1) 0 1 0) _ (n'+1+1) (by omega) (by omega) (fun b hb=>by simp (disch:=omega) only [gput_lt]; exact HG.out b hb) (.inr ⟨n'+1,by omega,by omega,rfl,by rw [← hsn]; simp [toksC]⟩) _ (by simp [*]) (by simp [*] <;> omega) (by simp [*]))
              | exact ih.out (s.size - (i+j)) _ _ (by omega) (HNX.out (.slq (n'+1) 0 (done.length+1) 0) _ (n'+1+1) (by omega) (by omega) (fun b hb=>by simp (disch:=omega) only [gput_lt,gput_ne]; exact HG.out b hb) (.inr ⟨n'+1,by omega,by omega,by simp,by rw [← hsn]; simp⟩) _ (by simp [*]) (by simp [*] <;> omega) (by simp [*]))
      · have hlt2I:¬(i:Int)+(j:Int) < (s.size:Int):=by omega
        have hT:tokN s i=j:=by rw [HRUN.out,run_end (by omega)]
        clear HRUN
        rw [hT] at HNX HTOK htk
        clear hT
        have hsn:=fun l=>toksC_snoc s l i
        rw [← HTOK.out] at hsn
        rcases HOUT.out with ⟨rfl,rfl⟩ | ⟨a,ha1,ha2,rfl,hga⟩
        all_goals
          try have hl:(toksC s done).length=done.length * 2:=toksC_len s done
          iterate 30 (all_goals try (first | with_reducible refine splitI (fun h=>?_) (fun h=>?_) | with_reducible refine splitBI (fun h=>?_) (fun h=>?_) | simp (config:={ maxSteps:=1000000 }) (disch:=first | assumption | omega | (simp; done) | fail) [Tryd.results41, *]))
        all_goals first
          | (exfalso; omega)
          | exact ih.out (s.size - (i+j)) _ _ (by omega) (HNX.out (.slq (n'+1) 0 1 0) _ (n'+1+1) (by omega) (by omega) (fun b hb=>by simp (disch:=omega) only [gput_lt]; exact HG.out b hb) (.inr ⟨n'+1,by omega,by omega,rfl,by rw [← hsn]; simp [toksC]⟩) _ (by simp [*]) (by simp [*] <;> omega) (by simp [*]))
          | exact ih.out (s.size - (i+j)) _ _ (by omega) (HNX.out (.slq (n'+1) 0 (done.length+1) 0) _ (n'+1+1) (by omega) (by omega) (fun b hb=>by simp (disch:=omega) only [gput_lt,gput_ne]; exact HG.out b hb) (.inr ⟨n'+1,by omega,by omega,by simp,by rw [← hsn]; simp⟩) _ (by simp [*]) (by simp [*] <;> omega) (by simp [*]))
    · have hT0:tokN s i=if i+1 < s.size∧bAt s (i+1)=61 then 2 else 1:=by rw [HTK.out,if_neg (by simp only [letterM,Bool.or_eq_true,decide_eq_true_eq]; omega),if_neg (by simp only [digitM,decide_eq_true_eq]; omega),if_pos (by omega),less_len hlt]
      clear HTK
      refine LX.roundP (noO_ok _ _) hG6 [] (by decide +kernel) ?_
      have htn:((i:Int)+1).toNat=i+1:=by omega
      have htn2:((i:Int)+1+1).toNat=i+2:=by omega
      by_cases hlt2:i+1 < s.size
      · have hlt2I:(i:Int)+1 < (s.size:Int):=by omega
        generalize hd:bAt s (i+1)=d at hT0
        by_cases h61:d=61
        · have hT:tokN s i=2:=by rw [hT0,if_pos ⟨hlt2,h61⟩]
          clear hT0
          rw [hT] at HNX HTOK htk
          clear hT
          have hsn:=fun l=>toksC_snoc s l i
          rw [← HTOK.out] at hsn
          rcases HOUT.out with ⟨rfl,rfl⟩ | ⟨a,ha1,ha2,rfl,hga⟩
          all_goals
            try have hl:(toksC s done).length=done.length * 2:=toksC_len s done
            iterate 30 (all_goals try (first | with_reducible refine splitI (fun h=>?_) (fun h=>?_) | with_reducible refine splitBI (fun h=>?_) (fun h=>?_) | simp (config:={ maxSteps:=1000000 }) (disch:=first | assumption | omega | (simp; done) | fail) [Tryd.results41, *]))
          all_goals first
            | (exfalso; omega)
            | exact ih.out (s.size - (i+2)) _ _ (by omega) (HNX.out (.slq (n'+1) 0 1 0) _ (n'+1+1) (by omega) (by omega) (fun b hb=>by simp (disch:=omega) only [gput_lt]; exact HG.out b hb) (.inr ⟨n'+1,by omega,by omega,rfl,by rw [← hsn]; simp [toksC]⟩) _ (by simp [*]) (by simp [*] <;> omega) (by simp [*]))
            | exact ih.out (s.size - (i+2)) _ _ (by omega) (HNX.out (.slq (n'+1) 0 (done.length+1) 0) _ (n'+1+1) (by omega) (by omega) (fun b hb=>by simp (disch:=omega) only [gput_lt,gput_ne]; exact HG.out b hb) (.inr ⟨n'+1,by omega,by omega,by simp,by rw [← hsn]; simp⟩) _ (by simp [*]) (by simp [*] <;> omega) (by simp [*]))
        · have hT:tokN s i=1:=by rw [hT0,if_neg (fun h=>h61 h.2)]
          clear hT0
          rw [hT] at HNX HTOK htk
          clear hT
          have hsn:=fun l=>toksC_snoc s l i
          rw [← HTOK.out] at hsn
          rcases HOUT.out with ⟨rfl,rfl⟩ | ⟨a,ha1,ha2,rfl,hga⟩
          all_goals
            try have hl:(toksC s done).length=done.length * 2:=toksC_len s done
            iterate 30 (all_goals try (first | with_reducible refine splitI (fun h=>?_) (fun h=>?_) | with_reducible refine splitBI (fun h=>?_) (fun h=>?_) | simp (config:={ maxSteps:=1000000 }) (disch:=first | assumption | omega | (simp; done) | fail) [Tryd.results41, *]))
          all_goals first
            | (exfalso; omega)
            | exact ih.out (s.size - (i+1)) _ _ (by omega) (HNX.out (.slq (n'+1) 0 1 0) _ (n'+1+1) (by omega) (by omega) (fun b hb=>by simp (disch:=omega) only [gput_lt]; exact HG.out b hb) (.inr ⟨n'+1,by omega,by omega,rfl,by rw [← hsn]; simp [toksC]⟩) _ (by simp [*]) (by simp [*] <;> omega) (by simp [*]))
            | exact ih.out (s.size - (i+1)) _ _ (by omega) (HNX.out (.slq (n'+1) 0 (done.length+1) 0) _ (n'+1+1) (by omega) (by omega) (fun b hb=>by simp (disch:=omega) only [gput_lt,gput_ne]; exact HG.out b hb) (.inr ⟨n'+1,by omega,by omega,by simp,by rw [← hsn]; simp⟩) _ (by simp [*]) (by simp [*] <;> omega) (by simp [*]))
      · have hlt2I:¬(i:Int)+1 < (s.size:Int):=by omega
        have hT:tokN s i=1:=by rw [hT0,if_neg (fun h=>hlt2 h.1)]
        clear hT0
        rw [hT] at HNX HTOK htk
        clear hT
        have hsn:=fun l=>toksC_snoc s l i
        rw [← HTOK.out] at hsn
        rcases HOUT.out with ⟨rfl,rfl⟩ | ⟨a,ha1,ha2,rfl,hga⟩
        all_goals
          try have hl:(toksC s done).length=done.length * 2:=toksC_len s done
          iterate 30 (all_goals try (first | with_reducible refine splitI (fun h=>?_) (fun h=>?_) | with_reducible refine splitBI (fun h=>?_) (fun h=>?_) | simp (config:={ maxSteps:=1000000 }) (disch:=first | assumption | omega | (simp; done) | fail) [Tryd.results41, *]))
        all_goals first
          | (exfalso; omega)
          | exact ih.out (s.size - (i+1)) _ _ (by omega) (HNX.out (.slq (n'+1) 0 1 0) _ (n'+1+1) (by omega) (by omega) (fun b hb=>by simp (disch:=omega) only [gput_lt]; exact HG.out b hb) (.inr ⟨n'+1,by omega,by omega,rfl,by rw [← hsn]; simp [toksC]⟩) _ (by simp [*]) (by simp [*] <;> omega) (by simp [*]))
          | exact ih.out (s.size - (i+1)) _ _ (by omega) (HNX.out (.slq (n'+1) 0 (done.length+1) 0) _ (n'+1+1) (by omega) (by omega) (fun b hb=>by simp (disch:=omega) only [gput_lt,gput_ne]; exact HG.out b hb) (.inr ⟨n'+1,by omega,by omega,by simp,by rw [← hsn]; simp⟩) _ (by simp [*]) (by simp [*] <;> omega) (by simp [*]))
    · have hT:tokN s i=1:=by rw [HTK.out,if_neg (by simp only [letterM,Bool.or_eq_true,decide_eq_true_eq]; omega),if_neg (by simp only [digitM,decide_eq_true_eq]; omega),if_neg (by omega)]
      clear HTK
      refine LX.roundP (noO_ok _ _) hG6 [] (by decide +kernel) ?_
      have htn:((i:Int)+1).toNat=i+1:=by omega
      have hsk:=adv_skip hlt (hc.trans hL)
      have hpos:=HP.out
      rw [hsk] at hpos
      have HPOS:=Hide.mk hpos
      clear hpos hsk
      rcases (by omega:(i:Int)+1 < (s.size:Int)∨¬(i:Int)+1 < (s.size:Int)) with hlt2 | hlt2
      all_goals
        iterate 20 (all_goals try (first | with_reducible refine splitI (fun h=>?_) (fun h=>?_) | with_reducible refine splitBI (fun h=>?_) (fun h=>?_) | simp (config:={ maxSteps:=1000000 }) (disch:=first | assumption | omega | (simp; done) | fail) [Tryd.results41, *]))
        refine ih.out (s.size - (i+1)) _ _ (by omega) ⟨i+1,n',g',out,done,by omega,rfl,rfl,by omega,HG.out,by simp [*],by simp [*],by simp [*],HOUT.out,HPOS.out,by omega⟩
    · have hT:tokN s i=1:=by rw [HTK.out,if_neg (by simp only [letterM,Bool.or_eq_true,decide_eq_true_eq]; omega),if_neg (by simp only [digitM,decide_eq_true_eq]; omega),if_neg (by omega)]
      clear HTK
      refine LX.roundP (noO_ok _ _) hG6 [] (by decide +kernel) ?_
      have htn:((i:Int)+1).toNat=i+1:=by omega
      rcases (by omega:(i:Int)+1 < (s.size:Int)∨¬(i:Int)+1 < (s.size:Int)) with hlt2 | hlt2
      all_goals
        rw [hT] at HNX HTOK htk
        clear hT
        have hsn:=fun l=>toksC_snoc s l i
        rw [← HTOK.out] at hsn
        rcases HOUT.out with ⟨rfl,rfl⟩ | ⟨a,ha1,ha2,rfl,hga⟩
        all_goals
          try have hl:(toksC s done).length=done.length * 2:=toksC_len s done
          iterate 30 (all_goals try (first | with_reducible refine splitI (fun h=>?_) (fun h=>?_) | with_reducible refine splitBI (fun h=>?_) (fun h=>?_) | simp (config:={ maxSteps:=1000000 }) (disch:=first | assumption | omega | (simp; done) | fail) [Tryd.results41, *]))
        all_goals first
          | (exfalso; omega)
          | exact ih.out (s.size - (i+1)) _ _ (by omega) (HNX.out (.slq (n'+1) 0 1 0) _ (n'+1+1) (by omega) (by omega) (fun b hb=>by simp (disch:=omega) only [gput_lt]; exact HG.out b hb) (.inr ⟨n'+1,by omega,by omega,rfl,by rw [← hsn]; simp [toksC]⟩) _ (by simp [*]) (by simp [*] <;> omega) (by simp [*]))
          | exact ih.out (s.size - (i+1)) _ _ (by omega) (HNX.out (.slq (n'+1) 0 (done.length+1) 0) _ (n'+1+1) (by omega) (by omega) (fun b hb=>by simp (disch:=omega) only [gput_lt,gput_ne]; exact HG.out b hb) (.inr ⟨n'+1,by omega,by omega,by simp,by rw [← hsn]; simp⟩) _ (by simp [*]) (by simp [*] <;> omega) (by simp [*]))
    · have hT:tokN s i=1:=by rw [HTK.out,if_neg (by simp only [letterM,Bool.or_eq_true,decide_eq_true_eq]; omega),if_neg (by simp only [digitM,decide_eq_true_eq]; omega),if_neg (by omega)]
      clear HTK
      refine LX.roundP (noO_ok _ _) hG6 [] (by decide +kernel) ?_
      have htn:((i:Int)+1).toNat=i+1:=by omega
      rcases (by omega:(i:Int)+1 < (s.size:Int)∨¬(i:Int)+1 < (s.size:Int)) with hlt2 | hlt2
      all_goals
        rw [hT] at HNX HTOK htk
        clear hT
        have hsn:=fun l=>toksC_snoc s l i
        rw [← HTOK.out] at hsn
        rcases HOUT.out with ⟨rfl,rfl⟩ | ⟨a,ha1,ha2,rfl,hga⟩
        all_goals
          try have hl:(toksC s done).length=done.length * 2:=toksC_len s done
          iterate 30 (all_goals try (first | with_reducible refine splitI (fun h=>?_) (fun h=>?_) | with_reducible refine splitBI (fun h=>?_) (fun h=>?_) | simp (config:={ maxSteps:=1000000 }) (disch:=first | assumption | omega | (simp; done) | fail) [Tryd.results41, *]))
        all_goals first
          | (exfalso; omega)
          | exact ih.out (s.size - (i+1)) _ _ (by omega) (HNX.out (.slq (n'+1) 0 1 0) _ (n'+1+1) (by omega) (by omega) (fun b hb=>by simp (disch:=omega) only [gput_lt]; exact HG.out b hb) (.inr ⟨n'+1,by omega,by omega,rfl,by rw [← hsn]; simp [toksC]⟩) _ (by simp [*]) (by simp [*] <;> omega) (by simp [*]))
          | exact ih.out (s.size - (i+1)) _ _ (by omega) (HNX.out (.slq (n'+1) 0 (done.length+1) 0) _ (n'+1+1) (by omega) (by omega) (fun b hb=>by simp (disch:=omega) only [gput_lt,gput_ne]; exact HG.out b hb) (.inr ⟨n'+1,by omega,by omega,by simp,by rw [← hsn]; simp⟩) _ (by simp [*]) (by simp [*] <;> omega) (by simp [*]))
    · have hT:tokN s i=1:=by rw [HTK.out,if_neg (by simp only [letterM,Bool.or_eq_true,decide_eq_true_eq]; omega),if_neg (by simp only [digitM,decide_eq_true_eq]; omega),if_neg (by omega)]
      clear HTK
      refine LX.roundP (noO_ok _ _) hG6 [] (by decide +kernel) ?_
      have htn:((i:Int)+1).toNat=i+1:=by omega
      rcases (by omega:(i:Int)+1 < (s.size:Int)∨¬(i:Int)+1 < (s.size:Int)) with hlt2 | hlt2
      all_goals
        rw [hT] at HNX HTOK htk
        clear hT
        have hsn:=fun l=>toksC_snoc s l i
        rw [← HTOK.out] at hsn
        rcases HOUT.out with ⟨rfl,rfl⟩ | ⟨a,ha1,ha2,rfl,hga⟩
        all_goals
          try have hl:(toksC s done).length=done.length * 2:=toksC_len s done
          iterate 30 (all_goals try (first | with_reducible refine splitI (fun h=>?_) (fun h=>?_) | with_reducible refine splitBI (fun h=>?_) (fun h=>?_) | simp (config:={ maxSteps:=1000000 }) (disch:=first | assumption | omega | (simp; done) | fail) [Tryd.results41, *]))
        all_goals first
          | (exfalso; omega)
          | exact ih.out (s.size - (i+1)) _ _ (by omega) (HNX.out (.slq (n'+1) 0 1 0) _ (n'+1+1) (by omega) (by omega) (fun b hb=>by simp (disch:=omega) only [gput_lt]; exact HG.out b hb) (.inr ⟨n'+1,by omega,by omega,rfl,by rw [← hsn]; simp [toksC]⟩) _ (by simp [*]) (by simp [*] <;> omega) (by simp [*]))
          | exact ih.out (s.size - (i+1)) _ _ (by omega) (HNX.out (.slq (n'+1) 0 (done.length+1) 0) _ (n'+1+1) (by omega) (by omega) (fun b hb=>by simp (disch:=omega) only [gput_lt,gput_ne]; exact HG.out b hb) (.inr ⟨n'+1,by omega,by omega,by simp,by rw [← hsn]; simp⟩) _ (by simp [*]) (by simp [*] <;> omega) (by simp [*]))
    · have hT:tokN s i=1:=by rw [HTK.out,if_neg (by simp only [letterM,Bool.or_eq_true,decide_eq_true_eq]; omega),if_neg (by simp only [digitM,decide_eq_true_eq]; omega),if_neg (by omega)]
      clear HTK
      refine LX.roundP (noO_ok _ _) hG6 [] (by decide +kernel) ?_
      have htn:((i:Int)+1).toNat=i+1:=by omega
      rcases (by omega:(i:Int)+1 < (s.size:Int)∨¬(i:Int)+1 < (s.size:Int)) with hlt2 | hlt2
      all_goals
        rw [hT] at HNX HTOK htk
        clear hT
        have hsn:=fun l=>toksC_snoc s l i
        rw [← HTOK.out] at hsn
        rcases HOUT.out with ⟨rfl,rfl⟩ | ⟨a,ha1,ha2,rfl,hga⟩
        all_goals
          try have hl:(toksC s done).length=done.length * 2:=toksC_len s done
          iterate 30 (all_goals try (first | with_reducible refine splitI (fun h=>?_) (fun h=>?_) | with_reducible refine splitBI (fun h=>?_) (fun h=>?_) | simp (config:={ maxSteps:=1000000 }) (disch:=first | assumption | omega | (simp; done) | fail) [Tryd.results41, *]))
        all_goals first
          | (exfalso; omega)
          | exact ih.out (s.size - (i+1)) _ _ (by omega) (HNX.out (.slq (n'+1) 0 1 0) _ (n'+1+1) (by omega) (by omega) (fun b hb=>by simp (disch:=omega) only [gput_lt]; exact HG.out b hb) (.inr ⟨n'+1,by omega,by omega,rfl,by rw [← hsn]; simp [toksC]⟩) _ (by simp [*]) (by simp [*] <;> omega) (by simp [*]))
          | exact ih.out (s.size - (i+1)) _ _ (by omega) (HNX.out (.slq (n'+1) 0 (done.length+1) 0) _ (n'+1+1) (by omega) (by omega) (fun b hb=>by simp (disch:=omega) only [gput_lt,gput_ne]; exact HG.out b hb) (.inr ⟨n'+1,by omega,by omega,by simp,by rw [← hsn]; simp⟩) _ (by simp [*]) (by simp [*] <;> omega) (by simp [*]))
  · have hiS:i=s.size:=by omega
    subst hiS
    have h1:=HP.out
    rw [adv_stay (.inl rfl),posL_end rfl] at h1
    have te:tokB s s.size=⟨#[]⟩:=(tok_empty (Nat.le_refl _)).2 rfl
    have hl:(toksC s done).length=done.length * 2:=toksC_len s done
    have hsn:=toksC_snoc s done s.size
    rw [te] at hsn
    rcases HOUT.out with ⟨rfl,rfl⟩ | ⟨a,ha1,ha2,rfl,hga⟩
    all_goals
      iterate 12 (all_goals try (first | with_reducible refine splitI (fun h=>?_) (fun h=>?_) | with_reducible refine splitBI (fun h=>?_) (fun h=>?_) | simp (config:={ maxSteps:=1000000 }) (disch:=first | assumption | omega | (simp; done) | fail) [Tryd.results41, *]))
    · refine ⟨n'+1,_,_,⟨⟨rfl,by rw [← h1]; rfl⟩,rfl,rfl⟩,by omega,by omega,fun b hb=>?_,?_⟩
      · simp (disch:=omega) only [gput_lt]
        exact HG.out b hb
      · rw [gput_eq,← h1,← hsn]
        simp [toksC]
    · refine ⟨n'+1,_,_,⟨⟨rfl,by rw [← h1]; simp⟩,rfl,rfl⟩,by omega,by omega,fun b hb=>?_,gput_eq⟩
      simp (disch:=omega) only [gput_lt,gput_ne]
      exact HG.out b hb
end Go.Ai
end
