/- A small verified interpreter over names, its proofs, and what was proved with it. No condition. -/
import Derived.Lib.AtoiAll
import Derived.Lib.ItoaNum
import Derived.Test.YtfllomlghjolpaaDoorX05
import Derived.Test.YtfllomlghjolpaaDoorX04
set_option linter.all false
set_option linter.deprecated false
section
namespace Go.Ai
set_option maxRecDepth 10000
def letterM (c:Int) : Bool:=decide (97≤c∧c≤122) || decide (65≤c∧c≤90)
def digitM (c:Int) : Bool:=decide (48≤c∧c≤57)
def runF (F:Nat→Int→Bool) (s:ByteArray) (k:Nat) : Nat→Nat→Nat
 | 0,j=>j
 | m+1,j=>if k+j < s.size then (if F j (bAt s (k+j))=true then runF F s k m (j+1) else j) else j
def fLetter:Nat→Int→Bool:=fun _ c=>letterM c
def fDigit:Nat→Int→Bool:=fun _ c=>digitM c
theorem runF_le {F:Nat→Int→Bool} {s:ByteArray} {k:Nat} : ∀ (m j:Nat),k+j≤s.size→j≤runF F s k m j∧k+runF F s k m j≤s.size
 | 0,j,h=>⟨Nat.le_refl _,h⟩
 | m+1,j,h=>by
  unfold runF
  split
  ·split
   ·have:=runF_le (F:=F) (s:=s) (k:=k) m (j+1) (by omega); omega
   ·exact ⟨Nat.le_refl _,h⟩
  ·exact ⟨Nat.le_refl _,h⟩
def skipM (s:ByteArray) : Nat→Nat→Nat
 | 0,k=>k
 | m+1,k=>if k < s.size then (if bAt s k=32 then skipM s m (k+1) else k) else k
theorem skipM_le {s:ByteArray} : ∀ (m k:Nat),k≤s.size→k≤skipM s m k∧skipM s m k≤s.size
 | 0,k,h=>⟨Nat.le_refl _,h⟩
 | m+1,k,h=>by
  unfold skipM
  split
  ·split
   ·have:=skipM_le (s:=s) m (k+1) (by omega); omega
   ·omega
  ·omega
def tokN (s:ByteArray) (k:Nat) : Nat :=
 if letterM (bAt s k)=true then runF fLetter s k (s.size - k - 1) 1 else if digitM (bAt s k)=true then runF fDigit s k (s.size - k - 1) 1 else 1
theorem tokN_le {s:ByteArray} {k:Nat} (h:k < s.size) : 1≤tokN s k∧k+tokN s k≤s.size:=by
 have h1:=runF_le (F:=fLetter) (s:=s) (k:=k) (s.size - k - 1) 1 (by omega)
 have h2:=runF_le (F:=fDigit) (s:=s) (k:=k) (s.size - k - 1) 1 (by omega)
 unfold tokN
 split
 ·omega
 ·split <;> omega
def tokB (s:ByteArray) (k:Nat) : ByteArray:=if k=s.size then ⟨#[]⟩ else s.extract k (k+tokN s k)
def advM (s:ByteArray) (j:Nat) : Nat:=skipM s (s.size - j) j
def nxtM (s:ByteArray) (k:Nat) : Nat:=advM s (k+(tokB s k).size)
theorem tok_size {s:ByteArray} {k:Nat} (h:k < s.size) : (tokB s k).size=tokN s k:=by
 have:=tokN_le h
 unfold tokB
 rw [if_neg (by omega),ByteArray.size_extract]
 omega
theorem tok_le {s:ByteArray} {k:Nat} (h:k≤s.size) : k+(tokB s k).size≤s.size:=by
 by_cases h1:k=s.size
 ·have:(tokB s k).size=0:=by unfold tokB; rw [if_pos h1]; rfl
  omega
 ·rw [tok_size (by omega)]
  exact (tokN_le (by omega)).2
theorem advM_le {s:ByteArray} {j:Nat} (h:j≤s.size) : j≤advM s j∧advM s j≤s.size:=skipM_le _ _ h
theorem nxtM_le {s:ByteArray} {k:Nat} (h:k≤s.size) : nxtM s k≤s.size:=(advM_le (tok_le h)).2
theorem nxtM_ge {s:ByteArray} {k:Nat} (h:k≤s.size) : k≤nxtM s k:=by
 have h1:=(advM_le (tok_le h)).1
 unfold nxtM
 omega
theorem nxtM_lt {s:ByteArray} {k:Nat} (h:k < s.size) : k < nxtM s k:=by
 have h1:=(advM_le (tok_le (Nat.le_of_lt h))).1
 have h2:=tok_size h
 have h3:=tokN_le h
 unfold nxtM
 omega
def signs:List ByteArray:=[⟨#[116,114,117,101]⟩,⟨#[115,116,97,116,101]⟩,⟨#[99,97,110]⟩,⟨#[103,105,118,101,115]⟩,⟨#[110,111,116]⟩,⟨#[97,110,100]⟩,⟨#[111,114]⟩,⟨#[69,88]⟩,⟨#[69,70]⟩,⟨#[69,71]⟩,⟨#[69]⟩,⟨#[65,88]⟩,⟨#[65,70]⟩,⟨#[65,71]⟩,⟨#[65]⟩]
def signB (o:Nat) : ByteArray:=signs.getD o ⟨#[]⟩
def openT:ByteArray:=⟨#[40]⟩
def closeT:ByteArray:=⟨#[41]⟩
def leftT:ByteArray:=⟨#[91]⟩
def rightT:ByteArray:=⟨#[93]⟩
def untilT:ByteArray:=⟨#[85]⟩
def subsM (o:Nat) : Nat:=if o < 4 then 0 else if o=5∨o=6∨o=10∨o=14 then 2 else 1
def opFrom (t:ByteArray) : List Nat→Option Nat
 | []=>none
 | o :: l=>if o≠5∧o≠6∧signB o=t then some o else opFrom t l
def opOf (t:ByteArray) : Option Nat:=opFrom t (List.range 15)
def valN (s:ByteArray) : Nat→Nat→Nat→Nat
 | 0,_,a=>a
 | m+1,k,a=>valN s m (k+1) (a * 10+(bAt s k - 48).toNat)
def valB (s:ByteArray) : Nat:=valN s s.size 0 0
def digitsB (s:ByteArray) : Prop:=∀ k,k < s.size→digitM (bAt s k)=true
open Classical in
noncomputable def numM (t:ByteArray) : Option Nat:=if 0 < t.size∧t.size≤4∧digitsB t∧¬(bAt t 0=48∧1 < t.size) then some (valB t) else none
def bopM (rank:Nat) : Nat:=if rank=2 then 5 else 6
inductive ParR where
 | ok (x:NodeM) (k:Nat)
 | err (k:Nat)
section
variable (s:ByteArray)
mutual
noncomputable def readF:Nat→Nat→Nat→Option ParR
 | 0,_,_=>none
 | m+1,rank,k =>
  if 3≤rank then singF m k
  else match readF m (rank+1) k with
   | some (.ok x k')=>loopF m rank x k'
   | r=>r
noncomputable def loopF:Nat→Nat→NodeM→Nat→Option ParR
 | 0,_,_,_=>none
 | m+1,rank,x,k =>
  if tokB s k=signB (bopM rank) then
   match readF m (rank+1) (nxtM s k) with
   | some (.ok y k')=>loopF m rank (.mk (bopM rank) 0 0 [x,y]) k'
   | r=>r
  else some (.ok x k)
noncomputable def singF:Nat→Nat→Option ParR
 | 0,_=>none
 | m+1,k =>
  if tokB s k=openT then
   match readF m 1 (nxtM s k) with
   | some (.ok x k')=>if tokB s k'=closeT then some (.ok x (nxtM s k')) else some (.err k')
   | r=>r
  else match opOf (tokB s k) with
   | none=>some (.err k)
   | some o =>
    if subsM o=2 then
     if tokB s (nxtM s k)=leftT then
      match readF m 1 (nxtM s (nxtM s k)) with
      | some (.ok a k1) =>
       if tokB s k1=untilT then
        match readF m 1 (nxtM s k1) with
        | some (.ok b k2)=>if tokB s k2=rightT then some (.ok (.mk o 0 0 [a,b]) (nxtM s k2)) else some (.err k2)
        | r=>r
       else some (.err k1)
      | r=>r
     else some (.err (nxtM s k))
    else if subsM o=1 then
     match singF m (nxtM s k) with
     | some (.ok x k')=>some (.ok (.mk o 0 0 [x]) k')
     | r=>r
    else if o=0 then some (.ok (.mk 0 0 0 []) (nxtM s k))
    else match numM (tokB s (nxtM s k)) with
     | none=>some (.err (nxtM s k))
     | some a =>
      if o=3 then
       match numM (tokB s (nxtM s (nxtM s k))) with
       | none=>some (.err (nxtM s (nxtM s k)))
       | some b=>some (.ok (.mk 3 (a:Nat) (b:Nat) []) (nxtM s (nxtM s (nxtM s k))))
      else some (.ok (.mk o (a:Nat) 0 []) (nxtM s (nxtM s k)))
end
end
mutual
def validM (st inp out:Int) : NodeM→Bool
 | .mk op a b subs=>decide (op < 15) && (decide (subs.length=subsM op) && (decide (0≤a) && (decide (0≤b) && (decide (a < if op=1 then st else if op=2∨op=3 then inp else 1) && (decide (b < if op=3 then out else 1) && validL st inp out subs)))))
def validL (st inp out:Int) : List NodeM→Bool
 | []=>true
 | x :: l=>validM st inp out x && validL st inp out l
end
end Go.Ai
end
section
namespace Go.Ai
set_option maxRecDepth 10000
def Plain (l:List UInt8) : Prop:=l≠[]∧(∀ c∈l,48≤c.toNat∧c.toNat≤57)∧(∀ c r,l=c :: r→r≠[]→c.toNat≠48)
theorem ofNat_dig {u:Nat} (h:u < 10) : (UInt8.ofNat (48+u)).toNat=48+u:=by
 rw [UInt8.toNat_ofNat']
 omega
theorem plain_dec:∀ (n u:Nat),u≤n→Plain (Lib.decDigits u)∧(1≤u→∀ c r,Lib.decDigits u=c :: r→c.toNat≠48)∧∀ k,u < 10 ^ (k+1)→(Lib.decDigits u).length≤k+1
 | n,u,hn=>by
  by_cases h:u < 10
  ·rw [Lib.decDigits,dif_pos h]
   have e:=ofNat_dig h
   refine ⟨⟨by simp,fun c hc=>?_,fun c r hr hne=>?_⟩,fun h1 c r hr=>?_,fun k _=>by simp⟩
   ·have:c=UInt8.ofNat (48+u):=by simpa using hc
    rw [this,e]; omega
   ·cases hr; exact absurd rfl hne
   ·cases hr; rw [e]; omega
  ·obtain ⟨n',rfl⟩ : ∃ n',n=n'+1:=⟨n - 1,by omega⟩
   obtain ⟨⟨p1,p2,p3⟩,p4,p5⟩:=plain_dec n' (u / 10) (by omega)
   have e:=ofNat_dig (u:=u % 10) (by omega)
   have hne0:=p4 (by omega)
   rw [Lib.decDigits,dif_neg h]
   refine ⟨⟨by simp,fun c hc=>?_,fun c r hr _=>?_⟩,fun _ c r hr=>?_,fun k hk=>?_⟩
   ·rcases List.mem_append.1 hc with hc | hc
    ·exact p2 c hc
    ·have:c=UInt8.ofNat (48+u % 10):=by simpa using hc
     rw [this,e]; omega
   ·cases hq:Lib.decDigits (u / 10) with
    | nil=>exact absurd hq p1
    | cons x y=>rw [hq] at hr; cases hr; exact hne0 _ _ hq
   ·cases hq:Lib.decDigits (u / 10) with
    | nil=>exact absurd hq p1
    | cons x y=>rw [hq] at hr; cases hr; exact hne0 _ _ hq
   ·cases k with
    | zero=>simp at hk; omega
    | succ k =>
     have:=p5 k (by rw [Nat.pow_succ] at hk; omega)
     simp; omega
end Go.Ai
end
section
namespace Go.Ai
set_option maxRecDepth 10000
def decB (n:Nat) : ByteArray:=⟨(Lib.decDigits n).toArray⟩
def digB (n:Nat) : ByteArray:=⟨#[(48+n).toUInt8]⟩
theorem dec_lo {n:Nat} (h:n < 10) : decB n=digB n:=by
 unfold decB digB
 rw [Lib.decDigits,dif_pos h]
theorem dec_hi {n:Nat} (h:9 < n) : decB n=decB (n / 10)++digB (n % 10):=by
 unfold decB digB
 rw [Lib.decDigits,dif_neg (by omega)]
 apply ByteArray.ext
 simp
theorem dec_size (n k:Nat) (h:n < 10 ^ (k+1)) : (decB n).size≤k+1:=by
 have:=(plain_dec n n (Nat.le_refl _)).2.2 k h
 unfold decB
 show (Lib.decDigits n).toArray.size≤_
 simpa using this
def rankM (op:Nat) : Int:=if op=6 then 1 else if op=5 then 2 else if subsM op=1 then 3 else 4
def parM (s:ByteArray) (r least:Int) : ByteArray:=if r < least then ⟨#[40]⟩++s++⟨#[41]⟩ else s
def joinM (op:Nat) (a b:Int) : List (ByteArray×Int)→ByteArray
 | []=>if op=0 then signB op else if op=3 then signB op++⟨#[32]⟩++decB a.toNat++⟨#[32]⟩++decB b.toNat else signB op++⟨#[32]⟩++decB a.toNat
 | [x]=>signB op++⟨#[32]⟩++parM x.1 x.2 3
 | x :: y :: _=>if op=10∨op=14 then signB op++⟨#[91]⟩++x.1++⟨#[32,85,32]⟩++y.1++⟨#[93]⟩ else parM x.1 x.2 (rankM op)++⟨#[32]⟩++signB op++⟨#[32]⟩++parM y.1 y.2 (rankM op+1)
mutual
def textM:NodeM→ByteArray
 | .mk op a b subs=>joinM op a b (textL subs)
def textL:List NodeM→List (ByteArray×Int)
 | []=>[]
 | x :: l=>(textM x,rankM x.op) :: textL l
end
theorem par_size (s:ByteArray) (r l:Int) : (parM s r l).size≤s.size+2:=by
 unfold parM
 split
 ·rw [ba_size_append,ba_size_append]
  show 1+s.size+1≤_
  omega
 ·omega
theorem sign_size (op:Nat) : (signB op).size≤5:=by
 by_cases h:op < 15
 ·have:op=0∨op=1∨op=2∨op=3∨op=4∨op=5∨op=6∨op=7∨op=8∨op=9∨op=10∨op=11∨op=12∨op=13∨op=14:=by omega
  rcases this with rfl | rfl | rfl | rfl | rfl | rfl | rfl | rfl | rfl | rfl | rfl | rfl | rfl | rfl | rfl <;> decide
 ·unfold signB
  rw [List.getD_eq_getElem?_getD,List.getElem?_eq_none (by show 15≤op; omega)]
  decide
mutual
theorem text_size:∀ (x:NodeM),validM 10000 10000 10000 x=true→(textM x).size≤32 * sizeN x
 | .mk op a b subs,h=>by
  simp only [validM,Bool.and_eq_true,decide_eq_true_eq] at h
  obtain ⟨h1,h2,h3,h4,h5,h6,h7⟩:=h
  have hs:=textL_size subs h7
  have hg:=sign_size op
  have hda:=dec_size a.toNat 3 (by split at h5 <;> (try split at h5) <;> omega)
  have hdb:=dec_size b.toNat 3 (by split at h6 <;> omega)
  unfold textM sizeN
  have e1:(⟨#[32]⟩ : ByteArray).size=1:=rfl
  have e2:(⟨#[91]⟩ : ByteArray).size=1:=rfl
  have e3:(⟨#[93]⟩ : ByteArray).size=1:=rfl
  have e4:(⟨#[32,85,32]⟩ : ByteArray).size=3:=rfl
  match subs,hs with
  | [],_ =>
   simp only [textL,joinM,sizeL]
   split
   ·omega
   ·split
    ·simp only [ba_size_append]; omega
    ·simp only [ba_size_append]; omega
  | [x],hs =>
   simp only [textL,joinM,sizeL,List.map_cons,List.map_nil,List.sum_cons,List.sum_nil,ba_size_append] at hs ⊢
   have:=par_size (textM x) (rankM x.op) 3
   omega
  | x :: y :: l,hs =>
   simp only [textL,List.map_cons,List.sum_cons,sizeL] at hs ⊢
   simp only [joinM]
   split
   ·simp only [ba_size_append]; omega
   ·have p1:=par_size (textM x) (rankM x.op) (rankM op)
    have p2:=par_size (textM y) (rankM y.op) (rankM op+1)
    simp only [ba_size_append]; omega
theorem textL_size:∀ (l:List NodeM),validL 10000 10000 10000 l=true→((textL l).map (·.1.size)).sum≤32 * sizeL l
 | [],_=>by simp [textL,sizeL]
 | x :: l,h=>by
  simp only [validL,Bool.and_eq_true] at h
  have h1:=text_size x h.1
  have h2:=textL_size l h.2
  simp only [textL,List.map_cons,List.sum_cons,sizeL]
  omega
end
theorem validL_mem {st inp out:Int} : ∀ {l:List NodeM},validL st inp out l=true→∀ y∈l,validM st inp out y=true
 | x :: l,h,y,hy=>by
  simp only [validL,Bool.and_eq_true] at h
  rcases List.mem_cons.1 hy with rfl | hy
  ·exact h.1
  ·exact validL_mem h.2 y hy
end Go.Ai
end
section
namespace Go.Ai
set_option maxRecDepth 10000
theorem bAt_extract {s:ByteArray} {k m j:Nat} (h:j < m) (hm:k+m≤s.size) : bAt (s.extract k (k+m)) j=bAt s (k+j):=by
 have hsz:(s.extract k (k+m)).size=m:=by rw [ByteArray.size_extract]; omega
 unfold bAt
 rw [dif_pos (by omega),dif_pos (by omega)]
 rw [ByteArray.getElem_extract]
structure Has (s:ByteArray) (k:Nat) (w:ByteArray) : Prop where
 le:k+w.size≤s.size
 at' : ∀ i,i < w.size→bAt s (k+i)=bAt w i
theorem ba_ext {a b:ByteArray} (h:a.size=b.size) (h2:∀ i,i < a.size→bAt a i=bAt b i) : a=b:=by
 refine ByteArray.ext_getElem h fun i h3 h4=>?_
 have:=h2 i h3
 unfold bAt at this
 rw [dif_pos h3,dif_pos h4] at this
 exact UInt8.toNat_inj.1 (by omega)
theorem Has.ext {s w:ByteArray} {k:Nat} (h:Has s k w) : s.extract k (k+w.size)=w:=by
 have hs:(s.extract k (k+w.size)).size=w.size:=by rw [ByteArray.size_extract]; have:=h.le; omega
 refine ba_ext hs fun i hi=>?_
 rw [bAt_extract (by omega) h.le]
 exact h.at' i (by omega)
def Stop (s:ByteArray) (j:Nat) : Prop:=j=s.size∨(j < s.size∧letterM (bAt s j)=false∧digitM (bAt s j)=false)
section
variable (s:ByteArray)
def RdT (r k:Nat) (x:NodeM) (k' : Nat) : Prop:=∀ m,20 * (s.size - k)+10≤m+r→readF s m r k=some (.ok x k')
def LpT (r:Nat) (x:NodeM) (k:Nat) (y:NodeM) (k' : Nat) : Prop:=∀ m,20 * (s.size - k)+1≤m→loopF s m r x k=some (.ok y k')
def SgT (k:Nat) (x:NodeM) (k' : Nat) : Prop:=∀ m,20 * (s.size - k)+6≤m→singF s m k=some (.ok x k')
end
section
variable {s:ByteArray}
theorem RdT.step {r k k1 k2:Nat} {x y:NodeM} (hr:r < 3) (h:RdT s (r+1) k x k1) (hk:k < k1) (hk1:k1≤s.size) (hl:LpT s r x k1 y k2) : RdT s r k y k2:=by
 intro m hm
 obtain ⟨m,rfl⟩ : ∃ m',m=m'+1:=⟨m - 1,by omega⟩
 rw [readF,if_neg (by omega),h m (by omega)]
 exact hl m (by omega)
theorem LpT.step {r k k1 k2:Nat} {x y z:NodeM} (hr:r < 3) (h:tokB s k=signB (bopM r)) (hk:k < s.size) (hd:RdT s (r+1) (nxtM s k) y k1) (hk1:nxtM s k < k1) (hk2:k1≤s.size) (hl:LpT s r (.mk (bopM r) 0 0 [x,y]) k1 z k2) : LpT s r x k z k2:=by
 intro m hm
 obtain ⟨m,rfl⟩ : ∃ m',m=m'+1:=⟨m - 1,by omega⟩
 have:=nxtM_lt hk
 rw [loopF,if_pos h,hd m (by omega)]
 exact hl m (by omega)
theorem opOf_sign {o:Nat} (h:o < 15) (h5:o≠5) (h6:o≠6) : opOf (signB o)=some o∧signB o≠openT:=by
 have:o=0∨o=1∨o=2∨o=3∨o=4∨o=7∨o=8∨o=9∨o=10∨o=11∨o=12∨o=13∨o=14:=by omega
 rcases this with rfl | rfl | rfl | rfl | rfl | rfl | rfl | rfl | rfl | rfl | rfl | rfl | rfl <;> decide +kernel
theorem SgT.un {k k1 o:Nat} {x:NodeM} (ho:o < 15) (hs:subsM o=1) (h:tokB s k=signB o) (hk:k < s.size) (hd:SgT s (nxtM s k) x k1) : SgT s k (.mk o 0 0 [x]) k1:=by
 intro m hm
 obtain ⟨m,rfl⟩ : ∃ m',m=m'+1:=⟨m - 1,by omega⟩
 have:=nxtM_lt hk
 obtain ⟨e1,e2⟩:=opOf_sign ho (by rintro rfl; revert hs; decide) (by rintro rfl; revert hs; decide)
 rw [singF,h,if_neg e2,e1]
 dsimp only
 rw [if_neg (by omega),if_pos hs,hd m (by omega)]
theorem SgT.two {k k1 k2 o:Nat} {x y:NodeM} (ho:o=10∨o=14) (h:tokB s k=signB o) (hk:k < s.size) (h1:tokB s (nxtM s k)=leftT) (hd:RdT s 1 (nxtM s (nxtM s k)) x k1) (h2:tokB s k1=untilT) (hk1:nxtM s (nxtM s k) < k1) (hk2:k1≤s.size)
  (hd2:RdT s 1 (nxtM s k1) y k2) (h3:tokB s k2=rightT) : SgT s k (.mk o 0 0 [x,y]) (nxtM s k2):=by
 intro m hm
 obtain ⟨m,rfl⟩ : ∃ m',m=m'+1:=⟨m - 1,by omega⟩
 have n0:=nxtM_lt hk
 have n1:=nxtM_ge (nxtM_le (Nat.le_of_lt hk))
 have n2:=nxtM_ge hk2
 have n3:=nxtM_le (nxtM_le (Nat.le_of_lt hk))
 obtain ⟨e1,e2⟩:=opOf_sign (o:=o) (by omega) (by omega) (by omega)
 have hs:subsM o=2:=by rcases ho with rfl | rfl <;> rfl
 rw [singF,h,if_neg e2,e1]
 dsimp only
 rw [if_pos hs,if_pos h1,hd m (by omega)]
 dsimp only
 rw [if_pos h2,hd2 m (by omega)]
 exact if_pos h3
theorem SgT.one {k a o:Nat} (ho:o=1∨o=2) (h:tokB s k=signB o) (hn:numM (tokB s (nxtM s k))=some a) : SgT s k (.mk o (a:Nat) 0 []) (nxtM s (nxtM s k)):=by
 intro m hm
 obtain ⟨m,rfl⟩ : ∃ m',m=m'+1:=⟨m - 1,by omega⟩
 obtain ⟨e1,e2⟩:=opOf_sign (o:=o) (by omega) (by omega) (by omega)
 rw [singF,h,if_neg e2,e1]
 dsimp only
 rw [if_neg (by rcases ho with rfl | rfl <;> decide),if_neg (by rcases ho with rfl | rfl <;> decide),if_neg (by omega),hn]
 dsimp only
 rw [if_neg (by omega)]
structure RdOK (k:Nat) (x:NodeM) (k' r:Nat) : Prop where
 lt:k < k'
 le:k'≤s.size
 sg:3≤r→SgT s k x k'
 c2:2≤r→∀ z q,LpT s 2 x k' z q→RdT s 2 k z q
 c1:tokB s k'≠signB 5→∀ z q,LpT s 1 x k' z q→RdT s 1 k z q
end
end Go.Ai
end
section
namespace Go.Ai
set_option maxRecDepth 10000
theorem op_cases {o:Nat} (h:o < 15) : o=0∨o=1∨o=2∨o=3∨o=4∨o=5∨o=6∨o=7∨o=8∨o=9∨o=10∨o=11∨o=12∨o=13∨o=14:=by omega
section
variable {s:ByteArray}
theorem RdOK.mono {k k' r r' : Nat} {x:NodeM} (h:RdOK (s:=s) k x k' r) (hr:r'≤r) : RdOK (s:=s) k x k' r' :=
 ⟨h.lt,h.le,fun h1=>h.sg (by omega),fun h1=>h.c2 (by omega),h.c1⟩
end
end Go.Ai
end
section
namespace Go.Ai
set_option maxRecDepth 10000
set_option maxHeartbeats 4000000
def tokC (s:ByteArray) (k:Nat) : List AV:=[.lit (.string (tokB s k)),.lit (.int .i64 (k:Nat))]
def toksC (s:ByteArray) (l:List Nat) : List AV:=l.flatMap (tokC s)
structure RAt (s:ByteArray) (pos:List Nat) (ta:Nat) (g:Nat→Option Blk) (n:Nat) : Prop where
 tan:ta < n
 toks:Row g ta 0 (toksC s pos)
theorem RAt.keep {s:ByteArray} {pos:List Nat} {ta:Nat} {g g' : Nat→Option Blk} {n n' : Nat} (h:RAt s pos ta g n) (hn:n≤n') (hg:∀ a,a < n→g' a=g a) : RAt s pos ta g' n' :=
 ⟨by have:=h.tan; omega,h.toks.mono (hg _ h.tan)⟩
end Go.Ai
end
section
namespace Go.Ai
structure GraphM where
 n:Nat
 succ:Nat→List Nat
abbrev SetS:=Nat→Bool
def GraphM.ok (G:GraphM) : Prop:=∀ s,s < G.n→∀ t∈G.succ s,t < G.n
def leS (n:Nat) (X Y:SetS) : Prop:=∀ s,s < n→X s=true→Y s=true
def eqS (n:Nat) (X Y:SetS) : Prop:=∀ s,s < n→X s=Y s
theorem eqS.le {n:Nat} {X Y:SetS} (h:eqS n X Y) : leS n X Y:=fun s hs hx=>by rw [← h s hs]; exact hx
theorem eqS.symm {n:Nat} {X Y:SetS} (h:eqS n X Y) : eqS n Y X:=fun s hs=>(h s hs).symm
theorem eqS.trans {n:Nat} {X Y Z:SetS} (h:eqS n X Y) (h' : eqS n Y Z) : eqS n X Z:=fun s hs=>(h s hs).trans (h' s hs)
theorem leS.antisymm {n:Nat} {X Y:SetS} (h:leS n X Y) (h' : leS n Y X) : eqS n X Y:=fun s hs=>by
 cases hx:X s with
 | true=>exact (h s hs hx).symm
 | false =>
  cases hy:Y s with
  | false=>rfl
  | true=>rw [h' s hs hy] at hx; cases hx
def GraphM.ends (G:GraphM) : SetS:=fun s=>(G.succ s).isEmpty
def GraphM.pre (G:GraphM) (X:SetS) : SetS:=fun s=>(G.succ s).any X
def GraphM.post (G:GraphM) (X:SetS) : SetS:=fun s=>(G.succ s).all X
def GraphM.fE (G:GraphM) (a b X:SetS) : SetS:=fun s=>b s || (a s && G.pre X s)
def GraphM.fA (G:GraphM) (a b X:SetS) : SetS:=fun s=>b s || (a s && (!G.ends s && G.post X s))
theorem GraphM.pre_mono {G:GraphM} (hG:G.ok) {X Y:SetS} (h:leS G.n X Y) : leS G.n (G.pre X) (G.pre Y):=fun s hs hx=>by
 simp only [GraphM.pre,List.any_eq_true] at hx ⊢
 obtain ⟨t,h1,h2⟩:=hx
 exact ⟨t,h1,h t (hG s hs t h1) h2⟩
theorem GraphM.post_mono {G:GraphM} (hG:G.ok) {X Y:SetS} (h:leS G.n X Y) : leS G.n (G.post X) (G.post Y):=fun s hs hx=>by
 simp only [GraphM.post,List.all_eq_true] at hx ⊢
 exact fun t ht=>h t (hG s hs t ht) (hx t ht)
theorem GraphM.fE_mono {G:GraphM} (hG:G.ok) (a b:SetS) {X Y:SetS} (h:leS G.n X Y) : leS G.n (G.fE a b X) (G.fE a b Y):=fun s hs hx=>by
 simp only [GraphM.fE,Bool.or_eq_true,Bool.and_eq_true] at hx ⊢
 exact hx.imp id fun ⟨h1,h2⟩=>⟨h1,G.pre_mono hG h s hs h2⟩
theorem GraphM.fA_mono {G:GraphM} (hG:G.ok) (a b:SetS) {X Y:SetS} (h:leS G.n X Y) : leS G.n (G.fA a b X) (G.fA a b Y):=fun s hs hx=>by
 simp only [GraphM.fA,Bool.or_eq_true,Bool.and_eq_true] at hx ⊢
 exact hx.imp id fun ⟨h1,h2,h3⟩=>⟨h1,h2,G.post_mono hG h s hs h3⟩
structure IsL (n:Nat) (F:SetS→SetS) (L:SetS) : Prop where
 fix:eqS n (F L) L
 least:∀ Z,leS n (F Z) Z→leS n L Z
theorem IsL.uniq {n:Nat} {F:SetS→SetS} {L M:SetS} (h:IsL n F L) (h' : IsL n F M) : eqS n L M:=(h.least M h'.fix.le).antisymm (h'.least L h.fix.le)
def iterS (F:SetS→SetS) : Nat→SetS
 | 0=>fun _=>false
 | k+1=>F (iterS F k)
def cnt (X:SetS) : Nat→Nat
 | 0=>0
 | k+1=>cnt X k+(if X k then 1 else 0)
theorem cnt_le (X:SetS) : ∀ k,cnt X k≤k
 | 0=>Nat.le_refl _
 | k+1=>by have:=cnt_le X k; unfold cnt; split <;> omega
theorem cnt_mono {X Y:SetS} : ∀ k,leS k X Y→cnt X k≤cnt Y k
 | 0,_=>Nat.le_refl _
 | k+1,h=>by
  have:=cnt_mono k (fun s hs=>h s (by omega))
  unfold cnt
  cases hx:X k with
  | false=>simp; split <;> omega
  | true=>rw [h k (by omega) hx]; simp; omega
theorem cnt_eq {X Y:SetS} : ∀ k,leS k X Y→cnt Y k≤cnt X k→eqS k X Y
 | 0,_,_=>fun s hs=>by omega
 | k+1,h,hc=>by
  have hm:=cnt_mono k (fun s hs=>h s (by omega))
  unfold cnt at hc
  cases hx:X k with
  | false =>
   rw [hx] at hc
   cases hy:Y k with
   | true=>rw [hy] at hc; simp at hc; omega
   | false =>
    rw [hy] at hc
    have:=cnt_eq k (fun s hs=>h s (by omega)) (by simpa using hc)
    intro s hs
    by_cases e:s=k
    ·rw [e,hx,hy]
    ·exact this s (by omega)
  | true =>
   have hy:=h k (by omega) hx
   rw [hx,hy] at hc
   have:=cnt_eq k (fun s hs=>h s (by omega)) (by simp at hc; omega)
   intro s hs
   by_cases e:s=k
   ·rw [e,hx,hy]
   ·exact this s (by omega)
theorem iter_le {n:Nat} {F:SetS→SetS} (hF:∀ X Y,leS n X Y→leS n (F X) (F Y)) : ∀ k,leS n (iterS F k) (iterS F (k+1))
 | 0=>fun _ _ h=>by cases h
 | k+1=>hF _ _ (iter_le hF k)
theorem iter_stable {n:Nat} {F:SetS→SetS} (hF:∀ X Y,leS n X Y→leS n (F X) (F Y)) {k:Nat} (h:eqS n (iterS F k) (iterS F (k+1))) : eqS n (iterS F (k+1)) (iterS F (k+2)):=(hF _ _ h.le).antisymm (hF _ _ h.symm.le)
theorem iter_count {n:Nat} {F:SetS→SetS} (hF:∀ X Y,leS n X Y→leS n (F X) (F Y)) : ∀ k,eqS n (iterS F k) (iterS F (k+1))∨k+1≤cnt (iterS F (k+1)) n
 | 0=>by
  by_cases h:cnt (iterS F (0+1)) n≤cnt (iterS F 0) n
  ·exact .inl (cnt_eq n (iter_le hF 0) h)
  ·right; omega
 | k+1=>by
  rcases iter_count hF k with h | h
  ·exact .inl (iter_stable hF h)
  ·by_cases h' : cnt (iterS F (k+1+1)) n≤cnt (iterS F (k+1)) n
   ·exact .inl (cnt_eq n (iter_le hF (k+1)) h')
   ·right; omega
theorem iter_lfp {n:Nat} {F:SetS→SetS} (hF:∀ X Y,leS n X Y→leS n (F X) (F Y)) : IsL n F (iterS F (n+1)):=by
 have h:eqS n (iterS F n) (iterS F (n+1)):=by
  rcases iter_count hF n with h | h
  ·exact h
  ·have:=cnt_le (iterS F (n+1)) n; omega
 refine ⟨(iter_stable hF h).symm,fun Z hZ=>?_⟩
 have key:∀ k,leS n (iterS F k) Z:=by
  intro k
  induction k with
  | zero=>exact fun _ _ h=>by cases h
  | succ k ih=>exact fun s hs hx=>hZ s hs (hF _ _ ih s hs hx)
 exact key _
theorem grow_lfp {n:Nat} {F:SetS→SetS} {b X:SetS} (hb:leS n (F X) X) (hl:∀ Z,leS n (F Z) Z→leS n X Z) (hF:∀ X Y,leS n X Y→leS n (F X) (F Y)) : IsL n F X:=by
 refine ⟨hb.antisymm ?_,hl⟩
 exact hl _ (hF _ _ hb)
def notS (X:SetS) : SetS:=fun s=>!X s
theorem not_pre (G:GraphM) (X:SetS) (s:Nat) : G.pre (notS X) s = !G.post X s:=by
 show (G.succ s).any (fun t=>!X t) = !(G.succ s).all X
 rw [List.not_all_eq_any_not]
theorem until_all {G:GraphM} (hG:G.ok) {a b A L E:SetS} (hL:IsL G.n (G.fA a b) L) (hA:IsL G.n (G.fA (fun _=>true) b) A) (hE:IsL G.n (G.fE (notS b) (notS (fun s=>a s || b s))) E) :
  eqS G.n L (fun s=>A s && !E s):=by
 refine leS.antisymm ?_ ?_
 ·
  have h1:leS G.n L A:=hL.least A (fun s hs hx=>by
   rw [← hA.fix s hs]
   simp only [GraphM.fA,Bool.or_eq_true,Bool.and_eq_true] at hx ⊢
   exact hx.imp id fun ⟨_,h⟩=>⟨by trivial,h⟩)
  have h2:leS G.n E (notS L):=hE.least _ (fun s hs hx=>by
   simp only [notS,Bool.not_eq_true']
   rw [← hL.fix s hs]
   simp only [GraphM.fE,GraphM.fA,notS,Bool.or_eq_true,Bool.and_eq_true,Bool.not_eq_true',Bool.or_eq_false_iff,Bool.and_eq_false_iff] at hx ⊢
   rcases hx with ⟨h3,h4⟩ | ⟨h3,h4⟩
   ·exact ⟨h4,.inl h3⟩
   ·refine ⟨h3,.inr (.inr ?_)⟩
    have:=not_pre G L s
    rw [show G.pre (notS L) s=true from h4] at this
    simpa using this)
  intro s hs hx
  simp only [Bool.and_eq_true,Bool.not_eq_true']
  refine ⟨h1 s hs hx,?_⟩
  cases he:E s with
  | false=>rfl
  | true =>
   have:=h2 s hs he
   simp only [notS,hx] at this
   cases this
 ·
  have h1:leS G.n A (fun s=>L s || E s):=hA.least _ (fun s hs hx=>by
   simp only [Bool.or_eq_true]
   rw [← hL.fix s hs,← hE.fix s hs]
   simp only [GraphM.fA,GraphM.fE,notS,Bool.or_eq_true,Bool.and_eq_true,Bool.not_eq_true',Bool.or_eq_false_iff] at hx ⊢
   rcases hx with h | ⟨_,h2,h3⟩
   ·exact .inl (.inl h)
   ·cases hb:b s with
    | true=>exact .inl (.inl rfl)
    | false =>
     cases ha:a s with
     | false=>exact .inr (.inl ⟨rfl,rfl⟩)
     | true =>
      by_cases hp:G.pre E s=true
      ·exact .inr (.inr ⟨rfl,hp⟩)
      ·refine .inl (.inr ⟨rfl,h2,?_⟩)
       simp only [GraphM.post,List.all_eq_true,Bool.or_eq_true] at h3 ⊢
       simp only [GraphM.pre,List.any_eq_true,not_exists,not_and] at hp
       intro t ht
       rcases h3 t ht with h | h
       ·exact h
       ·exact absurd h (hp t ht))
  intro s hs hx
  simp only [Bool.and_eq_true,Bool.not_eq_true'] at hx
  have:=h1 s hs hx.1
  simp only [Bool.or_eq_true,hx.2] at this
  rcases this with h | h
  ·exact h
  ·cases h
end Go.Ai
end
section
namespace Go.Ai
structure MachM where
 inp:Int
 out:Int
 rows:List (List (Int×Int))
def MachM.edge (M:MachM) (s:Nat) (i:Nat) : Int×Int:=((M.rows.getD s []).getD i (-1,-1))
def succL:List (Int×Int)→List Nat
 | []=>[]
 | e :: l=>if e.1 < 0 then succL l else e.1.toNat :: succL l
def MachM.gr (M:MachM) : GraphM:=⟨M.rows.length,fun s=>succL (M.rows.getD s [])⟩
def edgeOK (n:Nat) (out:Int) (e:Int×Int) : Bool:=decide (e=(-1,-1)) || (decide (0≤e.1) && (decide (e.1 < n) && (decide (0≤e.2) && decide (e.2 < out))))
def MachM.ok (M:MachM) : Prop:=1≤M.inp∧M.inp≤16∧1≤M.out∧M.out≤16∧1≤M.rows.length∧M.rows.length≤64∧∀ r∈M.rows,(r.length:Int)=M.inp∧∀ e∈r,edgeOK M.rows.length M.out e=true
theorem succL_mem:∀ {l:List (Int×Int)} {t:Nat},t∈succL l→∃ e∈l,0≤e.1∧e.1.toNat=t
 | e :: l,t,h=>by
  unfold succL at h
  split at h
  ·obtain ⟨x,h1,h2⟩:=succL_mem h
   exact ⟨x,List.mem_cons_of_mem _ h1,h2⟩
  ·rcases List.mem_cons.1 h with rfl | h
   ·exact ⟨e,List.mem_cons_self ..,by omega,rfl⟩
   ·obtain ⟨x,h1,h2⟩:=succL_mem h
    exact ⟨x,List.mem_cons_of_mem _ h1,h2⟩
theorem MachM.gr_ok {M:MachM} (h:M.ok) : M.gr.ok:=fun s hs t ht=>by
 obtain ⟨e,h1,h2,h3⟩:=succL_mem ht
 have hr:M.rows.getD s []∈M.rows:=by
  rw [List.getD_eq_getElem?_getD,List.getElem?_eq_getElem hs]
  exact List.getElem_mem hs
 have:=(h.2.2.2.2.2.2 _ hr).2 e h1
 unfold edgeOK at this
 simp only [Bool.or_eq_true,Bool.and_eq_true,decide_eq_true_eq] at this
 show t < M.rows.length
 rcases this with h4 | ⟨h4,h5,_⟩
 ·rw [h4] at h2; exact absurd h2 (by decide)
 ·omega
def allS:SetS:=fun _=>true
def opSem (M:MachM) (op:Nat) (a b:Int) (A B X:SetS) : Prop :=
 match op with
 | 0=>eqS M.gr.n X allS
 | 1=>eqS M.gr.n X fun s=>decide ((s:Int)=a)
 | 2=>eqS M.gr.n X fun s=>decide (0≤(M.edge s a.toNat).1)
 | 3=>eqS M.gr.n X fun s=>decide (0≤(M.edge s a.toNat).1) && decide ((M.edge s a.toNat).2=b)
 | 4=>eqS M.gr.n X (notS A)
 | 5=>eqS M.gr.n X fun s=>A s && B s
 | 6=>eqS M.gr.n X fun s=>A s || B s
 | 7=>eqS M.gr.n X (M.gr.pre A)
 | 8=>IsL M.gr.n (M.gr.fE allS A) X
 | 9=>IsL M.gr.n (M.gr.fA allS (notS A)) (notS X)
 | 10=>IsL M.gr.n (M.gr.fE A B) X
 | 11=>eqS M.gr.n X (M.gr.post A)
 | 12=>IsL M.gr.n (M.gr.fA allS A) X
 | 13=>IsL M.gr.n (M.gr.fE allS (notS A)) (notS X)
 | 14=>IsL M.gr.n (M.gr.fA A B) X
 | _=>False
theorem eqS.refl (n:Nat) (X:SetS) : eqS n X X:=fun _ _=>rfl
theorem notS_eq {n:Nat} {X Y:SetS} (h:eqS n X Y) : eqS n (notS X) (notS Y):=fun s hs=>by unfold notS; rw [h s hs]
theorem notS_inj {n:Nat} {X Y:SetS} (h:eqS n (notS X) (notS Y)) : eqS n X Y:=fun s hs=>by
 have:=h s hs
 unfold notS at this
 cases hx:X s <;> cases hy:Y s <;> simp_all
theorem IsL.cong {n:Nat} {F F' : SetS→SetS} {L L' : SetS} (h:IsL n F L) (hF:∀ X,eqS n (F X) (F' X)) (hF' : ∀ X Y,eqS n X Y→eqS n (F X) (F Y)) (hL:eqS n L L') : IsL n F' L' :=
 ⟨(hF L').symm.trans (((hF' _ _ hL).symm.trans h.fix).trans hL),fun Z hZ s hs hx=>h.least Z (fun t ht hy=>hZ t ht (by rw [← hF Z t ht]; exact hy)) s hs (by rw [hL s hs]; exact hx)⟩
theorem pre_eq {G:GraphM} (hG:G.ok) {X Y:SetS} (h:eqS G.n X Y) : eqS G.n (G.pre X) (G.pre Y):=(G.pre_mono hG h.le).antisymm (G.pre_mono hG h.symm.le)
theorem post_eq {G:GraphM} (hG:G.ok) {X Y:SetS} (h:eqS G.n X Y) : eqS G.n (G.post X) (G.post Y):=(G.post_mono hG h.le).antisymm (G.post_mono hG h.symm.le)
theorem fE_eq {G:GraphM} (hG:G.ok) (a b:SetS) {X Y:SetS} (h:eqS G.n X Y) : eqS G.n (G.fE a b X) (G.fE a b Y):=(G.fE_mono hG a b h.le).antisymm (G.fE_mono hG a b h.symm.le)
theorem fA_eq {G:GraphM} (hG:G.ok) (a b:SetS) {X Y:SetS} (h:eqS G.n X Y) : eqS G.n (G.fA a b X) (G.fA a b Y):=(G.fA_mono hG a b h.le).antisymm (G.fA_mono hG a b h.symm.le)
theorem fE_arg {G:GraphM} {a b a' b' : SetS} (ha:eqS G.n a a') (hb:eqS G.n b b') (X:SetS) : eqS G.n (G.fE a b X) (G.fE a' b' X):=fun s hs=>by unfold GraphM.fE; rw [ha s hs,hb s hs]
theorem fA_arg {G:GraphM} {a b a' b' : SetS} (ha:eqS G.n a a') (hb:eqS G.n b b') (X:SetS) : eqS G.n (G.fA a b X) (G.fA a' b' X):=fun s hs=>by unfold GraphM.fA; rw [ha s hs,hb s hs]
theorem opSem_uniq {M:MachM} (hM:M.ok) {op:Nat} {a b:Int} {A B X A' B' X' : SetS} (h:opSem M op a b A B X) (h' : opSem M op a b A' B' X') (hA:eqS M.gr.n A A') (hB:eqS M.gr.n B B') : eqS M.gr.n X X':=by
 have hG:=M.gr_ok hM
 have hr:=eqS.refl M.gr.n allS
 unfold opSem at h h'
 split at h <;> (try dsimp only at h')
 ·exact h.trans h'.symm
 ·exact h.trans h'.symm
 ·exact h.trans h'.symm
 ·exact h.trans h'.symm
 ·exact (h.trans (notS_eq hA)).trans h'.symm
 ·exact (h.trans (fun s hs=>by rw [hA s hs,hB s hs])).trans h'.symm
 ·exact (h.trans (fun s hs=>by rw [hA s hs,hB s hs])).trans h'.symm
 ·exact (h.trans (pre_eq hG hA)).trans h'.symm
 ·exact (h.cong (fE_arg hr hA) (fun _ _=>fE_eq hG _ _) (eqS.refl _ _)).uniq h'
 ·exact notS_inj ((h.cong (fA_arg hr (notS_eq hA)) (fun _ _=>fA_eq hG _ _) (eqS.refl _ _)).uniq h')
 ·exact (h.cong (fE_arg hA hB) (fun _ _=>fE_eq hG _ _) (eqS.refl _ _)).uniq h'
 ·exact (h.trans (post_eq hG hA)).trans h'.symm
 ·exact (h.cong (fA_arg hr hA) (fun _ _=>fA_eq hG _ _) (eqS.refl _ _)).uniq h'
 ·exact notS_inj ((h.cong (fE_arg hr (notS_eq hA)) (fun _ _=>fE_eq hG _ _) (eqS.refl _ _)).uniq h')
 ·exact (h.cong (fA_arg hA hB) (fun _ _=>fA_eq hG _ _) (eqS.refl _ _)).uniq h'
 ·exact h.elim
end Go.Ai
end
section
namespace Go.Ai
section
variable {P:Program} {W:WF} {Q:Out→Prop} {fr:Fr} {H:Mem} {ev:Ev} {d:Option Tmp} {ty:TypeId} {p:String} {af:Array Edge} {g:Option (Nat×Bool)}
theorem two64:(2:Nat) ^ 64=18446744073709551616:=by decide
theorem wrap_u64n {a:Nat} (h:a < 18446744073709551616) : IntKind.u64.wrap (a:Int)=(a:Int):=wrap_u64 (by omega) (by omega)
theorem bv_u64 {a:Nat} (h:a < 18446744073709551616) : (BitVec.ofInt 64 (a:Int)).toNat=a:=by
 rw [BitVec.ofInt_natCast,BitVec.toNat_ofNat,two64,Nat.mod_eq_of_lt h]
theorem and_lt64 {a b:Nat} (h:a < 18446744073709551616) : a &&& b < 18446744073709551616:=Nat.lt_of_le_of_lt Nat.and_le_left h
theorem or_lt64 {a b:Nat} (h:a < 18446744073709551616) (h' : b < 18446744073709551616) : a ||| b < 18446744073709551616:=by
 rw [← two64] at *
 exact Nat.or_lt_two_pow h h'
def ndN (a b:Nat) : Nat:=a &&& (18446744073709551615 - b)
theorem nd_lt64 {a b:Nat} (h:a < 18446744073709551616) : ndN a b < 18446744073709551616:=and_lt64 h
noncomputable def bitS (P:Program) (H:Mem) (ev:Ev) (o:Oper) (op:BinOp) (t:TypeId) (a b:Nat) : R:=match op with
 | .and=>if a < 18446744073709551616∧b < 18446744073709551616 then .val (.lit (.int .u64 ((a &&& b:Nat) : Int))) H else oBin P H ev o op t (some (.lit (.int .u64 a))) (some (.lit (.int .u64 b)))
 | .or=>if a < 18446744073709551616∧b < 18446744073709551616 then .val (.lit (.int .u64 ((a ||| b:Nat) : Int))) H else oBin P H ev o op t (some (.lit (.int .u64 a))) (some (.lit (.int .u64 b)))
 | .andNot=>if a < 18446744073709551616∧b < 18446744073709551616 then .val (.lit (.int .u64 ((ndN a b:Nat) : Int))) H else oBin P H ev o op t (some (.lit (.int .u64 a))) (some (.lit (.int .u64 b)))
 | op=>oBin P H ev o op t (some (.lit (.int .u64 a))) (some (.lit (.int .u64 b)))
theorem bits_pure {op:BinOp} {a b c:Nat} {r:BitVec 64} (h:Op.intBits op .u64 a b=pure (.int .u64 (IntKind.u64.wrap r.toNat))) (hc:r.toNat=c) (h1:c < 18446744073709551616) : pureV P (Op.intBits op .u64 (a:Int) (b:Int))=some (.int .u64 (c:Int)):=by
 rw [h,hc,wrap_u64n h1]
 rfl
theorem intK2_bit {t rt:TypeId} {x y:Operand} {op:BinOp} {a b:Nat} (hop:op=.and∨op=.or∨op=.andNot) (hx:ev x=some (.lit (.int .u64 a))) (hy:ev y=some (.lit (.int .u64 b))) :
  intK2 P H ev ⟨d,.binOp op t x y rt,ty,p,af,g⟩ op t .u64 a b (intR op .u64 a b)=bitS P H ev ⟨d,.binOp op t x y rt,ty,p,af,g⟩ op t a b:=by
 have key:∀ c:Nat,pureV P (Op.intBits op .u64 (a:Int) (b:Int))=some (.int .u64 (c:Int))→intK2 P H ev ⟨d,.binOp op t x y rt,ty,p,af,g⟩ op t .u64 a b (intR op .u64 a b)=.val (.lit (.int .u64 (c:Int))) H:=by
  intro c hc
  have hi:intR op .u64 a b=none:=by rcases hop with rfl | rfl | rfl <;> rfl
  rw [hi]
  show oBin P H ev ⟨d,.binOp op t x y rt,ty,p,af,g⟩ op t (some (.lit (.int .u64 a))) (some (.lit (.int .u64 b)))=_
  have hf:fastBin op (.lit (.int .u64 a)) (.lit (.int .u64 b))=none:=by rcases hop with rfl | rfl | rfl <;> (unfold fastBin; dsimp only; cases kEq .u64 .u64 <;> rfl)
  refine oBin_generic hf (generic2 rfl hx hy fun ρ e1 e2=>execOp_bin e1 e2 (by rcases hop with rfl | rfl | rfl <;> rfl) ?_)
  rcases hop with rfl | rfl | rfl <;> exact hc
 rcases hop with rfl | rfl | rfl
 ·unfold bitS
  dsimp only
  split
  ·rename_i h
   exact key _ (bits_pure (r:=BitVec.ofInt 64 a &&& BitVec.ofInt 64 b) rfl (by rw [BitVec.toNat_and,bv_u64 h.1,bv_u64 h.2]) (and_lt64 h.1))
  ·rfl
 ·unfold bitS
  dsimp only
  split
  ·rename_i h
   exact key _ (bits_pure (r:=BitVec.ofInt 64 a ||| BitVec.ofInt 64 b) rfl (by rw [BitVec.toNat_or,bv_u64 h.1,bv_u64 h.2]) (or_lt64 h.1 h.2))
  ·rfl
 ·unfold bitS
  dsimp only
  split
  ·rename_i h
   exact key _ (bits_pure (r:=BitVec.ofInt 64 a &&& ~~~BitVec.ofInt 64 b) rfl (by rw [BitVec.toNat_and,BitVec.toNat_not,bv_u64 h.1,bv_u64 h.2,two64]; rfl) (nd_lt64 h.1))
  ·rfl
def andN (a b:Nat) : Nat:=a &&& b
def orN (a b:Nat) : Nat:=a ||| b
def bitN (k:Nat) : Nat:=2 ^ k
def lowN (m k:Nat) : Nat:=m / 2 ^ k % 2
theorem andN_lt {a b:Nat} (h:a < 18446744073709551616) : andN a b < 18446744073709551616:=and_lt64 h
theorem orN_lt {a b:Nat} (h:a < 18446744073709551616) (h' : b < 18446744073709551616) : orN a b < 18446744073709551616:=or_lt64 h h'
theorem ndN_lt {a b:Nat} (h:a < 18446744073709551616) : ndN a b < 18446744073709551616:=and_lt64 h
theorem bitN_lt {k:Nat} (h:k≤63) : bitN k < 18446744073709551616:=by
 rw [← two64]
 exact Nat.pow_lt_pow_right (by omega) (by omega)
theorem andN_bit (a b s:Nat) : (andN a b).testBit s=(a.testBit s && b.testBit s):=Nat.testBit_and ..
theorem orN_bit (a b s:Nat) : (orN a b).testBit s=(a.testBit s || b.testBit s):=Nat.testBit_or ..
theorem ndN_bit (a b s:Nat) (hb:b < 18446744073709551616) : (ndN a b).testBit s=(a.testBit s && (decide (s < 64) && !b.testBit s)):=by
 unfold ndN
 rw [Nat.testBit_and]
 congr 1
 have h:=Nat.testBit_two_pow_sub_succ (x:=b) (n:=64) (by rw [two64]; exact hb) s
 rw [two64] at h
 rw [show 18446744073709551615 - b=18446744073709551616 - (b+1) by omega]
 exact h
theorem bitN_bit (k s:Nat) : (bitN k).testBit s=decide (k=s):=Nat.testBit_two_pow
theorem lowN_bit (m k:Nat) : decide (lowN m k=1)=m.testBit k:=by
 unfold lowN
 rw [Nat.testBit_eq_decide_div_mod_eq]
theorem intK2_and {t rt:TypeId} {x y:Operand} {a b:Nat} (hx:ev x=some (.lit (.int .u64 a))) (hy:ev y=some (.lit (.int .u64 b))) (ha:a < 18446744073709551616) (hb:b < 18446744073709551616) :
  intK2 P H ev ⟨d,.binOp .and t x y rt,ty,p,af,g⟩ .and t .u64 a b (intR .and .u64 a b)=.val (.lit (.int .u64 ((andN a b:Nat) : Int))) H:=by
 rw [intK2_bit (.inl rfl) hx hy]
 exact if_pos ⟨ha,hb⟩
theorem intK2_or {t rt:TypeId} {x y:Operand} {a b:Nat} (hx:ev x=some (.lit (.int .u64 a))) (hy:ev y=some (.lit (.int .u64 b))) (ha:a < 18446744073709551616) (hb:b < 18446744073709551616) :
  intK2 P H ev ⟨d,.binOp .or t x y rt,ty,p,af,g⟩ .or t .u64 a b (intR .or .u64 a b)=.val (.lit (.int .u64 ((orN a b:Nat) : Int))) H:=by
 rw [intK2_bit (.inr (.inl rfl)) hx hy]
 exact if_pos ⟨ha,hb⟩
theorem intK2_nd {t rt:TypeId} {x y:Operand} {a b:Nat} (hx:ev x=some (.lit (.int .u64 a))) (hy:ev y=some (.lit (.int .u64 b))) (ha:a < 18446744073709551616) (hb:b < 18446744073709551616) :
  intK2 P H ev ⟨d,.binOp .andNot t x y rt,ty,p,af,g⟩ .andNot t .u64 a b (intR .andNot .u64 a b)=.val (.lit (.int .u64 ((ndN a b:Nat) : Int))) H:=by
 rw [intK2_bit (.inr (.inr rfl)) hx hy]
 exact if_pos ⟨ha,hb⟩
theorem intK2_low {t rt:TypeId} {x y:Operand} {m k:Nat} (hx:ev x=some (.lit (.int .u64 ((m:Int) / 2 ^ k)))) (hy:ev y=some (.lit (.int .u64 1))) (hm:m < 18446744073709551616) :
  intK2 P H ev ⟨d,.binOp .and t x y rt,ty,p,af,g⟩ .and t .u64 ((m:Int) / 2 ^ k) 1 (intR .and .u64 ((m:Int) / 2 ^ k) 1)=.val (.lit (.int .u64 ((lowN m k:Nat) : Int))) H:=by
 have e:(m:Int) / 2 ^ k=((m / 2 ^ k:Nat) : Int):=by simp
 have hy' : ev y=some (.lit (.int .u64 ((1:Nat) : Int))):=hy
 rw [e] at hx ⊢
 have hl:m / 2 ^ k < 18446744073709551616:=Nat.lt_of_le_of_lt (Nat.div_le_self _ _) hm
 refine (intK2_and (t:=t) (rt:=rt) hx hy' hl (by omega)).trans ?_
 unfold andN lowN
 rw [Nat.and_one_is_mod]
theorem binS_shl1 {t rt:TypeId} {x y:Operand} {s:Int} (hx:ev x=some (.lit (.int .u64 1))) (hy:ev y=some (.lit (.int .i64 s))) (h0:0≤s) (h1:s≤63) :
  binS P H ev ⟨d,.binOp .shl t x y rt,ty,p,af,g⟩ .shl t (some (.lit (.int .u64 1))) (some (.lit (.int .i64 s)))=.val (.lit (.int .u64 ((bitN s.toNat:Nat) : Int))) H:=by
 have e:binS P H ev ⟨d,.binOp .shl t x y rt,ty,p,af,g⟩ .shl t (some (.lit (.int .u64 1))) (some (.lit (.int .i64 s)))=oBin P H ev ⟨d,.binOp .shl t x y rt,ty,p,af,g⟩ .shl t (some (.lit (.int .u64 1))) (some (.lit (.int .i64 s))):=rfl
 rw [e]
 refine oBin_generic rfl (generic2 rfl hx hy fun ρ e1 e2=>execOp_bin e1 e2 rfl ?_)
 show pureV P (Op.shift .shl .u64 1 .i64 s)=_
 unfold Op.shift
 rw [if_neg (by omega)]
 dsimp only
 have h2:min s.toNat IntKind.u64.bits=s.toNat:=by rw [bits_u64]; omega
 have h3:(1:Int) * 2 ^ s.toNat=((bitN s.toNat:Nat) : Int):=by unfold bitN; simp
 rw [h2,h3,wrap_u64n (bitN_lt (by omega))]
 rfl
attribute [simp] andN_lt orN_lt ndN_lt bitN_lt intK2_and intK2_or intK2_nd intK2_low binS_shl1
end
end Go.Ai
end
section
namespace Go.Ai
set_option maxRecDepth 10000
def sOf (m:Nat) : SetS:=fun s=>m.testBit s
def aheadN (nx:List Nat) (t:Nat) : Nat→Nat
 | 0=>0
 | k+1=>if andN (nx.getD k 0) t=0 then aheadN nx t k else orN (aheadN nx t k) (bitN k)
theorem aheadN_lt (nx:List Nat) (t:Nat) : ∀ k,k≤64→aheadN nx t k < 18446744073709551616
 | 0,_=>by unfold aheadN; omega
 | k+1,h=>by
  have:=aheadN_lt nx t k (by omega)
  unfold aheadN
  split
  ·exact this
  ·exact orN_lt this (bitN_lt (by omega))
theorem aheadN_bit (nx:List Nat) (t s:Nat) : ∀ k,(aheadN nx t k).testBit s=(decide (s < k) && !decide (andN (nx.getD s 0) t=0))
 | 0=>by unfold aheadN; simp
 | k+1=>by
  have ih:=aheadN_bit nx t s k
  unfold aheadN
  split
  ·rename_i h
   rw [ih]
   by_cases hs:s=k
   ·subst hs; rw [decide_eq_true h]; simp
   ·rw [show decide (s < k+1)=decide (s < k) by rw [decide_eq_decide]; omega]
  ·rename_i h
   rw [orN_bit,ih,bitN_bit]
   by_cases hs:s=k
   ·subst hs; rw [decide_eq_false h]; simp
   ·rw [decide_eq_false (show ¬k=s by omega),show decide (s < k+1)=decide (s < k) by rw [decide_eq_decide]; omega]; simp
theorem andN_ne {a b:Nat} : ¬andN a b=0↔∃ u,a.testBit u=true∧b.testBit u=true:=by
 constructor
 ·intro h
  obtain ⟨u,hu⟩:=Nat.exists_testBit_of_ne_zero h
  rw [andN_bit,Bool.and_eq_true] at hu
  exact ⟨u,hu⟩
 ·rintro ⟨u,h1,h2⟩ h
  have:(andN a b).testBit u=true:=by rw [andN_bit,h1,h2]; rfl
  rw [h,Nat.zero_testBit] at this
  cases this
structure GrN (G:GraphM) (nx:List Nat) (all:Nat) : Prop where
 ok:G.ok
 len:nx.length=G.n
 n64:G.n≤64
 lt:∀ x∈nx,x < 18446744073709551616
 bit:∀ s,s < G.n→∀ u,(nx.getD s 0).testBit u=true↔u∈G.succ s
 abit:∀ s,all.testBit s=decide (s < G.n)
 alt:all < 18446744073709551616
variable {G:GraphM} {nx:List Nat} {all:Nat}
theorem GrN.ahead (h:GrN G nx all) (t:Nat) : eqS G.n (sOf (aheadN nx t G.n)) (G.pre (sOf t)):=fun s hs=>by
 show (aheadN nx t G.n).testBit s=_
 rw [aheadN_bit,decide_eq_true hs,Bool.true_and]
 unfold GraphM.pre
 rw [Bool.eq_iff_iff,List.any_eq_true]
 simp only [Bool.not_eq_true',decide_eq_false_iff_not]
 rw [andN_ne]
 constructor
 ·rintro ⟨u,h1,h2⟩
  exact ⟨u,(h.bit s hs u).1 h1,h2⟩
 ·rintro ⟨u,h1,h2⟩
  exact ⟨u,(h.bit s hs u).2 h1,h2⟩
theorem GrN.all_eq (h:GrN G nx all) : eqS G.n (sOf all) allS:=fun s hs=>by
 show all.testBit s=true
 rw [h.abit,decide_eq_true hs]
def endsN (nx:List Nat) (all n:Nat) : Nat:=ndN all (aheadN nx all n)
theorem GrN.ends_lt (h:GrN G nx all) : endsN nx all G.n < 18446744073709551616:=ndN_lt h.alt
theorem GrN.nd (h:GrN G nx all) {t:Nat} (ht:t < 18446744073709551616) : eqS G.n (sOf (ndN all t)) (notS (sOf t)):=fun s hs=>by
 show (ndN all t).testBit s=_
 have:=h.n64
 rw [ndN_bit _ _ _ ht,h.abit,decide_eq_true hs,decide_eq_true (show s < 64 by omega)]
 rfl
theorem GrN.ends_eq (h:GrN G nx all) : eqS G.n (sOf (endsN nx all G.n)) G.ends:=fun s hs=>by
 have h1:=h.nd (aheadN_lt nx all G.n h.n64) s hs
 show sOf (ndN all (aheadN nx all G.n)) s=_
 rw [h1]
 unfold notS
 rw [h.ahead all s hs]
 unfold GraphM.ends GraphM.pre
 rw [Bool.eq_iff_iff]
 simp only [Bool.not_eq_true',List.any_eq_false,List.isEmpty_iff]
 constructor
 ·intro h2
  cases hsu:G.succ s with
  | nil=>rfl
  | cons u l =>
   exfalso
   have hu:u∈G.succ s:=by rw [hsu]; exact List.mem_cons_self ..
   refine h2 u hu ?_
   show all.testBit u=true
   rw [h.abit,decide_eq_true (h.ok s hs u hu)]
 ·intro h2 u hu
  rw [h2] at hu; cases hu
structure UInv (G:GraphM) (a b0 b:Nat) : Prop where
 up:leS G.n (sOf b0) (sOf b)
 least:∀ Z,leS G.n (G.fE (sOf a) (sOf b0) Z) Z→leS G.n (sOf b) Z
theorem UInv.start {a b0:Nat} : UInv G a b0 b0:=⟨fun _ _ h=>h,fun Z hZ s hs h=>hZ s hs (by unfold GraphM.fE; rw [h]; rfl)⟩
theorem UInv.step (h:GrN G nx all) {a b0 b:Nat} (hu:UInv G a b0 b) : UInv G a b0 (orN b (andN a (aheadN nx b G.n))):=by
 refine ⟨fun s hs hx=>?_,fun Z hZ s hs hx=>?_⟩
 ·show (orN _ _).testBit s=true
  rw [orN_bit,show b.testBit s=true from hu.up s hs hx]; rfl
 ·have hx' : (orN b (andN a (aheadN nx b G.n))).testBit s=true:=hx
  rw [orN_bit,andN_bit,Bool.or_eq_true,Bool.and_eq_true] at hx'
  rcases hx' with h1 | ⟨h1,h2⟩
  ·exact hu.least Z hZ s hs h1
  ·refine hZ s hs ?_
   unfold GraphM.fE
   have h3:G.pre (sOf b) s=true:=by rw [← h.ahead b s hs]; exact h2
   have h4:=G.pre_mono h.ok (hu.least Z hZ) s hs h3
   rw [h4,show sOf a s=true from h1]
   simp
theorem UInv.fin (h:GrN G nx all) {a b0 b:Nat} (hu:UInv G a b0 b) (he:orN b (andN a (aheadN nx b G.n))=b) : IsL G.n (G.fE (sOf a) (sOf b0)) (sOf b):=by
 refine grow_lfp (b:=sOf b0) (fun s hs hx=>?_) hu.least (fun X Y=>G.fE_mono h.ok _ _)
 unfold GraphM.fE at hx
 rw [Bool.or_eq_true,Bool.and_eq_true] at hx
 rcases hx with h1 | ⟨h1,h2⟩
 ·exact hu.up s hs h1
 ·have h3:(aheadN nx b G.n).testBit s=true:=by
   have:=h.ahead b s hs
   rw [show (aheadN nx b G.n).testBit s=sOf (aheadN nx b G.n) s from rfl,this]; exact h2
  show b.testBit s=true
  rw [← he,orN_bit,andN_bit,show a.testBit s=true from h1,h3]
  simp
theorem or_ge (a b:Nat) : a≤orN a b:=Nat.left_le_or
theorem and_le (a b:Nat) : andN a b≤a:=Nat.and_le_left
structure AInv (G:GraphM) (a0 a:Nat) : Prop where
 down:leS G.n (sOf a) (sOf a0)
 least:∀ Z,leS G.n (G.fA allS (notS (sOf a0)) Z) Z→leS G.n (notS (sOf a)) Z
theorem AInv.start {a0:Nat} : AInv G a0 a0:=⟨fun _ _ h=>h,fun Z hZ s hs h=>hZ s hs (by unfold GraphM.fA; rw [h]; rfl)⟩
theorem AInv.step (h:GrN G nx all) {a0 a:Nat} (ha:AInv G a0 a) : AInv G a0 (andN a (orN (aheadN nx a G.n) (endsN nx all G.n))):=by
 refine ⟨fun s hs hx=>?_,fun Z hZ s hs hx=>?_⟩
 ·have hx' : (andN a _).testBit s=true:=hx
  rw [andN_bit,Bool.and_eq_true] at hx'
  exact ha.down s hs hx'.1
 ·have hx' : (andN a (orN (aheadN nx a G.n) (endsN nx all G.n))).testBit s=false:=by simpa [notS,sOf] using hx
  rw [andN_bit,orN_bit] at hx'
  by_cases h1:a.testBit s=true
  ·rw [h1,Bool.true_and,Bool.or_eq_false_iff] at hx'
   have h2:G.pre (sOf a) s=false:=by rw [← h.ahead a s hs]; exact hx'.1
   have h3:G.ends s=false:=by rw [← h.ends_eq s hs]; exact hx'.2
   refine hZ s hs ?_
   have h4:=not_pre G (notS (sOf a)) s
   have h5:G.pre (notS (notS (sOf a))) s=false:=by
    have:notS (notS (sOf a))=sOf a:=by funext t; unfold notS; simp
    rw [this]; exact h2
   rw [h5] at h4
   have h6:G.post (notS (sOf a)) s=true:=by
    cases hp:G.post (notS (sOf a)) s with
    | true=>rfl
    | false=>rw [hp] at h4; cases h4
   have h7:=G.post_mono h.ok (ha.least Z hZ) s hs h6
   unfold GraphM.fA
   rw [h3,h7]
   simp [allS]
  ·exact ha.least Z hZ s hs (by simp [notS,sOf,h1])
theorem AInv.fin (h:GrN G nx all) {a0 a:Nat} (ha:AInv G a0 a) (he:andN a (orN (aheadN nx a G.n) (endsN nx all G.n))=a) : IsL G.n (G.fA allS (notS (sOf a0))) (notS (sOf a)):=by
 refine grow_lfp (b:=sOf a0) (fun s hs hx=>?_) ha.least (fun X Y=>G.fA_mono h.ok _ _)
 unfold GraphM.fA at hx
 rw [Bool.or_eq_true,Bool.and_eq_true,Bool.and_eq_true] at hx
 cases h1:a.testBit s with
 | false=>simp [notS,sOf,h1]
 | true =>
  exfalso
  have h2:=h1
  rw [← he,andN_bit,orN_bit,h1,Bool.true_and,Bool.or_eq_true] at h2
  rcases hx with h3 | ⟨_,h3,h4⟩
  ·have h5:=ha.down s hs h1
   simp only [notS,h5] at h3
   cases h3
  ·rcases h2 with h2 | h2
   ·have h5:G.pre (sOf a) s=true:=by rw [← h.ahead a s hs]; exact h2
    have h6:=not_pre G (notS (sOf a)) s
    rw [show notS (notS (sOf a))=sOf a by funext t; unfold notS; simp,h5,h4] at h6
    cases h6
   ·have h5:G.ends s=true:=by rw [← h.ends_eq s hs]; exact h2
    rw [h5] at h3
    cases h3
end Go.Ai
end
section
namespace Go.Ai
set_option maxRecDepth 10000
theorem Row.ext {g g' : Nat→Option Blk} {a off:Nat} {cs:List AV} (hr:Row g a off cs) (h:∀ x,g a=some x→g' a=some x) : Row g' a off cs :=
 let ⟨l,own,z,h1,h2,h3⟩:=hr; ⟨l,own,z,h _ h1,h2,h3⟩
theorem SliceV.ext {g g' : Nat→Option Blk} {b b' len:Nat} {sv:AV} {cs:List AV} (hb:b≤b') (h:∀ a x,a < b→g a=some x→g' a=some x) : SliceV g b sv len cs→SliceV g' b' sv len cs :=
 fun hs=>hs.imp id fun ⟨a,off,h1,h2,h3⟩=>⟨a,off,by omega,h2,h3.ext fun x hx=>h a x h1 hx⟩
theorem SliceV.one {g:Nat→Option Blk} {b len:Nat} {sv:AV} {cs:List AV} : SliceV g b sv len cs→oneC sv=true:=by
 rintro (⟨_,_,rfl | rfl⟩ | ⟨a,off,_,⟨c,rfl⟩ | ⟨c,rfl⟩,_⟩) <;> rfl
def SliceA (g:Nat→Option Blk) (b:Nat) (sv:AV) (len:Nat) (cs:List AV) : Prop :=
 (len=0∧(sv=.lit (.slice none 0 0)∨sv=.es))∨∃ a off c,a < b∧sv=.sl a off len c∧Row g a off cs
theorem SliceA.mono {g g' : Nat→Option Blk} {b b' len:Nat} {sv:AV} {cs:List AV} (hb:b≤b') (h:∀ a,a < b→g' a=g a) : SliceA g b sv len cs→SliceA g' b' sv len cs :=
 fun hs=>hs.imp id fun ⟨a,off,c,h1,h2,h3⟩=>⟨a,off,c,by omega,h2,h3.mono (h a h1)⟩
theorem SliceA.one {g:Nat→Option Blk} {b len:Nat} {sv:AV} {cs:List AV} : SliceA g b sv len cs→oneC sv=true:=by
 rintro (⟨_,rfl | rfl⟩ | ⟨a,off,c,_,rfl,_⟩) <;> rfl
def rowC (r:List (Int×Int)) : List AV:=r.flatMap fun e=>[.lit (.int .i64 e.1),.lit (.int .i64 e.2)]
theorem rowC_len:∀ (r:List (Int×Int)),(rowC r).length=r.length * 2
 | []=>rfl
 | e :: r=>by
  have:=rowC_len r
  unfold rowC at this ⊢
  rw [List.flatMap_cons,List.length_append,this,List.length_cons]
  simp
  omega
theorem rowC_at:∀ (r:List (Int×Int)) (k:Nat) (h:k < r.length),((rowC r).drop (k * 2)).take 2=[.lit (.int .i64 r[k].1),.lit (.int .i64 r[k].2)]
 | e :: r,0,_=>rfl
 | e :: r,k+1,h=>by
  have:=rowC_at r k (by simpa using h)
  have e1:rowC (e :: r)=[.lit (.int .i64 e.1),.lit (.int .i64 e.2)]++rowC r:=rfl
  rw [e1,show (k+1) * 2=2+k * 2 by omega,← List.drop_drop]
  exact this
theorem rowC_one (allr:List (Int×Int)) (k:Nat) (h:k < allr.length) : (rowC allr)[k * 2]?=some (.lit (.int .i64 allr[k].1))∧(rowC allr)[k * 2+1]?=some (.lit (.int .i64 allr[k].2)):=by
 have h1:=rowC_at allr k h
 have h2:(((rowC allr).drop (k * 2)).take 2)[0]?=some (.lit (.int .i64 allr[k].1)):=by rw [h1]; rfl
 have h3:(((rowC allr).drop (k * 2)).take 2)[1]?=some (.lit (.int .i64 allr[k].2)):=by rw [h1]; rfl
 rw [List.getElem?_take_of_lt (by omega),List.getElem?_drop] at h2 h3
 exact ⟨h2,h3⟩
def RowsE (g:Nat→Option Blk) (b:Nat) : List (List (Int×Int))→List AV→Prop
 | [],cs=>cs=[]
 | r :: l,cs=>∃ c t,cs=c :: t∧SliceV g b c r.length (rowC r)∧RowsE g b l t
theorem RowsE.ext {g g' : Nat→Option Blk} {b b' : Nat} (hb:b≤b') (h:∀ a x,a < b→g a=some x→g' a=some x) : ∀ {l:List (List (Int×Int))} {cs:List AV},RowsE g b l cs→RowsE g' b' l cs
 | [],_,h0=>h0
 | _ :: _,_,⟨c,t,h1,h2,h3⟩=>⟨c,t,h1,h2.ext hb h,h3.ext hb h⟩
theorem RowsE.len {g:Nat→Option Blk} {b:Nat} : ∀ {l:List (List (Int×Int))} {cs:List AV},RowsE g b l cs→cs.length=l.length
 | [],cs,h=>by have h' : cs=[]:=h; rw [h']; rfl
 | r :: l,cs,⟨c,t,h1,h2,h3⟩=>by rw [h1,List.length_cons,List.length_cons,h3.len]
theorem RowsE.at {g:Nat→Option Blk} {b:Nat} : ∀ {l:List (List (Int×Int))} {cs:List AV},RowsE g b l cs→∀ (k:Nat) (h:k < l.length) (h' : k < cs.length),SliceV g b cs[k] l[k].length (rowC l[k])
 | r :: l,cs,⟨c,t,h1,h2,h3⟩,0,h,h'=>by subst h1; exact h2
 | r :: l,cs,⟨c,t,h1,h2,h3⟩,k+1,h,h'=>by subst h1; exact h3.at k (by simpa using h) (by simpa using h')
theorem RowsE.snoc {g:Nat→Option Blk} {b:Nat} {r:List (Int×Int)} {c:AV} (hr:SliceV g b c r.length (rowC r)) : ∀ {l:List (List (Int×Int))} {cs:List AV},RowsE g b l cs→RowsE g b (l++[r]) (cs++[c])
 | [],cs,h=>by have h' : cs=[]:=h; subst h'; exact ⟨c,[],rfl,hr,rfl⟩
 | _ :: _,_,⟨d,t,h1,h2,h3⟩=>⟨d,t++[c],by rw [h1]; rfl,h2,h3.snoc hr⟩
def RepM (g:Nat→Option Blk) (b:Nat) (M:MachM) (cs:List AV) : Prop :=
 ∃ sv svs,cs=[.lit (.int .i64 M.inp),.lit (.int .i64 M.out),sv]∧RowsE g b M.rows svs∧SliceV g b sv M.rows.length svs
theorem RepM.ext {g g' : Nat→Option Blk} {b b' : Nat} (hb:b≤b') (h:∀ a x,a < b→g a=some x→g' a=some x) {M:MachM} {cs:List AV} : RepM g b M cs→RepM g' b' M cs :=
 fun ⟨sv,svs,h1,h2,h3⟩=>⟨sv,svs,h1,h2.ext hb h,h3.ext hb h⟩
theorem RepM.mono {g g' : Nat→Option Blk} {b b' : Nat} (hb:b≤b') (h:∀ a,a < b→g' a=g a) {M:MachM} {cs:List AV} (hr:RepM g b M cs) : RepM g' b' M cs:=hr.ext hb fun a x ha hx=>(h a ha).trans hx
theorem RepM.one {g:Nat→Option Blk} {b:Nat} {M:MachM} {cs:List AV} (h:RepM g b M cs) : ∃ sv,cs=[.lit (.int .i64 M.inp),.lit (.int .i64 M.out),sv]∧oneC sv=true :=
 let ⟨sv,_,h1,_,h3⟩:=h; ⟨sv,h1,h3.one⟩
def FreshM (g:Nat→Option Blk) (n n' : Nat) (M:MachM) (cs:List AV) : Prop:=∃ gk:Nat→Option Blk,(∀ a z,gk a=some z→g a=some z∧n≤a∧a < n')∧RepM gk n' M cs
theorem FreshM.keep {g g' : Nat→Option Blk} {n0 n n' n2:Nat} {M:MachM} {cs:List AV} (h:FreshM g n n' M cs) (h0:n0≤n) (h2:n'≤n2) (hg:∀ a,n≤a→a < n'→g' a=g a) : FreshM g' n0 n2 M cs:=by
 obtain ⟨gk,h1,h3⟩:=h
 refine ⟨gk,fun a z hz=>?_,h3.ext h2 fun a z _ hz=>hz⟩
 obtain ⟨e1,e2,e3⟩:=h1 a z hz
 exact ⟨(hg a e2 e3).trans e1,by omega,by omega⟩
theorem FreshM.rep {g:Nat→Option Blk} {n n' : Nat} {M:MachM} {cs:List AV} (h:FreshM g n n' M cs) : RepM g n' M cs :=
 let ⟨_,h1,h3⟩:=h; h3.ext (Nat.le_refl _) fun a z _ hz=>(h1 a z hz).1
def GrowV (g:Nat→Option Blk) (lo n' B:Nat) (sv:AV) (len sz:Nat) (cs:List AV) : Prop :=
 (len=0∧cs=[]∧sv=.lit (.slice none 0 0))∨(0 < len∧sv=.slq B 0 len 0∧lo≤B∧B < n'∧g B=some (.cells cs true sz)∧cs.length=len * sz)
theorem GrowV.keep {g g' : Nat→Option Blk} {lo n' n2 B len sz:Nat} {sv:AV} {cs:List AV} (h:GrowV g lo n' B sv len sz cs) (hn:n'≤n2) (hg:lo≤B→B < n'→g' B=g B) : GrowV g' lo n2 B sv len sz cs :=
 h.imp id fun ⟨h0,h1,h2,h3,h4,h5⟩=>⟨h0,h1,h2,by omega,(hg h2 h3).trans h4,h5⟩
theorem GrowV.mk {g:Nat→Option Blk} {lo n' B len sz:Nat} {cs:List AV} (h:g B=some (.cells cs true sz)) (h1:lo≤B) (h2:B < n') (h3:cs.length=(len+1) * sz) : GrowV g lo n' B (.slq B 0 (len+1) 0) (len+1) sz cs :=
 .inr ⟨by omega,rfl,h1,h2,h,h3⟩
theorem GrowV.one {g:Nat→Option Blk} {lo n' B len sz:Nat} {sv:AV} {cs:List AV} : GrowV g lo n' B sv len sz cs→oneC sv=true:=by
 rintro (⟨_,_,rfl⟩ | ⟨_,rfl,_⟩) <;> rfl
end Go.Ai
end
section
namespace Go.Ai
set_option maxRecDepth 10000
def u64C (l:List Nat) : List AV:=l.map fun (c:Nat)=>.lit (.int .u64 (c:Int))
theorem u64C_len (l:List Nat) : (u64C l).length=l.length:=List.length_map _
theorem u64C_at (l:List Nat) (k:Nat) (h:k < (u64C l).length) : (u64C l)[k]=.lit (.int .u64 ((l.getD k 0:Nat) : Int)):=by
 unfold u64C at h ⊢
 rw [List.getElem_map]
 rw [List.length_map] at h
 rw [List.getD_eq_getElem?_getD,List.getElem?_eq_getElem h]
 rfl
def RepG (g:Nat→Option Blk) (b:Nat) (M:MachM) (nx:List Nat) (all:Nat) (cs:List AV) : Prop :=
 ∃ rv nv,cs=[.lit (.int .i64 M.inp),.lit (.int .i64 M.out),rv,nv,.lit (.int .u64 (all:Int))]∧RepM g b M [.lit (.int .i64 M.inp),.lit (.int .i64 M.out),rv]∧SliceV g b nv nx.length (u64C nx)
theorem RepG.mono {g g' : Nat→Option Blk} {b b' : Nat} (hb:b≤b') (h:∀ a,a < b→g' a=g a) {M:MachM} {nx:List Nat} {all:Nat} {cs:List AV} : RepG g b M nx all cs→RepG g' b' M nx all cs :=
 fun ⟨rv,nv,h1,h2,h3⟩=>⟨rv,nv,h1,h2.mono hb h,h3.mono hb h⟩
theorem lenV {P:Program} {g:Nat→Option Blk} {b len:Nat} {sv:AV} {cs:List AV} (h:SliceV g b sv len cs) : ∀ {H:Mem} {ev:Ev} {o:Oper} {c:Call} {e:TypeId},lenS P H ev o c (some (.slice e)) (some [sv])=.val (.lit (.int .i64 len)) H:=by
 intro H ev o c e
 rcases h with ⟨rfl,_,rfl | rfl⟩ | ⟨a,off,_,⟨c',rfl⟩ | ⟨c',rfl⟩,_⟩ <;> rfl
theorem edge_at {M:MachM} {k i:Nat} {row:List (Int×Int)} {e:Int×Int} (h:M.rows[k]?=some row) (hi:row[i]?=some e) : M.edge k i=e:=by
 have e1:M.rows.getD k []=row:=by rw [List.getD_eq_getElem?_getD,h]; rfl
 unfold MachM.edge
 rw [e1,List.getD_eq_getElem?_getD,hi]; rfl
end Go.Ai
end
section
namespace Go.Ai
set_option maxRecDepth 10000
def noneS:SetS:=fun _=>false
mutual
def semN (M:MachM) : NodeM→SetS→Prop
 | .mk op a b subs,X=>∃ A B,semL M subs A B∧opSem M op a b A B X
def semL (M:MachM) : List NodeM→SetS→SetS→Prop
 | [],A,B=>eqS M.gr.n A noneS∧eqS M.gr.n B noneS
 | x :: l,A,B=>semN M x A∧semL1 M l B
def semL1 (M:MachM) : List NodeM→SetS→Prop
 | [],B=>eqS M.gr.n B noneS
 | y :: _,B=>semN M y B
end
mutual
theorem semN_uniq {M:MachM} (hM:M.ok) : ∀ (x:NodeM) {X Y:SetS},semN M x X→semN M x Y→eqS M.gr.n X Y
 | .mk op a b subs,X,Y,⟨A,B,h1,h2⟩,⟨A',B',h3,h4⟩=>by
  obtain ⟨hA,hB⟩:=semL_uniq hM subs h1 h3
  exact opSem_uniq hM h2 h4 hA hB
theorem semL_uniq {M:MachM} (hM:M.ok) : ∀ (l:List NodeM) {A B A' B' : SetS},semL M l A B→semL M l A' B'→eqS M.gr.n A A'∧eqS M.gr.n B B'
 | [],_,_,_,_,h,h'=>⟨h.1.trans h'.1.symm,h.2.trans h'.2.symm⟩
 | x :: l,_,_,_,_,h,h'=>⟨semN_uniq hM x h.1 h'.1,semL1_uniq hM l h.2 h'.2⟩
theorem semL1_uniq {M:MachM} (hM:M.ok) : ∀ (l:List NodeM) {B B' : SetS},semL1 M l B→semL1 M l B'→eqS M.gr.n B B'
 | [],_,_,h,h'=>h.trans h'.symm
 | y :: _,_,_,h,h'=>semN_uniq hM y h h'
end
theorem ok_row {M:MachM} (h:M.ok) : ∀ r∈M.rows,(r.length:Int)=M.inp:=fun r hr=>(h.2.2.2.2.2.2 r hr).1
theorem ok_edge {M:MachM} (h:M.ok) {s i:Nat} (hs:s < M.gr.n) (hi:(i:Int) < M.inp) : M.edge s i=(-1,-1)∨(0≤(M.edge s i).1∧(M.edge s i).1 < M.gr.n∧0≤(M.edge s i).2∧(M.edge s i).2 < M.out):=by
 have hs' : s < M.rows.length:=hs
 have h1:=h.2.2.2.2.2.2 _ (List.getElem_mem hs')
 have hi' : i < M.rows[s].length:=by omega
 have h2:=h1.2 _ (List.getElem_mem hi')
 rw [edge_at (List.getElem?_eq_getElem hs') (List.getElem?_eq_getElem hi')]
 unfold edgeOK at h2
 simp only [Bool.or_eq_true,Bool.and_eq_true,decide_eq_true_eq] at h2
 exact h2
theorem ok_edge1 {M:MachM} (h:M.ok) (s i:Nat) (hs:s < M.gr.n) (hi:(i:Int) < M.inp) : -1≤(M.edge s i).1:=by
 rcases ok_edge h hs hi with h1 | h1
 ·rw [h1]; decide
 ·omega
end Go.Ai
end
section
namespace Go.Ai
section
variable {P:Program} {H:Mem} {ev:Ev} {d:Option Tmp} {ty:TypeId} {p:String} {af:Array Edge} {g:Option (Nat×Bool)}
noncomputable def mkI (P:Program) (t:TypeId) : Option AV:=match elemOfSlice P t with
 | some (e,size,bytes)=>if size=1∧bytes≤1048576 then (match zeroL P e with | some [v]=>some v | _=>none) else none
 | none=>none
noncomputable def mksS (P:Program) (H:Mem) (t:TypeId) (q:Option AV) (x y:Option AV) : R:=match q,x,y with
 | some v,some (.lit (.int .i64 a)),some (.lit (.int .i64 b))=>if a=b∧0≤a∧a≤1048576 then .val (.sl H.next 0 a.toNat a.toNat) (H.add (.cells (List.replicate a.toNat v) true 0)) else oMakeSlice P H t x y
 | _,_,_=>oMakeSlice P H t x y
theorem rep_one (v:AV) : ∀ n,rep [v] n=List.replicate n v
 | 0=>rfl
 | n+1=>by rw [rep_succ,rep_one v n]; rfl
theorem mkI_inv {t:TypeId} {v:AV} (h:mkI P t=some v) : ∃ e bytes,elemOfSlice P t=some (e,1,bytes)∧bytes≤1048576∧zeroL P e=some [v]:=by
 unfold mkI at h
 split at h
 ·rename_i e size bytes he
  split at h
  ·rename_i hc
   obtain ⟨rfl,hb⟩:=hc
   split at h
   ·rename_i u hz; cases h; exact ⟨e,bytes,he,hb,hz⟩
   ·cases h
  ·cases h
 ·cases h
theorem op_mks {t:TypeId} {l c:Operand} : opV P H ev ⟨d,.makeSlice t l c,ty,p,af,g⟩=mksS P H t (mkI P t) (ev l) (ev c):=by
 show oMakeSlice P H t (ev l) (ev c)=_
 unfold mksS
 split
 ·rename_i v a b hq hx hy
  split
  ·rename_i h
   obtain ⟨rfl,h0,h1⟩:=h
   obtain ⟨e,bytes,h2,h3,h4⟩:=mkI_inv hq
   rw [hx,hy]
   unfold oMakeSlice
   rw [h2]
   simp only [Option.bind_some,natOf_int h0]
   have hc:(Nat.ble a.toNat a.toNat && Nat.ble a.toNat 1048576 && Nat.ble bytes 1048576)=true:=by
    rw [Nat.ble_eq_true_of_le (Nat.le_refl _),Nat.ble_eq_true_of_le (show a.toNat≤1048576 by omega),Nat.ble_eq_true_of_le h3]; rfl
   rw [hc]
   by_cases hz:a.toNat=0
   ·have e1:zeroFor P e (a.toNat * 1)=some []:=by unfold zeroFor; rw [hz]; try rfl
    rw [e1]
    dsimp only
    rw [hz]
    show newBlk H [] true _=_
    simp [newBlk,Mem.newK_eq]
   ·have e1:zeroFor P e (a.toNat * 1)=some [v]:=by
     unfold zeroFor
     have:Nat.beq (a.toNat * 1) 0=false:=by
      cases hb:Nat.beq (a.toNat * 1) 0 with
      | false=>rfl
      | true=>have:=Nat.eq_of_beq_eq_true hb; omega
     rw [this]; exact h4
    rw [e1]
    dsimp only
    rw [rep_one]
    simp [newBlk,Mem.newK_eq]
  ·rw [hx,hy]
 ·rfl
theorem mksS_congr {tk:Nat} (_h0:tick=tk) {t:TypeId} {q q' : Option AV} {x x' y y' : Option AV} {H H' : Mem} (h0:q=q') (h1:H=H') (h2:x=x') (h3:y=y') : mksS P H t q x y=mksS P H' t q' x' y':=by rw [h0,h1,h2,h3]
attribute [congr] mksS_congr
theorem mksS_ok {t:TypeId} {v:AV} {a:Int} (h0:0≤a) (h1:a≤1048576) : mksS P H t (some v) (some (.lit (.int .i64 a))) (some (.lit (.int .i64 a)))=.val (.sl H.next 0 a.toNat a.toNat) (H.add (.cells (List.replicate a.toNat v) true 0)):=if_pos ⟨rfl,h0,h1⟩
attribute [simp] op_mks mksS_ok
end
section
variable {H:Mem}
theorem stS_int {l:List AV} {z:Nat} {ag:Bool} {a off:Nat} {k:IntKind} {v:Int} (h:off < l.length) :
  stS (some (ag,1)) (some (.cells l true z)) H a off [.lit (.int k v)]=.skip (H.upd a (.cells (l.set off (.lit (.int k v))) true z)):=by
 refine (stS_cells (size:=1) rfl rfl h).trans ?_
 have e:putL l off [.lit (.int k v)]=l.set off (.lit (.int k v)):=by
  unfold putL
  rw [List.set_eq_take_append_cons_drop,if_pos h]
  simp
 rw [e]
attribute [simp] stS_int
end
theorem put_set {α:Type} {l:List α} {k:Nat} {v:α} (h:k < l.length) : l.take k++v :: l.drop (k+1)=l.set k v:=by
 rw [List.set_eq_take_append_cons_drop,if_pos h]
end Go.Ai
end
section
namespace Go.Ai
set_option maxRecDepth 10000
def rowN (r:List (Int×Int)) : Nat→Nat
 | 0=>0
 | k+1=>if (r.getD k (-1,-1)).1 = -1 then rowN r k else orN (rowN r k) (bitN (r.getD k (-1,-1)).1.toNat)
theorem rowN_lt {r:List (Int×Int)} (h:∀ e∈r,e.1 = -1∨(0≤e.1∧e.1≤63)) : ∀ k,k≤r.length→rowN r k < 18446744073709551616
 | 0,_=>by unfold rowN; omega
 | k+1,hk=>by
  have ih:=rowN_lt h k (by omega)
  unfold rowN
  split
  ·exact ih
  ·rename_i hn
   refine orN_lt ih (bitN_lt ?_)
   rw [List.getD_eq_getElem?_getD,List.getElem?_eq_getElem (by omega)] at hn ⊢
   have:=h _ (List.getElem_mem (show k < r.length by omega))
   simp only [Option.getD_some] at hn ⊢
   omega
theorem rowN_bit {r:List (Int×Int)} (h:∀ e∈r,e.1 = -1∨(0≤e.1∧e.1≤63)) (u:Nat) : ∀ k,k≤r.length→((rowN r k).testBit u=true↔∃ e∈r.take k,0≤e.1∧e.1.toNat=u)
 | 0,_=>by unfold rowN; simp
 | k+1,hk=>by
  have ih:=rowN_bit h u k (by omega)
  have hk' : k < r.length:=by omega
  have h1:=h _ (List.getElem_mem hk')
  have hg:r.getD k (-1,-1)=r[k]:=by rw [List.getD_eq_getElem?_getD,List.getElem?_eq_getElem hk']; rfl
  have ht:r.take (k+1)=r.take k++[r[k]]:=by rw [List.take_succ,List.getElem?_eq_getElem hk']; rfl
  unfold rowN
  rw [hg,ht]
  simp only [List.mem_append,List.mem_singleton]
  split
  ·rename_i hn
   rw [ih]
   constructor
   ·rintro ⟨e,h2,h3⟩; exact ⟨e,.inl h2,h3⟩
   ·rintro ⟨e,h2 | rfl,h3⟩
    ·exact ⟨e,h2,h3⟩
    ·omega
  ·rename_i hn
   rw [orN_bit,Bool.or_eq_true,ih,bitN_bit,decide_eq_true_eq]
   constructor
   ·rintro (⟨e,h2,h3⟩ | h2)
    ·exact ⟨e,.inl h2,h3⟩
    ·exact ⟨_,.inr rfl,by omega,h2⟩
   ·rintro ⟨e,h2 | rfl,h3⟩
    ·exact .inl ⟨e,h2,h3⟩
    ·exact .inr h3.2
theorem succL_iff {l:List (Int×Int)} {t:Nat} : t∈succL l↔∃ e∈l,0≤e.1∧e.1.toNat=t:=by
 constructor
 ·exact succL_mem
 ·induction l with
  | nil=>rintro ⟨e,h,_⟩; cases h
  | cons x l ih =>
   rintro ⟨e,h,h1,h2⟩
   unfold succL
   rcases List.mem_cons.1 h with rfl | h
   ·rw [if_neg (by omega),h2]; exact List.mem_cons_self ..
   ·split
    ·exact ih ⟨e,h,h1,h2⟩
    ·exact List.mem_cons_of_mem _ (ih ⟨e,h,h1,h2⟩)
def nxK (M:MachM) (k j:Nat) : List Nat:=(List.range M.rows.length).map fun s=>if s < k then rowN (M.rows.getD s []) (M.rows.getD s []).length else if s=k then rowN (M.rows.getD s []) j else 0
theorem nxK_len (M:MachM) (k j:Nat) : (nxK M k j).length=M.rows.length:=by unfold nxK; rw [List.length_map,List.length_range]
theorem nxK_at (M:MachM) (k j s:Nat) (h:s < M.rows.length) : (nxK M k j).getD s 0=if s < k then rowN (M.rows.getD s []) (M.rows.getD s []).length else if s=k then rowN (M.rows.getD s []) j else 0:=by
 unfold nxK
 rw [List.getD_eq_getElem?_getD,List.getElem?_map,List.getElem?_range h]
 rfl
theorem nxK_zero (M:MachM) : nxK M 0 0=List.replicate M.rows.length 0:=by
 apply List.ext_getElem
 ·rw [nxK_len,List.length_replicate]
 ·intro i h1 h2
  rw [List.getElem_replicate]
  have h3:=nxK_at M 0 0 i (by rw [nxK_len] at h1; exact h1)
  rw [List.getD_eq_getElem?_getD,List.getElem?_eq_getElem h1] at h3
  have h4:(nxK M 0 0)[i]=if i < 0 then rowN (M.rows.getD i []) (M.rows.getD i []).length else if i=0 then rowN (M.rows.getD i []) 0 else 0:=h3
  rw [h4,if_neg (by omega)]
  split <;> rfl
theorem nxK_next (M:MachM) (k:Nat) : nxK M k (M.rows.getD k []).length=nxK M (k+1) 0:=by
 unfold nxK
 refine List.map_congr_left fun s hs=>?_
 by_cases h1:s < k
 ·rw [if_pos h1,if_pos (by omega)]
 ·rw [if_neg h1]
  by_cases h2:s=k
  ·rw [if_pos h2,if_pos (by omega),h2]
  ·rw [if_neg h2,if_neg (by omega)]
   split <;> rfl
theorem nxK_set (M:MachM) (k j v:Nat) (hk:k < M.rows.length) (hv:rowN (M.rows.getD k []) (j+1)=v) : (u64C (nxK M k j)).set k (.lit (.int .u64 (v:Int)))=u64C (nxK M k (j+1)):=by
 apply List.ext_getElem
 ·rw [List.length_set,u64C_len,u64C_len,nxK_len,nxK_len]
 ·intro i h1 h2
  rw [List.getElem_set]
  rw [List.length_set,u64C_len,nxK_len] at h1
  rw [u64C_at,u64C_at,nxK_at M k (j+1) i h1,nxK_at M k j i h1]
  split
  ·rename_i e; subst e
   rw [if_neg (by omega),if_pos rfl,hv]
  ·rename_i e
   by_cases h3:i < k
   ·rw [if_pos h3,if_pos h3]
   ·rw [if_neg h3,if_neg h3,if_neg (by omega),if_neg (by omega)]
def allK:Nat→Nat
 | 0=>0
 | k+1=>orN (allK k) (bitN k)
theorem allK_lt:∀ k,k≤64→allK k < 18446744073709551616
 | 0,_=>by unfold allK; omega
 | k+1,h=>by unfold allK; exact orN_lt (allK_lt k (by omega)) (bitN_lt (by omega))
theorem allK_bit (s:Nat) : ∀ k,(allK k).testBit s=decide (s < k)
 | 0=>by unfold allK; simp
 | k+1=>by
  unfold allK
  rw [orN_bit,allK_bit s k,bitN_bit,← Bool.decide_or,decide_eq_decide]
  omega
theorem ok_row_edge {M:MachM} (h:M.ok) {r:List (Int×Int)} (hr:r∈M.rows) : ∀ e∈r,e.1 = -1∨(0≤e.1∧e.1≤63):=fun e he=>by
 have h2:=(h.2.2.2.2.2.2 r hr).2 e he
 have h64:=h.2.2.2.2.2.1
 unfold edgeOK at h2
 simp only [Bool.or_eq_true,Bool.and_eq_true,decide_eq_true_eq] at h2
 rcases h2 with h2 | h2
 ·left; rw [h2]
 ·right; omega
theorem grN_of {M:MachM} (h:M.ok) : GrN M.gr (nxK M M.rows.length 0) (allK M.rows.length):=by
 have h64:M.rows.length≤64:=h.2.2.2.2.2.1
 refine ⟨M.gr_ok h,nxK_len ..,h64,fun x hx=>?_,fun s hs u=>?_,fun s=>allK_bit s _,allK_lt _ h64⟩
 ·unfold nxK at hx
  obtain ⟨s,hs,rfl⟩:=List.mem_map.1 hx
  have hs':=List.mem_range.1 hs
  rw [if_pos hs']
  have hg:M.rows.getD s []=M.rows[s]:=by rw [List.getD_eq_getElem?_getD,List.getElem?_eq_getElem hs']; rfl
  rw [hg]
  exact rowN_lt (ok_row_edge h (List.getElem_mem hs')) _ (Nat.le_refl _)
 ·have hs' : s < M.rows.length:=hs
  rw [nxK_at _ _ _ _ hs',if_pos hs']
  have hg:M.rows.getD s []=M.rows[s]:=by rw [List.getD_eq_getElem?_getD,List.getElem?_eq_getElem hs']; rfl
  have hG:M.gr.succ s=succL M.rows[s]:=by show succL (M.rows.getD s [])=_; rw [hg]
  rw [hg,hG,rowN_bit (ok_row_edge h (List.getElem_mem hs')) u _ (Nat.le_refl _),List.take_length,succL_iff]
end Go.Ai
end
section
namespace Go.Ai
section
variable {P:Program} {H:Mem} {ev:Ev} {d:Option Tmp} {ty:TypeId} {p:String} {af:Array Edge} {g:Option (Nat×Bool)}
end
end Go.Ai
end
section
namespace Go.Ai
variable {P:Program} {H:Mem}
section
variable {ev:Ev} {d:Option Tmp} {ty:TypeId} {p:String} {af:Array Edge} {g:Option (Nat×Bool)}
def imap (l:List (Int×AV×Nat)) : List (AV×AV×Nat):=l.map fun x=>(.lit (.int .i64 x.1),x.2.1,x.2.2)
theorem litAll_ints:∀ l:List (Int×AV×Nat),litAll ((imap l).map (·.1))=some (l.map fun x=>Value.int .i64 x.1)
 | []=>rfl
 | x :: l=>by
  have:=litAll_ints l
  simp only [imap,List.map_cons] at this ⊢
  simp only [litAll]
  rw [this]
def iAt (s:Int) : List (Int×AV×Nat)→Nat→Option Nat
 | [],_=>none
 | x :: l,i=>if s=x.1 then some i else iAt s l (i+1)
def iGet (s:Int) : List (Int×AV×Nat)→Option AV
 | []=>none
 | x :: l=>if s=x.1 then some x.2.1 else iGet s l
theorem findNow_ints {k:IntKind} (s:Int) : ∀ (l:List (Int×AV×Nat)) (i:Nat),Instr.findNow (.int k) (.int .i64 s) ((l.map fun x=>Value.int .i64 x.1).map fun q=>(⟨q,undef,0⟩ : MapEntry)) i=some ((iAt s l i).map fun j=>(j,undef))
 | [],i=>rfl
 | x :: l,i=>by
  have ih:=findNow_ints (k:=k) s l (i+1)
  simp only [List.map_cons] at ih ⊢
  unfold Instr.findNow iAt
  show (match (if IntKind.i64=IntKind.i64 then some (s == x.1) else none:Option Bool) with | some true=>_ | some false=>_ | none=>none)=_
  rw [if_pos rfl]
  by_cases h:s=x.1
  ·rw [if_pos h]
   have:(s == x.1)=true:=by simp [h]
   rw [this]; rfl
  ·rw [if_neg h]
   have:(s == x.1)=false:=by simp [h]
   rw [this]; exact ih
theorem findK_ints {kt:TypeId} {k:IntKind} (hk:P.underlying kt=some (.int k)) (s:Int) (l:List (Int×AV×Nat)) : findK P kt (.int .i64 s) (imap l)=some (iAt s l 0):=by
 unfold findK
 rw [litAll_ints]
 dsimp only
 have:pureV P (Instr.findKey kt (.int .i64 s) ((l.map fun x=>Value.int .i64 x.1).map fun q=>(⟨q,undef,0⟩ : MapEntry)))=some ((iAt s l 0).map fun j=>(j,undef)):=by
  unfold Instr.findKey
  rw [pureV_then (pureV_underlying hk),findNow_ints]
  rfl
 rw [this]
 cases iAt s l 0 <;> rfl
theorem checkKey_int {kt:TypeId} {k:IntKind} {b:Bool} {n:Nat} {s:Int} (hk:P.underlying kt=some (.int k)) : pureV P (Instr.checkKey b (n+1) kt (.int .i64 s))=some ():=by
 unfold Instr.checkKey
 rw [pureV_then (pureV_underlying hk)]
 rfl
theorem iAt_spec (s:Int) : ∀ (l:List (Int×AV×Nat)) (i:Nat),match iAt s l i with | some j=>i≤j∧∃ x,l[j - i]?=some x∧iGet s l=some x.2.1 | none=>iGet s l=none
 | [],i=>by simp [iAt,iGet]
 | x :: l,i=>by
  unfold iAt iGet
  by_cases h:s=x.1
  ·rw [if_pos h,if_pos h]; exact ⟨Nat.le_refl _,x,by simp,rfl⟩
  ·rw [if_neg h,if_neg h]
   have ih:=iAt_spec s l (i+1)
   cases hk:iAt s l (i+1) with
   | none=>rw [hk] at ih; exact ih
   | some j =>
    rw [hk] at ih
    obtain ⟨h1,y,h2,h3⟩:=ih
    exact ⟨by omega,y,by rw [show j - i=(j - (i+1))+1 by omega]; simpa using h2,h3⟩
theorem lookup_ints {t kt et:TypeId} {k:IntKind} {a:Nat} {s:Int} {l:List (Int×AV×Nat)} {c:Nat} {z:Value} {ok:Bool} (ht:P.underlying t=some (.map kt et)) (hk:P.underlying kt=some (.int k)) (hz:zeroV P et=some z) (hg:H.get a=some (.map (imap l) c)) :
  lookup P H t (.map a) (.lit (.int .i64 s)) ok=some (withOk ok ((iGet s l).getD (.lit z)) (iGet s l).isSome):=by
 unfold lookup
 rw [ht]
 dsimp only [toLit]
 rw [hg]
 dsimp only
 rw [checkKey_int (n:=9999) hk,findK_ints hk]
 dsimp only
 have hs:=iAt_spec s l 0
 cases hka:iAt s l 0 with
 | none =>
  rw [hka] at hs
  dsimp only at hs
  unfold lookupIn
  dsimp only
  rw [hz,hs]; rfl
 | some j =>
  rw [hka] at hs
  obtain ⟨_,x,hx,hxs⟩:=hs
  rw [Nat.sub_zero] at hx
  unfold lookupIn
  dsimp only
  rw [nth_eq]
  have:(imap l)[j]?=some (.lit (.int .i64 x.1),x.2.1,x.2.2):=by
   unfold imap; simp [hx]
  rw [this,hxs]; rfl
theorem mapUpdate_ints {t kt et:TypeId} {k:IntKind} {a:Nat} {s:Int} {v:AV} {l:List (Int×AV×Nat)} {c:Nat} (ht:P.underlying t=some (.map kt et)) (hk:P.underlying kt=some (.int k)) (hg:H.get a=some (.map (imap l) c)) (hn:iGet s l=none) :
  mapUpdate P H t (.map a) (.lit (.int .i64 s)) v=some (H.upd a (.map (imap (l++[(s,v,c)])) (c+1))):=by
 unfold mapUpdate
 rw [ht]
 dsimp only [toLit]
 rw [hg]
 dsimp only
 rw [checkKey_int (n:=9999) hk,findK_ints hk]
 have hs:=iAt_spec s l 0
 cases hka:iAt s l 0 with
 | none =>
  unfold updIn
  dsimp only
  rw [Mem.setK_eq]
  have:imap l++[(.lit (.int .i64 s),v,c)]=imap (l++[(s,v,c)]):=by simp [imap]
  rw [this]
 | some j =>
  exfalso
  rw [hka] at hs
  obtain ⟨_,x,hx,hxs⟩:=hs
  rw [hn] at hxs; cases hxs
noncomputable def isImap (P:Program) (t:TypeId) : Option Value:=match P.underlying t with
 | some (.map kt et)=>match P.underlying kt with
  | some (.int _)=>zeroV P et
  | _=>none
 | _=>none
theorem isImap_inv {t:TypeId} {z:Value} (h:isImap P t=some z) : ∃ kt et k,P.underlying t=some (.map kt et)∧P.underlying kt=some (.int k)∧zeroV P et=some z:=by
 unfold isImap at h
 split at h
 ·rename_i kt et hu
  split at h
  ·rename_i k hk
   exact ⟨kt,et,k,hu,hk,h⟩
  ·cases h
 ·cases h
noncomputable def lkI (P:Program) (H:Mem) (ev:Ev) (o:Oper) (b:Bool) (q:Option Value) (x:Option AV) : R:=match q,x with
 | some _,some v=>.val (withOk b v true) H
 | some z,none=>.val (withOk b (.lit z) false) H
 | none,_=>opV P H ev o
theorem lookup_ix {t:TypeId} {m k:Operand} {a:Nat} {s:Int} {l:List (Int×AV×Nat)} {c:Nat} {b:Bool} {hm:ev m=some (.map a)} {hk:ev k=some (.lit (.int .i64 s))} {hg:H.get a=some (.map (imap l) c)} :
  exB2 P H ev ⟨d,.lookup t m k b,ty,p,af,g⟩ m k a (.lit (.int .i64 s)) (some (.map (imap l) c)) hm hk hg=lkI P H ev ⟨d,.lookup t m k b,ty,p,af,g⟩ b (isImap P t) (iGet s l):=by
 cases hq:isImap P t with
 | none=>rfl
 | some z =>
  have key:exB2 P H ev ⟨d,.lookup t m k b,ty,p,af,g⟩ m k a (.lit (.int .i64 s)) (some (.map (imap l) c)) hm hk hg=.val (withOk b ((iGet s l).getD (.lit z)) (iGet s l).isSome) H:=by
   show oLookup P H ev _ t (ev m) (ev k) b=_
   obtain ⟨kt,et,k',h1,h2,h3⟩:=isImap_inv hq
   unfold oLookup orElse
   rw [generic_none (x:=m) (by simp [Op.operands]) (fun v' h=>by rw [hm] at h; cases h; rfl),hm,hk]
   dsimp only
   rw [lookup_ints h1 h2 h3 hg]; rfl
  rw [key]
  cases iGet s l <;> rfl
theorem lkI_congr {tk:Nat} (_h0:tick=tk) {o:Oper} {b:Bool} {q q' : Option Value} {x x' : Option AV} {H H' : Mem} (h1:H=H') (h2:q=q') (h3:x=x') : lkI P H ev o b q x=lkI P H' ev o b q' x':=by rw [h1,h2,h3]
attribute [congr] lkI_congr
theorem lkI_some {o:Oper} {b:Bool} {z:Value} {v:AV} : lkI P H ev o b (some z) (some v)=.val (withOk b v true) H:=(rfl)
theorem lkI_none {o:Oper} {b:Bool} {z:Value} : lkI P H ev o b (some z) none=.val (withOk b (.lit z) false) H:=(rfl)
noncomputable def muI (P:Program) (H:Mem) (ev:Ev) (o:Oper) (a:Nat) (s:Int) (v:AV) (l:List (Int×AV×Nat)) (c:Nat) (q:Option Value) (x:Option AV) : R:=match q,x with
 | some _,none=>.skip (H.upd a (.map (imap (l++[(s,v,c)])) (c+1)))
 | _,_=>opV P H ev o
theorem mapUpdate_ix {t:TypeId} {m k x:Operand} {a:Nat} {s:Int} {v:AV} {l:List (Int×AV×Nat)} {c:Nat} {hm:ev m=some (.map a)} {hk:ev k=some (.lit (.int .i64 s))} {hx:ev x=some v}
  {hg:H.get a=some (.map (imap l) c)} :
  exB3 P H ev ⟨d,.mapUpdate t m k x,ty,p,af,g⟩ m k x a (.lit (.int .i64 s)) v (some (.map (imap l) c)) hm hk hx hg=muI P H ev ⟨d,.mapUpdate t m k x,ty,p,af,g⟩ a s v l c (isImap P t) (iGet s l):=by
 cases hq:isImap P t with
 | none=>rfl
 | some z =>
  cases hn:iGet s l with
  | some y=>rfl
  | none =>
   show oMapUpdate P H t (ev m) (ev k) (ev x)=_
   obtain ⟨kt,et,k',h1,h2,h3⟩:=isImap_inv hq
   unfold oMapUpdate
   rw [hm,hk,hx]
   dsimp only
   rw [mapUpdate_ints h1 h2 hg hn]; rfl
theorem muI_congr {tk:Nat} (_h0:tick=tk) {o:Oper} {a:Nat} {s:Int} {v:AV} {l:List (Int×AV×Nat)} {c:Nat} {q q' : Option Value} {x x' : Option AV} {H H' : Mem} (h1:H=H') (h2:q=q') (h3:x=x') : muI P H ev o a s v l c q x=muI P H' ev o a s v l c q' x':=by rw [h1,h2,h3]
attribute [congr] muI_congr
theorem muI_none {o:Oper} {a:Nat} {s:Int} {v:AV} {l:List (Int×AV×Nat)} {c:Nat} {z:Value} : muI P H ev o a s v l c (some z) none=.skip (H.upd a (.map (imap (l++[(s,v,c)])) (c+1))):=(rfl)
attribute [simp] lookup_ix mapUpdate_ix lkI_some lkI_none muI_none
end
end Go.Ai
end
section
namespace Go.Ai
section
variable {P:Program} {H:Mem} {ev:Ev} {d:Option Tmp} {ty:TypeId} {p:String} {af:Array Edge} {g:Option (Nat×Bool)}
theorem op_slice_hm {t:TypeId} {x hi mx:Operand} : opV P H ev ⟨d,.slice t x none (some hi) (some mx),ty,p,af,g⟩=ex3 P H ev ⟨d,.slice t x none (some hi) (some mx),ty,p,af,g⟩ x hi mx (ev x) (ev hi) (ev mx) rfl rfl rfl:=(rfl)
theorem bounds_hm {i:Int} {n:Nat} {k:IntKind} (h1:i=n) : bounds none (some (.lit (.int k i))) (some (.lit (.int k i))) n n=some (0,n,n):=by
 unfold bounds natOr
 dsimp only
 rw [natOf_int (by omega),h1]
 simp only [okMx,Int.toNat_natCast,Nat.ble_eq_true_of_le (Nat.le_refl n),Nat.ble_eq_true_of_le (Nat.zero_le _),Bool.and_true]
theorem bounds_hm' {i:Int} {n c:Nat} {k:IntKind} (h1:i=n) (h2:n≤c) : bounds none (some (.lit (.int k i))) (some (.lit (.int k i))) n c=some (0,n,n):=by
 unfold bounds natOr
 dsimp only
 rw [natOf_int (by omega),h1]
 simp only [okMx,Int.toNat_natCast,Nat.ble_eq_true_of_le (Nat.le_refl n),Nat.ble_eq_true_of_le h2,Nat.ble_eq_true_of_le (Nat.zero_le _),Bool.and_true]
theorem slice_slq_hm {t:TypeId} {x hi mx:Operand} {a off n c:Nat} {k:IntKind} {i:Int} {hx:ev x=some (.slq a off n c)} {hh:ev hi=some (.lit (.int k i))} {hm:ev mx=some (.lit (.int k i))} (he:(elSz P t).map (·.1)=some none) (h1:i=n) (h2:0 < n) :
  ex3 P H ev ⟨d,.slice t x none (some hi) (some mx),ty,p,af,g⟩ x hi mx (some (.slq a off n c)) (some (.lit (.int k i))) (some (.lit (.int k i))) hx hh hm=.val (.sl a off n n) H:=by
 show opV P H ev _=_
 show oSlice P H ev _ t (ev x) none (some hi) (some mx)=_
 unfold oSlice
 rw [generic_none (x:=x) (by simp [Op.operands]) (fun v' h=>by rw [hx] at h; cases h; rfl),hx]
 obtain ⟨q,hq,hq2⟩:=Option.map_eq_some_iff.1 he
 obtain ⟨q1,q2⟩:=q
 dsimp only at hq2
 subst hq2
 obtain ⟨e,i',h3,h4,h5⟩:=elSz_inv hq
 dsimp only
 unfold oSliceN evOpt
 dsimp only
 rw [hh,hm]
 dsimp only
 rw [sliceOp_slice h3 h4]
 unfold sliceN
 dsimp only
 rw [bounds_hm h1]
 unfold sliceSl
 have hb:Nat.beq n 0=false:=by
  cases hb:Nat.beq n 0 with
  | false=>rfl
  | true=>have:=Nat.eq_of_beq_eq_true hb; omega
 dsimp only
 rw [hb]
 simp [natK_eq,ofOpt]
theorem slice_sl_hm {t:TypeId} {x hi mx:Operand} {a off n c:Nat} {k:IntKind} {i:Int} {hx:ev x=some (.sl a off n c)} {hh:ev hi=some (.lit (.int k i))} {hm:ev mx=some (.lit (.int k i))} (he:(elSz P t).map (·.1)=some none) (h1:i=n) (h2:0 < n) (h3:n≤c) :
  ex3 P H ev ⟨d,.slice t x none (some hi) (some mx),ty,p,af,g⟩ x hi mx (some (.sl a off n c)) (some (.lit (.int k i))) (some (.lit (.int k i))) hx hh hm=.val (.sl a off n n) H:=by
 show opV P H ev _=_
 show oSlice P H ev _ t (ev x) none (some hi) (some mx)=_
 unfold oSlice
 rw [generic_none (x:=x) (by simp [Op.operands]) (fun v' h=>by rw [hx] at h; cases h; rfl),hx]
 obtain ⟨q,hq,hq2⟩:=Option.map_eq_some_iff.1 he
 obtain ⟨q1,q2⟩:=q
 dsimp only at hq2
 subst hq2
 obtain ⟨e,i',h3,h4,h5⟩:=elSz_inv hq
 dsimp only
 unfold oSliceN evOpt
 dsimp only
 rw [hh,hm]
 dsimp only
 rw [sliceOp_slice h3 h4]
 unfold sliceN
 dsimp only
 rw [bounds_hm' h1 (by assumption)]
 unfold sliceSl
 have hb:Nat.beq n 0=false:=by
  cases hb:Nat.beq n 0 with
  | false=>rfl
  | true=>have:=Nat.eq_of_beq_eq_true hb; omega
 dsimp only
 rw [hb]
 simp [natK_eq,ofOpt]
theorem slice_nil_hm {t:TypeId} {x hi mx:Operand} {hx:ev x=some (.lit (.slice none 0 0))} {hh:ev hi=some (.lit (.int .i64 0))} {hm:ev mx=some (.lit (.int .i64 0))} (he:(elSz P t).map (·.1)=some none) :
  ex3 P H ev ⟨d,.slice t x none (some hi) (some mx),ty,p,af,g⟩ x hi mx (some (.lit (.slice none 0 0))) (some (.lit (.int .i64 0))) (some (.lit (.int .i64 0))) hx hh hm=.val (.lit (.slice none 0 0)) H:=by
 show opV P H ev _=_
 show oSlice P H ev _ t (ev x) none (some hi) (some mx)=_
 unfold oSlice
 rw [generic3 (r:=.slice none 0 0) (x:=x) (y:=hi) (z:=mx) (by simp [Op.operands]) hx hh hm fun ρ e1 e2 e3=>?_]
 show pureV P (do pure (Next.value (← Instr.sliceAt t (ρ x) none (some (ρ hi)) (some (ρ mx)))))=_
 rw [e1,e2,e3]
 obtain ⟨q,hq,hq2⟩:=Option.map_eq_some_iff.1 he
 obtain ⟨q1,q2⟩:=q
 dsimp only at hq2
 subst hq2
 obtain ⟨e,i,ht,hi',h5⟩:=elSz_inv hq
 have key:pureV P (Instr.slice t (.slice none 0 0) none (some (.int .i64 0)) (some (.int .i64 0)))=some (.slice none 0 0):=by
  unfold Instr.slice
  refine (pureV_then (m:=underlying t) (a:=TypeDesc.slice e) (pureV_underlying ht)).trans ?_
  dsimp only
  refine (pureV_then (a:=(0,0,0)) ?_).trans ?_
  ·rfl
  ·refine (pureV_then (m:=sizeOf e) (a:=i.size) ?_).trans ?_
   ·exact (pureV_then (pureV_info hi')).trans rfl
   ·rfl
 have key2:pureV P (Instr.sliceAt t (.slice none 0 0) none (some (.int .i64 0)) (some (.int .i64 0)))=some (.slice none 0 0):=by
  unfold Instr.sliceAt
  refine (pureV_then (m:=underlying t) (a:=TypeDesc.slice e) (pureV_underlying ht)).trans ?_
  exact key
 rw [pureV_then key2]
 rfl
attribute [simp] op_slice_hm slice_slq_hm slice_sl_hm slice_nil_hm
end
end Go.Ai
end
section
namespace Go.Ai
set_option maxRecDepth 10000
theorem fEc {G:GraphM} (hG:G.ok) {a b a' b' L L' : SetS} (h:IsL G.n (G.fE a b) L) (ha:eqS G.n a a') (hb:eqS G.n b b') (hL:eqS G.n L L') : IsL G.n (G.fE a' b') L':=h.cong (fE_arg ha hb) (fun _ _=>fE_eq hG _ _) hL
def un (o:Nat) (x:NodeM) : NodeM:=.mk o 0 0 [x]
variable {M:MachM} {f g:NodeM} {X Y:SetS}
end Go.Ai
end
section
namespace Go.Ai
set_option maxRecDepth 10000
end Go.Ai
end
section
namespace Go.Ai
theorem iGet_snoc (k q:Int) (v:AV) (c:Nat) : ∀ l:List (Int×AV×Nat),iGet k (l++[(q,v,c)])=match iGet k l with | some x=>some x | none=>if k=q then some v else none
 | []=>by simp [iGet]
 | x :: l=>by
  have ih:=iGet_snoc k q v c l
  simp only [List.cons_append,iGet]
  by_cases h:k=x.1
  ·simp [h]
  ·simp only [h,if_false]; exact ih
def bRow (b:Nat→Bool) (w:List Nat) : List (Int×Int)→Nat→List (Nat×List Nat)→List Nat ⊕ List (Nat×List Nat)
 | [],_,st=>.inr st
 | e :: es,i,st=>if e.1 < 0 then bRow b w es (i+1) st
  else if b e.1.toNat then .inl (w++[i])
  else if e.1.toNat∈st.map (·.1) then bRow b w es (i+1) st
  else bRow b w es (i+1) (st++[(e.1.toNat,w++[i])])
def bfs (M:MachM) (a b:Nat→Bool) : Nat→Nat→List (Nat×List Nat)→Option (List Nat)
 | 0,_,_=>none
 | f+1,n,st=>match st[n]? with
  | none=>none
  | some q=>if a q.1 then match bRow b q.2 (M.rows.getD q.1 []) 0 st with
    | .inl w=>some w
    | .inr st'=>bfs M a b f (n+1) st'
   else bfs M a b f (n+1) st
def wayM (M:MachM) (s:Nat) (a b:Nat→Bool) (steps:Int) : Option (List Nat) :=
 if steps=0∧b s=true then some [] else bfs M a b (M.rows.length+1) 0 [(s,[])]
theorem nodup_lt:∀ (N:Nat) (l:List Nat),l.Nodup→(∀ x∈l,x < N)→l.length≤N
 | 0,l,_,h=>by
  cases l with
  | nil=>simp
  | cons x l=>exact absurd (h x (by simp)) (by omega)
 | N+1,l,hn,h=>by
  have hn':=hn.erase N
  have h2:∀ x∈l.erase N,x < N:=fun x hx=>by
   have h3:=(hn.mem_erase_iff).1 hx
   have:=h x h3.2
   omega
  have:=nodup_lt N _ hn' h2
  by_cases hm:N∈l
  ·rw [List.length_erase_of_mem hm] at this; omega
  ·rw [List.erase_of_not_mem hm] at this; omega
structure BOK (N s:Nat) (st:List (Nat×List Nat)) : Prop where
 head:st[0]?=some (s,[])
 lt:∀ q∈st,q.1 < N
 nd:(st.map (·.1)).Nodup
 short:∀ (j:Nat) (q:Nat×List Nat),st[j]?=some q→q.2.length≤j
theorem BOK.start {N s:Nat} (h:s < N) : BOK N s [(s,[])]:=⟨rfl,fun q hq=>by simp at hq; subst hq; exact h,by simp,fun j q hq=>by
 cases j with
 | zero=>simp at hq; subst hq; simp
 | succ j=>simp at hq⟩
theorem BOK.len {N s:Nat} {st:List (Nat×List Nat)} (h:BOK N s st) : st.length≤N:=by
 have:=nodup_lt N _ h.nd (fun x hx=>by obtain ⟨q,hq,rfl⟩:=List.mem_map.1 hx; exact h.lt q hq)
 simpa using this
theorem BOK.pos {N s:Nat} {st:List (Nat×List Nat)} (h:BOK N s st) : 0 < st.length:=by
 have:=h.head
 cases st with
 | nil=>simp at this
 | cons x l=>simp
theorem BOK.snoc {N s:Nat} {st:List (Nat×List Nat)} (h:BOK N s st) {t:Nat} {w:List Nat} (ht:t < N) (hn:t ∉ st.map (·.1)) (hw:w.length≤st.length) : BOK N s (st++[(t,w)]):=by
 refine ⟨?_,?_,?_,?_⟩
 ·rw [List.getElem?_append_left h.pos]; exact h.head
 ·intro q hq
  rcases List.mem_append.1 hq with hq | hq
  ·exact h.lt q hq
  ·simp at hq; subst hq; exact ht
 ·rw [List.map_append,List.nodup_append]
  refine ⟨h.nd,by simp,?_⟩
  intro x hx y hy
  simp at hy
  subst hy
  intro e
  subst e
  exact hn hx
 ·intro j q hj
  by_cases hl:j < st.length
  ·rw [List.getElem?_append_left hl] at hj; exact h.short j q hj
  ·rw [List.getElem?_append_right (by omega)] at hj
   cases hk:j - st.length with
   | zero=>rw [hk] at hj; simp at hj; subst hj; show w.length≤j; omega
   | succ k=>rw [hk] at hj; simp at hj
structure ByOK (s:Nat) (st:List (Nat×List Nat)) (by_:List (Int×AV×Nat)) : Prop where
 old:∀ (j:Nat) (q:Nat×List Nat),st[j]?=some q→0 < j→∃ (j' : Nat) (q' : Nat×List Nat) (i:Nat),j' < j∧st[j']?=some q'∧q.2=q'.2++[i]∧iGet (q.1:Int) by_=some (.agg [.lit (.int .i64 (q'.1:Nat)),.lit (.int .i64 (i:Nat))])
 new:∀ t:Nat,(t ∉ st.map (·.1)∨t=s)→iGet (t:Int) by_=none
theorem ByOK.start {s:Nat} : ByOK s [(s,[])] []:=⟨fun j q hj h0=>by
 cases j with
 | zero=>omega
 | succ j=>simp at hj,fun t _=>rfl⟩
theorem ByOK.snoc {N s:Nat} {st:List (Nat×List Nat)} {by_:List (Int×AV×Nat)} (h:ByOK s st by_) (hb:BOK N s st) {t n i c:Nat} {q:Nat×List Nat} (hn:t ∉ st.map (·.1)) (hq:st[n]?=some q) :
  ByOK s (st++[(t,q.2++[i])]) (by_++[((t:Int),.agg [.lit (.int .i64 (q.1:Nat)),.lit (.int .i64 (i:Nat))],c)]):=by
 have hnl:n < st.length:=by
  rcases Nat.lt_or_ge n st.length with h | h
  ·exact h
  ·rw [List.getElem?_eq_none h] at hq; cases hq
 refine ⟨?_,?_⟩
 ·intro j p hj h0
  by_cases hl:j < st.length
  ·rw [List.getElem?_append_left hl] at hj
   obtain ⟨j',q',i',h1,h2,h3,h4⟩:=h.old j p hj h0
   exact ⟨j',q',i',h1,by rw [List.getElem?_append_left (by omega)]; exact h2,h3,by rw [iGet_snoc,h4]⟩
  ·rw [List.getElem?_append_right (by omega)] at hj
   cases hk:j - st.length with
   | zero =>
    rw [hk] at hj; simp at hj; subst hj
    refine ⟨n,q,i,by omega,by rw [List.getElem?_append_left hnl]; exact hq,rfl,?_⟩
    rw [iGet_snoc,h.new t (Or.inl hn)]
    simp
   | succ k=>rw [hk] at hj; simp at hj
 ·intro u hu
  have hs:s∈st.map (·.1):=List.mem_map.2 ⟨(s,[]),List.mem_of_getElem? hb.head,rfl⟩
  have hut:u≠t:=by
   rintro rfl
   rcases hu with hu | rfl
   ·exact hu (by simp)
   ·exact hn hs
  have h1:iGet (u:Int) by_=none:=by
   refine h.new u ?_
   rcases hu with hu | hu
   ·refine Or.inl fun hm=>hu ?_
    rw [List.map_append]; exact List.mem_append_left _ hm
   ·exact Or.inr hu
  rw [iGet_snoc,h1]
  have:¬((u:Int)=(t:Int)):=by omega
  simp [this]
def firstIn (t:Nat→Bool) : List (Int×Int)→Nat→Option (Nat×Nat)
 | [],_=>none
 | e :: es,i=>if 0≤e.1∧t e.1.toNat=true then some (i,e.1.toNat) else firstIn t es (i+1)
def lassoM (M:MachM) (t:Nat→Bool) : Nat→Nat→List Nat→List Nat→List Nat×Int
 | 0,_,w,_=>(w,-1)
 | f+1,s,w,seen=>match firstIn t (M.rows.getD s []) 0 with
  | none=>(w,-1)
  | some q=>match seen.idxOf? q.2 with
   | some k=>(w++[q.1],(k:Int))
   | none=>lassoM M t f q.2 (w++[q.1]) (seen++[q.2])
theorem firstIn_spec (t:Nat→Bool) : ∀ (l:List (Int×Int)) (i:Nat),match firstIn t l i with
  | some q=>i≤q.1∧(∃ e,l[q.1 - i]?=some e∧0≤e.1∧e.1.toNat=q.2)∧t q.2=true
  | none=>∀ e∈l,0≤e.1→t e.1.toNat=false
 | [],i=>by simp [firstIn]
 | e :: es,i=>by
  unfold firstIn
  by_cases h:0≤e.1∧t e.1.toNat=true
  ·rw [if_pos h]; exact ⟨Nat.le_refl _,⟨e,by simp,h.1,rfl⟩,h.2⟩
  ·rw [if_neg h]
   have ih:=firstIn_spec t es (i+1)
   cases hk:firstIn t es (i+1) with
   | none =>
    rw [hk] at ih
    intro y hy h0
    rcases List.mem_cons.1 hy with rfl | hy
    ·cases hh:t y.1.toNat with
     | false=>rfl
     | true=>exact absurd ⟨h0,hh⟩ h
    ·exact ih y hy h0
   | some q =>
    rw [hk] at ih
    obtain ⟨h1,⟨y,h2,h3,h4⟩,h5⟩:=ih
    exact ⟨by omega,⟨y,by rw [show q.1 - i=(q.1 - (i+1))+1 by omega]; simpa using h2,h3,h4⟩,h5⟩
end Go.Ai
end
section
namespace Go.Ai
theorem bRow_spec (b:Nat→Bool) (w:List Nat) : ∀ (l:List (Int×Int)) (i:Nat) (st:List (Nat×List Nat)),match bRow b w l i st with
  | .inl v=>∃ j,v=w++[j]
  | .inr st'=>(∀ x∈st.map (·.1),x∈st'.map (·.1))∧(∀ e∈l,0≤e.1→b e.1.toNat=false∧e.1.toNat∈st'.map (·.1))∧(∀ x∈st'.map (·.1),x∈st.map (·.1)∨b x=false)∧∃ more,st'=st++more
 | [],i,st=>by
  unfold bRow
  exact ⟨fun _ h=>h,(fun e he=>by cases he),(fun x h=>Or.inl h),[],by simp⟩
 | e :: es,i,st=>by
  unfold bRow
  by_cases h:e.1 < 0
  ·rw [if_pos h]
   have ih:=bRow_spec b w es (i+1) st
   cases hk:bRow b w es (i+1) st with
   | inl v=>rw [hk] at ih; exact ih
   | inr st' =>
    rw [hk] at ih
    obtain ⟨h1,h2,h3,h4⟩:=ih
    refine ⟨h1,?_,h3,h4⟩
    intro y hy h0
    rcases List.mem_cons.1 hy with rfl | hy
    ·omega
    ·exact h2 y hy h0
  ·rw [if_neg h]
   cases hb:b e.1.toNat with
   | true=>exact ⟨i,rfl⟩
   | false =>
    rw [if_neg (by decide)]
    by_cases hm:e.1.toNat∈st.map (·.1)
    ·rw [if_pos hm]
     have ih:=bRow_spec b w es (i+1) st
     cases hk:bRow b w es (i+1) st with
     | inl v=>rw [hk] at ih; exact ih
     | inr st' =>
      rw [hk] at ih
      obtain ⟨h1,h2,h3,h4⟩:=ih
      refine ⟨h1,?_,h3,h4⟩
      intro y hy h0
      rcases List.mem_cons.1 hy with rfl | hy
      ·exact ⟨hb,h1 _ hm⟩
      ·exact h2 y hy h0
    ·rw [if_neg hm]
     have ih:=bRow_spec b w es (i+1) (st++[(e.1.toNat,w++[i])])
     cases hk:bRow b w es (i+1) (st++[(e.1.toNat,w++[i])]) with
     | inl v=>rw [hk] at ih; exact ih
     | inr st' =>
      rw [hk] at ih
      obtain ⟨h1,h2,h3,more,h4⟩:=ih
      refine ⟨fun x hx=>h1 x (by rw [List.map_append]; exact List.mem_append_left _ hx),?_,?_,(e.1.toNat,w++[i]) :: more,by rw [h4]; simp⟩
      ·intro y hy h0
       rcases List.mem_cons.1 hy with rfl | hy
       ·exact ⟨hb,h1 _ (by rw [List.map_append]; exact List.mem_append_right _ (by simp))⟩
       ·exact h2 y hy h0
      ·intro x hx
       rcases h3 x hx with hx | hx
       ·rw [List.map_append] at hx
        rcases List.mem_append.1 hx with hx | hx
        ·exact Or.inl hx
        ·simp at hx; subst hx; exact Or.inr hb
       ·exact Or.inr hx
theorem bRow_ok {N s:Nat} (b:Nat→Bool) (w:List Nat) : ∀ (l:List (Int×Int)) (i:Nat) (st:List (Nat×List Nat)),BOK N s st→(∀ e∈l,0≤e.1→e.1.toNat < N)→w.length < st.length→match bRow b w l i st with
  | .inl _=>True
  | .inr st'=>BOK N s st'
 | [],i,st,hb,_,_=>by unfold bRow; exact hb
 | e :: es,i,st,hb,he,hw=>by
  unfold bRow
  by_cases h:e.1 < 0
  ·rw [if_pos h]; exact bRow_ok b w es (i+1) st hb (fun y hy=>he y (List.mem_cons_of_mem _ hy)) hw
  ·rw [if_neg h]
   cases hbe:b e.1.toNat with
   | true=>trivial
   | false =>
    rw [if_neg (by decide)]
    by_cases hm:e.1.toNat∈st.map (·.1)
    ·rw [if_pos hm]; exact bRow_ok b w es (i+1) st hb (fun y hy=>he y (List.mem_cons_of_mem _ hy)) hw
    ·rw [if_neg hm]
     refine bRow_ok b w es (i+1) _ (hb.snoc (he e (by simp) (by omega)) hm ?_) (fun y hy=>he y (List.mem_cons_of_mem _ hy)) ?_
     ·rw [List.length_append]; simp; omega
     ·rw [List.length_append]; simp; omega
structure BDone (M:MachM) (a b:Nat→Bool) (s n:Nat) (st:List (Nat×List Nat)) : Prop where
 done:∀ j q,j < n→st[j]?=some q→a q.1=true→∀ t∈M.gr.succ q.1,b t=false∧t∈st.map (·.1)
 no:∀ x∈st.map (·.1),x=s∨b x=false
theorem bfs_none {M:MachM} {a b:Nat→Bool} {s:Nat} : ∀ (f n:Nat) (st:List (Nat×List Nat)),BOK M.rows.length s st→(∀ r∈M.rows,∀ e∈r,e.1 < (M.rows.length:Int))→M.rows.length < n+f→n≤st.length→BDone M a b s n st→bfs M a b f n st=none →
  ∃ st',BOK M.rows.length s st'∧BDone M a b s st'.length st'
 | 0,n,st,hb,he,hf,hn,hd,h=>by
  have:=hb.len
  omega
 | f+1,n,st,hb,he,hf,hn,hd,h=>by
  unfold bfs at h
  cases hq:st[n]? with
  | none =>
   have:st.length≤n:=List.getElem?_eq_none_iff.1 hq
   have e:n=st.length:=by omega
   subst e
   exact ⟨st,hb,hd⟩
  | some q =>
   have hnl:n < st.length:=by
    rcases Nat.lt_or_ge n st.length with h | h
    ·exact h
    ·rw [List.getElem?_eq_none h] at hq; cases hq
   rw [hq] at h
   dsimp only at h
   cases ha:a q.1 with
   | false =>
    rw [ha] at h
    refine bfs_none f (n+1) st hb he (by omega) hnl ⟨?_,hd.no⟩ h
    intro j p hj hp hap
    by_cases e:j=n
    ·subst e; rw [hq] at hp; cases hp; rw [ha] at hap; cases hap
    ·exact hd.done j p (by omega) hp hap
   | true =>
    rw [ha] at h
    simp only [if_true] at h
    have hql:q.1 < M.rows.length:=hb.lt q (List.mem_of_getElem? hq)
    have hrow:M.rows.getD q.1 []∈M.rows:=by
     rw [List.getD_eq_getElem?_getD,List.getElem?_eq_getElem hql]; exact List.getElem_mem hql
    have hsp:=bRow_spec b q.2 (M.rows.getD q.1 []) 0 st
    have hbk:=bRow_ok b q.2 (M.rows.getD q.1 []) 0 st hb (fun e h1 h2=>by have:=he _ hrow e h1; omega) (by have:=hb.short n q hq; omega)
    cases hk:bRow b q.2 (M.rows.getD q.1 []) 0 st with
    | inl v=>rw [hk] at h; cases h
    | inr st' =>
     rw [hk] at h hsp hbk
     obtain ⟨h1,h2,h3,more,h4⟩:=hsp
     have hlen:st.length≤st'.length:=by rw [h4,List.length_append]; omega
     refine bfs_none f (n+1) st' hbk he (by omega) (by omega) ⟨?_,?_⟩ h
     ·intro j p hj hp hap t ht
      have hp' : st[j]?=some p:=by
       rw [h4,List.getElem?_append_left (by omega)] at hp; exact hp
      by_cases e:j=n
      ·subst e
       rw [hq] at hp'; cases hp'
       obtain ⟨e,he1,he2,he3⟩:=succL_mem ht
       have:=h2 e he1 he2
       rw [he3] at this
       exact this
      ·have:=hd.done j p (by omega) hp' hap t ht
       exact ⟨this.1,h1 t this.2⟩
     ·intro x hx
      rcases h3 x hx with hx | hx
      ·exact hd.no x hx
      ·exact Or.inr hx
theorem edges_lt {M:MachM} (hM:M.ok) : ∀ r∈M.rows,∀ e∈r,e.1 < (M.rows.length:Int):=fun r hr e he=>by
 have h2:=(hM.2.2.2.2.2.2 r hr).2 e he
 have h1:=hM.2.2.2.2.1
 unfold edgeOK at h2
 simp only [Bool.or_eq_true,Bool.and_eq_true,decide_eq_true_eq] at h2
 rcases h2 with h2 | h2
 ·rw [h2]; show (-1:Int) < _; omega
 ·omega
theorem bfs_start {M:MachM} (hM:M.ok) {a b:Nat→Bool} {s:Nat} (hs:s < M.rows.length) (h:bfs M a b (M.rows.length+1) 0 [(s,[])]=none) : ∃ st',BOK M.rows.length s st'∧BDone M a b s st'.length st' :=
 bfs_none _ _ _ (.start hs) (edges_lt hM) (by omega) (by simp) ⟨fun j q hj=>by omega,fun x hx=>by simp at hx; exact Or.inl hx⟩ h
theorem way_until {M:MachM} (hM:M.ok) {a b X:SetS} {s:Nat} (hs:s < M.rows.length) (hX:IsL M.gr.n (M.gr.fE a b) X) (hx:X s=true) : ∃ w,wayM M s a b 0=some w:=by
 unfold wayM
 cases hb:b s with
 | true=>exact ⟨[],by simp⟩
 | false =>
  rw [if_neg (by simp)]
  cases hk:bfs M a b (M.rows.length+1) 0 [(s,[])] with
  | some w=>exact ⟨w,rfl⟩
  | none =>
   exfalso
   obtain ⟨st,h1,h2⟩:=bfs_start hM hs hk
   have hms:s∈st.map (·.1):=List.mem_map.2 ⟨(s,[]),List.mem_of_getElem? h1.head,rfl⟩
   have hZ:=hX.least (fun x=>!decide (x∈st.map (·.1))) (fun x hx hf=>by
    simp only [Bool.not_eq_true',decide_eq_false_iff_not]
    intro hm
    simp only [GraphM.fE,Bool.or_eq_true,Bool.and_eq_true,GraphM.pre,List.any_eq_true,Bool.not_eq_true',decide_eq_false_iff_not] at hf
    rcases hf with hf | ⟨ha,t,ht,hn⟩
    ·rcases h2.no x hm with rfl | h
     ·rw [hb] at hf; cases hf
     ·rw [hf] at h; cases h
    ·obtain ⟨q,hq,rfl⟩:=List.mem_map.1 hm
     obtain ⟨j,hj⟩:=List.mem_iff_getElem?.1 hq
     have hjl:j < st.length:=by
      rcases Nat.lt_or_ge j st.length with h | h
      ·exact h
      ·rw [List.getElem?_eq_none h] at hj; cases hj
     exact hn (h2.done j q hjl hj ha t ht).2) s hs hx
   simp only [Bool.not_eq_true',decide_eq_false_iff_not] at hZ
   exact hZ hms
theorem way_next {M:MachM} (hM:M.ok) {a b:SetS} {s:Nat} (hs:s < M.rows.length) (ha:a s=true) (hx:M.gr.pre b s=true) : ∃ w,wayM M s a b 1=some w:=by
 unfold wayM
 rw [if_neg (by omega)]
 cases hk:bfs M a b (M.rows.length+1) 0 [(s,[])] with
 | some w=>exact ⟨w,rfl⟩
 | none =>
  exfalso
  obtain ⟨st,h1,h2⟩:=bfs_start hM hs hk
  simp only [GraphM.pre,List.any_eq_true] at hx
  obtain ⟨t,ht,hb⟩:=hx
  have:=(h2.done 0 (s,[]) h1.pos h1.head ha t ht).1
  rw [hb] at this; cases this
theorem bRow_cong {b b' : Nat→Bool} {N:Nat} (h:eqS N b b') (w:List Nat) : ∀ (l:List (Int×Int)) (i:Nat) (st:List (Nat×List Nat)),(∀ e∈l,0≤e.1→e.1.toNat < N)→bRow b w l i st=bRow b' w l i st
 | [],_,_,_=>rfl
 | e :: es,i,st,he=>by
  unfold bRow
  by_cases h0:e.1 < 0
  ·rw [if_pos h0,if_pos h0]; exact bRow_cong h w es _ _ (fun y hy=>he y (List.mem_cons_of_mem _ hy))
  ·rw [if_neg h0,if_neg h0,h _ (he e (by simp) (by omega)),bRow_cong h w es _ _ (fun y hy=>he y (List.mem_cons_of_mem _ hy)),bRow_cong h w es _ _ (fun y hy=>he y (List.mem_cons_of_mem _ hy))]
theorem bfs_cong {M:MachM} (hM:M.ok) {a b a' b' : SetS} {s:Nat} (ha:eqS M.rows.length a a') (hb:eqS M.rows.length b b') : ∀ (f n:Nat) (st:List (Nat×List Nat)),BOK M.rows.length s st→n≤st.length→bfs M a b f n st=bfs M a' b' f n st
 | 0,_,_,_,_=>rfl
 | f+1,n,st,hk,hn=>by
  unfold bfs
  cases hq:st[n]? with
  | none=>rfl
  | some q =>
   have hnl:n < st.length:=by
    rcases Nat.lt_or_ge n st.length with h | h
    ·exact h
    ·rw [List.getElem?_eq_none h] at hq; cases hq
   have hql:q.1 < M.rows.length:=hk.lt q (List.mem_of_getElem? hq)
   have hrow:M.rows.getD q.1 []∈M.rows:=by
    rw [List.getD_eq_getElem?_getD,List.getElem?_eq_getElem hql]; exact List.getElem_mem hql
   have hlt:∀ e∈M.rows.getD q.1 [],0≤e.1→e.1.toNat < M.rows.length:=fun e h1 h2=>by have:=edges_lt hM _ hrow e h1; omega
   dsimp only
   rw [ha q.1 hql,bRow_cong hb q.2 (M.rows.getD q.1 []) 0 st hlt,bfs_cong hM ha hb f (n+1) st hk hnl]
   have h1:=bRow_ok b' q.2 (M.rows.getD q.1 []) 0 st hk hlt (by have:=hk.short n q hq; omega)
   have h2:=bRow_spec b' q.2 (M.rows.getD q.1 []) 0 st
   cases hr:bRow b' q.2 (M.rows.getD q.1 []) 0 st with
   | inl w=>rfl
   | inr st' =>
    rw [hr] at h1 h2
    obtain ⟨_,_,_,more,h4⟩:=h2
    dsimp only
    rw [bfs_cong hM ha hb f (n+1) st' h1 (by rw [h4,List.length_append]; omega)]
theorem way_cong {M:MachM} (hM:M.ok) {a b a' b' : SetS} {s:Nat} {k:Int} (hs:s < M.rows.length) (ha:eqS M.rows.length a a') (hb:eqS M.rows.length b b') : wayM M s a b k=wayM M s a' b' k:=by
 unfold wayM
 rw [hb s hs,bfs_cong hM ha hb _ _ _ (.start hs) (by simp)]
end Go.Ai
end
section
namespace Go.Ai
theorem idx_snoc (t x:Nat) (l:List Nat) : (l++[x]).idxOf? t=match l.idxOf? t with | some k=>some k | none=>if t=x then some l.length else none:=by
 unfold List.idxOf?
 rw [List.findIdx?_append]
 cases h:List.findIdx? (fun y=>y == t) l with
 | some k=>simp
 | none =>
  by_cases e:t=x
  ·subst e; simp
  ·have:¬x=t:=fun h=>e h.symm
   simp [e,this]
theorem idx_none (t:Nat) (l:List Nat) : l.idxOf? t=none↔t ∉ l:=by
 unfold List.idxOf?
 rw [List.findIdx?_eq_none_iff]
 constructor
 ·intro h hm; have:=h t hm; simp at this
 ·intro h x hx
  cases hh:(x == t) with
  | false=>rfl
  | true=>exact absurd (by have:=eq_of_beq hh; rw [← this]; exact hx) h
def LOK (seen:List Nat) (by_:List (Int×AV×Nat)) : Prop:=∀ t:Nat,iGet (t:Int) by_=(seen.idxOf? t).map fun k=>AV.lit (.int .i64 ((k:Nat) : Int))
theorem LOK.start (s:Nat) (c:Nat) : LOK [s] [((s:Int),.lit (.int .i64 0),c)]:=fun t=>by
 unfold iGet
 by_cases h:t=s
 ·subst h; simp [List.idxOf?,iGet]
 ·have h2:¬((t:Int)=(s:Int)):=by omega
  have h3:¬s=t:=fun e=>h e.symm
  rw [if_neg h2]
  simp [List.idxOf?,iGet,h3]
theorem LOK.snoc {seen:List Nat} {by_:List (Int×AV×Nat)} (h:LOK seen by_) {x c:Nat} (_hx:x ∉ seen) : LOK (seen++[x]) (by_++[((x:Int),.lit (.int .i64 ((seen.length:Nat) : Int)),c)]):=fun t=>by
 rw [iGet_snoc,h t,idx_snoc]
 cases hk:seen.idxOf? t with
 | some k=>rfl
 | none =>
  by_cases e:t=x
  ·subst e; simp
  ·have h2:¬((t:Int)=(x:Int)):=by omega
   simp [e,h2]
structure SeenOK (N:Nat) (s:Nat) (w seen:List Nat) : Prop where
 lt:∀ x∈seen,x < N
 nd:seen.Nodup
 len:seen.length=w.length+1
 last:s∈seen
theorem SeenOK.start {N s:Nat} (h:s < N) : SeenOK N s [] [s]:=⟨fun x hx=>by simp at hx; omega,by simp,rfl,by simp⟩
theorem SeenOK.bound {N s:Nat} {w seen:List Nat} (h:SeenOK N s w seen) : seen.length≤N:=nodup_lt N _ h.nd h.lt
theorem SeenOK.snoc {N s:Nat} {w seen:List Nat} (h:SeenOK N s w seen) {t i:Nat} (ht:t < N) (hn:t ∉ seen) : SeenOK N t (w++[i]) (seen++[t]):=by
 refine ⟨?_,?_,by simp [h.len],by simp⟩
 ·intro x hx
  rcases List.mem_append.1 hx with hx | hx
  ·exact h.lt x hx
  ·simp at hx; omega
 ·rw [List.nodup_append]
  refine ⟨h.nd,by simp,?_⟩
  intro x hx y hy
  simp at hy
  subst hy
  intro e; subst e; exact hn hx
theorem row_lt {M:MachM} (hM:M.ok) {s:Nat} (hs:s < M.rows.length) : ∀ e∈M.rows.getD s [],0≤e.1→e.1.toNat < M.rows.length:=fun e h1 h2=>by
 have hrow:M.rows.getD s []∈M.rows:=by
  rw [List.getD_eq_getElem?_getD,List.getElem?_eq_getElem hs]; exact List.getElem_mem hs
 have:=edges_lt hM _ hrow e h1; omega
theorem firstIn_lt {M:MachM} (hM:M.ok) {t:Nat→Bool} {s:Nat} (hs:s < M.rows.length) {q:Nat×Nat} (h:firstIn t (M.rows.getD s []) 0=some q) : q.2 < M.rows.length∧t q.2=true:=by
 have hsp:=firstIn_spec t (M.rows.getD s []) 0
 rw [h] at hsp
 obtain ⟨_,⟨e,h1,h2,h3⟩,h4⟩:=hsp
 exact ⟨by rw [← h3]; exact row_lt hM hs e (List.mem_of_getElem? h1) h2,h4⟩
theorem eg_edge {M:MachM} (hM:M.ok) {A B X:SetS} (h:opSem M 9 0 0 A B X) {s:Nat} (hs:s < M.rows.length) (hx:X s=true) : (firstIn X (M.rows.getD s []) 0=none↔M.gr.ends s=true):=by
 have h9:IsL M.gr.n (M.gr.fA allS (notS A)) (notS X):=h
 have hfix:=h9.fix s hs
 have hsp:=firstIn_spec X (M.rows.getD s []) 0
 constructor
 ·intro hn
  rw [hn] at hsp
  cases he:M.gr.ends s with
  | true=>rfl
  | false =>
   exfalso
   have hpost:M.gr.post (notS X) s=true:=by
    simp only [GraphM.post,List.all_eq_true]
    intro t ht
    obtain ⟨e,h1,h2,h3⟩:=succL_mem ht
    have:=hsp e h1 h2
    rw [h3] at this
    unfold notS; rw [this]; rfl
   unfold GraphM.fA at hfix
   rw [hpost,he] at hfix
   have:notS X s=false:=by unfold notS; rw [hx]; rfl
   rw [this] at hfix
   simp [allS] at hfix
 ·intro he
  cases hf:firstIn X (M.rows.getD s []) 0 with
  | none=>rfl
  | some q =>
   rw [hf] at hsp
   obtain ⟨_,⟨e,h1,h2,h3⟩,_⟩:=hsp
   exfalso
   have hm:q.2∈M.gr.succ s:=succL_iff.2 ⟨e,List.mem_of_getElem? h1,h2,h3⟩
   unfold GraphM.ends at he
   rw [List.isEmpty_iff] at he
   rw [he] at hm; cases hm
end Go.Ai
end
section
namespace Go.Ai
variable {P:Program} {H:Mem}
section
variable {ev:Ev} {d:Option Tmp} {ty:TypeId} {p:String} {af:Array Edge} {g:Option (Nat×Bool)}
theorem op_insert {t:TypeId} {m k x:Operand} : opV P H ev ⟨d,.insert t m k x,ty,p,af,g⟩=ex3 P H ev ⟨d,.insert t m k x,ty,p,af,g⟩ m k x (ev m) (ev k) (ev x) rfl rfl rfl:=(rfl)
theorem insert_ix {t:TypeId} {m k x:Operand} {a:Nat} {s:Int} {v:AV} {l:List (Int×AV×Nat)} {c:Nat} {hm:ev m=some (.map a)} {hk:ev k=some (.lit (.int .i64 s))} {hx:ev x=some v}
  {hg:H.get a=some (.map (imap l) c)} :
  exB3 P H ev ⟨d,.insert t m k x,ty,p,af,g⟩ m k x a (.lit (.int .i64 s)) v (some (.map (imap l) c)) hm hk hx hg=muI P H ev ⟨d,.insert t m k x,ty,p,af,g⟩ a s v l c (isImap P t) (iGet s l):=by
 cases hq:isImap P t with
 | none=>rfl
 | some z =>
  cases hn:iGet s l with
  | some y=>rfl
  | none =>
   show oMapUpdate P H t (ev m) (ev k) (ev x)=_
   obtain ⟨kt,et,k',h1,h2,h3⟩:=isImap_inv hq
   unfold oMapUpdate
   rw [hm,hk,hx]
   dsimp only
   rw [mapUpdate_ints h1 h2 hg hn]; rfl
theorem insert_i0 {t:TypeId} {m k x:Operand} {a:Nat} {s:Int} {v:AV} {c:Nat} {hm:ev m=some (.map a)} {hk:ev k=some (.lit (.int .i64 s))} {hx:ev x=some v}
  {hg:H.get a=some (.map (sset []) c)} :
  exB3 P H ev ⟨d,.insert t m k x,ty,p,af,g⟩ m k x a (.lit (.int .i64 s)) v (some (.map (sset []) c)) hm hk hx hg=muI P H ev ⟨d,.insert t m k x,ty,p,af,g⟩ a s v [] c (isImap P t) none :=
 insert_ix (l:=[]) (hg:=hg)
attribute [simp] op_insert insert_ix insert_i0
end
end Go.Ai
end
section
namespace Go.Ai
def NodeM.subs:NodeM→List NodeM
 | .mk _ _ _ l=>l
theorem one_sub {x:NodeM} {st inp out:Int} (hv:validM st inp out x=true) (h:x.op=7∨x.op=8∨x.op=9) : ∃ y,x.subs=[y]∧validM st inp out y=true∧sizeN y < sizeN x:=by
 cases x with
 | mk op a b subs =>
  unfold validM at hv
  simp only [Bool.and_eq_true,decide_eq_true_eq] at hv
  obtain ⟨v1,v2,v3,v4,v5,v6,v7⟩:=hv
  have h1:subs.length=1:=by rw [v2]; rcases h with h | h | h <;> (have h:op=_:=h; subst h; rfl)
  match subs,h1 with
  | [y],_ =>
   refine ⟨y,rfl,?_,by simp only [sizeN,sizeL]; omega⟩
   unfold validL at v7
   simp only [Bool.and_eq_true] at v7
   exact v7.1
theorem two_subs {x:NodeM} {st inp out:Int} (hv:validM st inp out x=true) (h:x.op=10) : ∃ y z,x.subs=[y,z]∧validM st inp out y=true∧sizeN y < sizeN x∧validM st inp out z=true∧sizeN z < sizeN x:=by
 cases x with
 | mk op a b subs =>
  unfold validM at hv
  simp only [Bool.and_eq_true,decide_eq_true_eq] at hv
  obtain ⟨v1,v2,v3,v4,v5,v6,v7⟩:=hv
  have h1:subs.length=2:=by rw [v2]; have h:op=_:=h; subst h; rfl
  match subs,h1 with
  | [y,z],_ =>
   unfold validL at v7
   unfold validL at v7
   simp only [Bool.and_eq_true] at v7
   exact ⟨y,z,rfl,v7.1,by simp only [sizeN,sizeL]; omega,v7.2.1,by simp only [sizeN,sizeL]; omega⟩
theorem wit7 {M:MachM} (hM:M.ok) {x y:NodeM} (ho:x.op=7) (hys:x.subs=[y]) {z z0 sn:Nat} (hN:sn < M.rows.length) (hx:semN M x (sOf z)) (hy:semN M y (sOf z0)) (hz:z.testBit sn=true) :
  ∃ w,wayM M sn (fun u=>decide (u=sn)) (sOf z0) 1=some w∧wayM M sn (fun u=>(bitN sn).testBit u) (fun u=>z0.testBit u) 1=some w:=by
 cases x with
 | mk op a b subs =>
  have ho:op=7:=ho
  have hys:subs=[y]:=hys
  subst ho hys
  obtain ⟨A,B,⟨h1,_⟩,h2⟩:=hx
  have h2:eqS M.gr.n (sOf z) (M.gr.pre A):=h2
  have hA:=semN_uniq hM y h1 hy
  have hp:=pre_eq (MachM.gr_ok hM) hA sn hN
  have hs:=h2 sn hN
  have hx:M.gr.pre (sOf z0) sn=true:=by rw [← hp,← hs]; exact hz
  obtain ⟨w,hw⟩:=way_next hM (a:=fun u=>decide (u=sn)) hN (by simp) hx
  refine ⟨w,hw,?_⟩
  rw [← hw]
  refine way_cong hM hN (fun u _=>?_) (fun u _=>rfl)
  rw [bitN_bit]
  exact decide_eq_decide.2 eq_comm
theorem wit8 {M:MachM} (hM:M.ok) {x y:NodeM} (ho:x.op=8) (hys:x.subs=[y]) {z z0 sn:Nat} (hN:sn < M.rows.length) (hx:semN M x (sOf z)) (hy:semN M y (sOf z0)) (hz:z.testBit sn=true) :
  ∃ w,wayM M sn allS (sOf z0) 0=some w∧wayM M sn (fun u=>(allK M.rows.length).testBit u) (fun u=>z0.testBit u) 0=some w:=by
 cases x with
 | mk op a b subs =>
  have ho:op=8:=ho
  have hys:subs=[y]:=hys
  subst ho hys
  obtain ⟨A,B,⟨h1,_⟩,h2⟩:=hx
  have h2:IsL M.gr.n (M.gr.fE allS A) (sOf z):=h2
  have hA:=semN_uniq hM y h1 hy
  have h3:=fEc (MachM.gr_ok hM) h2 (eqS.refl _ _) hA (eqS.refl _ _)
  obtain ⟨w,hw⟩:=way_until hM hN h3 hz
  refine ⟨w,hw,?_⟩
  rw [← hw]
  refine way_cong hM hN (fun u hu=>?_) (fun u _=>rfl)
  rw [allK_bit]
  exact decide_eq_true hu
theorem wit10 {M:MachM} (hM:M.ok) {x y y2:NodeM} (ho:x.op=10) (hys:x.subs=[y,y2]) {z z0 z1 sn:Nat} (hN:sn < M.rows.length) (hx:semN M x (sOf z)) (hy:semN M y (sOf z0)) (hy2:semN M y2 (sOf z1)) (hz:z.testBit sn=true) :
  ∃ w,wayM M sn (sOf z0) (sOf z1) 0=some w:=by
 cases x with
 | mk op a b subs =>
  have ho:op=10:=ho
  have hys:subs=[y,y2]:=hys
  subst ho hys
  obtain ⟨A,B,⟨h1,h1'⟩,h2⟩:=hx
  have h2:IsL M.gr.n (M.gr.fE A B) (sOf z):=h2
  have hA:=semN_uniq hM y h1 hy
  have hB:=semN_uniq hM y2 h1' hy2
  have h3:=fEc (MachM.gr_ok hM) h2 hA hB (eqS.refl _ _)
  exact way_until hM hN h3 hz
theorem wit9 {M:MachM} (hM:M.ok) {x:NodeM} (ho:x.op=9) {X:SetS} (hx:semN M x X) : ∀ u,u < M.rows.length→X u=true→(firstIn X (M.rows.getD u []) 0=none↔M.gr.ends u=true):=by
 cases x with
 | mk op a b subs =>
  have ho:op=9:=ho
  subst ho
  obtain ⟨A,B,_,h2⟩:=hx
  exact fun u hu h=>eg_edge (A:=A) (B:=B) hM h2 hu h
end Go.Ai
end
section
namespace Go.Ai
open Go.RowKit (Below)
variable {B G:Nat} {P:Program} {n n0:Nat} {ρ0 ρ:Rn} {w0 w:World} {fr:Fr} {H:Mem} {a:Act} {W:WF}
end Go.Ai
end
section
namespace Go.Ai
set_option maxRecDepth 10000
def okE (r:List (Int×Int)) (i:Nat) : Bool:=decide (0≤(r.getD i (-1,-1)).1)
def manyN (r:List (Int×Int)) : Nat→Nat
 | 0=>0
 | k+1=>if okE r k=true then manyN r k+1 else manyN r k
def someN (r:List (Int×Int)) (X:SetS) : Nat→Nat
 | 0=>0
 | k+1=>if okE r k=true then someN r X k+(if X (r.getD k (-1,-1)).1.toNat=true then 1 else 0) else someN r X k
theorem succL_snoc:∀ (l:List (Int×Int)) (e:Int×Int),succL (l++[e])=if e.1 < 0 then succL l else succL l++[e.1.toNat]
 | [],e=>by show succL [e]=_; unfold succL; split <;> simp [succL]
 | x :: l,e=>by
  have ih:=succL_snoc l e
  show succL (x :: (l++[e]))=_
  rw [succL,ih]
  split
  ·rename_i h
   split
   ·rw [succL,if_pos h]
   ·rw [succL,if_pos h]
  ·rename_i h
   split
   ·rw [succL,if_neg h]
   ·rw [succL,if_neg h]; rfl
theorem counts {r:List (Int×Int)} (X:SetS) : ∀ k,k≤r.length→manyN r k=(succL (r.take k)).length∧someN r X k=((succL (r.take k)).filter X).length
 | 0,_=>⟨rfl,rfl⟩
 | k+1,h=>by
  have hk:k < r.length:=by omega
  obtain ⟨h1,h2⟩:=counts X k (by omega:k≤r.length)
  have ht:r.take (k+1)=r.take k++[r[k]]:=by rw [List.take_succ,List.getElem?_eq_getElem hk]; rfl
  have hg:r.getD k (-1,-1)=r[k]:=by rw [List.getD_eq_getElem?_getD,List.getElem?_eq_getElem hk]; rfl
  unfold manyN someN okE
  rw [ht,succL_snoc,hg,h1,h2]
  by_cases h0:0≤r[k].1
  ·rw [decide_eq_true h0,if_neg (show ¬r[k].1 < 0 by omega),List.filter_append,List.length_append,List.length_append]
   refine ⟨rfl,?_⟩
   rw [if_pos rfl]
   by_cases hx:X r[k].1.toNat=true
   ·rw [if_pos hx,List.filter_cons_of_pos hx]; rfl
   ·rw [if_neg hx,List.filter_cons_of_neg hx]; rfl
  ·rw [decide_eq_false h0,if_pos (show r[k].1 < 0 by omega)]
   exact ⟨rfl,rfl⟩
def b01 (b:Bool) : Int:=if b=true then 1 else 0
end Go.Ai
end
section
namespace Go.Ai
end Go.Ai
end
section
namespace Go.Ai
set_option maxRecDepth 10000
theorem repL_append {g:Nat→Option Blk} {b:Nat} : ∀ {l m:List NodeM} {r s:List AV},repL g b l r→repL g b m s→repL g b (l++m) (r++s)
 | [],m,r,s,h,k=>by have h' : r=[]:=h; subst h'; exact k
 | x :: l,m,r,s,⟨c,q,h1,h2,h3⟩,k=>⟨c,q++s,by rw [h1,List.append_assoc],h2,repL_append h3 k⟩
theorem repL_split {g:Nat→Option Blk} {b:Nat} : ∀ {l m:List NodeM} {r:List AV},repL g b (l++m) r→∃ r1 r2,r=r1++r2∧repL g b l r1∧repL g b m r2
 | [],m,r,h=>⟨[],r,rfl,rfl,h⟩
 | x :: l,m,r,⟨c,q,h1,h2,h3⟩=>by
  obtain ⟨r1,r2,h4,h5,h6⟩:=repL_split h3
  exact ⟨c++r1,r2,by rw [h1,h4,List.append_assoc],⟨c,r1,rfl,h2,h5⟩,h6⟩
theorem repL_one' {g:Nat→Option Blk} {b:Nat} {x:NodeM} {cs:List AV} (h:repL g b [x] cs) : repN g b x cs:=by
 obtain ⟨c,r,h1,h2,h3⟩:=h
 have h3' : r=[]:=h3
 subst h3'
 rw [h1,List.append_nil]; exact h2
structure StkR (g gk:Nat→Option Blk) (lo n A:Nat) (sv:AV) (l:List NodeM) (r:List AV) : Prop where
 grow:GrowV g lo n A sv l.length 4 r
 rep:repL gk n l.reverse r
 kk:∀ q z,gk q=some z→g q=some z∧q≠A∧lo≤q∧q < n
theorem StkR.push {g gk g2:Nat→Option Blk} {lo n n2 A B:Nat} {sv:AV} {l:List NodeM} {r X:List AV} {x:NodeM} (h:StkR g gk lo n A sv l r) (h1:n≤B) (h2:B < n2) (hlo:lo≤n) (hg:∀ q,lo≤q→q < n→q≠A→g2 q=g q)
  (hB:g2 B=some (.cells (r++X) true 4)) (hX:X.length=4) (hx:∀ q b,repN q b x X) : StkR g2 gk lo n2 B (.slq B 0 (l.length+1) 0) (x :: l) (r++X):=by
 have hl:=repL_len h.rep
 rw [List.length_reverse] at hl
 refine ⟨.mk hB (by omega) h2 ?_,?_,fun q z hz=>?_⟩
 ·rw [List.length_append,hl,hX]; omega
 ·rw [List.reverse_cons]
  exact repL_append (repL_ext (by omega) (fun _ _ _ h=>h) h.rep) (repL_one (hx _ _))
 ·obtain ⟨k1,k2,k3,k4⟩:=h.kk q z hz
  exact ⟨(hg q k3 k4 k2).trans k1,by omega,k3,by omega⟩
theorem StkR.last {g gk:Nat→Option Blk} {lo n A:Nat} {sv:AV} {x:NodeM} {t:List NodeM} {r:List AV} (h:StkR g gk lo n A sv (x :: t) r) : ∃ r0 cx,sv=.slq A 0 (t.length+1) 0∧lo≤A∧A < n∧g A=some (.cells r true 4)∧r.length=(t.length+1) * 4 ∧
  r.take (t.length * 4)=r0∧(r.drop (t.length * 4)).take 4=cx∧repL gk n t.reverse r0∧repN gk n x cx:=by
 rcases h.grow with ⟨h9,_⟩ | ⟨_,h1,hA0,hA1,hA,hrl⟩
 ·simp at h9
 ·have hrep:=h.rep
  rw [List.reverse_cons] at hrep
  obtain ⟨r1,r2,rfl,h2,h3⟩:=repL_split hrep
  have h4:=repL_len h2
  have h5:=repL_len h3
  rw [List.length_reverse] at h4
  refine ⟨r1,r2,h1,hA0,hA1,hA,hrl,?_,?_,h2,repL_one' h3⟩
  ·rw [List.take_left' h4]
  ·rw [List.drop_left' h4,List.take_of_length_le (by rw [h5]; simp)]
end Go.Ai
end
section
namespace Go.Ai
set_option maxRecDepth 10000
mutual
theorem valid_mono {a b c a' b' c' : Int} (h1:a≤a') (h2:b≤b') (h3:c≤c') : ∀ (x:NodeM),validM a b c x=true→validM a' b' c' x=true
 | .mk op p q l=>fun h=>by
  unfold validM at h ⊢
  simp only [Bool.and_eq_true,decide_eq_true_eq] at h ⊢
  obtain ⟨e1,e2,e3,e4,e5,e6,e7⟩:=h
  refine ⟨e1,e2,e3,e4,?_,?_,validL_mono h1 h2 h3 l e7⟩
  ·split at e5
   ·rw [if_pos (by assumption)]; omega
   ·rename_i hn
    rw [if_neg hn]
    split at e5
    ·rw [if_pos (by assumption)]; omega
    ·rw [if_neg (by assumption)]; omega
  ·split at e6
   ·rw [if_pos (by assumption)]; omega
   ·rw [if_neg (by assumption)]; omega
theorem validL_mono {a b c a' b' c' : Int} (h1:a≤a') (h2:b≤b') (h3:c≤c') : ∀ (l:List NodeM),validL a b c l=true→validL a' b' c' l=true
 | [],h=>h
 | x :: l,h=>by
  unfold validL at h ⊢
  rw [Bool.and_eq_true] at h ⊢
  exact ⟨valid_mono h1 h2 h3 x h.1,validL_mono h1 h2 h3 l h.2⟩
end
end Go.Ai
end
section
namespace Go.Ai
set_option maxRecDepth 10000
variable (M:MachM) (A B:SetS)
def rounds (op r:Nat) : SetS :=
 match op with
 | 8=>iterS (M.gr.fE allS A) r
 | 10=>iterS (M.gr.fE A B) r
 | 12=>iterS (M.gr.fA allS A) r
 | 14=>iterS (M.gr.fA A B) r
 | 9=>notS (iterS (M.gr.fA allS (notS A)) r)
 | _=>notS (iterS (M.gr.fE allS (notS A)) r)
end Go.Ai
end
