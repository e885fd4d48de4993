/- A small verified interpreter over names, its proofs, and what was proved with it. No condition. -/
import Derived.Lib.AtoiAll
import Derived.Lib.ItoaNum
import Derived.ProofKit
import Derived.Deep.DeepHandedRow
import Derived.Test.YtfllomlghjolpaaDoorD05
import Derived.Test.YtfllomlghjolpaaDoorD03
set_option linter.all false
set_option linter.deprecated false
section
namespace Go.Ai
set_option maxRecDepth 10000
theorem gput_ne {g:Nat→Option Blk} {a j:Nat} {x:Option Blk} (h:j≠a) : gput g a x j=g j:=if_neg h
theorem gput_eq {g:Nat→Option Blk} {a:Nat} {x:Option Blk} : gput g a x a=x:=if_pos rfl
theorem ba_size_append (a b:ByteArray) : (a++b).size=a.size+b.size:=by simp
def SliceV (g:Nat→Option Blk) (b:Nat) (sv:AV) (len:Nat) (cs:List AV) : Prop :=
  (len=0∧cs=[]∧(sv=.lit (.slice none 0 0)∨sv=.es))∨∃ a off,a < b∧((∃ c,sv=.sl a off len c)∨∃ c,sv=.slq a off len c)∧Row g a off cs
theorem SliceV.mono {g g' : Nat→Option Blk} {b b' len:Nat} {sv:AV} {cs:List AV} (hb:b≤b') (h:∀ a,a < b→g' a=g a) : SliceV g b sv len cs→SliceV g' b' sv len cs :=
  fun hs=>hs.imp id fun ⟨a,off,h1,h2,h3⟩=>⟨a,off,by omega,h2,h3.mono (h a h1)⟩
inductive NodeM where
  | mk (op:Nat) (a b:Int) (subs:List NodeM)
def NodeM.op:NodeM→Nat
  | .mk op _ _ _=>op
mutual
def sizeN:NodeM→Nat
  | .mk _ _ _ l=>sizeL l+1
def sizeL:List NodeM→Nat
  | []=>0
  | x :: l=>sizeN x+sizeL l
end
theorem size_mem:∀ {l:List NodeM} {x:NodeM},x∈l→sizeN x≤sizeL l
  | y :: l,x,h=>by
    unfold sizeL
    rcases List.mem_cons.1 h with rfl | h
    · omega
    · have:=size_mem h; omega
theorem size_pos:∀ (x:NodeM),1≤sizeN x
  | .mk _ _ _ _=>by unfold sizeN; omega
theorem len_size:∀ (l:List NodeM),l.length≤sizeL l
  | []=>Nat.le_refl _
  | x :: l=>by
    have:=len_size l
    have h1:=size_pos x
    unfold sizeL
    simp only [List.length_cons]
    omega
mutual
def repN (g:Nat→Option Blk) (b:Nat) : NodeM→List AV→Prop
  | .mk op k q subs,cs=>op < 256∧∃ sv,cs=[.lit (.int .u8 op),.lit (.int .i64 k),.lit (.int .i64 q),sv] ∧
    ((subs=[]∧(sv=.lit (.slice none 0 0)∨sv=.es)) ∨
     ∃ a off r,a < b∧((∃ c,sv=.sl a off subs.length c)∨(∃ c,sv=.slq a off subs.length c))∧Row g a off r∧repL g b subs r)
def repL (g:Nat→Option Blk) (b:Nat) : List NodeM→List AV→Prop
  | [],cs=>cs=[]
  | x :: l,cs=>∃ c r,cs=c++r∧repN g b x c∧repL g b l r
end
mutual
theorem repN_ext {g g' : Nat→Option Blk} {b b' : Nat} (hb:b≤b') (h:∀ a x,a < b→g a=some x→g' a=some x) : ∀ {x:NodeM} {cs:List AV},repN g b x cs→repN g' b' x cs
  | .mk op k q subs,cs,⟨h0,sv,h1,h2⟩=>⟨h0,sv,h1,h2.imp id fun ⟨a,off,r,h3,h4,⟨l,own,z,h5,h6⟩,h7⟩=>⟨a,off,r,by omega,h4,⟨l,own,z,h a _ h3 h5,h6⟩,repL_ext hb h h7⟩⟩
theorem repL_ext {g g' : Nat→Option Blk} {b b' : Nat} (hb:b≤b') (h:∀ a x,a < b→g a=some x→g' a=some x) : ∀ {l:List NodeM} {cs:List AV},repL g b l cs→repL g' b' l cs
  | [],_,h0=>h0
  | _ :: _,_,⟨c,r,h1,h2,h3⟩=>⟨c,r,h1,repN_ext hb h h2,repL_ext hb h h3⟩
end
theorem repN_mono {g g' : Nat→Option Blk} {b b' : Nat} (hb:b≤b') (h:∀ a,a < b→g' a=g a) {x:NodeM} {cs:List AV} (hr:repN g b x cs) : repN g' b' x cs:=repN_ext hb (fun a z ha hz=>(h a ha).trans hz) hr
theorem repN_len {g:Nat→Option Blk} {b:Nat} {x:NodeM} {cs:List AV} (h:repN g b x cs) : cs.length=4:=by
  cases x with
  | mk op k q subs=>obtain ⟨_,sv,rfl,_⟩:=h; rfl
theorem repL_len {g:Nat→Option Blk} {b:Nat} : ∀ {l:List NodeM} {cs:List AV},repL g b l cs→cs.length=l.length * 4
  | [],cs,h=>by have h' : cs=[]:=h; rw [h']; rfl
  | x :: l,cs,⟨c,r,h1,h2,h3⟩=>by rw [h1,List.length_append,repN_len h2,repL_len h3,List.length_cons]; omega
theorem repL_at {g:Nat→Option Blk} {b:Nat} : ∀ {l:List NodeM} {cs:List AV},repL g b l cs→∀ (k:Nat) (h:k < l.length),repN g b l[k] ((cs.drop (k * 4)).take 4)
  | x :: l,cs,⟨c,r,h1,h2,h3⟩,0,h=>by
    subst h1
    have:=repN_len h2
    simp only [Nat.zero_mul,List.drop_zero,List.getElem_cons_zero]
    rw [List.take_append_of_le_length (by omega),List.take_of_length_le (by omega)]
    exact h2
  | x :: l,cs,⟨c,r,h1,h2,h3⟩,k+1,h=>by
    subst h1
    have hl:=repN_len h2
    have:=repL_at h3 k (by simpa using h)
    simp only [List.getElem_cons_succ]
    rw [show (k+1) * 4=c.length+k * 4 by omega,← List.drop_drop,List.drop_left' rfl]
    exact this
theorem repN_one {g:Nat→Option Blk} {b:Nat} {x:NodeM} {cs:List AV} (h:repN g b x cs) : ∃ k q sv,cs=[.lit (.int .u8 x.op),.lit (.int .i64 k),.lit (.int .i64 q),sv]∧oneC sv=true∧x.op < 256:=by
  cases x with
  | mk op k q subs =>
    obtain ⟨h0,sv,rfl,h⟩:=h
    refine ⟨_,_,sv,rfl,?_,h0⟩
    rcases h with ⟨_,rfl | rfl⟩ | ⟨a,off,r,_,⟨c,rfl⟩ | ⟨c,rfl⟩,_⟩ <;> rfl
mutual
theorem repN_put {g g' : Nat→Option Blk} {b b' p:Nat} {v v' : AV} {o o' : Bool} {z z' : Nat} (hb:b≤b') (h:∀ a,a < b→a≠p→g' a=g a) (h1:g p=some (.cells [v] o z)) (h2:g' p=some (.cells [v'] o' z')) :
    ∀ {x:NodeM} {cs:List AV},repN g b x cs→repN g' b' x cs
  | .mk op k q subs,cs,⟨h0,sv,e1,e2⟩=>⟨h0,sv,e1,e2.imp id fun ⟨a,off,r,h3,h4,h5,h6⟩=>by
      refine ⟨a,off,r,by omega,h4,?_,repL_put hb h h1 h2 h6⟩
      by_cases e:a=p
      · subst e
        obtain ⟨l,ow,zz,k1,k2,k3⟩:=h5
        rw [h1] at k1
        cases k1
        have hl:=repL_len h6
        simp at k2
        have hr:r=[]:=List.length_eq_zero_iff.1 (by omega)
        subst hr
        exact ⟨[v'],o',z',h2,by simp at k2 ⊢; omega,rfl⟩
      · exact h5.mono (h a h3 e)⟩
theorem repL_put {g g' : Nat→Option Blk} {b b' p:Nat} {v v' : AV} {o o' : Bool} {z z' : Nat} (hb:b≤b') (h:∀ a,a < b→a≠p→g' a=g a) (h1:g p=some (.cells [v] o z)) (h2:g' p=some (.cells [v'] o' z')) :
    ∀ {l:List NodeM} {cs:List AV},repL g b l cs→repL g' b' l cs
  | [],_,h0=>h0
  | _ :: _,_,⟨c,r,e1,e2,e3⟩=>⟨c,r,e1,repN_put hb h h1 h2 e2,repL_put hb h h1 h2 e3⟩
end
theorem row_ne {g:Nat→Option Blk} {a off p:Nat} {r:List AV} {v:AV} {o:Bool} {z:Nat} (h:Row g a off r) (hp:g p=some (.cells [v] o z)) (hr:2≤r.length) : a≠p:=by
  rintro rfl
  obtain ⟨l,ow,zz,k1,k2,k3⟩:=h
  rw [hp] at k1
  cases k1
  simp at k2
  omega
theorem repL_one {g:Nat→Option Blk} {b:Nat} {x:NodeM} {cs:List AV} (h:repN g b x cs) : repL g b [x] cs:=⟨cs,[],by simp,h,rfl⟩
theorem node_rep {gk:Nat→Option Blk} {n' n2 S op k:Nat} {subs:List NodeM} {cs:List AV} (hs:repL gk n' subs cs) (hk:subs.length=k) (hop:op < 256) (h1:n'≤S) (h2:S < n2) :
    repN (gput gk S (some (.cells cs true 0))) n2 (.mk op 0 0 subs) [.lit (.int .u8 op),.lit (.int .i64 0),.lit (.int .i64 0),.sl S 0 k k]:=by
  subst hk
  refine ⟨hop,_,rfl,.inr ⟨S,0,cs,h2,.inl ⟨_,rfl⟩,⟨cs,true,0,gput_eq,by simp,by simp⟩,?_⟩⟩
  exact repL_ext (by omega) (fun a z ha hz=>by rw [gput_lt (by omega)]; exact hz) hs
def FreshN (g:Nat→Option Blk) (n n' : Nat) (x:NodeM) (cs:List AV) : Prop:=∃ gk:Nat→Option Blk,(∀ a z,gk a=some z→g a=some z∧n≤a∧a < n')∧repN gk n' x cs
theorem FreshN.leaf {g:Nat→Option Blk} {n n' op:Nat} {k q:Int} (h:op < 256) : FreshN g n n' (.mk op k q []) [.lit (.int .u8 op),.lit (.int .i64 k),.lit (.int .i64 q),.lit (.slice none 0 0)]:=by
  refine ⟨fun _=>none,⟨fun a z h=>?_,?_⟩⟩
  · cases h
  · exact ⟨h,_,rfl,.inl ⟨rfl,.inl rfl⟩⟩
theorem FreshN.keep {g g' : Nat→Option Blk} {n0 n n' n2:Nat} {x:NodeM} {cs:List AV} (h:FreshN g n n' x cs) (h0:n0≤n) (h2:n'≤n2) (hg:∀ a,n≤a→a < n'→g' a=g a) : FreshN g' n0 n2 x cs:=by
  obtain ⟨gk,h1,h3⟩:=h
  refine ⟨gk,fun a z hz=>?_,repN_ext h2 (fun a z _ hz=>hz) h3⟩
  obtain ⟨e1,e2,e3⟩:=h1 a z hz
  exact ⟨(hg a e2 e3).trans e1,by omega,by omega⟩
theorem FreshN.rep {g:Nat→Option Blk} {n n' : Nat} {x:NodeM} {cs:List AV} (h:FreshN g n n' x cs) : repN g n' x cs:=by
  obtain ⟨gk,h1,h3⟩:=h
  exact repN_ext (Nat.le_refl _) (fun a z _ hz=>(h1 a z hz).1) h3
def FreshL (g:Nat→Option Blk) (n n' : Nat) (l:List NodeM) (cs:List AV) : Prop:=∃ gk:Nat→Option Blk,(∀ a z,gk a=some z→g a=some z∧n≤a∧a < n')∧repL gk n' l cs
theorem FreshL.one {g:Nat→Option Blk} {n n' : Nat} {x:NodeM} {cs:List AV} (h:FreshN g n n' x cs) : FreshL g n n' [x] cs:=by
  obtain ⟨gk,h1,h3⟩:=h
  exact ⟨gk,h1,repL_one h3⟩
theorem FreshL.two {g:Nat→Option Blk} {n n' : Nat} {x y:NodeM} {cs ds:List AV} (h:FreshN g n n' x cs) (h' : FreshN g n n' y ds) : FreshL g n n' [x,y] (cs++ds):=by
  obtain ⟨gk,h1,h3⟩:=h
  obtain ⟨gl,h4,h5⟩:=h'
  refine ⟨fun a=>if n≤a∧a < n' then g a else none,fun a z hz=>?_,cs,ds,rfl,repN_ext (Nat.le_refl _) (fun a z _ hz=>?_) h3,repL_one (repN_ext (Nat.le_refl _) (fun a z _ hz=>?_) h5)⟩
  · dsimp only at hz
    split at hz
    · rename_i h; exact ⟨hz,h⟩
    · cases hz
  · obtain ⟨e1,e2⟩:=h1 a z hz
    rw [if_pos e2,e1]
  · obtain ⟨e1,e2⟩:=h4 a z hz
    rw [if_pos e2,e1]
theorem FreshN.node {g g' : Nat→Option Blk} {n n' n2 S op k:Nat} {subs:List NodeM} {cs:List AV} (h:FreshL g n n' subs cs) (hk:subs.length=k) (hop:op < 256) (hS:g' S=some (.cells cs true 0)) (h1:n'≤S) (h2:S < n2) (h0:n≤n') (hg:∀ a,n≤a→a < n'→g' a=g a) :
    FreshN g' n n2 (.mk op 0 0 subs) [.lit (.int .u8 op),.lit (.int .i64 0),.lit (.int .i64 0),.sl S 0 k k]:=by
  obtain ⟨gk,h3,h4⟩:=h
  refine ⟨gput gk S (some (.cells cs true 0)),fun a z hz=>?_,node_rep h4 hk hop h1 h2⟩
  rcases gput_v hz with ⟨rfl,rfl⟩ | ⟨_,hz⟩
  · exact ⟨hS,by omega,h2⟩
  · obtain ⟨e1,e2,e3⟩:=h3 a z hz
    exact ⟨(hg a e2 e3).trans e1,e2,by omega⟩
def FreshQ (g:Nat→Option Blk) (n q n' : Nat) (x:NodeM) (cs:List AV) : Prop:=∃ gk:Nat→Option Blk,(∀ a z,gk a=some z→g a=some z∧n≤a∧a < n'∧a≠q)∧repN gk n' x cs
theorem FreshQ.rep {g:Nat→Option Blk} {n q n' : Nat} {x:NodeM} {cs:List AV} (h:FreshQ g n q n' x cs) : repN g n' x cs:=by
  obtain ⟨gk,h1,h3⟩:=h
  exact repN_ext (Nat.le_refl _) (fun a z _ hz=>(h1 a z hz).1) h3
theorem FreshQ.of {g g' : Nat→Option Blk} {n q n' n2:Nat} {x:NodeM} {cs:List AV} (h:FreshN g n n' x cs) (h1:n'≤q) (h2:n'≤n2) (hg:∀ a,n≤a→a < n'→g' a=g a) : FreshQ g' n q n2 x cs:=by
  obtain ⟨gk,h3,h4⟩:=h
  refine ⟨gk,fun a z hz=>?_,repN_ext h2 (fun a z _ hz=>hz) h4⟩
  obtain ⟨e1,e2,e3⟩:=h3 a z hz
  exact ⟨(hg a e2 e3).trans e1,e2,by omega,by omega⟩
theorem FreshQ.fresh {g g' : Nat→Option Blk} {n0 n q n' n2:Nat} {x:NodeM} {cs:List AV} (h:FreshQ g n q n' x cs) (h0:n0≤n) (h2:n'≤n2) (hg:∀ a,n≤a→a < n'→a≠q→g' a=g a) : FreshN g' n0 n2 x cs:=by
  obtain ⟨gk,h1,h3⟩:=h
  refine ⟨gk,fun a z hz=>?_,repN_ext h2 (fun a z _ hz=>hz) h3⟩
  obtain ⟨e1,e2,e3,e4⟩:=h1 a z hz
  exact ⟨(hg a e2 e3 e4).trans e1,by omega,by omega⟩
theorem FreshQ.keep {g g' : Nat→Option Blk} {n q n' n2:Nat} {x:NodeM} {cs:List AV} (h:FreshQ g n q n' x cs) (h2:n'≤n2) (hg:∀ a,n≤a→a < n'→a≠q→g' a=g a) : FreshQ g' n q n2 x cs:=by
  obtain ⟨gk,h1,h3⟩:=h
  refine ⟨gk,fun a z hz=>?_,repN_ext h2 (fun a z _ hz=>hz) h3⟩
  obtain ⟨e1,e2,e3,e4⟩:=h1 a z hz
  exact ⟨(hg a e2 e3 e4).trans e1,by omega,by omega,e4⟩
mutual
def smallM:NodeM→Int→Bool×Int
  | .mk _ _ _ subs,left=>smallL subs (left - 1)
def smallL:List NodeM→Int→Bool×Int
  | [],left=>(decide (0≤left),left)
  | y :: l,left=>if left < 0 then (false,left) else match smallM y left with
    | (true,left')=>smallL l left'
    | (false,left')=>(false,left')
end
mutual
theorem smallM_lo:∀ (x:NodeM) (left:Int),0≤left → -1≤(smallM x left).2∧(smallM x left).2≤left
  | .mk _ _ _ subs,left,h=>by
    have:=smallL_lo subs (left - 1) (by omega)
    unfold smallM
    omega
theorem smallL_lo:∀ (l:List NodeM) (left:Int),-1≤left → -1≤(smallL l left).2∧(smallL l left).2≤left
  | [],left,h=>⟨h,Int.le_refl _⟩
  | y :: l,left,h=>by
    unfold smallL
    by_cases h0:left < 0
    · rw [if_pos h0]; exact ⟨h,Int.le_refl _⟩
    · rw [if_neg h0]
      have h1:=smallM_lo y left (by omega)
      cases hs:smallM y left with
      | mk b left' =>
        rw [hs] at h1
        cases b with
        | false=>exact h1
        | true =>
          have h2:=smallL_lo l left' h1.1
          dsimp only at h1 ⊢
          omega
end
theorem smallL_true {y:NodeM} {l:List NodeM} {left:Int} (h:¬left < 0) (h1:(smallM y left).1=true) : smallL (y :: l) left=smallL l (smallM y left).2:=by
  rw [smallL,if_neg h]
  cases hs:smallM y left with
  | mk b q=>rw [hs] at h1; cases b <;> simp_all
theorem smallL_false {y:NodeM} {l:List NodeM} {left:Int} (h:¬left < 0) (h1:(smallM y left).1=false) : smallL (y :: l) left=(false,(smallM y left).2):=by
  rw [smallL,if_neg h]
  cases hs:smallM y left with
  | mk b q=>rw [hs] at h1; cases b <;> simp_all
end Go.Ai
end
section
namespace Go.Ai
set_option maxRecDepth 10000
def letterM (c:Int) : Bool:=decide (97≤c∧c≤122) || decide (65≤c∧c≤90)
def digitM (c:Int) : Bool:=decide (48≤c∧c≤57)
def runF (F:Nat→Int→Bool) (s:ByteArray) (k:Nat) : Nat→Nat→Nat
  | 0,j=>j
  | m+1,j=>if k+j < s.size then (if F j (bAt s (k+j))=true then runF F s k m (j+1) else j) else j
def fLetter:Nat→Int→Bool:=fun _ c=>letterM c
def fDigit:Nat→Int→Bool:=fun _ c=>digitM c
theorem runF_le {F:Nat→Int→Bool} {s:ByteArray} {k:Nat} : ∀ (m j:Nat),k+j≤s.size→j≤runF F s k m j∧k+runF F s k m j≤s.size
  | 0,j,h=>⟨Nat.le_refl _,h⟩
  | m+1,j,h=>by
    unfold runF
    split
    · split
      · have:=runF_le (F:=F) (s:=s) (k:=k) m (j+1) (by omega); omega
      · exact ⟨Nat.le_refl _,h⟩
    · exact ⟨Nat.le_refl _,h⟩
def skipM (s:ByteArray) : Nat→Nat→Nat
  | 0,k=>k
  | m+1,k=>if k < s.size then (if bAt s k=32 then skipM s m (k+1) else k) else k
theorem skipM_le {s:ByteArray} : ∀ (m k:Nat),k≤s.size→k≤skipM s m k∧skipM s m k≤s.size
  | 0,k,h=>⟨Nat.le_refl _,h⟩
  | m+1,k,h=>by
    unfold skipM
    split
    · split
      · have:=skipM_le (s:=s) m (k+1) (by omega); omega
      · omega
    · omega
def tokN (s:ByteArray) (k:Nat) : Nat :=
  if letterM (bAt s k)=true then runF fLetter s k (s.size - k - 1) 1 else if digitM (bAt s k)=true then runF fDigit s k (s.size - k - 1) 1 else 1
theorem tokN_le {s:ByteArray} {k:Nat} (h:k < s.size) : 1≤tokN s k∧k+tokN s k≤s.size:=by
  have h1:=runF_le (F:=fLetter) (s:=s) (k:=k) (s.size - k - 1) 1 (by omega)
  have h2:=runF_le (F:=fDigit) (s:=s) (k:=k) (s.size - k - 1) 1 (by omega)
  unfold tokN
  split
  · omega
  · split <;> omega
def tokB (s:ByteArray) (k:Nat) : ByteArray:=if k=s.size then ⟨#[]⟩ else s.extract k (k+tokN s k)
def advM (s:ByteArray) (j:Nat) : Nat:=skipM s (s.size - j) j
def nxtM (s:ByteArray) (k:Nat) : Nat:=advM s (k+(tokB s k).size)
theorem tok_size {s:ByteArray} {k:Nat} (h:k < s.size) : (tokB s k).size=tokN s k:=by
  have:=tokN_le h
  unfold tokB
  rw [if_neg (by omega),ByteArray.size_extract]
  omega
theorem tok_le {s:ByteArray} {k:Nat} (h:k≤s.size) : k+(tokB s k).size≤s.size:=by
  by_cases h1:k=s.size
  · have:(tokB s k).size=0:=by unfold tokB; rw [if_pos h1]; rfl
    omega
  · rw [tok_size (by omega)]
    exact (tokN_le (by omega)).2
theorem advM_le {s:ByteArray} {j:Nat} (h:j≤s.size) : j≤advM s j∧advM s j≤s.size:=skipM_le _ _ h
theorem nxtM_le {s:ByteArray} {k:Nat} (h:k≤s.size) : nxtM s k≤s.size:=(advM_le (tok_le h)).2
theorem nxtM_ge {s:ByteArray} {k:Nat} (h:k≤s.size) : k≤nxtM s k:=by
  have h1:=(advM_le (tok_le h)).1
  unfold nxtM
  omega
theorem nxtM_lt {s:ByteArray} {k:Nat} (h:k < s.size) : k < nxtM s k:=by
  have h1:=(advM_le (tok_le (Nat.le_of_lt h))).1
  have h2:=tok_size h
  have h3:=tokN_le h
  unfold nxtM
  omega
def signs:List ByteArray:=[⟨#[116,114,117,101]⟩,⟨#[115,116,97,116,101]⟩,⟨#[99,97,110]⟩,⟨#[103,105,118,101,115]⟩,⟨#[110,111,116]⟩,⟨#[97,110,100]⟩,⟨#[111,114]⟩,⟨#[69,88]⟩,⟨#[69,70]⟩,⟨#[69,71]⟩,⟨#[69]⟩,⟨#[65,88]⟩,⟨#[65,70]⟩,⟨#[65,71]⟩,⟨#[65]⟩]
def signB (o:Nat) : ByteArray:=signs.getD o ⟨#[]⟩
def openT:ByteArray:=⟨#[40]⟩
def closeT:ByteArray:=⟨#[41]⟩
def leftT:ByteArray:=⟨#[91]⟩
def rightT:ByteArray:=⟨#[93]⟩
def untilT:ByteArray:=⟨#[85]⟩
def subsM (o:Nat) : Nat:=if o < 4 then 0 else if o=5∨o=6∨o=10∨o=14 then 2 else 1
def opFrom (t:ByteArray) : List Nat→Option Nat
  | []=>none
  | o :: l=>if o≠5∧o≠6∧signB o=t then some o else opFrom t l
def opOf (t:ByteArray) : Option Nat:=opFrom t (List.range 15)
def valN (s:ByteArray) : Nat→Nat→Nat→Nat
  | 0,_,a=>a
  | m+1,k,a=>valN s m (k+1) (a * 10+(bAt s k - 48).toNat)
def valB (s:ByteArray) : Nat:=valN s s.size 0 0
def digitsB (s:ByteArray) : Prop:=∀ k,k < s.size→digitM (bAt s k)=true
open Classical in
noncomputable def numM (t:ByteArray) : Option Nat:=if 0 < t.size∧t.size≤4∧digitsB t∧¬(bAt t 0=48∧1 < t.size) then some (valB t) else none
def bopM (rank:Nat) : Nat:=if rank=2 then 5 else 6
inductive ParR where
  | ok (x:NodeM) (k:Nat)
  | err (k:Nat)
section
variable (s:ByteArray)
mutual
noncomputable def readF:Nat→Nat→Nat→Option ParR
  | 0,_,_=>none
  | m+1,rank,k =>
    if 3≤rank then singF m k
    else match readF m (rank+1) k with
      | some (.ok x k')=>loopF m rank x k'
      | r=>r
noncomputable def loopF:Nat→Nat→NodeM→Nat→Option ParR
  | 0,_,_,_=>none
  | m+1,rank,x,k =>
    if tokB s k=signB (bopM rank) then
      match readF m (rank+1) (nxtM s k) with
      | some (.ok y k')=>loopF m rank (.mk (bopM rank) 0 0 [x,y]) k'
      | r=>r
    else some (.ok x k)
noncomputable def singF:Nat→Nat→Option ParR
  | 0,_=>none
  | m+1,k =>
    if tokB s k=openT then
      match readF m 1 (nxtM s k) with
      | some (.ok x k')=>if tokB s k'=closeT then some (.ok x (nxtM s k')) else some (.err k')
      | r=>r
    else match opOf (tokB s k) with
      | none=>some (.err k)
      | some o =>
        if subsM o=2 then
          if tokB s (nxtM s k)=leftT then
            match readF m 1 (nxtM s (nxtM s k)) with
            | some (.ok a k1) =>
              if tokB s k1=untilT then
                match readF m 1 (nxtM s k1) with
                | some (.ok b k2)=>if tokB s k2=rightT then some (.ok (.mk o 0 0 [a,b]) (nxtM s k2)) else some (.err k2)
                | r=>r
              else some (.err k1)
            | r=>r
          else some (.err (nxtM s k))
        else if subsM o=1 then
          match singF m (nxtM s k) with
          | some (.ok x k')=>some (.ok (.mk o 0 0 [x]) k')
          | r=>r
        else if o=0 then some (.ok (.mk 0 0 0 []) (nxtM s k))
        else match numM (tokB s (nxtM s k)) with
          | none=>some (.err (nxtM s k))
          | some a =>
            if o=3 then
              match numM (tokB s (nxtM s (nxtM s k))) with
              | none=>some (.err (nxtM s (nxtM s k)))
              | some b=>some (.ok (.mk 3 (a:Nat) (b:Nat) []) (nxtM s (nxtM s (nxtM s k))))
            else some (.ok (.mk o (a:Nat) 0 []) (nxtM s (nxtM s k)))
end
end
mutual
def validM (st inp out:Int) : NodeM→Bool
  | .mk op a b subs=>decide (op < 15) && (decide (subs.length=subsM op) && (decide (0≤a) && (decide (0≤b) && (decide (a < if op=1 then st else if op=2∨op=3 then inp else 1) && (decide (b < if op=3 then out else 1) && validL st inp out subs)))))
def validL (st inp out:Int) : List NodeM→Bool
  | []=>true
  | x :: l=>validM st inp out x && validL st inp out l
end
end Go.Ai
end
section
namespace Go.Ai
structure MachM where
  inp:Int
  out:Int
  rows:List (List (Int×Int))
def MachM.edge (M:MachM) (s:Nat) (i:Nat) : Int×Int:=((M.rows.getD s []).getD i (-1,-1))
def succL:List (Int×Int)→List Nat
  | []=>[]
  | e :: l=>if e.1 < 0 then succL l else e.1.toNat :: succL l
def MachM.gr (M:MachM) : GraphM:=⟨M.rows.length,fun s=>succL (M.rows.getD s [])⟩
def edgeOK (n:Nat) (out:Int) (e:Int×Int) : Bool:=decide (e=(-1,-1)) || (decide (0≤e.1) && (decide (e.1 < n) && (decide (0≤e.2) && decide (e.2 < out))))
def MachM.ok (M:MachM) : Prop:=1≤M.inp∧M.inp≤16∧1≤M.out∧M.out≤16∧1≤M.rows.length∧M.rows.length≤64∧∀ r∈M.rows,(r.length:Int)=M.inp∧∀ e∈r,edgeOK M.rows.length M.out e=true
theorem succL_mem:∀ {l:List (Int×Int)} {t:Nat},t∈succL l→∃ e∈l,0≤e.1∧e.1.toNat=t
  | e :: l,t,h=>by
    unfold succL at h
    split at h
    · obtain ⟨x,h1,h2⟩:=succL_mem h
      exact ⟨x,List.mem_cons_of_mem _ h1,h2⟩
    · rcases List.mem_cons.1 h with rfl | h
      · exact ⟨e,List.mem_cons_self ..,by omega,rfl⟩
      · obtain ⟨x,h1,h2⟩:=succL_mem h
        exact ⟨x,List.mem_cons_of_mem _ h1,h2⟩
theorem MachM.gr_ok {M:MachM} (h:M.ok) : M.gr.ok:=fun s hs t ht=>by
  obtain ⟨e,h1,h2,h3⟩:=succL_mem ht
  have hr:M.rows.getD s []∈M.rows:=by
    rw [List.getD_eq_getElem?_getD,List.getElem?_eq_getElem hs]
    exact List.getElem_mem hs
  have:=(h.2.2.2.2.2.2 _ hr).2 e h1
  unfold edgeOK at this
  simp only [Bool.or_eq_true,Bool.and_eq_true,decide_eq_true_eq] at this
  show t < M.rows.length
  rcases this with h4 | ⟨h4,h5,_⟩
  · rw [h4] at h2; exact absurd h2 (by decide)
  · omega
def allS:SetS:=fun _=>true
def opSem (M:MachM) (op:Nat) (a b:Int) (A B X:SetS) : Prop :=
  match op with
  | 0=>eqS M.gr.n X allS
  | 1=>eqS M.gr.n X fun s=>decide ((s:Int)=a)
  | 2=>eqS M.gr.n X fun s=>decide (0≤(M.edge s a.toNat).1)
  | 3=>eqS M.gr.n X fun s=>decide (0≤(M.edge s a.toNat).1) && decide ((M.edge s a.toNat).2=b)
  | 4=>eqS M.gr.n X (notS A)
  | 5=>eqS M.gr.n X fun s=>A s && B s
  | 6=>eqS M.gr.n X fun s=>A s || B s
  | 7=>eqS M.gr.n X (M.gr.pre A)
  | 8=>IsL M.gr.n (M.gr.fE allS A) X
  | 9=>IsL M.gr.n (M.gr.fA allS (notS A)) (notS X)
  | 10=>IsL M.gr.n (M.gr.fE A B) X
  | 11=>eqS M.gr.n X (M.gr.post A)
  | 12=>IsL M.gr.n (M.gr.fA allS A) X
  | 13=>IsL M.gr.n (M.gr.fE allS (notS A)) (notS X)
  | 14=>IsL M.gr.n (M.gr.fA A B) X
  | _=>False
theorem eqS.refl (n:Nat) (X:SetS) : eqS n X X:=fun _ _=>rfl
theorem notS_eq {n:Nat} {X Y:SetS} (h:eqS n X Y) : eqS n (notS X) (notS Y):=fun s hs=>by unfold notS; rw [h s hs]
theorem notS_inj {n:Nat} {X Y:SetS} (h:eqS n (notS X) (notS Y)) : eqS n X Y:=fun s hs=>by
  have:=h s hs
  unfold notS at this
  cases hx:X s <;> cases hy:Y s <;> simp_all
theorem IsL.cong {n:Nat} {F F' : SetS→SetS} {L L' : SetS} (h:IsL n F L) (hF:∀ X,eqS n (F X) (F' X)) (hF' : ∀ X Y,eqS n X Y→eqS n (F X) (F Y)) (hL:eqS n L L') : IsL n F' L' :=
  ⟨(hF L').symm.trans (((hF' _ _ hL).symm.trans h.fix).trans hL),fun Z hZ s hs hx=>h.least Z (fun t ht hy=>hZ t ht (by rw [← hF Z t ht]; exact hy)) s hs (by rw [hL s hs]; exact hx)⟩
theorem pre_eq {G:GraphM} (hG:G.ok) {X Y:SetS} (h:eqS G.n X Y) : eqS G.n (G.pre X) (G.pre Y):=(G.pre_mono hG h.le).antisymm (G.pre_mono hG h.symm.le)
theorem post_eq {G:GraphM} (hG:G.ok) {X Y:SetS} (h:eqS G.n X Y) : eqS G.n (G.post X) (G.post Y):=(G.post_mono hG h.le).antisymm (G.post_mono hG h.symm.le)
theorem fE_eq {G:GraphM} (hG:G.ok) (a b:SetS) {X Y:SetS} (h:eqS G.n X Y) : eqS G.n (G.fE a b X) (G.fE a b Y):=(G.fE_mono hG a b h.le).antisymm (G.fE_mono hG a b h.symm.le)
theorem fA_eq {G:GraphM} (hG:G.ok) (a b:SetS) {X Y:SetS} (h:eqS G.n X Y) : eqS G.n (G.fA a b X) (G.fA a b Y):=(G.fA_mono hG a b h.le).antisymm (G.fA_mono hG a b h.symm.le)
theorem fE_arg {G:GraphM} {a b a' b' : SetS} (ha:eqS G.n a a') (hb:eqS G.n b b') (X:SetS) : eqS G.n (G.fE a b X) (G.fE a' b' X):=fun s hs=>by unfold GraphM.fE; rw [ha s hs,hb s hs]
theorem fA_arg {G:GraphM} {a b a' b' : SetS} (ha:eqS G.n a a') (hb:eqS G.n b b') (X:SetS) : eqS G.n (G.fA a b X) (G.fA a' b' X):=fun s hs=>by unfold GraphM.fA; rw [ha s hs,hb s hs]
theorem opSem_uniq {M:MachM} (hM:M.ok) {op:Nat} {a b:Int} {A B X A' B' X' : SetS} (h:opSem M op a b A B X) (h' : opSem M op a b A' B' X') (hA:eqS M.gr.n A A') (hB:eqS M.gr.n B B') : eqS M.gr.n X X':=by
  have hG:=M.gr_ok hM
  have hr:=eqS.refl M.gr.n allS
  unfold opSem at h h'
  split at h <;> (try dsimp only at h')
  · exact h.trans h'.symm
  · exact h.trans h'.symm
  · exact h.trans h'.symm
  · exact h.trans h'.symm
  · exact (h.trans (notS_eq hA)).trans h'.symm
  · exact (h.trans (fun s hs=>by rw [hA s hs,hB s hs])).trans h'.symm
  · exact (h.trans (fun s hs=>by rw [hA s hs,hB s hs])).trans h'.symm
  · exact (h.trans (pre_eq hG hA)).trans h'.symm
  · exact (h.cong (fE_arg hr hA) (fun _ _=>fE_eq hG _ _) (eqS.refl _ _)).uniq h'
  · exact notS_inj ((h.cong (fA_arg hr (notS_eq hA)) (fun _ _=>fA_eq hG _ _) (eqS.refl _ _)).uniq h')
  · exact (h.cong (fE_arg hA hB) (fun _ _=>fE_eq hG _ _) (eqS.refl _ _)).uniq h'
  · exact (h.trans (post_eq hG hA)).trans h'.symm
  · exact (h.cong (fA_arg hr hA) (fun _ _=>fA_eq hG _ _) (eqS.refl _ _)).uniq h'
  · exact notS_inj ((h.cong (fE_arg hr (notS_eq hA)) (fun _ _=>fE_eq hG _ _) (eqS.refl _ _)).uniq h')
  · exact (h.cong (fA_arg hA hB) (fun _ _=>fA_eq hG _ _) (eqS.refl _ _)).uniq h'
  · exact h.elim
end Go.Ai
end
section
namespace Go.Ai
section
variable {P:Program} {W:WF} {Q:Out→Prop} {fr:Fr} {H:Mem} {ev:Ev} {d:Option Tmp} {ty:TypeId} {p:String} {af:Array Edge} {g:Option (Nat×Bool)}
theorem two64:(2:Nat) ^ 64=18446744073709551616:=by decide
theorem wrap_u64n {a:Nat} (h:a < 18446744073709551616) : IntKind.u64.wrap (a:Int)=(a:Int):=wrap_u64 (by omega) (by omega)
theorem bv_u64 {a:Nat} (h:a < 18446744073709551616) : (BitVec.ofInt 64 (a:Int)).toNat=a:=by
  rw [BitVec.ofInt_natCast,BitVec.toNat_ofNat,two64,Nat.mod_eq_of_lt h]
theorem and_lt64 {a b:Nat} (h:a < 18446744073709551616) : a &&& b < 18446744073709551616:=Nat.lt_of_le_of_lt Nat.and_le_left h
theorem or_lt64 {a b:Nat} (h:a < 18446744073709551616) (h' : b < 18446744073709551616) : a ||| b < 18446744073709551616:=by
  rw [← two64] at *
  exact Nat.or_lt_two_pow h h'
def ndN (a b:Nat) : Nat:=a &&& (18446744073709551615 - b)
theorem nd_lt64 {a b:Nat} (h:a < 18446744073709551616) : ndN a b < 18446744073709551616:=and_lt64 h
noncomputable def bitS (P:Program) (H:Mem) (ev:Ev) (o:Oper) (op:BinOp) (t:TypeId) (a b:Nat) : R:=match op with
  | .and=>if a < 18446744073709551616∧b < 18446744073709551616 then .val (.lit (.int .u64 ((a &&& b:Nat) : Int))) H else oBin P H ev o op t (some (.lit (.int .u64 a))) (some (.lit (.int .u64 b)))
  | .or=>if a < 18446744073709551616∧b < 18446744073709551616 then .val (.lit (.int .u64 ((a ||| b:Nat) : Int))) H else oBin P H ev o op t (some (.lit (.int .u64 a))) (some (.lit (.int .u64 b)))
  | .andNot=>if a < 18446744073709551616∧b < 18446744073709551616 then .val (.lit (.int .u64 ((ndN a b:Nat) : Int))) H else oBin P H ev o op t (some (.lit (.int .u64 a))) (some (.lit (.int .u64 b)))
  | op=>oBin P H ev o op t (some (.lit (.int .u64 a))) (some (.lit (.int .u64 b)))
theorem bits_pure {op:BinOp} {a b c:Nat} {r:BitVec 64} (h:Op.intBits op .u64 a b=pure (.int .u64 (IntKind.u64.wrap r.toNat))) (hc:r.toNat=c) (h1:c < 18446744073709551616) : pureV P (Op.intBits op .u64 (a:Int) (b:Int))=some (.int .u64 (c:Int)):=by
  rw [h,hc,wrap_u64n h1]
  rfl
theorem intK2_bit {t rt:TypeId} {x y:Operand} {op:BinOp} {a b:Nat} (hop:op=.and∨op=.or∨op=.andNot) (hx:ev x=some (.lit (.int .u64 a))) (hy:ev y=some (.lit (.int .u64 b))) :
    intK2 P H ev ⟨d,.binOp op t x y rt,ty,p,af,g⟩ op t .u64 a b (intR op .u64 a b)=bitS P H ev ⟨d,.binOp op t x y rt,ty,p,af,g⟩ op t a b:=by
  have key:∀ c:Nat,pureV P (Op.intBits op .u64 (a:Int) (b:Int))=some (.int .u64 (c:Int))→intK2 P H ev ⟨d,.binOp op t x y rt,ty,p,af,g⟩ op t .u64 a b (intR op .u64 a b)=.val (.lit (.int .u64 (c:Int))) H:=by
    intro c hc
    have hi:intR op .u64 a b=none:=by rcases hop with rfl | rfl | rfl <;> rfl
    rw [hi]
    show oBin P H ev ⟨d,.binOp op t x y rt,ty,p,af,g⟩ op t (some (.lit (.int .u64 a))) (some (.lit (.int .u64 b)))=_
    have hf:fastBin op (.lit (.int .u64 a)) (.lit (.int .u64 b))=none:=by rcases hop with rfl | rfl | rfl <;> (unfold fastBin; dsimp only; cases kEq .u64 .u64 <;> rfl)
    refine oBin_generic hf (generic2 rfl hx hy fun ρ e1 e2=>execOp_bin e1 e2 (by rcases hop with rfl | rfl | rfl <;> rfl) ?_)
    rcases hop with rfl | rfl | rfl <;> exact hc
  rcases hop with rfl | rfl | rfl
  · unfold bitS
    dsimp only
    split
    · rename_i h
      exact key _ (bits_pure (r:=BitVec.ofInt 64 a &&& BitVec.ofInt 64 b) rfl (by rw [BitVec.toNat_and,bv_u64 h.1,bv_u64 h.2]) (and_lt64 h.1))
    · rfl
  · unfold bitS
    dsimp only
    split
    · rename_i h
      exact key _ (bits_pure (r:=BitVec.ofInt 64 a ||| BitVec.ofInt 64 b) rfl (by rw [BitVec.toNat_or,bv_u64 h.1,bv_u64 h.2]) (or_lt64 h.1 h.2))
    · rfl
  · unfold bitS
    dsimp only
    split
    · rename_i h
      exact key _ (bits_pure (r:=BitVec.ofInt 64 a &&& ~~~BitVec.ofInt 64 b) rfl (by rw [BitVec.toNat_and,BitVec.toNat_not,bv_u64 h.1,bv_u64 h.2,two64]; rfl) (nd_lt64 h.1))
    · rfl
def andN (a b:Nat) : Nat:=a &&& b
def orN (a b:Nat) : Nat:=a ||| b
def bitN (k:Nat) : Nat:=2 ^ k
def lowN (m k:Nat) : Nat:=m / 2 ^ k % 2
theorem andN_lt {a b:Nat} (h:a < 18446744073709551616) : andN a b < 18446744073709551616:=and_lt64 h
theorem orN_lt {a b:Nat} (h:a < 18446744073709551616) (h' : b < 18446744073709551616) : orN a b < 18446744073709551616:=or_lt64 h h'
theorem ndN_lt {a b:Nat} (h:a < 18446744073709551616) : ndN a b < 18446744073709551616:=and_lt64 h
theorem bitN_lt {k:Nat} (h:k≤63) : bitN k < 18446744073709551616:=by
  rw [← two64]
  exact Nat.pow_lt_pow_right (by omega) (by omega)
theorem andN_bit (a b s:Nat) : (andN a b).testBit s=(a.testBit s && b.testBit s):=Nat.testBit_and ..
theorem orN_bit (a b s:Nat) : (orN a b).testBit s=(a.testBit s || b.testBit s):=Nat.testBit_or ..
theorem ndN_bit (a b s:Nat) (hb:b < 18446744073709551616) : (ndN a b).testBit s=(a.testBit s && (decide (s < 64) && !b.testBit s)):=by
  unfold ndN
  rw [Nat.testBit_and]
  congr 1
  have h:=Nat.testBit_two_pow_sub_succ (x:=b) (n:=64) (by rw [two64]; exact hb) s
  rw [two64] at h
  rw [show 18446744073709551615 - b=18446744073709551616 - (b+1) by omega]
  exact h
theorem bitN_bit (k s:Nat) : (bitN k).testBit s=decide (k=s):=Nat.testBit_two_pow
theorem lowN_bit (m k:Nat) : decide (lowN m k=1)=m.testBit k:=by
  unfold lowN
  rw [Nat.testBit_eq_decide_div_mod_eq]
theorem intK2_and {t rt:TypeId} {x y:Operand} {a b:Nat} (hx:ev x=some (.lit (.int .u64 a))) (hy:ev y=some (.lit (.int .u64 b))) (ha:a < 18446744073709551616) (hb:b < 18446744073709551616) :
    intK2 P H ev ⟨d,.binOp .and t x y rt,ty,p,af,g⟩ .and t .u64 a b (intR .and .u64 a b)=.val (.lit (.int .u64 ((andN a b:Nat) : Int))) H:=by
  rw [intK2_bit (.inl rfl) hx hy]
  exact if_pos ⟨ha,hb⟩
theorem intK2_or {t rt:TypeId} {x y:Operand} {a b:Nat} (hx:ev x=some (.lit (.int .u64 a))) (hy:ev y=some (.lit (.int .u64 b))) (ha:a < 18446744073709551616) (hb:b < 18446744073709551616) :
    intK2 P H ev ⟨d,.binOp .or t x y rt,ty,p,af,g⟩ .or t .u64 a b (intR .or .u64 a b)=.val (.lit (.int .u64 ((orN a b:Nat) : Int))) H:=by
  rw [intK2_bit (.inr (.inl rfl)) hx hy]
  exact if_pos ⟨ha,hb⟩
theorem intK2_nd {t rt:TypeId} {x y:Operand} {a b:Nat} (hx:ev x=some (.lit (.int .u64 a))) (hy:ev y=some (.lit (.int .u64 b))) (ha:a < 18446744073709551616) (hb:b < 18446744073709551616) :
    intK2 P H ev ⟨d,.binOp .andNot t x y rt,ty,p,af,g⟩ .andNot t .u64 a b (intR .andNot .u64 a b)=.val (.lit (.int .u64 ((ndN a b:Nat) : Int))) H:=by
  rw [intK2_bit (.inr (.inr rfl)) hx hy]
  exact if_pos ⟨ha,hb⟩
theorem intK2_low {t rt:TypeId} {x y:Operand} {m k:Nat} (hx:ev x=some (.lit (.int .u64 ((m:Int) / 2 ^ k)))) (hy:ev y=some (.lit (.int .u64 1))) (hm:m < 18446744073709551616) :
    intK2 P H ev ⟨d,.binOp .and t x y rt,ty,p,af,g⟩ .and t .u64 ((m:Int) / 2 ^ k) 1 (intR .and .u64 ((m:Int) / 2 ^ k) 1)=.val (.lit (.int .u64 ((lowN m k:Nat) : Int))) H:=by
  have e:(m:Int) / 2 ^ k=((m / 2 ^ k:Nat) : Int):=by simp
  have hy' : ev y=some (.lit (.int .u64 ((1:Nat) : Int))):=hy
  rw [e] at hx ⊢
  have hl:m / 2 ^ k < 18446744073709551616:=Nat.lt_of_le_of_lt (Nat.div_le_self _ _) hm
  refine (intK2_and (t:=t) (rt:=rt) hx hy' hl (by omega)).trans ?_
  unfold andN lowN
  rw [Nat.and_one_is_mod]
theorem binS_shl1 {t rt:TypeId} {x y:Operand} {s:Int} (hx:ev x=some (.lit (.int .u64 1))) (hy:ev y=some (.lit (.int .i64 s))) (h0:0≤s) (h1:s≤63) :
    binS P H ev ⟨d,.binOp .shl t x y rt,ty,p,af,g⟩ .shl t (some (.lit (.int .u64 1))) (some (.lit (.int .i64 s)))=.val (.lit (.int .u64 ((bitN s.toNat:Nat) : Int))) H:=by
  have e:binS P H ev ⟨d,.binOp .shl t x y rt,ty,p,af,g⟩ .shl t (some (.lit (.int .u64 1))) (some (.lit (.int .i64 s)))=oBin P H ev ⟨d,.binOp .shl t x y rt,ty,p,af,g⟩ .shl t (some (.lit (.int .u64 1))) (some (.lit (.int .i64 s))):=rfl
  rw [e]
  refine oBin_generic rfl (generic2 rfl hx hy fun ρ e1 e2=>execOp_bin e1 e2 rfl ?_)
  show pureV P (Op.shift .shl .u64 1 .i64 s)=_
  unfold Op.shift
  rw [if_neg (by omega)]
  dsimp only
  have h2:min s.toNat IntKind.u64.bits=s.toNat:=by rw [bits_u64]; omega
  have h3:(1:Int) * 2 ^ s.toNat=((bitN s.toNat:Nat) : Int):=by unfold bitN; simp
  rw [h2,h3,wrap_u64n (bitN_lt (by omega))]
  rfl
attribute [simp] andN_lt orN_lt ndN_lt bitN_lt intK2_and intK2_or intK2_nd intK2_low binS_shl1
end
end Go.Ai
end
section
namespace Go.Ai
set_option maxRecDepth 10000
def sOf (m:Nat) : SetS:=fun s=>m.testBit s
def aheadN (nx:List Nat) (t:Nat) : Nat→Nat
  | 0=>0
  | k+1=>if andN (nx.getD k 0) t=0 then aheadN nx t k else orN (aheadN nx t k) (bitN k)
theorem aheadN_lt (nx:List Nat) (t:Nat) : ∀ k,k≤64→aheadN nx t k < 18446744073709551616
  | 0,_=>by unfold aheadN; omega
  | k+1,h=>by
    have:=aheadN_lt nx t k (by omega)
    unfold aheadN
    split
    · exact this
    · exact orN_lt this (bitN_lt (by omega))
theorem aheadN_bit (nx:List Nat) (t s:Nat) : ∀ k,(aheadN nx t k).testBit s=(decide (s < k) && !decide (andN (nx.getD s 0) t=0))
  | 0=>by unfold aheadN; simp
  | k+1=>by
    have ih:=aheadN_bit nx t s k
    unfold aheadN
    split
    · rename_i h
      rw [ih]
      by_cases hs:s=k
      · subst hs; rw [decide_eq_true h]; simp
      · rw [show decide (s < k+1)=decide (s < k) by rw [decide_eq_decide]; omega]
    · rename_i h
      rw [orN_bit,ih,bitN_bit]
      by_cases hs:s=k
      · subst hs; rw [decide_eq_false h]; simp
      · rw [decide_eq_false (show ¬k=s by omega),show decide (s < k+1)=decide (s < k) by rw [decide_eq_decide]; omega]; simp
theorem andN_ne {a b:Nat} : ¬andN a b=0↔∃ u,a.testBit u=true∧b.testBit u=true:=by
  constructor
  · intro h
    obtain ⟨u,hu⟩:=Nat.exists_testBit_of_ne_zero h
    rw [andN_bit,Bool.and_eq_true] at hu
    exact ⟨u,hu⟩
  · rintro ⟨u,h1,h2⟩ h
    have:(andN a b).testBit u=true:=by rw [andN_bit,h1,h2]; rfl
    rw [h,Nat.zero_testBit] at this
    cases this
structure GrN (G:GraphM) (nx:List Nat) (all:Nat) : Prop where
  ok:G.ok
  len:nx.length=G.n
  n64:G.n≤64
  lt:∀ x∈nx,x < 18446744073709551616
  bit:∀ s,s < G.n→∀ u,(nx.getD s 0).testBit u=true↔u∈G.succ s
  abit:∀ s,all.testBit s=decide (s < G.n)
  alt:all < 18446744073709551616
variable {G:GraphM} {nx:List Nat} {all:Nat}
theorem GrN.ahead (h:GrN G nx all) (t:Nat) : eqS G.n (sOf (aheadN nx t G.n)) (G.pre (sOf t)):=fun s hs=>by
  show (aheadN nx t G.n).testBit s=_
  rw [aheadN_bit,decide_eq_true hs,Bool.true_and]
  unfold GraphM.pre
  rw [Bool.eq_iff_iff,List.any_eq_true]
  simp only [Bool.not_eq_true',decide_eq_false_iff_not]
  rw [andN_ne]
  constructor
  · rintro ⟨u,h1,h2⟩
    exact ⟨u,(h.bit s hs u).1 h1,h2⟩
  · rintro ⟨u,h1,h2⟩
    exact ⟨u,(h.bit s hs u).2 h1,h2⟩
theorem GrN.all_eq (h:GrN G nx all) : eqS G.n (sOf all) allS:=fun s hs=>by
  show all.testBit s=true
  rw [h.abit,decide_eq_true hs]
def endsN (nx:List Nat) (all n:Nat) : Nat:=ndN all (aheadN nx all n)
theorem GrN.ends_lt (h:GrN G nx all) : endsN nx all G.n < 18446744073709551616:=ndN_lt h.alt
theorem GrN.nd (h:GrN G nx all) {t:Nat} (ht:t < 18446744073709551616) : eqS G.n (sOf (ndN all t)) (notS (sOf t)):=fun s hs=>by
  show (ndN all t).testBit s=_
  have:=h.n64
  rw [ndN_bit _ _ _ ht,h.abit,decide_eq_true hs,decide_eq_true (show s < 64 by omega)]
  rfl
theorem GrN.ends_eq (h:GrN G nx all) : eqS G.n (sOf (endsN nx all G.n)) G.ends:=fun s hs=>by
  have h1:=h.nd (aheadN_lt nx all G.n h.n64) s hs
  show sOf (ndN all (aheadN nx all G.n)) s=_
  rw [h1]
  unfold notS
  rw [h.ahead all s hs]
  unfold GraphM.ends GraphM.pre
  rw [Bool.eq_iff_iff]
  simp only [Bool.not_eq_true',List.any_eq_false,List.isEmpty_iff]
  constructor
  · intro h2
    cases hsu:G.succ s with
    | nil=>rfl
    | cons u l =>
      exfalso
      have hu:u∈G.succ s:=by rw [hsu]; exact List.mem_cons_self ..
      refine h2 u hu ?_
      show all.testBit u=true
      rw [h.abit,decide_eq_true (h.ok s hs u hu)]
  · intro h2 u hu
    rw [h2] at hu; cases hu
structure UInv (G:GraphM) (a b0 b:Nat) : Prop where
  up:leS G.n (sOf b0) (sOf b)
  least:∀ Z,leS G.n (G.fE (sOf a) (sOf b0) Z) Z→leS G.n (sOf b) Z
theorem UInv.start {a b0:Nat} : UInv G a b0 b0:=⟨fun _ _ h=>h,fun Z hZ s hs h=>hZ s hs (by unfold GraphM.fE; rw [h]; rfl)⟩
theorem UInv.step (h:GrN G nx all) {a b0 b:Nat} (hu:UInv G a b0 b) : UInv G a b0 (orN b (andN a (aheadN nx b G.n))):=by
  refine ⟨fun s hs hx=>?_,fun Z hZ s hs hx=>?_⟩
  · show (orN _ _).testBit s=true
    rw [orN_bit,show b.testBit s=true from hu.up s hs hx]; rfl
  · have hx' : (orN b (andN a (aheadN nx b G.n))).testBit s=true:=hx
    rw [orN_bit,andN_bit,Bool.or_eq_true,Bool.and_eq_true] at hx'
    rcases hx' with h1 | ⟨h1,h2⟩
    · exact hu.least Z hZ s hs h1
    · refine hZ s hs ?_
      unfold GraphM.fE
      have h3:G.pre (sOf b) s=true:=by rw [← h.ahead b s hs]; exact h2
      have h4:=G.pre_mono h.ok (hu.least Z hZ) s hs h3
      rw [h4,show sOf a s=true from h1]
      simp
theorem UInv.fin (h:GrN G nx all) {a b0 b:Nat} (hu:UInv G a b0 b) (he:orN b (andN a (aheadN nx b G.n))=b) : IsL G.n (G.fE (sOf a) (sOf b0)) (sOf b):=by
  refine grow_lfp (b:=sOf b0) (fun s hs hx=>?_) hu.least (fun X Y=>G.fE_mono h.ok _ _)
  unfold GraphM.fE at hx
  rw [Bool.or_eq_true,Bool.and_eq_true] at hx
  rcases hx with h1 | ⟨h1,h2⟩
  · exact hu.up s hs h1
  · have h3:(aheadN nx b G.n).testBit s=true:=by
      have:=h.ahead b s hs
      rw [show (aheadN nx b G.n).testBit s=sOf (aheadN nx b G.n) s from rfl,this]; exact h2
    show b.testBit s=true
    rw [← he,orN_bit,andN_bit,show a.testBit s=true from h1,h3]
    simp
theorem or_ge (a b:Nat) : a≤orN a b:=Nat.left_le_or
theorem and_le (a b:Nat) : andN a b≤a:=Nat.and_le_left
structure AInv (G:GraphM) (a0 a:Nat) : Prop where
  down:leS G.n (sOf a) (sOf a0)
  least:∀ Z,leS G.n (G.fA allS (notS (sOf a0)) Z) Z→leS G.n (notS (sOf a)) Z
theorem AInv.start {a0:Nat} : AInv G a0 a0:=⟨fun _ _ h=>h,fun Z hZ s hs h=>hZ s hs (by unfold GraphM.fA; rw [h]; rfl)⟩
theorem AInv.step (h:GrN G nx all) {a0 a:Nat} (ha:AInv G a0 a) : AInv G a0 (andN a (orN (aheadN nx a G.n) (endsN nx all G.n))):=by
  refine ⟨fun s hs hx=>?_,fun Z hZ s hs hx=>?_⟩
  · have hx' : (andN a _).testBit s=true:=hx
    rw [andN_bit,Bool.and_eq_true] at hx'
    exact ha.down s hs hx'.1
  · have hx' : (andN a (orN (aheadN nx a G.n) (endsN nx all G.n))).testBit s=false:=by simpa [notS,sOf] using hx
    rw [andN_bit,orN_bit] at hx'
    by_cases h1:a.testBit s=true
    · rw [h1,Bool.true_and,Bool.or_eq_false_iff] at hx'
      have h2:G.pre (sOf a) s=false:=by rw [← h.ahead a s hs]; exact hx'.1
      have h3:G.ends s=false:=by rw [← h.ends_eq s hs]; exact hx'.2
      refine hZ s hs ?_
      have h4:=not_pre G (notS (sOf a)) s
      have h5:G.pre (notS (notS (sOf a))) s=false:=by
        have:notS (notS (sOf a))=sOf a:=by funext t; unfold notS; simp
        rw [this]; exact h2
      rw [h5] at h4
      have h6:G.post (notS (sOf a)) s=true:=by
        cases hp:G.post (notS (sOf a)) s with
        | true=>rfl
        | false=>rw [hp] at h4; cases h4
      have h7:=G.post_mono h.ok (ha.least Z hZ) s hs h6
      unfold GraphM.fA
      rw [h3,h7]
      simp [allS]
    · exact ha.least Z hZ s hs (by simp [notS,sOf,h1])
theorem AInv.fin (h:GrN G nx all) {a0 a:Nat} (ha:AInv G a0 a) (he:andN a (orN (aheadN nx a G.n) (endsN nx all G.n))=a) : IsL G.n (G.fA allS (notS (sOf a0))) (notS (sOf a)):=by
  refine grow_lfp (b:=sOf a0) (fun s hs hx=>?_) ha.least (fun X Y=>G.fA_mono h.ok _ _)
  unfold GraphM.fA at hx
  rw [Bool.or_eq_true,Bool.and_eq_true,Bool.and_eq_true] at hx
  cases h1:a.testBit s with
  | false=>simp [notS,sOf,h1]
  | true =>
    exfalso
    have h2:=h1
    rw [← he,andN_bit,orN_bit,h1,Bool.true_and,Bool.or_eq_true] at h2
    rcases hx with h3 | ⟨_,h3,h4⟩
    · have h5:=ha.down s hs h1
      simp only [notS,h5] at h3
      cases h3
    · rcases h2 with h2 | h2
      · have h5:G.pre (sOf a) s=true:=by rw [← h.ahead a s hs]; exact h2
        have h6:=not_pre G (notS (sOf a)) s
        rw [show notS (notS (sOf a))=sOf a by funext t; unfold notS; simp,h5,h4] at h6
        cases h6
      · have h5:G.ends s=true:=by rw [← h.ends_eq s hs]; exact h2
        rw [h5] at h3
        cases h3
end Go.Ai
end
section
namespace Go.Ai
set_option maxRecDepth 10000
theorem Row.ext {g g' : Nat→Option Blk} {a off:Nat} {cs:List AV} (hr:Row g a off cs) (h:∀ x,g a=some x→g' a=some x) : Row g' a off cs :=
  let ⟨l,own,z,h1,h2,h3⟩:=hr; ⟨l,own,z,h _ h1,h2,h3⟩
theorem SliceV.ext {g g' : Nat→Option Blk} {b b' len:Nat} {sv:AV} {cs:List AV} (hb:b≤b') (h:∀ a x,a < b→g a=some x→g' a=some x) : SliceV g b sv len cs→SliceV g' b' sv len cs :=
  fun hs=>hs.imp id fun ⟨a,off,h1,h2,h3⟩=>⟨a,off,by omega,h2,h3.ext fun x hx=>h a x h1 hx⟩
theorem SliceV.one {g:Nat→Option Blk} {b len:Nat} {sv:AV} {cs:List AV} : SliceV g b sv len cs→oneC sv=true:=by
  rintro (⟨_,_,rfl | rfl⟩ | ⟨a,off,_,⟨c,rfl⟩ | ⟨c,rfl⟩,_⟩) <;> rfl
def SliceA (g:Nat→Option Blk) (b:Nat) (sv:AV) (len:Nat) (cs:List AV) : Prop :=
  (len=0∧(sv=.lit (.slice none 0 0)∨sv=.es))∨∃ a off c,a < b∧sv=.sl a off len c∧Row g a off cs
theorem SliceA.mono {g g' : Nat→Option Blk} {b b' len:Nat} {sv:AV} {cs:List AV} (hb:b≤b') (h:∀ a,a < b→g' a=g a) : SliceA g b sv len cs→SliceA g' b' sv len cs :=
  fun hs=>hs.imp id fun ⟨a,off,c,h1,h2,h3⟩=>⟨a,off,c,by omega,h2,h3.mono (h a h1)⟩
theorem SliceA.one {g:Nat→Option Blk} {b len:Nat} {sv:AV} {cs:List AV} : SliceA g b sv len cs→oneC sv=true:=by
  rintro (⟨_,rfl | rfl⟩ | ⟨a,off,c,_,rfl,_⟩) <;> rfl
def rowC (r:List (Int×Int)) : List AV:=r.flatMap fun e=>[.lit (.int .i64 e.1),.lit (.int .i64 e.2)]
theorem rowC_len:∀ (r:List (Int×Int)),(rowC r).length=r.length * 2
  | []=>rfl
  | e :: r=>by
    have:=rowC_len r
    unfold rowC at this ⊢
    rw [List.flatMap_cons,List.length_append,this,List.length_cons]
    simp
    omega
theorem rowC_snoc (r:List (Int×Int)) (e:Int×Int) : rowC (r++[e])=rowC r++[.lit (.int .i64 e.1),.lit (.int .i64 e.2)]:=by
  unfold rowC
  rw [List.flatMap_append]
  simp
theorem rowC_at:∀ (r:List (Int×Int)) (k:Nat) (h:k < r.length),((rowC r).drop (k * 2)).take 2=[.lit (.int .i64 r[k].1),.lit (.int .i64 r[k].2)]
  | e :: r,0,_=>rfl
  | e :: r,k+1,h=>by
    have:=rowC_at r k (by simpa using h)
    have e1:rowC (e :: r)=[.lit (.int .i64 e.1),.lit (.int .i64 e.2)]++rowC r:=rfl
    rw [e1,show (k+1) * 2=2+k * 2 by omega,← List.drop_drop]
    exact this
theorem rowC_one (allr:List (Int×Int)) (k:Nat) (h:k < allr.length) : (rowC allr)[k * 2]?=some (.lit (.int .i64 allr[k].1))∧(rowC allr)[k * 2+1]?=some (.lit (.int .i64 allr[k].2)):=by
  have h1:=rowC_at allr k h
  have h2:(((rowC allr).drop (k * 2)).take 2)[0]?=some (.lit (.int .i64 allr[k].1)):=by rw [h1]; rfl
  have h3:(((rowC allr).drop (k * 2)).take 2)[1]?=some (.lit (.int .i64 allr[k].2)):=by rw [h1]; rfl
  rw [List.getElem?_take_of_lt (by omega),List.getElem?_drop] at h2 h3
  exact ⟨h2,h3⟩
def RowsE (g:Nat→Option Blk) (b:Nat) : List (List (Int×Int))→List AV→Prop
  | [],cs=>cs=[]
  | r :: l,cs=>∃ c t,cs=c :: t∧SliceV g b c r.length (rowC r)∧RowsE g b l t
theorem RowsE.ext {g g' : Nat→Option Blk} {b b' : Nat} (hb:b≤b') (h:∀ a x,a < b→g a=some x→g' a=some x) : ∀ {l:List (List (Int×Int))} {cs:List AV},RowsE g b l cs→RowsE g' b' l cs
  | [],_,h0=>h0
  | _ :: _,_,⟨c,t,h1,h2,h3⟩=>⟨c,t,h1,h2.ext hb h,h3.ext hb h⟩
theorem RowsE.len {g:Nat→Option Blk} {b:Nat} : ∀ {l:List (List (Int×Int))} {cs:List AV},RowsE g b l cs→cs.length=l.length
  | [],cs,h=>by have h' : cs=[]:=h; rw [h']; rfl
  | r :: l,cs,⟨c,t,h1,h2,h3⟩=>by rw [h1,List.length_cons,List.length_cons,h3.len]
theorem RowsE.at {g:Nat→Option Blk} {b:Nat} : ∀ {l:List (List (Int×Int))} {cs:List AV},RowsE g b l cs→∀ (k:Nat) (h:k < l.length) (h' : k < cs.length),SliceV g b cs[k] l[k].length (rowC l[k])
  | r :: l,cs,⟨c,t,h1,h2,h3⟩,0,h,h'=>by subst h1; exact h2
  | r :: l,cs,⟨c,t,h1,h2,h3⟩,k+1,h,h'=>by subst h1; exact h3.at k (by simpa using h) (by simpa using h')
theorem RowsE.snoc {g:Nat→Option Blk} {b:Nat} {r:List (Int×Int)} {c:AV} (hr:SliceV g b c r.length (rowC r)) : ∀ {l:List (List (Int×Int))} {cs:List AV},RowsE g b l cs→RowsE g b (l++[r]) (cs++[c])
  | [],cs,h=>by have h' : cs=[]:=h; subst h'; exact ⟨c,[],rfl,hr,rfl⟩
  | _ :: _,_,⟨d,t,h1,h2,h3⟩=>⟨d,t++[c],by rw [h1]; rfl,h2,h3.snoc hr⟩
def RepM (g:Nat→Option Blk) (b:Nat) (M:MachM) (cs:List AV) : Prop :=
  ∃ sv svs,cs=[.lit (.int .i64 M.inp),.lit (.int .i64 M.out),sv]∧RowsE g b M.rows svs∧SliceV g b sv M.rows.length svs
theorem RepM.ext {g g' : Nat→Option Blk} {b b' : Nat} (hb:b≤b') (h:∀ a x,a < b→g a=some x→g' a=some x) {M:MachM} {cs:List AV} : RepM g b M cs→RepM g' b' M cs :=
  fun ⟨sv,svs,h1,h2,h3⟩=>⟨sv,svs,h1,h2.ext hb h,h3.ext hb h⟩
theorem RepM.mono {g g' : Nat→Option Blk} {b b' : Nat} (hb:b≤b') (h:∀ a,a < b→g' a=g a) {M:MachM} {cs:List AV} (hr:RepM g b M cs) : RepM g' b' M cs:=hr.ext hb fun a x ha hx=>(h a ha).trans hx
theorem RepM.one {g:Nat→Option Blk} {b:Nat} {M:MachM} {cs:List AV} (h:RepM g b M cs) : ∃ sv,cs=[.lit (.int .i64 M.inp),.lit (.int .i64 M.out),sv]∧oneC sv=true :=
  let ⟨sv,_,h1,_,h3⟩:=h; ⟨sv,h1,h3.one⟩
def FreshM (g:Nat→Option Blk) (n n' : Nat) (M:MachM) (cs:List AV) : Prop:=∃ gk:Nat→Option Blk,(∀ a z,gk a=some z→g a=some z∧n≤a∧a < n')∧RepM gk n' M cs
theorem FreshM.keep {g g' : Nat→Option Blk} {n0 n n' n2:Nat} {M:MachM} {cs:List AV} (h:FreshM g n n' M cs) (h0:n0≤n) (h2:n'≤n2) (hg:∀ a,n≤a→a < n'→g' a=g a) : FreshM g' n0 n2 M cs:=by
  obtain ⟨gk,h1,h3⟩:=h
  refine ⟨gk,fun a z hz=>?_,h3.ext h2 fun a z _ hz=>hz⟩
  obtain ⟨e1,e2,e3⟩:=h1 a z hz
  exact ⟨(hg a e2 e3).trans e1,by omega,by omega⟩
theorem FreshM.rep {g:Nat→Option Blk} {n n' : Nat} {M:MachM} {cs:List AV} (h:FreshM g n n' M cs) : RepM g n' M cs :=
  let ⟨_,h1,h3⟩:=h; h3.ext (Nat.le_refl _) fun a z _ hz=>(h1 a z hz).1
def GrowV (g:Nat→Option Blk) (lo n' B:Nat) (sv:AV) (len sz:Nat) (cs:List AV) : Prop :=
  (len=0∧cs=[]∧sv=.lit (.slice none 0 0))∨(0 < len∧sv=.slq B 0 len 0∧lo≤B∧B < n'∧g B=some (.cells cs true sz)∧cs.length=len * sz)
theorem GrowV.keep {g g' : Nat→Option Blk} {lo n' n2 B len sz:Nat} {sv:AV} {cs:List AV} (h:GrowV g lo n' B sv len sz cs) (hn:n'≤n2) (hg:lo≤B→B < n'→g' B=g B) : GrowV g' lo n2 B sv len sz cs :=
  h.imp id fun ⟨h0,h1,h2,h3,h4,h5⟩=>⟨h0,h1,h2,by omega,(hg h2 h3).trans h4,h5⟩
theorem GrowV.mk {g:Nat→Option Blk} {lo n' B len sz:Nat} {cs:List AV} (h:g B=some (.cells cs true sz)) (h1:lo≤B) (h2:B < n') (h3:cs.length=(len+1) * sz) : GrowV g lo n' B (.slq B 0 (len+1) 0) (len+1) sz cs :=
  .inr ⟨by omega,rfl,h1,h2,h,h3⟩
theorem GrowV.one {g:Nat→Option Blk} {lo n' B len sz:Nat} {sv:AV} {cs:List AV} : GrowV g lo n' B sv len sz cs→oneC sv=true:=by
  rintro (⟨_,_,rfl⟩ | ⟨_,rfl,_⟩) <;> rfl
theorem GrowV.slice {g:Nat→Option Blk} {lo n' B len sz:Nat} {sv:AV} {cs:List AV} (h:GrowV g lo n' B sv len sz cs) : SliceV (fun a=>if a=B∧lo≤B∧B < n' then g a else none) n' sv len cs:=by
  rcases h with ⟨h1,h2,h3⟩ | ⟨h0,h1,h2,h3,h4,h5⟩
  · exact .inl ⟨h1,h2,.inl h3⟩
  · exact .inr ⟨B,0,h3,.inr ⟨0,h1⟩,cs,true,sz,(if_pos ⟨rfl,h2,h3⟩).trans h4,by simp,by simp⟩
def edgeM (part:Bool) (n O v:Nat) : Int×Int:=if part=true∧v % 4=3 then (-1,-1) else (((v / 4 % n:Nat) : Int),((v / 4 / n % O:Nat) : Int))
def rowM (part:Bool) (es:List Nat) (n I O s:Nat) : List (Int×Int):=(List.range I).map fun i=>edgeM part n O (es.getD (s * I+i) 0)
def machOf (st inp out:Nat) (part:Bool) (es:List Nat) : MachM :=
  ⟨1+((inp % 3:Nat) : Int),1+((out % 3:Nat) : Int),(List.range (1+st % 6)).map (rowM part es (1+st % 6) (1+inp % 3) (1+out % 3))⟩
theorem machOf_ok (st inp out:Nat) (part:Bool) (es:List Nat) : (machOf st inp out part es).ok:=by
  have h1:=Nat.mod_lt inp (show 0 < 3 by omega)
  have h2:=Nat.mod_lt out (show 0 < 3 by omega)
  have h3:=Nat.mod_lt st (show 0 < 6 by omega)
  refine ⟨?_,?_,?_,?_,?_,?_,?_⟩
  · show (1:Int)≤1+((inp % 3:Nat) : Int); omega
  · show 1+((inp % 3:Nat) : Int)≤16; omega
  · show (1:Int)≤1+((out % 3:Nat) : Int); omega
  · show 1+((out % 3:Nat) : Int)≤16; omega
  · show 1≤((List.range (1+st % 6)).map _).length; simp
  · show ((List.range (1+st % 6)).map _).length≤64; simp; omega
  · intro r hr
    have hr' : r∈(List.range (1+st % 6)).map (rowM part es (1+st % 6) (1+inp % 3) (1+out % 3)):=hr
    obtain ⟨s,hs,rfl⟩:=List.mem_map.1 hr'
    refine ⟨?_,fun e he=>?_⟩
    · show ((((List.range (1+inp % 3)).map _).length:Nat) : Int)=1+((inp % 3:Nat) : Int)
      rw [List.length_map,List.length_range]; omega
    · obtain ⟨i,hi,rfl⟩:=List.mem_map.1 he
      have hl:(machOf st inp out part es).rows.length=1+st % 6:=by show ((List.range (1+st % 6)).map _).length=_; simp
      rw [hl]
      show edgeOK (1+st % 6) (1+((out % 3:Nat) : Int)) _=true
      generalize es.getD (s * (1+inp % 3)+i) 0=v
      unfold edgeM
      split
      · rfl
      · have e1:=Nat.mod_lt (v / 4) (show 0 < 1+st % 6 by omega)
        have e2:=Nat.mod_lt (v / 4 / (1+st % 6)) (show 0 < 1+out % 3 by omega)
        simp only [edgeOK,Bool.or_eq_true,Bool.and_eq_true,decide_eq_true_eq]
        refine .inr ⟨by omega,by omega,by omega,by omega⟩
end Go.Ai
end
section
namespace Go.Ai
set_option maxRecDepth 10000
def u64C (l:List Nat) : List AV:=l.map fun (c:Nat)=>.lit (.int .u64 (c:Int))
theorem u64C_len (l:List Nat) : (u64C l).length=l.length:=List.length_map _
theorem u64C_at (l:List Nat) (k:Nat) (h:k < (u64C l).length) : (u64C l)[k]=.lit (.int .u64 ((l.getD k 0:Nat) : Int)):=by
  unfold u64C at h ⊢
  rw [List.getElem_map]
  rw [List.length_map] at h
  rw [List.getD_eq_getElem?_getD,List.getElem?_eq_getElem h]
  rfl
def RepG (g:Nat→Option Blk) (b:Nat) (M:MachM) (nx:List Nat) (all:Nat) (cs:List AV) : Prop :=
  ∃ rv nv,cs=[.lit (.int .i64 M.inp),.lit (.int .i64 M.out),rv,nv,.lit (.int .u64 (all:Int))]∧RepM g b M [.lit (.int .i64 M.inp),.lit (.int .i64 M.out),rv]∧SliceV g b nv nx.length (u64C nx)
theorem RepG.mono {g g' : Nat→Option Blk} {b b' : Nat} (hb:b≤b') (h:∀ a,a < b→g' a=g a) {M:MachM} {nx:List Nat} {all:Nat} {cs:List AV} : RepG g b M nx all cs→RepG g' b' M nx all cs :=
  fun ⟨rv,nv,h1,h2,h3⟩=>⟨rv,nv,h1,h2.mono hb h,h3.mono hb h⟩
theorem lenV {P:Program} {g:Nat→Option Blk} {b len:Nat} {sv:AV} {cs:List AV} (h:SliceV g b sv len cs) : ∀ {H:Mem} {ev:Ev} {o:Oper} {c:Call} {e:TypeId},lenS P H ev o c (some (.slice e)) (some [sv])=.val (.lit (.int .i64 len)) H:=by
  intro H ev o c e
  rcases h with ⟨rfl,_,rfl | rfl⟩ | ⟨a,off,_,⟨c',rfl⟩ | ⟨c',rfl⟩,_⟩ <;> rfl
theorem edge_at {M:MachM} {k i:Nat} {row:List (Int×Int)} {e:Int×Int} (h:M.rows[k]?=some row) (hi:row[i]?=some e) : M.edge k i=e:=by
  have e1:M.rows.getD k []=row:=by rw [List.getD_eq_getElem?_getD,h]; rfl
  unfold MachM.edge
  rw [e1,List.getD_eq_getElem?_getD,hi]; rfl
end Go.Ai
end
section
namespace Go.Ai
set_option maxRecDepth 10000
def Plain (l:List UInt8) : Prop:=l≠[]∧(∀ c∈l,48≤c.toNat∧c.toNat≤57)∧(∀ c r,l=c :: r→r≠[]→c.toNat≠48)
end Go.Ai
end
section
namespace Go.Ai
set_option maxRecDepth 10000
theorem validL_mem {st inp out:Int} : ∀ {l:List NodeM},validL st inp out l=true→∀ y∈l,validM st inp out y=true
  | x :: l,h,y,hy=>by
    simp only [validL,Bool.and_eq_true] at h
    rcases List.mem_cons.1 hy with rfl | hy
    · exact h.1
    · exact validL_mem h.2 y hy
end Go.Ai
end
section
namespace Go.Ai
open Go.RowKit (Below)
variable {B G:Nat} {P:Program} {n n0:Nat} {ρ0 ρ:Rn} {w0 w:World} {a:Act} {ops:Array Oper} {o:Oper} {callf:CallF} {fr:Fr} {g:Nat→Option AV} {ds:List Dfr} {H:Mem} {d:Tmp} {v:AV}
def und:Dg→Nat
  | .d0=>0 | .d1=>1 | .d2=>2 | .d3=>3 | .d4=>4 | .d5=>5 | .d6=>6 | .d7=>7
  | .d8=>8 | .d9=>9 | .d10=>10 | .d11=>11 | .d12=>12 | .d13=>13 | .d14=>14 | .d15=>15
theorem und_dig:∀ n,n < 16→und (dig n)=n:=by decide
theorem dig_inj {m k:Nat} (hm:m < 16) (hk:k < 16) (h:dig m=dig k) : m=k:=by
  have:=congrArg und h
  rwa [und_dig _ hm,und_dig _ hk] at this
theorem path2 {j k:Nat} (hj:j < 256) (hk:k < 256) (h0:d0 k=d0 j) (h1:d1 k=d1 j) : k=j:=by
  have e0:k % 16=j % 16:=dig_inj (Nat.mod_lt _ (by omega)) (Nat.mod_lt _ (by omega)) h0
  have e1:k / 16 % 16=j / 16 % 16:=dig_inj (Nat.mod_lt _ (by omega)) (Nat.mod_lt _ (by omega)) h1
  omega
theorem path3 {j k:Nat} (hj:j < 4096) (hk:k < 4096) (h0:d0 k=d0 j) (h1:d1 k=d1 j) (h2:d2 k=d2 j) : k=j:=by
  have e0:k % 16=j % 16:=dig_inj (Nat.mod_lt _ (by omega)) (Nat.mod_lt _ (by omega)) h0
  have e1:k / 16 % 16=j / 16 % 16:=dig_inj (Nat.mod_lt _ (by omega)) (Nat.mod_lt _ (by omega)) h1
  have e2:k / 256 % 16=j / 256 % 16:=dig_inj (Nat.mod_lt _ (by omega)) (Nat.mod_lt _ (by omega)) h2
  omega
theorem leaf_same {α:Type} (k:Nat) (x:α) : leaf k (.v k x)=some x:=by simp [leaf]
theorem get2_ne {α:Type} (t:T2 α) {k j:Nat} (x:Lf α) (hk:k < 256) (hj:j < 256) (hne:j≠k) : get2 (u2 t k x) j=get2 t j:=by
  unfold get2 u2
  rcases Dg.em (d0 k) (d0 j) with h0 | h0
  · rw [h0,gN_same]
    rcases Dg.em (d1 k) (d1 j) with h1 | h1
    · exact absurd (path2 hk hj h0 h1) hne
    · rw [gN_ne _ _ _ _ h1]
  · rw [gN_ne _ _ _ _ h0]
theorem get3_ne {α:Type} (t:T3 α) {k j:Nat} (x:Lf α) (hk:k < 4096) (hj:j < 4096) (hne:j≠k) : get3 (u3 t k x) j=get3 t j:=by
  unfold get3 u3
  rcases Dg.em (d0 k) (d0 j) with h0 | h0
  · rw [h0,gN_same]
    rcases Dg.em (d1 k) (d1 j) with h1 | h1
    · rw [h1,gN_same]
      rcases Dg.em (d2 k) (d2 j) with h2 | h2
      · exact absurd (path3 hk hj h0 h1 h2) hne
      · rw [gN_ne _ _ _ _ h2]
    · rw [gN_ne _ _ _ _ h1]
  · rw [gN_ne _ _ _ _ h0]
noncomputable def roomOf (fr:Fr) : Nat:=Fr.rec (motive:=fun _=>Nat) (fun _ _=>256) (fun _ _=>4096) (fun _ _=>0) fr
theorem room_upd (fr:Fr) (d:Tmp) (v:AV) : roomOf (fr.upd d v)=roomOf fr:=by
  cases fr <;> simp [Fr.upd,Fr.set,fpS,fpG,fpF,put2_eq,put3_eq,roomOf]
theorem room_put (fr:Fr) (d:Option Tmp) (v:AV) : roomOf (fr.put d v)=roomOf fr:=by
  cases d with
  | none=>rfl
  | some d=>exact room_upd fr d v
theorem room_defer (fr:Fr) (x:Dfr) : roomOf (fr.defer x)=roomOf fr:=by cases fr <;> rfl
theorem get_upd_same (fr:Fr) (d:Tmp) (v:AV) : (fr.upd d v).get d=some v:=by
  cases fr with
  | s t ds=>simp [Fr.upd,Fr.set,fpS,put2_eq,Fr.get,fgS]; unfold get2; rw [at2_same]; exact leaf_same _ _
  | g t ds=>simp [Fr.upd,Fr.set,fpG,put3_eq,Fr.get,fgG]; unfold get3; rw [at3_same]; exact leaf_same _ _
  | f g ds=>exact if_pos rfl
theorem get_upd_ne (fr:Fr) {d k:Tmp} (v:AV) (hd:d < roomOf fr) (hk:k < roomOf fr) (h:k≠d) : (fr.upd d v).get k=fr.get k:=by
  cases fr with
  | s t ds=>simp [Fr.upd,Fr.set,fpS,put2_eq,Fr.get,fgS]; exact get2_ne _ _ hd hk h
  | g t ds=>simp [Fr.upd,Fr.set,fpG,put3_eq,Fr.get,fgG]; exact get3_ne _ _ hd hk h
  | f g ds=>exact if_neg h
structure FE (fr:Fr) (g:Nat→Option AV) (ds:List Dfr) : Prop where
  lo:∀ k,k < roomOf fr→fr.get k=g k
  up:∀ k v,fr.get k=some v→g k=some v
  dfr:fr.defers=ds
theorem FE.refl (fr:Fr) : FE fr fr.get fr.defers:=⟨fun _ _=>rfl,fun _ _ h=>h,rfl⟩
theorem FE.upd (h:FE fr g ds) (hd:d < roomOf fr) (v:AV) : FE (fr.upd d v) (fput g d v) ds:=by
  refine ⟨fun k hk=>?_,fun k y hy=>?_,(Fr.defers_upd fr d v).trans h.dfr⟩
  · rw [room_upd] at hk
    unfold fput
    by_cases e:k=d
    · subst e; rw [if_pos rfl]; exact get_upd_same fr k v
    · rw [if_neg e,get_upd_ne fr v hd hk e]; exact h.lo k hk
  · unfold fput
    rcases Fr.get_upd hy with ⟨rfl,rfl⟩ | ⟨hne,hy⟩
    · exact if_pos rfl
    · rw [if_neg hne]; exact h.up k y hy
def putG (g:Nat→Option AV) (d:Option Tmp) (v:AV) : Nat→Option AV:=match d with | some d=>fput g d v | none=>g
theorem put_f (g:Nat→Option AV) (ds:List Dfr) (d:Option Tmp) (v:AV) : (Fr.f g ds).put d v=.f (putG g d v) ds:=by cases d <;> rfl
theorem FE.put (h:FE fr g ds) {d:Option Tmp} (hd:∀ t,d=some t→t < roomOf fr) (v:AV) : FE (fr.put d v) (putG g d v) ds:=by
  cases d with
  | none=>exact h
  | some d=>exact h.upd (hd d rfl) v
theorem FE.defer (h:FE fr g ds) (x:Dfr) : FE (fr.defer x) g (x :: ds) :=
  ⟨fun k hk=>by rw [room_defer] at hk; rw [Fr.get_defer]; exact h.lo k hk,fun k v hv=>by rw [Fr.get_defer] at hv; exact h.up k v hv,by rw [Fr.defers_defer,h.dfr]⟩
theorem St.toF (s:St B G n n0 ρ0 w0 ρ fr H a w) : St B G n n0 ρ0 w0 ρ (.f fr.get fr.defers) H a w:=⟨s.ext,s.sim,⟨s.frel.slot,s.frel.dfr,s.frel.size,s.frel.only⟩,s.le⟩
theorem St.ofF (h:FE fr g ds) (s:St B G n n0 ρ0 w0 ρ (.f g ds) H a w) : St B G n n0 ρ0 w0 ρ fr H a w :=
  ⟨s.ext,s.sim,⟨fun t v hv hn=>s.frel.slot t v (h.up t v hv) hn,by rw [h.dfr]; exact s.frel.dfr,s.frel.size,fun t v hv=>s.frel.only t v (h.up t v hv)⟩,s.le⟩
def noSel (o:Oper) : Bool:=match o.op with | .select _ _=>false | _=>true
theorem noSel_spec (h:noSel o=true) : ∀ cs b,o.op≠.select cs b:=by
  intro cs b e; unfold noSel at h; rw [e] at h; cases h
def roomy (m:Nat) (o:Oper) : Bool:=dstOk m o && (tmpsOf o).all (fun t=>Nat.blt t m) && noSel o
theorem FE.op (h:FE fr g ds) (hr:roomy (roomOf fr) o=true) : opV P H fr.ev o=opV P H (Fr.f g ds).ev o:=by
  unfold roomy at hr
  simp only [Bool.and_eq_true] at hr
  refine opV_evs (noSel_spec hr.2) fun x hx=>?_
  cases x with
  | tmp t =>
    have:=List.all_eq_true.1 hr.1.2 t (mem_tmps hx)
    exact h.lo t (Nat.le_of_ble_eq_true this)
  | const v=>rfl
  | global g=>rfl
  | func f=>rfl
theorem roomy_dst {m:Nat} (hr:roomy m o=true) : ∀ t,o.dst=some t→t < m:=by
  intro t ht
  unfold roomy dstOk at hr
  rw [ht] at hr
  simp only [Bool.and_eq_true] at hr
  exact Nat.le_of_ble_eq_true hr.1.1
def wOf (callf:CallF) : WF:=fun f args H K=>match callf f args H with
  | .bad=>False
  | r=>K r
theorem wOf_ok (hc:∀ B,CallOK B G P callf) : WOK G P (wOf callf):=by
  intro f args H K h
  refine orW_sound (O:=callf) hc ?_
  unfold wOf at h; unfold orW
  cases hr:callf f args H <;> rw [hr] at h <;> first | exact h.elim | exact h
theorem wOf_mono:WMono (wOf callf):=by
  intro f args H K K' hk h
  unfold wOf at h ⊢
  cases hr:callf f args H <;> rw [hr] at h <;> first | exact h.elim | exact hk _ h
theorem one_W {k:Fr→Mem→Out} {kk:Fr→Mem→Prop} {Q:Out→Prop} {r:Out} (he:FE fr g ds) (hr:roomy (roomOf fr) o=true) (hall:ops.toList.all (roomy (roomOf fr))=true) (h:oneOp P callf ops o fr H k=r) (hne:r≠.bad)
    (hk:∀ fr1 g1 ds1 H1,FE fr1 g1 ds1→roomOf fr1=roomOf fr→k fr1 H1=r→kk (.f g1 ds1) H1)
    (hp:∀ v fr1 H1,FE fr1 g ds→r=.panic v fr1 H1→Q (.panic v (.f g ds) H1)) : oneW P (wOf callf) ops o (.f g ds) H kk Q:=by
  have hput:∀ (v:AV) (H1:Mem),(fr.putK o.dst v fun fr=>k fr H1)=r→kk ((Fr.f g ds).put o.dst v) H1:=by
    intro v H1 h1
    rw [Fr.putK_eq] at h1
    rw [put_f]
    exact hk _ _ _ _ (he.put (roomy_dst hr) v) (room_put fr o.dst v) h1
  have haft:after callf o fr k (opV P H fr.ev o)=r→afterW (wOf callf) o (.f g ds) kk Q (opV P H (Fr.f g ds).ev o):=by
    rw [← he.op hr]
    generalize opV P H fr.ev o=x
    intro h1
    cases x with
    | val v H1=>exact hput v H1 h1
    | skip H1=>exact hput _ H1 h1
    | enter f args H1 =>
      have h2:(match callf f args H1 with | .ret v H=>fr.putK o.dst v fun fr=>k fr H | .panic v H=>.panic v fr H | .bad=>.bad)=r:=h1
      show wOf callf f args H1 _
      unfold wOf
      cases hc:callf f args H1 with
      | ret v H2=>rw [hc] at h2; exact hput v H2 h2
      | panic v H2=>rw [hc] at h2; exact hp v fr H2 he h2.symm
      | bad=>rw [hc] at h2; exact absurd h2.symm hne
    | dfr fn cap args H1 =>
      have h2:((fr.defer (fn,cap,args)).putK o.dst (.lit undef) fun fr=>k fr H1)=r:=h1
      rw [Fr.putK_eq] at h2
      show kk ((Fr.f g ((fn,cap,args) :: ds)).put o.dst (.lit undef)) H1
      rw [put_f]
      exact hk _ _ _ _ ((he.defer _).put (by rw [room_defer]; exact roomy_dst hr) _) ((room_put _ _ _).trans (room_defer _ _)) h2
    | panic v H1=>exact hp v fr H1 he h1.symm
    | _=>exact absurd h1.symm hne
  unfold oneW
  unfold oneOp at h
  cases hg:o.guard with
  | none=>rw [hg] at h; exact haft h
  | some gd =>
    rw [hg] at h
    have h2:guarded P callf ops o fr H k gd=r:=h
    unfold guarded at h2
    have hs:guardSlot ops fr gd.1=guardSlot ops (.f g ds) gd.1:=by
      unfold guardSlot
      split
      · rename_i p hp'
        have hm:=List.all_eq_true.1 hall p (List.mem_of_getElem? (toList_at.2 hp'))
        split
        · rename_i d hd; exact he.lo d (roomy_dst hm d hd)
        · rfl
      · rfl
    show byGuard (guardSlot ops (.f g ds) gd.1) gd.2 _ _
    rw [← hs]
    have hw:∀ x,wantedG ops fr gd=some x→(x=true→(∃ b,guardSlot ops fr gd.1=some (.lit (.bool b))∧b=gd.2)) ∧
        (x=false→(∃ b,guardSlot ops fr gd.1=some (.lit (.bool b))∧b = !gd.2)∨∃ y,guardSlot ops fr gd.1=some (.lit (.tuple y))):=by
      intro x hx
      unfold wantedG yieldedA at hx
      unfold guardSlot
      generalize gd.2=want at hx ⊢
      cases hp:ops[gd.1]? with
      | none=>simp [hp] at hx
      | some p =>
        cases hd:p.dst with
        | none=>simp [hp,hd] at hx
        | some d =>
          simp only [hp,hd] at hx ⊢
          revert hx
          generalize fr.get d=z
          intro hx
          by_cases hb:∃ b,z=some (.lit (.bool b))
          · obtain ⟨b,rfl⟩:=hb
            cases b <;> cases want <;> first
              | (obtain rfl:x=true:=(Option.some.inj hx).symm; clear hx; simp)
              | (obtain rfl:x=false:=(Option.some.inj hx).symm; clear hx; simp)
          · split at hx
            · rename_i b hz
              exfalso
              split at hz
              · rename_i b'; exact hb ⟨_,rfl⟩
              · cases hz
            · split at hx
              · rename_i vs
                cases hx
                exact ⟨fun e=>(by cases e),fun _=>.inr ⟨_,rfl⟩⟩
              · cases hx
    split at h2
    · rename_i hx
      obtain ⟨b,hb,rfl⟩:=(hw _ hx).1 rfl
      rw [hb]
      exact ⟨fun _=>haft h2,fun e=>by cases hgd:gd.2 <;> simp [hgd] at e⟩
    · rename_i hx
      rcases (hw _ hx).2 rfl with ⟨b,hb,e⟩ | ⟨y,hy⟩
      · rw [hb]
        subst e
        exact ⟨fun e=>by cases hgd:gd.2 <;> simp [hgd] at e,fun _=>hput _ _ h2⟩
      · rw [hy]; exact hput _ _ h2
    · exact absurd h2.symm hne
end Go.Ai
end
section
namespace Go.Ai
open Go.RowKit (Below)
variable {B G:Nat} {P:Program} {n n0:Nat} {ρ0 ρ:Rn} {w0 w:World} {a:Act} {ops:Array Oper} {callf:CallF} {loopf:LoopF} {fr:Fr} {g:Nat→Option AV} {ds:List Dfr} {H:Mem}
inductive FI where
  | run (o:Oper)
  | mk (i:Nat) (o:Oper)
  | gate (hs as:List Nat)
  | no
def itF (ops:Array Oper) (it:It) : FI:=match it with
  | .run i=>match ops[i]? with | some o=>.run o | none=>.no
  | .mk i=>match ops[i]? with | some o=>.mk i o | none=>.no
  | .gate hs as=>.gate hs as
def eqU (x y:AV) : Bool:=match x,y with
  | .lit (.tuple a),.lit (.tuple b)=>Nat.beq a.size 0 && Nat.beq b.size 0
  | x,y=>eqAV x y
theorem eqU_sound {x y:AV} (h:eqU x y=true) : x=y:=by
  unfold eqU at h
  split at h
  · rename_i a b
    simp only [Bool.and_eq_true] at h
    have h1:=Nat.eq_of_beq_eq_true h.1
    have h2:=Nat.eq_of_beq_eq_true h.2
    rw [Array.eq_empty_of_size_eq_zero h1,Array.eq_empty_of_size_eq_zero h2]
  · exact eqAV_sound _ _ h
noncomputable def againC (P:Program) (callf:CallF) (ops:Array Oper) (fr:Fr) (H:Mem) : List Nat→Bool
  | []=>true
  | i :: l=>match ops[i]? with
    | some o=>match oneOp P callf ops o fr H (fun fr' H'=>.norm fr' H') with
      | .norm fr' _=>match slotOf fr' o.dst,slotOf fr o.dst with
        | some x,some y=>match eqU x y with | true=>againC P callf ops fr H l | false=>false
        | _,_=>false
      | _=>false
    | none=>false
def elemN (i:Nat) : List Nat→Bool
  | []=>false
  | j :: l=>match Nat.beq i j with | true=>true | false=>elemN i l
theorem elemN_mem {i:Nat} : ∀ {l:List Nat},i∈l→elemN i l=true
  | j :: l,h=>by
    unfold elemN
    split
    · rfl
    · rename_i hb
      rcases List.mem_cons.1 h with rfl | h
      · simp at hb
      · exact elemN_mem h
noncomputable def keptC (H:Mem) (as:List Nat) : AlP→Bool
  | []=>true
  | (i,a,b) :: l=>match elemN i as with
    | true=>match H.get a,b with
      | some x,some y=>match eqBlk x y with | true=>keptC H as l | false=>false
      | _,_=>false
    | false=>keptC H as l
abbrev FlF:=Program→CallF→Array Oper→Fr→Mem→AlP→Out
noncomputable def flN:FlF:=fun _ _ _ fr H _=>.norm fr H
noncomputable def flRun (o:Oper) : FlF→FlF:=fun ih P callf ops fr H als=>oneOp P callf ops o fr H fun fr H=>ih P callf ops fr H als
noncomputable def flMk (i:Nat) (o:Oper) : FlF→FlF:=fun ih P callf ops fr H als=>oneOp P callf ops o fr H fun fr H'=>ih P callf ops fr H' ((i,H.next,H'.get H.next) :: als)
noncomputable def flGate (hs as:List Nat) : FlF→FlF:=fun ih P callf ops fr H als=>match againC P callf ops fr H hs,keptC H as als with
  | true,true=>ih P callf ops fr H als
  | _,_=>.bad
noncomputable def flNo:FlF→FlF:=fun _ _ _ _ _ _ _=>.bad
noncomputable def flC (it:It) (_:List It) (ih:FlF) : FlF:=fun P callf ops fr H als=>FI.rec (motive:=fun _=>FlF→FlF) flRun flMk flGate flNo (itF ops it) ih P callf ops fr H als
noncomputable def flatRun (P:Program) (callf:CallF) (ops:Array Oper) (l:List It) (fr:Fr) (H:Mem) (als:AlP) : Out:=List.rec (motive:=fun _=>FlF) flN flC l P callf ops fr H als
def OE (r out:Out) : Prop:=match r,out with
  | .norm fr H,.norm fr' H'=>H'=H∧∃ g ds,fr'=.f g ds∧FE fr g ds
  | .panic v fr H,.panic v' fr' H'=>v'=v∧H'=H∧fr'=fr.clear
  | _,_=>False
theorem clear_eq (fr:Fr) : fr.clear=.s e2 fr.defers:=by cases fr <;> rfl
theorem again_W (he:FE fr g ds) (hall:ops.toList.all (roomy (roomOf fr))=true) : ∀ {l:List Nat},againC P callf ops fr H l=true→againW P (wOf callf) ops (.f g ds) H l
  | [],_=>trivial
  | i :: l,h=>by
    unfold againC at h
    unfold againW
    split at h
    · rename_i o ho
      have hm:=List.all_eq_true.1 hall o (List.mem_of_getElem? (toList_at.2 ho))
      split at h
      · rename_i fr2 H2 hr
        split at h
        · rename_i x y hx hy
          split at h
          · rename_i hxy
            have hxy':=eqU_sound hxy
            subst hxy'
            refine ⟨?_,again_W he hall h⟩
            rw [ho]
            dsimp only
            refine one_W he hm hall hr (by simp) (fun fr1 g1 ds1 H1 he1 _ h1=>?_) (fun v fr1 H1 _ h1=>by cases h1)
            cases h1
            have key:∀ {fr:Fr} {g:Nat→Option AV} {ds:List Dfr},FE fr g ds→∀ {x},slotOf fr o.dst=some x→slotOf (.f g ds) o.dst=some x:=by
              intro fr g ds he x hx
              unfold slotOf at hx ⊢
              split at hx
              · exact he.up _ _ hx
              · cases hx
            rw [key he1 hx,key he hy]
          · cases h
        · cases h
      · cases h
    · cases h
theorem kept_W {as:List Nat} : ∀ {als:AlP},keptC H as als=true→keptW H as als
  | [],_=>trivial
  | (i,a,b) :: l,h=>by
    unfold keptC at h
    unfold keptW
    split at h
    · split at h
      · rename_i x y hx
        split at h
        · rename_i he
          exact ⟨fun _=>hx.trans (congrArg some (eqBlk_sound he)),kept_W h⟩
        · cases h
      · cases h
    · rename_i he
      exact ⟨fun hi=>(by rw [elemN_mem hi] at he; cases he),kept_W h⟩
theorem flat_W:∀ (l:List It) {fr:Fr} {g:Nat→Option AV} {ds:List Dfr} {H:Mem} {als:AlP} {r:Out},FE fr g ds→ops.toList.all (roomy (roomOf fr))=true→flatRun P callf ops l fr H als=r→r≠.bad →
    planW P (wOf callf) ops (clearQ (OE r)) l (.f g ds) H als
  | [],fr,g,ds,H,als,r,he,hall,h,hne=>by
    have h' : Out.norm fr H=r:=h
    subst h'
    exact ⟨rfl,g,ds,rfl,he⟩
  | it :: l,fr,g,ds,H,als,r,he,hall,h,hne=>by
    have h' : FI.rec (motive:=fun _=>FlF→FlF) flRun flMk flGate flNo (itF ops it) (fun P callf ops fr H als=>flatRun P callf ops l fr H als) P callf ops fr H als=r:=h
    have hp:∀ v fr1 H1,FE fr1 g ds→r=.panic v fr1 H1→clearQ (OE r) (.panic v (.f g ds) H1):=by
      rintro v fr1 H1 he1 rfl
      refine ⟨rfl,rfl,?_⟩
      rw [clear_eq,clear_eq,he1.dfr]; rfl
    cases it with
    | run i =>
      unfold planW
      cases ho:ops[i]? with
      | none =>
        rw [show itF ops (.run i)=.no by simp only [itF,ho]] at h'
        exact absurd h'.symm hne
      | some o =>
        rw [show itF ops (.run i)=.run o by simp only [itF,ho]] at h'
        dsimp only
        have hm:=List.all_eq_true.1 hall o (List.mem_of_getElem? (toList_at.2 ho))
        exact one_W he hm hall h' hne (fun fr1 g1 ds1 H1 he1 hr1 h1=>flat_W l he1 (by rw [hr1]; exact hall) h1 hne) hp
    | mk i =>
      unfold planW
      cases ho:ops[i]? with
      | none =>
        rw [show itF ops (.mk i)=.no by simp only [itF,ho]] at h'
        exact absurd h'.symm hne
      | some o =>
        rw [show itF ops (.mk i)=.mk i o by simp only [itF,ho]] at h'
        dsimp only
        have hm:=List.all_eq_true.1 hall o (List.mem_of_getElem? (toList_at.2 ho))
        exact one_W he hm hall h' hne (fun fr1 g1 ds1 H1 he1 hr1 h1=>flat_W l he1 (by rw [hr1]; exact hall) h1 hne) hp
    | gate hs as =>
      have h2:(match againC P callf ops fr H hs,keptC H as als with | true,true=>flatRun P callf ops l fr H als | _,_=>.bad)=r:=h'
      unfold planW
      split at h2
      · rename_i h3 h4
        exact ⟨again_W he hall h3,kept_W h4,flat_W l he hall h2 hne⟩
      · exact absurd h2.symm hne
noncomputable def clearO (r:Out) : Out:=match r with
  | .panic v fr H=>.panic v fr.clear H
  | .norm fr H=>.norm fr H
  | _=>.bad
noncomputable def drawnF (P:Program) (callf:CallF) (ops:Array Oper) (fr:Fr) (H:Mem) : Out:=match flatOk P ops.toList,ops.toList.all (roomy (roomOf fr)) with
  | true,true=>clearO (flatRun P callf ops (planOf ops.toList) fr H [])
  | _,_=>.bad
theorem drawnF_sound (hc:∀ B,CallOK B G P callf) (hG:G=P.globals.size) {id:Nat} (s:St B G n n0 ρ0 w0 ρ fr H a w) (hd:dstsOk n (.region id ops true)=true) (hne:drawnF P callf ops fr H≠.bad) :
    (Code.region id ops true).wp P (OutPost B G n n0 ρ0 w0 (drawnF P callf ops fr H)) a w:=by
  unfold drawnF at hne ⊢
  split at hne
  · rename_i hok hall
    generalize hr:flatRun P callf ops (planOf ops.toList) fr H []=r at hne ⊢
    have hr0:r≠.bad:=fun e=>hne (by rw [e]; rfl)
    have key:=drawnW_sound (wOf_ok hc) (id:=id) hG s.toF hd (planW_drawn wOf_mono hok (flat_W _ (FE.refl fr) hall hr hr0))
    refine Code.wp_mono ?_ key
    rintro e a' w' ⟨out,hq,ho⟩
    cases r with
    | norm fr1 H1 =>
      cases out with
      | norm fr2 H2 =>
        obtain ⟨rfl,g,ds,rfl,he⟩:=hq
        cases e with
        | normal=>obtain ⟨ρ',s'⟩:=ho; exact ⟨ρ',St.ofF he s'⟩
        | _=>exact ho.elim
      | _=>exact hq.elim
    | panic v fr1 H1 =>
      cases out with
      | panic v2 fr2 H2 =>
        obtain ⟨rfl,rfl,rfl⟩:=hq
        exact ho
      | _=>exact hq.elim
    | exit=>cases out <;> exact hq.elim
    | ret=>cases out <;> exact hq.elim
    | bad=>exact absurd rfl hr0
  · exact absurd rfl hne
/- Codes. -/
noncomputable def xRegionF (_:Nat) (ops:Array Oper) (draw:Bool) : XF:=fun P callf _ fr H=>match draw with
  | false=>seqOps P callf ops ops.toList fr H
  | true=>drawnF P callf ops fr H
noncomputable def execCF:Code→XF:=Code.rec (motive:=fun _=>XF) xSkip xRegionF xSeq xCond xBlock xLoop xRangeFunc xExit xScope xLabel xGoto xRet xRefuse
noncomputable def execF (P:Program) (callf:CallF) (loopf:LoopF) (c:Code) (fr:Fr) (H:Mem) : Out:=execCF c P callf loopf fr H
def GoodF (B G:Nat) (P:Program) (callf:CallF) (loopf:LoopF) (c:Code) : Prop :=
  ∀ (n n0:Nat) (ρ0:Rn) (w0:World) (ρ:Rn) (fr:Fr) (H:Mem) (a:Act) (w:World),dstsOk n c=true→St B G n n0 ρ0 w0 ρ fr H a w→execF P callf loopf c fr H≠.bad →
    c.wp P (OutPost B G n n0 ρ0 w0 (execF P callf loopf c fr H)) a w
theorem good_loopF {callf:CallF} {loopf:LoopF} {b:Code} (hl:LoopOK B G P loopf) (hb:GoodF B G P callf loopf b) (n n0:Nat) (ρ0:Rn) (w0:World) (ρ:Rn) (fr:Fr) (H:Mem) (a:Act) (w:World)
    (hd:dstsOk n b=true) (s:St B G n n0 ρ0 w0 ρ fr H a w) (hne:execF P callf loopf (.loop b) fr H≠.bad) : LW P b (OutPost B G n n0 ρ0 w0 (execF P callf loopf (.loop b) fr H)) a w:=by
  have he:execF P callf loopf (.loop b) fr H=thenO (execF P callf loopf b fr H) (loopf (.loop b)):=rfl
  rw [he] at hne ⊢
  have hr:execF P callf loopf b fr H≠.bad:=fun h=>hne (by rw [h]; rfl)
  refine LW.unroll (Code.wp_mono (thenO_post hne fun fr' H' ρ' a' w' hr' s' hk=>?_) (hb n n0 ρ0 w0 ρ fr H a w hd s hr))
  rw [hr']
  exact hl b n n0 ρ0 w0 ρ' fr' H' a' w' hd s' hk
theorem execF_sound {callf:CallF} {loopf:LoopF} (hcs:∀ B,CallOK B G P callf) (hl:LoopOK B G P loopf) (hG:G=P.globals.size) : ∀ c:Code,GoodF B G P callf loopf c:=by
  intro c
  have hc:=hcs B
  induction c with
  | skip=>intro n n0 ρ0 w0 ρ fr H a w hd s hne; exact wp_skip ⟨ρ,s⟩
  | region id ops draw =>
    intro n n0 ρ0 w0 ρ fr H a w hd s hne
    cases draw with
    | false =>
      refine wp_region_list (seqOps_sound hc hG hne ops.toList fr H ρ a w ?_ s rfl)
      exact fun o ho=>List.all_eq_true.1 hd o ho
    | true=>exact drawnF_sound hcs hG s hd hne
  | seq x y ihx ihy =>
    intro n n0 ρ0 w0 ρ fr H a w hd s hne
    have he:execF P callf loopf (.seq x y) fr H=thenO (execF P callf loopf x fr H) (execF P callf loopf y):=rfl
    rw [he] at hne ⊢
    simp only [dstsOk,Bool.and_eq_true] at hd
    have hr:execF P callf loopf x fr H≠.bad:=fun h=>hne (by rw [h]; rfl)
    refine wp_seq (Code.wp_mono (thenO_post hne fun fr' H' ρ' a' w' hr' s' hk=>?_) (ihx n n0 ρ0 w0 ρ fr H a w hd.1 s hr))
    rw [hr']
    exact ihy n n0 ρ0 w0 ρ' fr' H' a' w' hd.2 s' hk
  | cond cnd x y ihx ihy =>
    intro n n0 ρ0 w0 ρ fr H a w hd s hne
    have he:execF P callf loopf (.cond cnd x y) fr H=condO (fr.ev cnd) (execF P callf loopf x) (execF P callf loopf y) fr H:=rfl
    rw [he] at hne ⊢
    simp only [dstsOk,Bool.and_eq_true] at hd
    unfold condO at hne ⊢
    split at hne
    · rename_i hev
      have:=s.ev _ _ hev
      exact wp_cond_true this (ihx n n0 ρ0 w0 ρ fr H a w hd.1 s hne)
    · rename_i hev
      have:=s.ev _ _ hev
      exact wp_cond_false this (ihy n n0 ρ0 w0 ρ fr H a w hd.2 s hne)
    · exact absurd rfl hne
  | block id b ih =>
    intro n n0 ρ0 w0 ρ fr H a w hd s hne
    have he:execF P callf loopf (.block id b) fr H=blockO id (execF P callf loopf b fr H):=rfl
    rw [he] at hne ⊢
    have hr:execF P callf loopf b fr H≠.bad:=fun h=>hne (by rw [h]; rfl)
    refine wp_block (Code.wp_mono ?_ (ih n n0 ρ0 w0 ρ fr H a w hd s hr))
    intro e a' w' h
    generalize execF P callf loopf b fr H=r at h hne ⊢
    cases r with
    | norm fr' H'=>cases e <;> first | exact h.elim | exact h
    | exit id' fr' H' =>
      cases e with
      | exit id2 =>
        obtain ⟨rfl,ρ',s'⟩:=h
        unfold blockO
        dsimp only
        split
        · rename_i hb
          have:=Nat.eq_of_beq_eq_true hb
          subst this
          simp only [Exit.inBlock,if_true]
          exact ⟨ρ',s'⟩
        · rename_i hb
          have hne2:id2≠id:=by intro h0; subst h0; simp at hb
          simp only [Exit.inBlock,hne2,if_false]
          exact ⟨rfl,ρ',s'⟩
      | _=>exact h.elim
    | ret fr' H'=>cases e <;> first | exact h.elim | exact h
    | panic v fr' H'=>cases e <;> first | exact h.elim | exact h
    | bad=>exact absurd rfl hne
  | loop b ih =>
    intro n n0 ρ0 w0 ρ fr H a w hd s hne
    exact (good_loopF hl ih n n0 ρ0 w0 ρ fr H a w hd s hne).wp
  | rangeFunc f ps x y ihx ihy=>intro n n0 ρ0 w0 ρ fr H a w hd s hne; exact absurd rfl hne
  | exit id=>intro n n0 ρ0 w0 ρ fr H a w hd s hne; exact wp_exit ⟨rfl,ρ,s⟩
  | scope b ih=>intro n n0 ρ0 w0 ρ fr H a w hd s hne; exact absurd rfl hne
  | label l=>intro n n0 ρ0 w0 ρ fr H a w hd s hne; exact wp_label ⟨ρ,s⟩
  | goto l=>intro n n0 ρ0 w0 ρ fr H a w hd s hne; exact absurd rfl hne
  | ret=>intro n n0 ρ0 w0 ρ fr H a w hd s hne; exact wp_ret ⟨ρ,s⟩
  | refuse why=>intro n n0 ρ0 w0 ρ fr H a w hd s hne; exact absurd rfl hne
noncomputable def enterQB (P:Program) (callf:CallF) (loopf:LoopF) (fn:Func) (c:Code) (args:List AV) (H:Mem) : COut :=
  match dstsOk fn.ntmps c,Nat.ble (len args) fn.ntmps with
  | true,true=>finish P callf loopf fn (putArgsK args (frame0 fn.ntmps) fun fr=>execF P callf loopf c fr H)
  | _,_=>.bad
noncomputable def enterQ (P:Program) (callf:CallF) (loopf:LoopF) (f:FuncId) (args:List AV) (H:Mem) : COut :=
  match P.funcs[f]? with
  | some fn=>match fn.body with
    | some c=>enterQB P callf loopf fn c args H
    | none=>.bad
  | none=>.bad
theorem enterQ_sound {callf:CallF} {loopf:LoopF} (hcs:∀ B,CallOK B G P callf) (hl:LoopOK B G P loopf) (hG:G=P.globals.size) : CallOK B G P (enterQ P callf loopf):=by
  have hc:=hcs B
  intro f args H hne ρ us w hs hv
  unfold enterQ at hne ⊢
  split at hne
  · rename_i fn hfn
    split at hne
    · rename_i c hb
      unfold enterQB at hne ⊢
      split at hne
      · rename_i hdst hlen
        rw [putArgsK_eq] at hne ⊢
        have hfe:=frame_entered (n:=fn.ntmps) hv (by rw [← len_eq]; exact Nat.le_of_ble_eq_true hlen)
        have s1:St B G fn.ntmps H.next ρ w ρ (putArgs args (frame0 fn.ntmps) 0) H { tmps:=us++Array.replicate (fn.ntmps - us.size) undef,defers:=[] } w:=⟨Ext.refl _ _ _ _,hs,hfe,Nat.le_refl _⟩
        have hr:execF P callf loopf c (putArgs args (frame0 fn.ntmps) 0) H≠.bad:=fun h0=>hne (by rw [h0]; rfl)
        have key:=execF_sound hcs hl hG c fn.ntmps H.next ρ w ρ _ H _ w hdst s1 hr
        refine calls_of_wp_defers hfn hb (Code.wp_mono ?_ key)
        intro e a' w' h
        generalize execF P callf loopf c (putArgs args (frame0 fn.ntmps) 0) H=r at h hne ⊢
        cases r with
        | norm fr' H' =>
          cases e with
          | normal=>obtain ⟨ρ',s'⟩:=h; exact leave_sound hc hl hG hne _ _ .returning H' ρ' .returning w' s'.frel.dfr s' rfl rfl
          | _=>exact h.elim
        | ret fr' H' =>
          cases e with
          | ret=>obtain ⟨ρ',s'⟩:=h; exact leave_sound hc hl hG hne _ _ .returning H' ρ' .returning w' s'.frel.dfr s' rfl rfl
          | _=>exact h.elim
        | panic v fr' H' =>
          cases e with
          | panic chain=>obtain ⟨ρ',x,rfl,hx,s'⟩:=h; exact leave_sound hc hl hG hne _ _ (.panicking v) H' ρ' _ w' s'.frel.dfr s' ⟨x,rfl,hx⟩ rfl
          | _=>exact h.elim
        | exit id fr' H'=>exact absurd rfl hne
        | bad=>exact absurd rfl hne
      · exact absurd rfl hne
    · exact absurd rfl hne
  · exact absurd rfl hne
noncomputable def bothF (P:Program) (O:CallF) (n:Nat) : CallF×LoopF :=
  Nat.rec (motive:=fun _=>CallF×LoopF) (fun _ _ _=>.bad,fun _ _ _=>.bad) (fun _ ih=>(orC O (enterQ P ih.1 ih.2),execF P ih.1 ih.2)) n
noncomputable def callF (P:Program) (O:CallF) (n:Nat) : CallF:=(bothF P O n).1
theorem bothF_sound {O:CallF} (hO:∀ B,CallOK B G P O) (hG:G=P.globals.size) : ∀ n,(∀ B,CallOK B G P (bothF P O n).1)∧∀ B,LoopOK B G P (bothF P O n).2
  | 0=>⟨fun B f args H hne=>absurd rfl hne,fun B b n n0 ρ0 w0 ρ fr H a w hd s hne=>absurd rfl hne⟩
  | m+1=>by
    obtain ⟨hc,hl⟩:=bothF_sound hO hG m
    refine ⟨fun B=>orC_ok (hO B) (enterQ_sound hc (hl B) hG),fun B b n n0 ρ0 w0 ρ fr H a w hd s hne=>?_⟩
    exact good_loopF (hl B) (execF_sound hc (hl B) hG b) n n0 ρ0 w0 ρ fr H a w hd s hne
theorem callF_ok {O:CallF} (hO:∀ B,CallOK B G P O) (hG:G=P.globals.size) (fuel:Nat) : ∀ B,CallOK B G P (callF P O fuel):=(bothF_sound hO hG fuel).1
end Go.Ai
end
section
namespace Go.Ai
set_option maxRecDepth 10000
def noneS:SetS:=fun _=>false
mutual
def semN (M:MachM) : NodeM→SetS→Prop
  | .mk op a b subs,X=>∃ A B,semL M subs A B∧opSem M op a b A B X
def semL (M:MachM) : List NodeM→SetS→SetS→Prop
  | [],A,B=>eqS M.gr.n A noneS∧eqS M.gr.n B noneS
  | x :: l,A,B=>semN M x A∧semL1 M l B
def semL1 (M:MachM) : List NodeM→SetS→Prop
  | [],B=>eqS M.gr.n B noneS
  | y :: _,B=>semN M y B
end
mutual
theorem semN_uniq {M:MachM} (hM:M.ok) : ∀ (x:NodeM) {X Y:SetS},semN M x X→semN M x Y→eqS M.gr.n X Y
  | .mk op a b subs,X,Y,⟨A,B,h1,h2⟩,⟨A',B',h3,h4⟩=>by
    obtain ⟨hA,hB⟩:=semL_uniq hM subs h1 h3
    exact opSem_uniq hM h2 h4 hA hB
theorem semL_uniq {M:MachM} (hM:M.ok) : ∀ (l:List NodeM) {A B A' B' : SetS},semL M l A B→semL M l A' B'→eqS M.gr.n A A'∧eqS M.gr.n B B'
  | [],_,_,_,_,h,h'=>⟨h.1.trans h'.1.symm,h.2.trans h'.2.symm⟩
  | x :: l,_,_,_,_,h,h'=>⟨semN_uniq hM x h.1 h'.1,semL1_uniq hM l h.2 h'.2⟩
theorem semL1_uniq {M:MachM} (hM:M.ok) : ∀ (l:List NodeM) {B B' : SetS},semL1 M l B→semL1 M l B'→eqS M.gr.n B B'
  | [],_,_,h,h'=>h.trans h'.symm
  | y :: _,_,_,h,h'=>semN_uniq hM y h h'
end
theorem ok_row {M:MachM} (h:M.ok) : ∀ r∈M.rows,(r.length:Int)=M.inp:=fun r hr=>(h.2.2.2.2.2.2 r hr).1
theorem ok_edge {M:MachM} (h:M.ok) {s i:Nat} (hs:s < M.gr.n) (hi:(i:Int) < M.inp) : M.edge s i=(-1,-1)∨(0≤(M.edge s i).1∧(M.edge s i).1 < M.gr.n∧0≤(M.edge s i).2∧(M.edge s i).2 < M.out):=by
  have hs' : s < M.rows.length:=hs
  have h1:=h.2.2.2.2.2.2 _ (List.getElem_mem hs')
  have hi' : i < M.rows[s].length:=by omega
  have h2:=h1.2 _ (List.getElem_mem hi')
  rw [edge_at (List.getElem?_eq_getElem hs') (List.getElem?_eq_getElem hi')]
  unfold edgeOK at h2
  simp only [Bool.or_eq_true,Bool.and_eq_true,decide_eq_true_eq] at h2
  exact h2
theorem ok_edge1 {M:MachM} (h:M.ok) (s i:Nat) (hs:s < M.gr.n) (hi:(i:Int) < M.inp) : -1≤(M.edge s i).1:=by
  rcases ok_edge h hs hi with h1 | h1
  · rw [h1]; decide
  · omega
end Go.Ai
end
section
namespace Go.Ai
section
variable {P:Program} {H:Mem} {ev:Ev} {d:Option Tmp} {ty:TypeId} {p:String} {af:Array Edge} {g:Option (Nat×Bool)}
noncomputable def mkI (P:Program) (t:TypeId) : Option AV:=match elemOfSlice P t with
  | some (e,size,bytes)=>if size=1∧bytes≤1048576 then (match zeroL P e with | some [v]=>some v | _=>none) else none
  | none=>none
noncomputable def mksS (P:Program) (H:Mem) (t:TypeId) (q:Option AV) (x y:Option AV) : R:=match q,x,y with
  | some v,some (.lit (.int .i64 a)),some (.lit (.int .i64 b))=>if a=b∧0≤a∧a≤1048576 then .val (.sl H.next 0 a.toNat a.toNat) (H.add (.cells (List.replicate a.toNat v) true 0)) else oMakeSlice P H t x y
  | _,_,_=>oMakeSlice P H t x y
theorem rep_one (v:AV) : ∀ n,rep [v] n=List.replicate n v
  | 0=>rfl
  | n+1=>by rw [rep_succ,rep_one v n]; rfl
theorem mkI_inv {t:TypeId} {v:AV} (h:mkI P t=some v) : ∃ e bytes,elemOfSlice P t=some (e,1,bytes)∧bytes≤1048576∧zeroL P e=some [v]:=by
  unfold mkI at h
  split at h
  · rename_i e size bytes he
    split at h
    · rename_i hc
      obtain ⟨rfl,hb⟩:=hc
      split at h
      · rename_i u hz; cases h; exact ⟨e,bytes,he,hb,hz⟩
      · cases h
    · cases h
  · cases h
theorem op_mks {t:TypeId} {l c:Operand} : opV P H ev ⟨d,.makeSlice t l c,ty,p,af,g⟩=mksS P H t (mkI P t) (ev l) (ev c):=by
  show oMakeSlice P H t (ev l) (ev c)=_
  unfold mksS
  split
  · rename_i v a b hq hx hy
    split
    · rename_i h
      obtain ⟨rfl,h0,h1⟩:=h
      obtain ⟨e,bytes,h2,h3,h4⟩:=mkI_inv hq
      rw [hx,hy]
      unfold oMakeSlice
      rw [h2]
      simp only [Option.bind_some,natOf_int h0]
      have hc:(Nat.ble a.toNat a.toNat && Nat.ble a.toNat 1048576 && Nat.ble bytes 1048576)=true:=by
        rw [Nat.ble_eq_true_of_le (Nat.le_refl _),Nat.ble_eq_true_of_le (show a.toNat≤1048576 by omega),Nat.ble_eq_true_of_le h3]; rfl
      rw [hc]
      by_cases hz:a.toNat=0
      · have e1:zeroFor P e (a.toNat * 1)=some []:=by unfold zeroFor; rw [hz]; try rfl
        rw [e1]
        dsimp only
        rw [hz]
        show newBlk H [] true _=_
        simp [newBlk,Mem.newK_eq]
      · have e1:zeroFor P e (a.toNat * 1)=some [v]:=by
          unfold zeroFor
          have:Nat.beq (a.toNat * 1) 0=false:=by
            cases hb:Nat.beq (a.toNat * 1) 0 with
            | false=>rfl
            | true=>have:=Nat.eq_of_beq_eq_true hb; omega
          rw [this]; exact h4
        rw [e1]
        dsimp only
        rw [rep_one]
        simp [newBlk,Mem.newK_eq]
    · rw [hx,hy]
  · rfl
theorem mksS_congr {tk:Nat} (_h0:tick=tk) {t:TypeId} {q q' : Option AV} {x x' y y' : Option AV} {H H' : Mem} (h0:q=q') (h1:H=H') (h2:x=x') (h3:y=y') : mksS P H t q x y=mksS P H' t q' x' y':=by rw [h0,h1,h2,h3]
attribute [congr] mksS_congr
theorem mksS_ok {t:TypeId} {v:AV} {a:Int} (h0:0≤a) (h1:a≤1048576) : mksS P H t (some v) (some (.lit (.int .i64 a))) (some (.lit (.int .i64 a)))=.val (.sl H.next 0 a.toNat a.toNat) (H.add (.cells (List.replicate a.toNat v) true 0)):=if_pos ⟨rfl,h0,h1⟩
attribute [simp] op_mks mksS_ok
end
section
variable {H:Mem}
theorem stS_int {l:List AV} {z:Nat} {ag:Bool} {a off:Nat} {k:IntKind} {v:Int} (h:off < l.length) :
    stS (some (ag,1)) (some (.cells l true z)) H a off [.lit (.int k v)]=.skip (H.upd a (.cells (l.set off (.lit (.int k v))) true z)):=by
  refine (stS_cells (size:=1) rfl rfl h).trans ?_
  have e:putL l off [.lit (.int k v)]=l.set off (.lit (.int k v)):=by
    unfold putL
    rw [List.set_eq_take_append_cons_drop,if_pos h]
    simp
  rw [e]
attribute [simp] stS_int
end
theorem put_set {α:Type} {l:List α} {k:Nat} {v:α} (h:k < l.length) : l.take k++v :: l.drop (k+1)=l.set k v:=by
  rw [List.set_eq_take_append_cons_drop,if_pos h]
end Go.Ai
end
section
namespace Go.Ai
set_option maxRecDepth 10000
def rowN (r:List (Int×Int)) : Nat→Nat
  | 0=>0
  | k+1=>if (r.getD k (-1,-1)).1 = -1 then rowN r k else orN (rowN r k) (bitN (r.getD k (-1,-1)).1.toNat)
theorem rowN_lt {r:List (Int×Int)} (h:∀ e∈r,e.1 = -1∨(0≤e.1∧e.1≤63)) : ∀ k,k≤r.length→rowN r k < 18446744073709551616
  | 0,_=>by unfold rowN; omega
  | k+1,hk=>by
    have ih:=rowN_lt h k (by omega)
    unfold rowN
    split
    · exact ih
    · rename_i hn
      refine orN_lt ih (bitN_lt ?_)
      rw [List.getD_eq_getElem?_getD,List.getElem?_eq_getElem (by omega)] at hn ⊢
      have:=h _ (List.getElem_mem (show k < r.length by omega))
      simp only [Option.getD_some] at hn ⊢
      omega
theorem rowN_bit {r:List (Int×Int)} (h:∀ e∈r,e.1 = -1∨(0≤e.1∧e.1≤63)) (u:Nat) : ∀ k,k≤r.length→((rowN r k).testBit u=true↔∃ e∈r.take k,0≤e.1∧e.1.toNat=u)
  | 0,_=>by unfold rowN; simp
  | k+1,hk=>by
    have ih:=rowN_bit h u k (by omega)
    have hk' : k < r.length:=by omega
    have h1:=h _ (List.getElem_mem hk')
    have hg:r.getD k (-1,-1)=r[k]:=by rw [List.getD_eq_getElem?_getD,List.getElem?_eq_getElem hk']; rfl
    have ht:r.take (k+1)=r.take k++[r[k]]:=by rw [List.take_succ,List.getElem?_eq_getElem hk']; rfl
    unfold rowN
    rw [hg,ht]
    simp only [List.mem_append,List.mem_singleton]
    split
    · rename_i hn
      rw [ih]
      constructor
      · rintro ⟨e,h2,h3⟩; exact ⟨e,.inl h2,h3⟩
      · rintro ⟨e,h2 | rfl,h3⟩
        · exact ⟨e,h2,h3⟩
        · omega
    · rename_i hn
      rw [orN_bit,Bool.or_eq_true,ih,bitN_bit,decide_eq_true_eq]
      constructor
      · rintro (⟨e,h2,h3⟩ | h2)
        · exact ⟨e,.inl h2,h3⟩
        · exact ⟨_,.inr rfl,by omega,h2⟩
      · rintro ⟨e,h2 | rfl,h3⟩
        · exact .inl ⟨e,h2,h3⟩
        · exact .inr h3.2
theorem succL_iff {l:List (Int×Int)} {t:Nat} : t∈succL l↔∃ e∈l,0≤e.1∧e.1.toNat=t:=by
  constructor
  · exact succL_mem
  · induction l with
    | nil=>rintro ⟨e,h,_⟩; cases h
    | cons x l ih =>
      rintro ⟨e,h,h1,h2⟩
      unfold succL
      rcases List.mem_cons.1 h with rfl | h
      · rw [if_neg (by omega),h2]; exact List.mem_cons_self ..
      · split
        · exact ih ⟨e,h,h1,h2⟩
        · exact List.mem_cons_of_mem _ (ih ⟨e,h,h1,h2⟩)
def nxK (M:MachM) (k j:Nat) : List Nat:=(List.range M.rows.length).map fun s=>if s < k then rowN (M.rows.getD s []) (M.rows.getD s []).length else if s=k then rowN (M.rows.getD s []) j else 0
theorem nxK_len (M:MachM) (k j:Nat) : (nxK M k j).length=M.rows.length:=by unfold nxK; rw [List.length_map,List.length_range]
theorem nxK_at (M:MachM) (k j s:Nat) (h:s < M.rows.length) : (nxK M k j).getD s 0=if s < k then rowN (M.rows.getD s []) (M.rows.getD s []).length else if s=k then rowN (M.rows.getD s []) j else 0:=by
  unfold nxK
  rw [List.getD_eq_getElem?_getD,List.getElem?_map,List.getElem?_range h]
  rfl
theorem nxK_zero (M:MachM) : nxK M 0 0=List.replicate M.rows.length 0:=by
  apply List.ext_getElem
  · rw [nxK_len,List.length_replicate]
  · intro i h1 h2
    rw [List.getElem_replicate]
    have h3:=nxK_at M 0 0 i (by rw [nxK_len] at h1; exact h1)
    rw [List.getD_eq_getElem?_getD,List.getElem?_eq_getElem h1] at h3
    have h4:(nxK M 0 0)[i]=if i < 0 then rowN (M.rows.getD i []) (M.rows.getD i []).length else if i=0 then rowN (M.rows.getD i []) 0 else 0:=h3
    rw [h4,if_neg (by omega)]
    split <;> rfl
theorem nxK_next (M:MachM) (k:Nat) : nxK M k (M.rows.getD k []).length=nxK M (k+1) 0:=by
  unfold nxK
  refine List.map_congr_left fun s hs=>?_
  by_cases h1:s < k
  · rw [if_pos h1,if_pos (by omega)]
  · rw [if_neg h1]
    by_cases h2:s=k
    · rw [if_pos h2,if_pos (by omega),h2]
    · rw [if_neg h2,if_neg (by omega)]
      split <;> rfl
theorem nxK_set (M:MachM) (k j v:Nat) (hk:k < M.rows.length) (hv:rowN (M.rows.getD k []) (j+1)=v) : (u64C (nxK M k j)).set k (.lit (.int .u64 (v:Int)))=u64C (nxK M k (j+1)):=by
  apply List.ext_getElem
  · rw [List.length_set,u64C_len,u64C_len,nxK_len,nxK_len]
  · intro i h1 h2
    rw [List.getElem_set]
    rw [List.length_set,u64C_len,nxK_len] at h1
    rw [u64C_at,u64C_at,nxK_at M k (j+1) i h1,nxK_at M k j i h1]
    split
    · rename_i e; subst e
      rw [if_neg (by omega),if_pos rfl,hv]
    · rename_i e
      by_cases h3:i < k
      · rw [if_pos h3,if_pos h3]
      · rw [if_neg h3,if_neg h3,if_neg (by omega),if_neg (by omega)]
def allK:Nat→Nat
  | 0=>0
  | k+1=>orN (allK k) (bitN k)
theorem allK_lt:∀ k,k≤64→allK k < 18446744073709551616
  | 0,_=>by unfold allK; omega
  | k+1,h=>by unfold allK; exact orN_lt (allK_lt k (by omega)) (bitN_lt (by omega))
theorem allK_bit (s:Nat) : ∀ k,(allK k).testBit s=decide (s < k)
  | 0=>by unfold allK; simp
  | k+1=>by
    unfold allK
    rw [orN_bit,allK_bit s k,bitN_bit,← Bool.decide_or,decide_eq_decide]
    omega
theorem ok_row_edge {M:MachM} (h:M.ok) {r:List (Int×Int)} (hr:r∈M.rows) : ∀ e∈r,e.1 = -1∨(0≤e.1∧e.1≤63):=fun e he=>by
  have h2:=(h.2.2.2.2.2.2 r hr).2 e he
  have h64:=h.2.2.2.2.2.1
  unfold edgeOK at h2
  simp only [Bool.or_eq_true,Bool.and_eq_true,decide_eq_true_eq] at h2
  rcases h2 with h2 | h2
  · left; rw [h2]
  · right; omega
theorem grN_of {M:MachM} (h:M.ok) : GrN M.gr (nxK M M.rows.length 0) (allK M.rows.length):=by
  have h64:M.rows.length≤64:=h.2.2.2.2.2.1
  refine ⟨M.gr_ok h,nxK_len ..,h64,fun x hx=>?_,fun s hs u=>?_,fun s=>allK_bit s _,allK_lt _ h64⟩
  · unfold nxK at hx
    obtain ⟨s,hs,rfl⟩:=List.mem_map.1 hx
    have hs':=List.mem_range.1 hs
    rw [if_pos hs']
    have hg:M.rows.getD s []=M.rows[s]:=by rw [List.getD_eq_getElem?_getD,List.getElem?_eq_getElem hs']; rfl
    rw [hg]
    exact rowN_lt (ok_row_edge h (List.getElem_mem hs')) _ (Nat.le_refl _)
  · have hs' : s < M.rows.length:=hs
    rw [nxK_at _ _ _ _ hs',if_pos hs']
    have hg:M.rows.getD s []=M.rows[s]:=by rw [List.getD_eq_getElem?_getD,List.getElem?_eq_getElem hs']; rfl
    have hG:M.gr.succ s=succL M.rows[s]:=by show succL (M.rows.getD s [])=_; rw [hg]
    rw [hg,hG,rowN_bit (ok_row_edge h (List.getElem_mem hs')) u _ (Nat.le_refl _),List.take_length,succL_iff]
end Go.Ai
end
section
namespace Go.Ai
set_option maxRecDepth 10000
def okE (r:List (Int×Int)) (i:Nat) : Bool:=decide (0≤(r.getD i (-1,-1)).1)
def manyN (r:List (Int×Int)) : Nat→Nat
  | 0=>0
  | k+1=>if okE r k=true then manyN r k+1 else manyN r k
def someN (r:List (Int×Int)) (X:SetS) : Nat→Nat
  | 0=>0
  | k+1=>if okE r k=true then someN r X k+(if X (r.getD k (-1,-1)).1.toNat=true then 1 else 0) else someN r X k
theorem succL_snoc:∀ (l:List (Int×Int)) (e:Int×Int),succL (l++[e])=if e.1 < 0 then succL l else succL l++[e.1.toNat]
  | [],e=>by show succL [e]=_; unfold succL; split <;> simp [succL]
  | x :: l,e=>by
    have ih:=succL_snoc l e
    show succL (x :: (l++[e]))=_
    rw [succL,ih]
    split
    · rename_i h
      split
      · rw [succL,if_pos h]
      · rw [succL,if_pos h]
    · rename_i h
      split
      · rw [succL,if_neg h]
      · rw [succL,if_neg h]; rfl
theorem counts {r:List (Int×Int)} (X:SetS) : ∀ k,k≤r.length→manyN r k=(succL (r.take k)).length∧someN r X k=((succL (r.take k)).filter X).length
  | 0,_=>⟨rfl,rfl⟩
  | k+1,h=>by
    have hk:k < r.length:=by omega
    obtain ⟨h1,h2⟩:=counts X k (by omega:k≤r.length)
    have ht:r.take (k+1)=r.take k++[r[k]]:=by rw [List.take_succ,List.getElem?_eq_getElem hk]; rfl
    have hg:r.getD k (-1,-1)=r[k]:=by rw [List.getD_eq_getElem?_getD,List.getElem?_eq_getElem hk]; rfl
    unfold manyN someN okE
    rw [ht,succL_snoc,hg,h1,h2]
    by_cases h0:0≤r[k].1
    · rw [decide_eq_true h0,if_neg (show ¬r[k].1 < 0 by omega),List.filter_append,List.length_append,List.length_append]
      refine ⟨rfl,?_⟩
      rw [if_pos rfl]
      by_cases hx:X r[k].1.toNat=true
      · rw [if_pos hx,List.filter_cons_of_pos hx]; rfl
      · rw [if_neg hx,List.filter_cons_of_neg hx]; rfl
    · rw [decide_eq_false h0,if_pos (show r[k].1 < 0 by omega)]
      exact ⟨rfl,rfl⟩
end Go.Ai
end
section
namespace Go.Ai
set_option maxRecDepth 10000
variable (M:MachM) (A B:SetS)
def rounds (op r:Nat) : SetS :=
  match op with
  | 8=>iterS (M.gr.fE allS A) r
  | 10=>iterS (M.gr.fE A B) r
  | 12=>iterS (M.gr.fA allS A) r
  | 14=>iterS (M.gr.fA A B) r
  | 9=>notS (iterS (M.gr.fA allS (notS A)) r)
  | _=>notS (iterS (M.gr.fE allS (notS A)) r)
end Go.Ai
end
section
namespace Go.Ai
set_option maxRecDepth 10000
theorem bAt_app_l {a b:ByteArray} {i:Nat} (h:i < a.size) : bAt (a++b) i=bAt a i:=by
  unfold bAt
  have h2:i < (a++b).size:=by rw [ba_size_append]; omega
  rw [dif_pos h2,dif_pos h,ByteArray.getElem_append_left h]
theorem bAt_app_r {a b:ByteArray} {i:Nat} (h:i < b.size) : bAt (a++b) (a.size+i)=bAt b i:=by
  unfold bAt
  have h2:a.size+i < (a++b).size:=by rw [ba_size_append]; omega
  rw [dif_pos h2,dif_pos h,ByteArray.getElem_append_right (by omega)]
  simp
theorem bAt_extract {s:ByteArray} {k m j:Nat} (h:j < m) (hm:k+m≤s.size) : bAt (s.extract k (k+m)) j=bAt s (k+j):=by
  have hsz:(s.extract k (k+m)).size=m:=by rw [ByteArray.size_extract]; omega
  unfold bAt
  rw [dif_pos (by omega),dif_pos (by omega)]
  rw [ByteArray.getElem_extract]
structure Has (s:ByteArray) (k:Nat) (w:ByteArray) : Prop where
  le:k+w.size≤s.size
  at' : ∀ i,i < w.size→bAt s (k+i)=bAt w i
theorem Has.app {s a b:ByteArray} {k:Nat} (h:Has s k (a++b)) : Has s k a∧Has s (k+a.size) b:=by
  obtain ⟨h1,h2⟩:=h
  rw [ba_size_append] at h1
  refine ⟨⟨by omega,fun i hi=>?_⟩,⟨by omega,fun i hi=>?_⟩⟩
  · rw [h2 i (by rw [ba_size_append]; omega),bAt_app_l hi]
  · rw [Nat.add_assoc,h2 _ (by rw [ba_size_append]; omega),bAt_app_r hi]
theorem ba_ext {a b:ByteArray} (h:a.size=b.size) (h2:∀ i,i < a.size→bAt a i=bAt b i) : a=b:=by
  refine ByteArray.ext_getElem h fun i h3 h4=>?_
  have:=h2 i h3
  unfold bAt at this
  rw [dif_pos h3,dif_pos h4] at this
  exact UInt8.toNat_inj.1 (by omega)
theorem Has.ext {s w:ByteArray} {k:Nat} (h:Has s k w) : s.extract k (k+w.size)=w:=by
  have hs:(s.extract k (k+w.size)).size=w.size:=by rw [ByteArray.size_extract]; have:=h.le; omega
  refine ba_ext hs fun i hi=>?_
  rw [bAt_extract (by omega) h.le]
  exact h.at' i (by omega)
theorem Has.byte {s w:ByteArray} {k:Nat} (h:Has s k w) (h0:0 < w.size) : bAt s k=bAt w 0:=by
  have:=h.at' 0 h0
  rwa [Nat.add_zero] at this
def Stop (s:ByteArray) (j:Nat) : Prop:=j=s.size∨(j < s.size∧letterM (bAt s j)=false∧digitM (bAt s j)=false)
section
variable (s:ByteArray)
def RdT (r k:Nat) (x:NodeM) (k' : Nat) : Prop:=∀ m,20 * (s.size - k)+10≤m+r→readF s m r k=some (.ok x k')
def LpT (r:Nat) (x:NodeM) (k:Nat) (y:NodeM) (k' : Nat) : Prop:=∀ m,20 * (s.size - k)+1≤m→loopF s m r x k=some (.ok y k')
def SgT (k:Nat) (x:NodeM) (k' : Nat) : Prop:=∀ m,20 * (s.size - k)+6≤m→singF s m k=some (.ok x k')
end
section
variable {s:ByteArray}
theorem RdT.sing {r k k' : Nat} {x:NodeM} (hr:r=3) (h:SgT s k x k') : RdT s r k x k':=by
  subst hr
  intro m hm
  obtain ⟨m,rfl⟩ : ∃ m',m=m'+1:=⟨m - 1,by omega⟩
  rw [readF,if_pos (Nat.le_refl _)]
  exact h m (by omega)
theorem RdT.step {r k k1 k2:Nat} {x y:NodeM} (hr:r < 3) (h:RdT s (r+1) k x k1) (hk:k < k1) (hk1:k1≤s.size) (hl:LpT s r x k1 y k2) : RdT s r k y k2:=by
  intro m hm
  obtain ⟨m,rfl⟩ : ∃ m',m=m'+1:=⟨m - 1,by omega⟩
  rw [readF,if_neg (by omega),h m (by omega)]
  exact hl m (by omega)
theorem LpT.stop {r k:Nat} {x:NodeM} (h:tokB s k≠signB (bopM r)) : LpT s r x k x k:=by
  intro m hm
  obtain ⟨m,rfl⟩ : ∃ m',m=m'+1:=⟨m - 1,by omega⟩
  rw [loopF,if_neg h]
theorem LpT.step {r k k1 k2:Nat} {x y z:NodeM} (hr:r < 3) (h:tokB s k=signB (bopM r)) (hk:k < s.size) (hd:RdT s (r+1) (nxtM s k) y k1) (hk1:nxtM s k < k1) (hk2:k1≤s.size) (hl:LpT s r (.mk (bopM r) 0 0 [x,y]) k1 z k2) : LpT s r x k z k2:=by
  intro m hm
  obtain ⟨m,rfl⟩ : ∃ m',m=m'+1:=⟨m - 1,by omega⟩
  have:=nxtM_lt hk
  rw [loopF,if_pos h,hd m (by omega)]
  exact hl m (by omega)
theorem opOf_sign {o:Nat} (h:o < 15) (h5:o≠5) (h6:o≠6) : opOf (signB o)=some o∧signB o≠openT:=by
  have:o=0∨o=1∨o=2∨o=3∨o=4∨o=7∨o=8∨o=9∨o=10∨o=11∨o=12∨o=13∨o=14:=by omega
  rcases this with rfl | rfl | rfl | rfl | rfl | rfl | rfl | rfl | rfl | rfl | rfl | rfl | rfl <;> decide +kernel
theorem SgT.un {k k1 o:Nat} {x:NodeM} (ho:o < 15) (hs:subsM o=1) (h:tokB s k=signB o) (hk:k < s.size) (hd:SgT s (nxtM s k) x k1) : SgT s k (.mk o 0 0 [x]) k1:=by
  intro m hm
  obtain ⟨m,rfl⟩ : ∃ m',m=m'+1:=⟨m - 1,by omega⟩
  have:=nxtM_lt hk
  obtain ⟨e1,e2⟩:=opOf_sign ho (by rintro rfl; revert hs; decide) (by rintro rfl; revert hs; decide)
  rw [singF,h,if_neg e2,e1]
  dsimp only
  rw [if_neg (by omega),if_pos hs,hd m (by omega)]
theorem SgT.two {k k1 k2 o:Nat} {x y:NodeM} (ho:o=10∨o=14) (h:tokB s k=signB o) (hk:k < s.size) (h1:tokB s (nxtM s k)=leftT) (hd:RdT s 1 (nxtM s (nxtM s k)) x k1) (h2:tokB s k1=untilT) (hk1:nxtM s (nxtM s k) < k1) (hk2:k1≤s.size)
    (hd2:RdT s 1 (nxtM s k1) y k2) (h3:tokB s k2=rightT) : SgT s k (.mk o 0 0 [x,y]) (nxtM s k2):=by
  intro m hm
  obtain ⟨m,rfl⟩ : ∃ m',m=m'+1:=⟨m - 1,by omega⟩
  have n0:=nxtM_lt hk
  have n1:=nxtM_ge (nxtM_le (Nat.le_of_lt hk))
  have n2:=nxtM_ge hk2
  have n3:=nxtM_le (nxtM_le (Nat.le_of_lt hk))
  obtain ⟨e1,e2⟩:=opOf_sign (o:=o) (by omega) (by omega) (by omega)
  have hs:subsM o=2:=by rcases ho with rfl | rfl <;> rfl
  rw [singF,h,if_neg e2,e1]
  dsimp only
  rw [if_pos hs,if_pos h1,hd m (by omega)]
  dsimp only
  rw [if_pos h2,hd2 m (by omega)]
  exact if_pos h3
theorem SgT.one {k a o:Nat} (ho:o=1∨o=2) (h:tokB s k=signB o) (hn:numM (tokB s (nxtM s k))=some a) : SgT s k (.mk o (a:Nat) 0 []) (nxtM s (nxtM s k)):=by
  intro m hm
  obtain ⟨m,rfl⟩ : ∃ m',m=m'+1:=⟨m - 1,by omega⟩
  obtain ⟨e1,e2⟩:=opOf_sign (o:=o) (by omega) (by omega) (by omega)
  rw [singF,h,if_neg e2,e1]
  dsimp only
  rw [if_neg (by rcases ho with rfl | rfl <;> decide),if_neg (by rcases ho with rfl | rfl <;> decide),if_neg (by omega),hn]
  dsimp only
  rw [if_neg (by omega)]
structure RdOK (k:Nat) (x:NodeM) (k' r:Nat) : Prop where
  lt:k < k'
  le:k'≤s.size
  sg:3≤r→SgT s k x k'
  c2:2≤r→∀ z q,LpT s 2 x k' z q→RdT s 2 k z q
  c1:tokB s k'≠signB 5→∀ z q,LpT s 1 x k' z q→RdT s 1 k z q
theorem RdOK.ofS {k k' : Nat} {x:NodeM} (h1:k < k') (h2:k'≤s.size) (h:SgT s k x k') (r:Nat) : RdOK (s:=s) k x k' r :=
  have c2:∀ z q,LpT s 2 x k' z q→RdT s 2 k z q:=fun z q hl=>RdT.step (by omega) (RdT.sing rfl h) h1 h2 hl
  ⟨h1,h2,fun _=>h,fun _=>c2,fun hn z q hl=>RdT.step (by omega) (c2 _ _ (LpT.stop (by exact hn))) h1 h2 hl⟩
end
end Go.Ai
end
section
namespace Go.Ai
set_option maxRecDepth 10000
def NBl (w:ByteArray) : Prop:=0 < w.size∧bAt w 0≠32
theorem NBl.app {a b:ByteArray} (h:NBl a) : NBl (a++b):=⟨by rw [ba_size_append]; have:=h.1; omega,by rw [bAt_app_l h.1]; exact h.2⟩
theorem op_cases {o:Nat} (h:o < 15) : o=0∨o=1∨o=2∨o=3∨o=4∨o=5∨o=6∨o=7∨o=8∨o=9∨o=10∨o=11∨o=12∨o=13∨o=14:=by omega
section
variable {s:ByteArray}
theorem RdOK.mono {k k' r r' : Nat} {x:NodeM} (h:RdOK (s:=s) k x k' r) (hr:r'≤r) : RdOK (s:=s) k x k' r' :=
  ⟨h.lt,h.le,fun h1=>h.sg (by omega),fun h1=>h.c2 (by omega),h.c1⟩
end
end Go.Ai
end
section
namespace Go.Ai
set_option maxRecDepth 10000
set_option maxHeartbeats 4000000
def tokC (s:ByteArray) (k:Nat) : List AV:=[.lit (.string (tokB s k)),.lit (.int .i64 (k:Nat))]
def toksC (s:ByteArray) (l:List Nat) : List AV:=l.flatMap (tokC s)
structure RAt (s:ByteArray) (pos:List Nat) (ta:Nat) (g:Nat→Option Blk) (n:Nat) : Prop where
  tan:ta < n
  toks:Row g ta 0 (toksC s pos)
theorem RAt.keep {s:ByteArray} {pos:List Nat} {ta:Nat} {g g' : Nat→Option Blk} {n n' : Nat} (h:RAt s pos ta g n) (hn:n≤n') (hg:∀ a,a < n→g' a=g a) : RAt s pos ta g' n' :=
  ⟨by have:=h.tan; omega,h.toks.mono (hg _ h.tan)⟩
end Go.Ai
end
section
namespace Go.Ai
section
variable {P:Program} {H:Mem} {ev:Ev} {d:Option Tmp} {ty:TypeId} {p:String} {af:Array Edge} {g:Option (Nat×Bool)}
noncomputable def capS (P:Program) (H:Mem) (ev:Ev) (o:Oper) (q:Option TypeDesc) (x:Option AV) : R:=match x,q with
  | some (.sl _ _ _ n),some (.slice _)=>.val (.lit (.int .i64 n)) H
  | some (.lit (.slice none _ n)),some (.slice _)=>.val (.lit (.int .i64 n)) H
  | _,_=>opV P H ev o
theorem op_cap {x:Operand} {t:TypeId} : opV P H ev ⟨d,.call ⟨.builtin .cap,#[x],#[t]⟩,ty,p,af,g⟩=capS P H ev ⟨d,.call ⟨.builtin .cap,#[x],#[t]⟩,ty,p,af,g⟩ (P.underlying t) (ev x):=by
  unfold capS
  split
  · rename_i a off n k e hx hq
    show callOp P H ev ⟨d,.call ⟨.builtin .cap,#[x],#[t]⟩,ty,p,af,g⟩ ⟨.builtin .cap,#[x],#[t]⟩=_
    have e1:evals ev [x]=some [.sl a off n k]:=by rw [evals,hx]; rfl
    have hg:generic P ev ⟨d,.call ⟨.builtin .cap,#[x],#[t]⟩,ty,p,af,g⟩=none:=by
      unfold generic
      have h1:(Op.operands (.call ⟨.builtin .cap,#[x],#[t]⟩)).toList=[x]:=by simp [Op.operands,Call.operands]
      dsimp only
      rw [h1]
      have l1:toLit (.sl a off n k)=none:=rfl
      simp only [List.all_cons,List.all_nil,hx,l1,Bool.false_and,if_false]
      simp
    unfold callOp
    rw [show (#[x] : Array Operand).toList=[x] from rfl,e1]
    dsimp only
    unfold oBuiltin oCap
    dsimp only
    rw [hg]
    have e2:((⟨.builtin .cap,#[x],#[t]⟩ : Call).argTypes[0]?).bind P.underlying=P.underlying t:=rfl
    dsimp only
    rw [e2,hq]
    rfl
  · rename_i m n e hx hq
    show callOp P H ev ⟨d,.call ⟨.builtin .cap,#[x],#[t]⟩,ty,p,af,g⟩ ⟨.builtin .cap,#[x],#[t]⟩=_
    have e1:evals ev [x]=some [.lit (.slice none m n)]:=by rw [evals,hx]; rfl
    have hg:generic P ev ⟨d,.call ⟨.builtin .cap,#[x],#[t]⟩,ty,p,af,g⟩=some (.lit (.int .i64 n)):=by
      refine generic1 (u:=.slice none m n) (r:=.int .i64 n) (by simp [Op.operands,Call.operands]) hx fun ρ hρ=>?_
      rw [exec_builtin (b:=.cap) (c:=⟨.builtin .cap,#[x],#[t]⟩) rfl rfl]
      have ea:(#[x] : Array Operand).map ρ=#[ρ x]:=by simp
      rw [ea]
      have hcap:pureV P (Builtin.cap_ #[t] ty #[ρ x])=some (goInt n):=by
        rw [hρ]
        refine (pureV_then (m:=underlying t) (a:=TypeDesc.slice e) (pureV_underlying hq)).trans ?_
        rfl
      show pureV P (do pure (Next.value (← Builtin.cap_ #[t] ty #[ρ x])))=_
      exact (pureV_then hcap).trans rfl
    unfold callOp
    rw [show (#[x] : Array Operand).toList=[x] from rfl,e1]
    dsimp only
    unfold oBuiltin oCap
    dsimp only
    rw [hg]
  · rfl
theorem capS_congr {tk:Nat} (_h0:tick=tk) {o:Oper} {q q' : Option TypeDesc} {x x' : Option AV} {H H' : Mem} (h1:H=H') (h2:q=q') (h3:x=x') : capS P H ev o q x=capS P H' ev o q' x':=by rw [h1,h2,h3]
attribute [congr] capS_congr
theorem capS_sl {o:Oper} {e:TypeId} {a off n k:Nat} : capS P H ev o (some (.slice e)) (some (.sl a off n k))=.val (.lit (.int .i64 k)) H:=(rfl)
theorem capS_nil {o:Oper} {e:TypeId} {n k:Nat} : capS P H ev o (some (.slice e)) (some (.lit (.slice none n k)))=.val (.lit (.int .i64 k)) H:=(rfl)
attribute [simp] op_cap capS_sl capS_nil
end
end Go.Ai
end
section
namespace Go.Ai
open Go.RowKit (Below)
variable {B G:Nat} {P:Program} {n n0:Nat} {ρ0 ρ:Rn} {w0 w:World} {fr:Fr} {H:Mem} {a:Act} {W:WF}
noncomputable def execDW (G:Nat) (P:Program) (n:Nat) (O:CallF) : Code→Fr→Mode→Mem→(OutD→Prop)→Prop
  | .seq x y,fr,u,H,Q=>execDW G P n O x fr u H fun r=>match r with
    | .norm fr u H=>execDW G P n O y fr u H Q
    | r=>Q r
  | .cond c x y,fr,u,H,Q=>match fr.ev c with
    | some (.lit (.bool true))=>execDW G P n O x fr u H Q
    | some (.lit (.bool false))=>execDW G P n O y fr u H Q
    | _=>False
  | .region _ ops false,fr,u,H,Q=>match seqOpsD P O ops ops.toList fr u H with
    | .bad=>False
    | r=>Q r
  | c,fr,u,H,Q=>XW G P n c fr H fun o=>match o with
    | .norm fr H=>Q (.norm fr u H)
    | .ret fr H=>Q (.ret fr u H)
    | _=>False
noncomputable def endDW (P:Program) (g:Func) (K:Mode→Mem→Prop) : OutD→Prop
  | .norm fr u H=>match fr.defers,resultsA P g fr H,u with
    | [],some _,.recovered _=>K .returning H
    | [],some _,.returning=>K .returning H
    | [],some _,.panicking v=>K (.panicking v) H
    | _,_,_=>False
  | .ret fr u H=>match fr.defers,resultsA P g fr H,u with
    | [],some _,.recovered _=>K .returning H
    | [],some _,.returning=>K .returning H
    | [],some _,.panicking v=>K (.panicking v) H
    | _,_,_=>False
  | .bad=>False
noncomputable def lastW (P:Program) (fn:Func) (fr:Fr) (K:COut→Prop) : Mode→Mem→Prop
  | .returning,H=>match resultsA P fn fr H with
    | some v=>K (.ret v H)
    | none=>False
  | .panicking v,H=>K (.panic v H)
  | .recovered _,_=>False
noncomputable def deferW (G:Nat) (P:Program) (O:CallF) (fn:Func) (fr:Fr) (K:COut→Prop) (u:Mode) (H:Mem) : Prop :=
  match fr.defers with
  | []=>lastW P fn fr K u H
  | [(.func f,cap,args)]=>∃ g c,P.funcs[f]?=some g∧g.body=some c∧hasBody P f=true∧dstsOk g.ntmps c=true∧(args++cap).length≤g.ntmps ∧
    execDW G P g.ntmps O c (frameW (args++cap)) u H (endDW P g (lastW P fn fr K))
  | _=>False
noncomputable def leaveX (G:Nat) (P:Program) (O:CallF) (fn:Func) (K:COut→Prop) : Out→Prop
  | .norm fr H=>deferW G P O fn fr K .returning H
  | .ret fr H=>deferW G P O fn fr K .returning H
  | .panic v fr H=>deferW G P O fn fr K (.panicking v) H
  | _=>False
end Go.Ai
end
section
namespace Go.Ai
set_option maxRecDepth 10000
theorem repL_append {g:Nat→Option Blk} {b:Nat} : ∀ {l m:List NodeM} {r s:List AV},repL g b l r→repL g b m s→repL g b (l++m) (r++s)
  | [],m,r,s,h,k=>by have h' : r=[]:=h; subst h'; exact k
  | x :: l,m,r,s,⟨c,q,h1,h2,h3⟩,k=>⟨c,q++s,by rw [h1,List.append_assoc],h2,repL_append h3 k⟩
theorem repL_split {g:Nat→Option Blk} {b:Nat} : ∀ {l m:List NodeM} {r:List AV},repL g b (l++m) r→∃ r1 r2,r=r1++r2∧repL g b l r1∧repL g b m r2
  | [],m,r,h=>⟨[],r,rfl,rfl,h⟩
  | x :: l,m,r,⟨c,q,h1,h2,h3⟩=>by
    obtain ⟨r1,r2,h4,h5,h6⟩:=repL_split h3
    exact ⟨c++r1,r2,by rw [h1,h4,List.append_assoc],⟨c,r1,rfl,h2,h5⟩,h6⟩
theorem repL_one' {g:Nat→Option Blk} {b:Nat} {x:NodeM} {cs:List AV} (h:repL g b [x] cs) : repN g b x cs:=by
  obtain ⟨c,r,h1,h2,h3⟩:=h
  have h3' : r=[]:=h3
  subst h3'
  rw [h1,List.append_nil]; exact h2
structure StkR (g gk:Nat→Option Blk) (lo n A:Nat) (sv:AV) (l:List NodeM) (r:List AV) : Prop where
  grow:GrowV g lo n A sv l.length 4 r
  rep:repL gk n l.reverse r
  kk:∀ q z,gk q=some z→g q=some z∧q≠A∧lo≤q∧q < n
theorem StkR.start {g:Nat→Option Blk} {lo n:Nat} : StkR g (fun _=>none) lo n 0 (.lit (.slice none 0 0)) [] []:=⟨.inl ⟨rfl,rfl,rfl⟩,rfl,fun _ _ h=>by cases h⟩
theorem StkR.push {g gk g2:Nat→Option Blk} {lo n n2 A B:Nat} {sv:AV} {l:List NodeM} {r X:List AV} {x:NodeM} (h:StkR g gk lo n A sv l r) (h1:n≤B) (h2:B < n2) (hlo:lo≤n) (hg:∀ q,lo≤q→q < n→q≠A→g2 q=g q)
    (hB:g2 B=some (.cells (r++X) true 4)) (hX:X.length=4) (hx:∀ q b,repN q b x X) : StkR g2 gk lo n2 B (.slq B 0 (l.length+1) 0) (x :: l) (r++X):=by
  have hl:=repL_len h.rep
  rw [List.length_reverse] at hl
  refine ⟨.mk hB (by omega) h2 ?_,?_,fun q z hz=>?_⟩
  · rw [List.length_append,hl,hX]; omega
  · rw [List.reverse_cons]
    exact repL_append (repL_ext (by omega) (fun _ _ _ h=>h) h.rep) (repL_one (hx _ _))
  · obtain ⟨k1,k2,k3,k4⟩:=h.kk q z hz
    exact ⟨(hg q k3 k4 k2).trans k1,by omega,k3,by omega⟩
theorem StkR.pop {g gk g2:Nat→Option Blk} {lo n n2 A B S op k:Nat} {sv:AV} {l t subs:List NodeM} {r r0 cs:List AV} (h:StkR g gk lo n A sv l r) (h1:n≤S) (h2:S < n2) (h3:n≤B) (h4:B < n2) (h5:S≠B) (hlo:lo≤n)
    (hg:∀ q,lo≤q→q < n→q≠A→g2 q=g q) (hS:g2 S=some (.cells cs true 0)) (hB:g2 B=some (.cells (r0++[.lit (.int .u8 op),.lit (.int .i64 0),.lit (.int .i64 0),.sl S 0 k k]) true 4))
    (h0:repL gk n t.reverse r0) (hs:repL gk n subs cs) (hk:subs.length=k) (hop:op < 256) :
    StkR g2 (gput gk S (some (.cells cs true 0))) lo n2 B (.slq B 0 (t.length+1) 0) (.mk op 0 0 subs :: t) (r0++[.lit (.int .u8 op),.lit (.int .i64 0),.lit (.int .i64 0),.sl S 0 k k]):=by
  have hl:=repL_len h0
  rw [List.length_reverse] at hl
  have hext:∀ a z,a < n→gk a=some z→gput gk S (some (.cells cs true 0)) a=some z:=fun a z ha hz=>by rw [gput_lt (by omega)]; exact hz
  refine ⟨.mk hB (by omega) h4 ?_,?_,fun q z hz=>?_⟩
  · rw [List.length_append,hl]; simp; omega
  · rw [List.reverse_cons]
    exact repL_append (repL_ext (by omega) hext h0) (repL_one (node_rep hs hk hop h1 h2))
  · rcases gput_v hz with ⟨rfl,h⟩ | ⟨_,hz⟩
    · cases h; exact ⟨hS,h5,by omega,h2⟩
    · obtain ⟨k1,k2,k3,k4⟩:=h.kk q z hz
      exact ⟨(hg q k3 k4 k2).trans k1,by omega,k3,by omega⟩
theorem StkR.last {g gk:Nat→Option Blk} {lo n A:Nat} {sv:AV} {x:NodeM} {t:List NodeM} {r:List AV} (h:StkR g gk lo n A sv (x :: t) r) : ∃ r0 cx,sv=.slq A 0 (t.length+1) 0∧lo≤A∧A < n∧g A=some (.cells r true 4)∧r.length=(t.length+1) * 4 ∧
    r.take (t.length * 4)=r0∧(r.drop (t.length * 4)).take 4=cx∧repL gk n t.reverse r0∧repN gk n x cx:=by
  rcases h.grow with ⟨h9,_⟩ | ⟨_,h1,hA0,hA1,hA,hrl⟩
  · simp at h9
  · have hrep:=h.rep
    rw [List.reverse_cons] at hrep
    obtain ⟨r1,r2,rfl,h2,h3⟩:=repL_split hrep
    have h4:=repL_len h2
    have h5:=repL_len h3
    rw [List.length_reverse] at h4
    refine ⟨r1,r2,h1,hA0,hA1,hA,hrl,?_,?_,h2,repL_one' h3⟩
    · rw [List.take_left' h4]
    · rw [List.drop_left' h4,List.take_of_length_le (by rw [h5]; simp)]
theorem StkR.last2 {g gk:Nat→Option Blk} {lo n A:Nat} {sv:AV} {x y:NodeM} {t:List NodeM} {r:List AV} (h:StkR g gk lo n A sv (y :: x :: t) r) : ∃ r0 cx cy,sv=.slq A 0 (t.length+1+1) 0∧lo≤A∧A < n∧g A=some (.cells r true 4)∧r.length=(t.length+1+1) * 4 ∧
    r.take (t.length * 4)=r0∧(r.drop (t.length * 4)).take 4=cx∧(r.drop ((t.length+1) * 4)).take 4=cy∧repL gk n t.reverse r0∧repN gk n x cx∧repN gk n y cy:=by
  obtain ⟨r0,cy,h1,h2,h3,h4,h5,h6,h7,h8,h9⟩:=h.last
  rw [List.reverse_cons] at h8
  obtain ⟨r1,r2,rfl,k2,k3⟩:=repL_split h8
  have k4:=repL_len k2
  have k5:=repL_len k3
  rw [List.length_reverse] at k4
  have k6:r=(r1++r2)++r.drop ((t.length+1) * 4):=by
    have:=List.take_append_drop ((t.length+1) * 4) r
    have h6' : r.take ((t.length+1) * 4)=r1++r2:=h6
    rw [h6'] at this
    exact this.symm
  refine ⟨r1,r2,cy,h1,h2,h3,h4,h5,?_,?_,h7,k2,repL_one' k3,h9⟩
  · rw [k6,List.append_assoc,List.take_left' k4]
  · rw [k6,List.append_assoc,List.drop_left' k4,List.take_left' (by rw [k5]; simp)]
def stepG (o:Nat) (kN kI kO:Int) (l:List NodeM) : List NodeM :=
  if o=5∨o=6∨o=10∨o=14 then match l with | y :: x :: t=>.mk o 0 0 [x,y] :: t | l=>.mk 1 kN 0 [] :: l
  else if 4≤o then match l with | x :: t=>.mk o 0 0 [x] :: t | []=>[.mk 1 kN 0 []]
  else if o=2 then .mk 2 kI 0 [] :: l
  else if o=3 then .mk 3 kI kO [] :: l
  else if o=0 then .mk 0 0 0 [] :: l
  else .mk 1 kN 0 [] :: l
def stepF (N I O c:Nat) (l:List NodeM) : List NodeM:=stepG (c % 15) ((c / 15 % N:Nat) : Int) ((c / 15 % I:Nat) : Int) ((c / 15 / 3 % O:Nat) : Int) l
def ofS (N I O:Nat) : List Nat→List NodeM→List NodeM
  | [],l=>l
  | c :: cs,l=>ofS N I O cs (stepF N I O c l)
def topN:List NodeM→NodeM
  | x :: _=>x
  | []=>.mk 0 0 0 []
def ofF (st inp out:Nat) (codes:List Nat) : NodeM:=topN (ofS (1+st % 6) (1+inp % 3) (1+out % 3) (codes.take 12) [])
end Go.Ai
end
section
namespace Go.Ai
set_option maxRecDepth 10000
def StkOK (st inp out:Int) (m:Nat) (l:List NodeM) : Prop:=(∀ x∈l,validM st inp out x=true)∧sizeL l≤m
theorem valid_mk {st inp out:Int} {o:Nat} {a b:Int} {l:List NodeM} (h1:o < 15) (h2:l.length=subsM o) (h3:0≤a) (h4:0≤b) (h5:a < if o=1 then st else if o=2∨o=3 then inp else 1) (h6:b < if o=3 then out else 1)
    (h7:∀ x∈l,validM st inp out x=true) : validM st inp out (.mk o a b l)=true:=by
  have h8:validL st inp out l=true:=by
    clear h2 h3 h4 h5 h6 h1
    induction l with
    | nil=>rfl
    | cons x l ih =>
      unfold validL
      rw [h7 x (List.mem_cons_self ..),ih (fun y hy=>h7 y (List.mem_cons_of_mem _ hy))]
      rfl
  unfold validM
  simp only [Bool.and_eq_true,decide_eq_true_eq]
  exact ⟨h1,h2,h3,h4,h5,h6,h8⟩
theorem stepF_ok {N I O:Nat} (hN:0 < N) (hI:0 < I) (hO:0 < O) (c m:Nat) {l:List NodeM} (h:StkOK N I O m l) : StkOK N I O (m+1) (stepF N I O c l):=by
  have ho:c % 15 < 15:=Nat.mod_lt _ (by omega)
  have kN:=Nat.mod_lt (c / 15) hN
  have kI:=Nat.mod_lt (c / 15) hI
  have kO:=Nat.mod_lt (c / 15 / 3) hO
  have h1:validM N I O (.mk 1 ((c / 15 % N:Nat) : Int) 0 [])=true:=valid_mk (by omega) rfl (by omega) (by omega) (by rw [if_pos rfl]; exact Int.ofNat_lt.2 kN) (by rw [if_neg (by decide)]; decide) (by simp)
  have push:∀ {x:NodeM} {t:List NodeM},validM N I O x=true→sizeN x+sizeL t≤m+1→(∀ y∈t,y∈l)→StkOK N I O (m+1) (x :: t):=fun {x t} hx hs ht =>
    ⟨fun y hy=>by
      rcases List.mem_cons.1 hy with rfl | hy
      · exact hx
      · exact h.1 y (ht y hy),by unfold sizeL; exact hs⟩
  have hsz:=h.2
  unfold stepF stepG
  split
  · rename_i hb
    have hsub:subsM (c % 15)=2:=by unfold subsM; rw [if_neg (by omega)]; rw [if_pos hb]
    split
    · rename_i y x t
      simp only [sizeL] at hsz
      refine push (valid_mk ho (by rw [hsub]; rfl) (by omega) (by omega) ?_ ?_ fun z hz=>?_) ?_ (fun z hz=>by simp [hz])
      · rw [if_neg (by omega),if_neg (by omega)]; omega
      · rw [if_neg (by omega)]; omega
      · rcases List.mem_cons.1 hz with rfl | hz
        · exact h.1 _ (by simp)
        · rcases List.mem_cons.1 hz with rfl | hz
          · exact h.1 _ (by simp)
          · cases hz
      · simp only [sizeN,sizeL]; omega
    · exact push h1 (by simp only [sizeN,sizeL]; omega) (fun _ hy=>hy)
  split
  · rename_i hb h4
    have hsub:subsM (c % 15)=1:=by unfold subsM; rw [if_neg (by omega),if_neg hb]
    split
    · rename_i x t
      simp only [sizeL] at hsz
      refine push (valid_mk ho (by rw [hsub]; rfl) (by omega) (by omega) ?_ ?_ fun z hz=>?_) ?_ (fun z hz=>by simp [hz])
      · rw [if_neg (by omega),if_neg (by omega)]; omega
      · rw [if_neg (by omega)]; omega
      · rcases List.mem_cons.1 hz with rfl | hz
        · exact h.1 _ (by simp)
        · cases hz
      · simp only [sizeN,sizeL]; omega
    · exact push h1 (by simp only [sizeN,sizeL]; omega) (fun _ hy=>by cases hy)
  have leaf:∀ {x:NodeM},validM N I O x=true→sizeN x=1→StkOK N I O (m+1) (x :: l):=fun hx h1=>push hx (by omega) (fun _ hy=>hy)
  split
  · exact leaf (valid_mk (by omega) rfl (by omega) (by omega) (by rw [if_neg (by decide),if_pos (by decide)]; exact Int.ofNat_lt.2 kI) (by rw [if_neg (by decide)]; decide) (by simp)) rfl
  split
  · exact leaf (valid_mk (by omega) rfl (by omega) (by omega) (by rw [if_neg (by decide),if_pos (by decide)]; exact Int.ofNat_lt.2 kI) (by rw [if_pos rfl]; exact Int.ofNat_lt.2 kO) (by simp)) rfl
  split
  · exact leaf (valid_mk (by omega) rfl (by omega) (by omega) (by rw [if_neg (by decide),if_neg (by decide)]; decide) (by rw [if_neg (by decide)]; decide) (by simp)) rfl
  · exact leaf h1 rfl
theorem ofS_ok {N I O:Nat} (hN:0 < N) (hI:0 < I) (hO:0 < O) : ∀ (cs:List Nat) (m:Nat) {l:List NodeM},StkOK N I O m l→StkOK N I O (m+cs.length) (ofS N I O cs l)
  | [],m,l,h=>h
  | c :: cs,m,l,h=>by
    have:=ofS_ok hN hI hO cs (m+1) (stepF_ok hN hI hO c m h)
    unfold ofS
    rw [List.length_cons,show m+(cs.length+1)=m+1+cs.length by omega]
    exact this
theorem ofF_ok (st inp out:Nat) (codes:List Nat) : validM ((1+st % 6:Nat) : Int) ((1+inp % 3:Nat) : Int) ((1+out % 3:Nat) : Int) (ofF st inp out codes)=true∧sizeN (ofF st inp out codes)≤12:=by
  have h:=ofS_ok (N:=1+st % 6) (I:=1+inp % 3) (O:=1+out % 3) (by omega) (by omega) (by omega) (codes.take 12) 0 (l:=[]) ⟨fun _ h=>(by cases h),Nat.le_refl _⟩
  unfold ofF
  cases hl:ofS (1+st % 6) (1+inp % 3) (1+out % 3) (codes.take 12) [] with
  | nil=>exact ⟨valid_mk (by omega) rfl (by omega) (by omega) (by rw [if_neg (by decide),if_neg (by decide)]; decide) (by rw [if_neg (by decide)]; decide) (by simp),by show sizeN (.mk 0 0 0 [])≤12; decide⟩
  | cons x l =>
    rw [hl] at h
    refine ⟨h.1 x (List.mem_cons_self ..),?_⟩
    have h2:=h.2
    rw [List.length_take] at h2
    unfold sizeL at h2
    show sizeN x≤12
    omega
theorem ofF_ok9 (st inp out:Nat) (codes:List Nat) (h9:codes.length≤9) : sizeN (ofF st inp out codes)≤9:=by
  have h:=ofS_ok (N:=1+st % 6) (I:=1+inp % 3) (O:=1+out % 3) (by omega) (by omega) (by omega) (codes.take 12) 0 (l:=[]) ⟨fun _ h=>(by cases h),Nat.le_refl _⟩
  unfold ofF
  cases hl:ofS (1+st % 6) (1+inp % 3) (1+out % 3) (codes.take 12) [] with
  | nil=>show sizeN (.mk 0 0 0 [])≤9; decide
  | cons x l =>
    rw [hl] at h
    have h2:=h.2
    rw [List.length_take] at h2
    unfold sizeL at h2
    show sizeN x≤9
    omega
end Go.Ai
end
section
namespace Go.Ai
set_option maxRecDepth 10000
theorem nnS (X:SetS) : notS (notS X)=X:=by funext s; unfold notS; simp
theorem fEc {G:GraphM} (hG:G.ok) {a b a' b' L L' : SetS} (h:IsL G.n (G.fE a b) L) (ha:eqS G.n a a') (hb:eqS G.n b b') (hL:eqS G.n L L') : IsL G.n (G.fE a' b') L':=h.cong (fE_arg ha hb) (fun _ _=>fE_eq hG _ _) hL
theorem fAc {G:GraphM} (hG:G.ok) {a b a' b' L L' : SetS} (h:IsL G.n (G.fA a b) L) (ha:eqS G.n a a') (hb:eqS G.n b b') (hL:eqS G.n L L') : IsL G.n (G.fA a' b') L':=h.cong (fA_arg ha hb) (fun _ _=>fA_eq hG _ _) hL
def un (o:Nat) (x:NodeM) : NodeM:=.mk o 0 0 [x]
def bi (o:Nat) (x y:NodeM) : NodeM:=.mk o 0 0 [x,y]
theorem sem_un {M:MachM} {o:Nat} {x:NodeM} {X:SetS} (h:semN M (un o x) X) : ∃ A B,semN M x A∧opSem M o 0 0 A B X:=by
  obtain ⟨A,B,⟨h1,_⟩,h3⟩:=h
  exact ⟨A,B,h1,h3⟩
theorem sem_bi {M:MachM} {o:Nat} {x y:NodeM} {X:SetS} (h:semN M (bi o x y) X) : ∃ A B,semN M x A∧semN M y B∧opSem M o 0 0 A B X:=by
  obtain ⟨A,B,⟨h1,h2⟩,h3⟩:=h
  exact ⟨A,B,h1,h2,h3⟩
def untilN (f g:NodeM) : NodeM:=bi 10 (un 4 g) (bi 5 (un 4 f) (un 4 g))
def dualL (f g:NodeM) : List NodeM :=
  [un 11 f,un 4 (un 7 (un 4 f)),un 12 f,un 4 (un 9 (un 4 f)),un 13 f,un 4 (un 8 (un 4 f)),un 8 f,bi 10 (.mk 0 0 0 []) f,un 8 f,bi 6 f (un 7 (un 8 f)),bi 14 f g,bi 5 (un 12 g) (un 4 (untilN f g))]
variable {M:MachM} {f g:NodeM} {X Y:SetS}
theorem dual0 (hM:M.ok) (h:semN M (un 11 f) X) (h' : semN M (un 4 (un 7 (un 4 f))) Y) : eqS M.gr.n X Y:=by
  have hG:=M.gr_ok hM
  obtain ⟨A,_,h1,h2⟩:=sem_un h
  obtain ⟨B,_,h3,h4⟩:=sem_un h'
  obtain ⟨C,_,h5,h6⟩:=sem_un h3
  obtain ⟨D,_,h7,h8⟩:=sem_un h5
  have hu:=semN_uniq hM f h1 h7
  intro s hs
  rw [h2 s hs,h4 s hs]
  unfold notS
  rw [h6 s hs,pre_eq hG h8 s hs,not_pre,post_eq hG hu s hs]
  simp
theorem dual1 (hM:M.ok) (h:semN M (un 12 f) X) (h' : semN M (un 4 (un 9 (un 4 f))) Y) : eqS M.gr.n X Y:=by
  have hG:=M.gr_ok hM
  obtain ⟨A,_,h1,h2⟩:=sem_un h
  obtain ⟨B,_,h3,h4⟩:=sem_un h'
  obtain ⟨C,_,h5,h6⟩:=sem_un h3
  obtain ⟨D,_,h7,h8⟩:=sem_un h5
  have hu:=semN_uniq hM f h1 h7
  have h9:IsL M.gr.n (M.gr.fA allS A) Y:=fAc hG h6 (eqS.refl _ _) ((notS_eq h8).trans (by rw [nnS]; exact hu.symm)) (eqS.symm h4)
  exact h2.uniq h9
theorem dual2 (hM:M.ok) (h:semN M (un 13 f) X) (h' : semN M (un 4 (un 8 (un 4 f))) Y) : eqS M.gr.n X Y:=by
  have hG:=M.gr_ok hM
  obtain ⟨A,_,h1,h2⟩:=sem_un h
  obtain ⟨B,_,h3,h4⟩:=sem_un h'
  obtain ⟨C,_,h5,h6⟩:=sem_un h3
  obtain ⟨D,_,h7,h8⟩:=sem_un h5
  have hu:=semN_uniq hM f h1 h7
  have h9:IsL M.gr.n (M.gr.fE allS (notS A)) (notS Y):=fEc hG h6 (eqS.refl _ _) (h8.trans (notS_eq hu.symm)) ((by rw [nnS]; exact eqS.refl _ _:eqS M.gr.n B (notS (notS B))).trans (notS_eq (eqS.symm h4)))
  exact notS_inj (h2.uniq h9)
theorem dual3 (hM:M.ok) (h:semN M (un 8 f) X) (h' : semN M (bi 10 (.mk 0 0 0 []) f) Y) : eqS M.gr.n X Y:=by
  have hG:=M.gr_ok hM
  obtain ⟨A,_,h1,h2⟩:=sem_un h
  obtain ⟨T,B,⟨_,_,_,h3⟩,h4,h5⟩:=sem_bi h'
  have hu:=semN_uniq hM f h1 h4
  exact h2.uniq (fEc hG h5 h3 hu.symm (eqS.refl _ _))
theorem dual4 (hM:M.ok) (h:semN M (un 8 f) X) (h' : semN M (bi 6 f (un 7 (un 8 f))) Y) : eqS M.gr.n X Y:=by
  have hG:=M.gr_ok hM
  obtain ⟨A,_,h1,h2⟩:=sem_un h
  obtain ⟨B,C,h3,h4,h5⟩:=sem_bi h'
  obtain ⟨D,_,h6,h7⟩:=sem_un h4
  have hu:=semN_uniq hM f h1 h3
  have hx:=semN_uniq hM (un 8 f) h h6
  have h2' : IsL M.gr.n (M.gr.fE allS A) X:=h2
  intro s hs
  have e5:Y s=(B s || C s):=h5 s hs
  rw [e5,← h2'.fix s hs,← hu s hs]
  unfold GraphM.fE allS
  rw [Bool.true_and,h7 s hs,pre_eq hG hx s hs]
theorem dual5 (hM:M.ok) (h:semN M (bi 14 f g) X) (h' : semN M (bi 5 (un 12 g) (un 4 (untilN f g))) Y) : eqS M.gr.n X Y:=by
  have hG:=M.gr_ok hM
  obtain ⟨A,B,h1,h2,h3⟩:=sem_bi h
  obtain ⟨Z,W,h4,h5,h6⟩:=sem_bi h'
  obtain ⟨B2,_,h7,h8⟩:=sem_un h4
  obtain ⟨E,_,h9,h10⟩:=sem_un h5
  obtain ⟨P,Q,h11,h12,h13⟩:=sem_bi h9
  obtain ⟨B3,_,h14,h15⟩:=sem_un h11
  obtain ⟨R,S,h16,h17,h18⟩:=sem_bi h12
  obtain ⟨A2,_,h19,h20⟩:=sem_un h16
  obtain ⟨B4,_,h21,h22⟩:=sem_un h17
  have uB2:=semN_uniq hM g h7 h2
  have uB3:=semN_uniq hM g h14 h2
  have uB4:=semN_uniq hM g h21 h2
  have uA2:=semN_uniq hM f h19 h1
  have hA:IsL M.gr.n (M.gr.fA (fun _=>true) B) Z:=fAc hG h8 (eqS.refl _ _) uB2 (eqS.refl _ _)
  have hQ:eqS M.gr.n Q (notS fun s=>A s || B s):=fun s hs=>by
    have e18:Q s=(R s && S s):=h18 s hs
    rw [e18,h20 s hs,h22 s hs]
    unfold notS
    rw [uA2 s hs,uB4 s hs]
    show (!A s && !B s) = !(A s || B s)
    cases A s <;> cases B s <;> rfl
  have hE:IsL M.gr.n (M.gr.fE (notS B) (notS fun s=>A s || B s)) E:=fEc hG h13 (eqS.trans h15 (notS_eq uB3)) hQ (eqS.refl _ _)
  have hx:=until_all hG h3 hA hE
  intro s hs
  have e6:Y s=(Z s && W s):=h6 s hs
  rw [hx s hs,e6,h10 s hs]
  rfl
end Go.Ai
end
section
namespace Go.Ai
set_option maxRecDepth 10000
theorem rep_un {g:Nat→Option Blk} {n o a c:Nat} {x:NodeM} {cs:List AV} (ho:o < 256) (h:g a=some (.cells cs true 0)) (ha:a < n) (hx:repN g n x cs) : repN g n (un o x) [.lit (.int .u8 o),.lit (.int .i64 0),.lit (.int .i64 0),.sl a 0 1 c] :=
  ⟨ho,_,rfl,.inr ⟨a,0,cs,ha,.inl ⟨c,rfl⟩,⟨cs,true,0,h,by simp,by simp⟩,repL_one hx⟩⟩
theorem rep_bi {g:Nat→Option Blk} {n o a c:Nat} {x y:NodeM} {a1 a2 a3 a4 b1 b2 b3 b4:AV} (ho:o < 256) (h:g a=some (.cells [a1,a2,a3,a4,b1,b2,b3,b4] true 0)) (ha:a < n) (hx:repN g n x [a1,a2,a3,a4]) (hy:repN g n y [b1,b2,b3,b4]) :
    repN g n (bi o x y) [.lit (.int .u8 o),.lit (.int .i64 0),.lit (.int .i64 0),.sl a 0 2 c] :=
  ⟨ho,_,rfl,.inr ⟨a,0,_,ha,.inl ⟨c,rfl⟩,⟨_,true,0,h,by simp,rfl⟩,⟨[a1,a2,a3,a4],[b1,b2,b3,b4],rfl,hx,repL_one hy⟩⟩⟩
theorem rep_leaf {g:Nat→Option Blk} {n:Nat} : repN g n (.mk 0 0 0 []) [.lit (.int .u8 0),.lit (.int .i64 0),.lit (.int .i64 0),.lit (.slice none 0 0)]:=⟨by omega,_,rfl,.inl ⟨rfl,.inl rfl⟩⟩
theorem repL_cons4 {g:Nat→Option Blk} {b:Nat} {x:NodeM} {l:List NodeM} {a1 a2 a3 a4:AV} {r:List AV} (h:repN g b x [a1,a2,a3,a4]) (hl:repL g b l r) : repL g b (x :: l) (a1 :: a2 :: a3 :: a4 :: r):=⟨[a1,a2,a3,a4],r,rfl,h,hl⟩
theorem repL_nil {g:Nat→Option Blk} {b:Nat} : repL g b [] []:=rfl
theorem size_un (o:Nat) (x:NodeM) : sizeN (un o x)=sizeN x+1:=by show sizeN (.mk o 0 0 [x])=_; simp only [sizeN,sizeL]; try omega
theorem size_bi (o:Nat) (x y:NodeM) : sizeN (bi o x y)=sizeN x+sizeN y+1:=by show sizeN (.mk o 0 0 [x,y])=_; simp only [sizeN,sizeL]; try omega
theorem valid_un {s i o:Int} {p:Nat} {x:NodeM} (h1:p < 15) (h2:subsM p=1) (hx:validM s i o x=true) : validM s i o (un p x)=true:=by
  have hp:p≠1∧p≠2∧p≠3:=by refine ⟨?_,?_,?_⟩ <;> (rintro rfl; revert h2; decide)
  show validM s i o (.mk p 0 0 [x])=true
  unfold validM validL validL
  rw [hx,h2,if_neg hp.1,if_neg (by omega),if_neg hp.2.2,decide_eq_true h1]
  rfl
theorem valid_bi {s i o:Int} {p:Nat} {x y:NodeM} (h1:p < 15) (h2:subsM p=2) (hx:validM s i o x=true) (hy:validM s i o y=true) : validM s i o (bi p x y)=true:=by
  have hp:p≠1∧p≠2∧p≠3:=by refine ⟨?_,?_,?_⟩ <;> (rintro rfl; revert h2; decide)
  show validM s i o (.mk p 0 0 [x,y])=true
  unfold validM validL validL validL
  rw [hx,hy,h2,if_neg hp.1,if_neg (by omega),if_neg hp.2.2,decide_eq_true h1]
  rfl
theorem valid_true {s i o:Int} : validM s i o (.mk 0 0 0 [])=true:=by
  unfold validM validL
  rfl
theorem dual_good {s i o:Int} {f g:NodeM} (hf:validM s i o f=true) (hg:validM s i o g=true) (zf:sizeN f≤9) (zg:sizeN g≤9) : ∀ x∈dualL f g,validM s i o x=true∧sizeN x≤64:=by
  intro x hx
  simp only [dualL,List.mem_cons,List.not_mem_nil,or_false] at hx
  have u:∀ {p:Nat} {x:NodeM},p < 15→subsM p=1→validM s i o x=true→validM s i o (un p x)=true:=valid_un
  have h4f:=u (p:=4) (by omega) rfl hf
  have h4g:=u (p:=4) (by omega) rfl hg
  have z1:sizeN (.mk 0 0 0 [])=1:=rfl
  rcases hx with rfl | rfl | rfl | rfl | rfl | rfl | rfl | rfl | rfl | rfl | rfl | rfl
  · exact ⟨u (by omega) rfl hf,by simp only [size_un]; omega⟩
  · exact ⟨u (by omega) rfl (u (by omega) rfl h4f),by simp only [size_un]; omega⟩
  · exact ⟨u (by omega) rfl hf,by simp only [size_un]; omega⟩
  · exact ⟨u (by omega) rfl (u (by omega) rfl h4f),by simp only [size_un]; omega⟩
  · exact ⟨u (by omega) rfl hf,by simp only [size_un]; omega⟩
  · exact ⟨u (by omega) rfl (u (by omega) rfl h4f),by simp only [size_un]; omega⟩
  · exact ⟨u (by omega) rfl hf,by simp only [size_un]; omega⟩
  · exact ⟨valid_bi (by omega) rfl valid_true hf,by simp only [size_bi,z1]; omega⟩
  · exact ⟨u (by omega) rfl hf,by simp only [size_un]; omega⟩
  · exact ⟨valid_bi (by omega) rfl hf (u (by omega) rfl (u (by omega) rfl hf)),by simp only [size_bi,size_un]; omega⟩
  · exact ⟨valid_bi (by omega) rfl hf hg,by simp only [size_bi]; omega⟩
  · exact ⟨valid_bi (by omega) rfl (u (by omega) rfl hg) (u (by omega) rfl (valid_bi (by omega) rfl h4g (valid_bi (by omega) rfl h4f h4g))),by simp only [untilN,size_bi,size_un]; omega⟩
theorem dual_pair {M:MachM} (hM:M.ok) {f g:NodeM} {i:Nat} (hi:i < 12) (h2:i % 2=0) {x y:NodeM} {X Y:SetS} (hx:(dualL f g)[i]?=some x) (hy:(dualL f g)[i+1]?=some y) (sx:semN M x X) (sy:semN M y Y) : eqS M.gr.n X Y:=by
  have:i=0∨i=2∨i=4∨i=6∨i=8∨i=10:=by omega
  rcases this with rfl | rfl | rfl | rfl | rfl | rfl <;> cases hx <;> cases hy
  · exact dual0 hM sx sy
  · exact dual1 hM sx sy
  · exact dual2 hM sx sy
  · exact dual3 hM sx sy
  · exact dual4 hM sx sy
  · exact dual5 hM sx sy
end Go.Ai
end
section
namespace Go.Ai
open Go.ChangeShapes Go.WideShapes Go.ChangeAt Go.RowKit
variable {H:Type} {enc:TypeId×Value→H} {P:Program}
theorem post_below {f:Func} {s:ChangeSpec} {apart fresh handsOn again:Bool} {W W' : World} {args:Array Value} {v:Value} {ds gs:List (DataW H)} {before pa pv:List MemPlace}
    (hW:DataW.Whole enc P f.params.toList s.vars apart W args.toList ds gs before)
    (hres:∀ (b:Nat) (sp:Nat→Bool) (hd:Bool),DataW.TrodAll enc P W' b sp hd f.resultTypes.toList (v.resultList f.resultTypes.size) (s.fn H (ds++gs)).results [])
    (hargs:∀ sp:Nat→Bool,(∀ p∈before,sp p.block=true)→DataW.TrodAll enc P W' 0 sp true f.params.toList args.toList (s.fn H (ds++gs)).args pa)
    (hvars:∀ sp:Nat→Bool,(∀ p∈before,sp p.block=true)→DataW.TrodVars enc P W' sp s.vars (s.fn H (ds++gs)).vars pv)
    (hps:before=pa++pv) (hB:Below W.heap.size W W')
    (hok:∀ (j:Nat) (t:TypeId) (r:Value),f.resultTypes[j]?=some t→(v.resultList f.resultTypes.size)[j]?=some r→Value.okWide P W' .any 0 t r) :
    s.post enc P f apart fresh handsOn again W args v W':=by
  have hlt:∀ p∈before,p.block < W.heap.size:=fun p hp=>hW.lt p hp
  have hold:∀ p∈before,(fun b=>decide (b < W.heap.size)) p.block=true:=fun p hp=>by simpa using hlt p hp
  refine ⟨ds,gs,before,[],pa,pv,hW,hres _ _ _,hargs _ hold,hvars _ hold,World.keptBut_mono (fun p hp=>⟨hp,?_⟩) (hB.frame (·∈before)),fun _=>?_⟩
  · rw [hps,List.mem_append] at hp
    exact Or.inr hp
  · obtain ⟨_,_,_,_,_,hz,hn⟩:=hW
    refine ⟨hok,_,_,([]++pa)++pv,⟨[]++pa,pv,trodAll_append (hargs _ (fun _ _=>rfl)) (hres _ _ _),hvars _ (fun _ _=>rfl),rfl,?_,?_⟩,?_⟩
    · intro b off hp
      have hp' : MemPlace.cell b off∈before:=by rw [hps]; simpa using hp
      rw [hB.frozen (p:=⟨b,off,none⟩) (hlt _ hp')]
      exact hz b off hp'
    · intro ha
      have:=hn ha
      rw [hps] at this
      simpa using this
    · intro p hp _
      rw [hps]
      simpa using hp
end Go.Ai
end
