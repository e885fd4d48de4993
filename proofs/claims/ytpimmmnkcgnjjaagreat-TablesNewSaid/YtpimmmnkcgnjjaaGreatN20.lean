/- A small verified interpreter over names, its proofs, and what was proved with it. No condition. -/
import Derived.Test.YtpimmmnkcgnjjaaGreatN11
import Derived.Test.YtpimmmnkcgnjjaaGreatN18
import Derived.Test.YtpimmmnkcgnjjaaGreatN05
import Derived.Test.YtpimmmnkcgnjjaaGreatN06
import Derived.Test.YtpimmmnkcgnjjaaGreatN14
import Derived.Test.YtpimmmnkcgnjjaaGreatN09
import Derived.Test.YtpimmmnkcgnjjaaGreatN12
import Derived.Test.YtpimmmnkcgnjjaaGreatN10
import Derived.Test.YtpimmmnkcgnjjaaGreatN19
set_option linter.all false
set_option linter.deprecated false
section
namespace Go.Ai
set_option maxRecDepth 10000
end Go.Ai
end
section
namespace Go.Ai
open Go.Proofs
set_option maxRecDepth 10000
set_option maxHeartbeats 40000000
def AnsV (g:Nat→Option Blk) (lo n:Nat) (r:Option (List Int)) (rv:AV) : Prop:=match r with
 | none=>rv=.lit (.slice none 0 0)
 | some r=>∃ B,lo≤B∧B < n∧rv=.sl B 0 r.length r.length∧g B=some (.cells (wdC r) true 0)
end Go.Ai
end
section
namespace Go.Ai
set_option maxRecDepth 10000
structure Lab (T:List (List (Int×Int))) (W:List (List Int)) : Prop where
 len:W.length=T.length
 nil:W.getD 0 []=[]
 ed:∀ p j t,EdT T p j t→t < T.length∧1≤t∧p < t∧W.getD t []=W.getD p []++[(j:Int)]
 src:∀ t,1≤t→t < T.length→∃ p j,EdT T p j t
 inc:∀ a b,a < b→b < T.length→SL (W.getD a []) (W.getD b [])
theorem Lab.inj {T:List (List (Int×Int))} {W:List (List Int)} (h:Lab T W) {a b:Nat} (ha:a < T.length) (hb:b < T.length) (he:W.getD a []=W.getD b []) : a=b:=by
 rcases Nat.lt_trichotomy a b with h1 | h1 | h1
 ·have:=h.inc a b h1 hb; rw [he] at this; exact absurd this SL.irrefl
 ·exact h1
 ·have:=h.inc b a h1 ha; rw [he] at this; exact absurd this SL.irrefl
theorem Lab.le {T:List (List (Int×Int))} {W:List (List Int)} (h:Lab T W) : ∀ (n t:Nat),t≤n→t < T.length→(W.getD t []).length≤t
 | 0,t,ht,_=>by
  have:t=0:=by omega
  subst this
  rw [h.nil]; exact Nat.le_refl _
 | n+1,t,ht,hl=>by
  by_cases h0:t=0
  ·subst h0; rw [h.nil]; exact Nat.le_refl _
  ·obtain ⟨p,j,hE⟩:=h.src t (by omega) hl
   obtain ⟨_,_,e3,e4⟩:=h.ed p j t hE
   have:=h.le n p (by omega) hE.lt
   rw [e4,List.length_append,List.length_singleton]; omega
def refL (n:Nat) : List (Int×Int)→Nat→List (Nat×Int)
 | [],_=>[]
 | e :: l,i=>(if e.1 = -1∧e.2 = -2 then [(n,(i:Int))] else [])++refL n l (i+1)
def lastB (row:List (Int×Int)) : Bool:=row.all fun e=>decide (e.1 = -1∧¬e.2 = -2)
def endR (n:Nat) (row:List (Int×Int)) : List (Nat×Int):=refL n row 0++if lastB row=true then [(n,-1)] else []
def endsM:List (List (Int×Int))→Nat→List (Nat×Int)
 | [],_=>[]
 | r :: l,n=>endR n r++endsM l (n+1)
def eW (W:List (List Int)) (s:Nat×Int) : List Int:=W.getD s.1 []++if s.2 = -1 then [] else [s.2]
def sumW (W:List (List Int)) : List (Nat×Int)→Nat
 | []=>0
 | s :: l=>(eW W s).length+sumW W l
theorem refL_mem {n:Nat} {s:Nat×Int} : ∀ {row:List (Int×Int)} {i:Nat},s∈refL n row i↔∃ k,∃ h:k < row.length,row[k].1 = -1∧row[k].2 = -2∧s=(n,((i+k:Nat) : Int))
 | [],i=>by simp [refL]
 | e :: row,i=>by
  unfold refL
  rw [List.mem_append,refL_mem]
  constructor
  ·rintro (h | ⟨k,hk,h1,h2,h3⟩)
   ·by_cases hc:e.1 = -1∧e.2 = -2
    ·rw [if_pos hc] at h
     exact ⟨0,by simp,hc.1,hc.2,by simpa using h⟩
    ·rw [if_neg hc] at h; cases h
   ·exact ⟨k+1,by simpa using hk,by simpa using h1,by simpa using h2,by rw [h3]; congr 2; omega⟩
  ·rintro ⟨k,hk,h1,h2,h3⟩
   cases k with
   | zero=>exact .inl (by simp at h1 h2; rw [if_pos ⟨h1,h2⟩]; simpa using h3)
   | succ k=>exact .inr ⟨k,by simpa using hk,by simpa using h1,by simpa using h2,by rw [h3]; congr 2; omega⟩
theorem endsM_mem {s:Nat×Int} : ∀ {T:List (List (Int×Int))} {n:Nat},s∈endsM T n↔∃ k,∃ h:k < T.length,s∈endR (n+k) T[k]
 | [],n=>by simp [endsM]
 | r :: T,n=>by
  unfold endsM
  rw [List.mem_append,endsM_mem]
  constructor
  ·rintro (h | ⟨k,hk,h1⟩)
   ·exact ⟨0,by simp,h⟩
   ·exact ⟨k+1,by simpa using hk,by rw [show n+(k+1)=n+1+k by omega]; simpa using h1⟩
  ·rintro ⟨k,hk,h1⟩
   cases k with
   | zero=>exact .inl h1
   | succ k=>exact .inr ⟨k,by simpa using hk,by rw [show n+1+k=n+(k+1) by omega]; simpa using h1⟩
theorem end_iff {T:List (List (Int×Int))} {s:Nat×Int} : s∈endsM T 0↔(∃ k,∃ h:k < T.length,∃ i,∃ hi:i < (T[k]).length,(T[k])[i]=(-1,-2)∧s=(k,(i:Int)))∨(∃ k,∃ h:k < T.length,lastB T[k]=true∧s=(k,-1)):=by
 rw [endsM_mem]
 constructor
 ·rintro ⟨k,hk,h⟩
  rw [Nat.zero_add] at h
  unfold endR at h
  rcases List.mem_append.1 h with h | h
  ·obtain ⟨i,hi,h1,h2,h3⟩:=refL_mem.1 h
   rw [Nat.zero_add] at h3
   exact .inl ⟨k,hk,i,hi,Prod.ext h1 h2,h3⟩
  ·by_cases hl:lastB T[k]=true
   ·rw [if_pos hl] at h
    exact .inr ⟨k,hk,hl,by simpa using h⟩
   ·rw [if_neg hl] at h; cases h
 ·rintro (⟨k,hk,i,hi,h1,h2⟩ | ⟨k,hk,hl,h2⟩)
  ·refine ⟨k,hk,?_⟩
   unfold endR
   refine List.mem_append_left _ (refL_mem.2 ⟨i,hi,by rw [h1],by rw [h1],?_⟩)
   rw [h2,Nat.zero_add,Nat.zero_add]
  ·refine ⟨k,hk,?_⟩
   unfold endR
   refine List.mem_append_right _ ?_
   rw [if_pos hl,h2,Nat.zero_add]
   simp
end Go.Ai
end
section
namespace Go.Ai
open Go.Proofs
set_option maxRecDepth 10000
set_option maxHeartbeats 40000000
end Go.Ai
end
section
namespace Go.Ai
set_option maxRecDepth 10000
def respM (T:List (List (Int×Int))) : Int→List Int→List Int
 | _,[]=>[]
 | a,i :: w=>if ((T.getD a.toNat []).getD i.toNat (-1,-1)).1 = -1 then [-1] else ((T.getD a.toNat []).getD i.toNat (-1,-1)).2 :: respM T ((T.getD a.toNat []).getD i.toNat (-1,-1)).1 w
theorem respM_step {T:List (List (Int×Int))} {a i:Nat} {w:List Int} (ha:a < T.length) (hi:i < (T[a]).length) : respM T ((a:Nat) : Int) (((i:Nat) : Int) :: w)=if (T[a][i]).1 = -1 then [-1] else (T[a][i]).2 :: respM T (T[a][i]).1 w:=by
 have e:(T.getD ((a:Nat) : Int).toNat []).getD ((i:Nat) : Int).toNat (-1,-1)=T[a][i]:=by
  rw [Int.toNat_natCast,Int.toNat_natCast,List.getD_eq_getElem?_getD,List.getD_eq_getElem?_getD,List.getElem?_eq_getElem ha]
  simp [hi]
 rw [respM,e]
def EdO (T:List (List (Int×Int))) (p j t:Nat) (o:Int) : Prop:=∃ (hp:p < T.length) (hj:j < (T[p]).length),T[p][j]=(((t:Nat) : Int),o)
theorem EdT.out {T:List (List (Int×Int))} {p j t:Nat} (h:EdT T p j t) : ∃ o,EdO T p j t o:=by
 have hp:=h.lt
 obtain ⟨e,h1,h2⟩:=h
 rw [List.getD_eq_getElem?_getD,List.getElem?_eq_getElem hp] at h1
 obtain ⟨h3,h4⟩:=List.getElem?_eq_some_iff.1 h1
 have h5:T[p][j]=e:=h4
 exact ⟨e.2,hp,h3,by rw [h5]; exact Prod.ext h2 rfl⟩
theorem EdO.ed {T:List (List (Int×Int))} {p j t:Nat} {o:Int} (h:EdO T p j t o) : EdT T p j t:=by
 obtain ⟨hp,hj,e⟩:=h
 exact ⟨_,by rw [List.getD_eq_getElem?_getD,List.getElem?_eq_getElem hp]; exact List.getElem?_eq_getElem hj,by rw [e]⟩
theorem EdO.step {T:List (List (Int×Int))} {p j t:Nat} {o:Int} (h:EdO T p j t o) (y:List Int) : respM T ((p:Nat) : Int) (((j:Nat) : Int) :: y)=o :: respM T ((t:Nat) : Int) y:=by
 obtain ⟨hp,hj,e⟩:=h
 rw [respM_step hp hj,e,if_neg (by show ¬((t:Nat) : Int) = -1; omega)]
theorem resp_app {T:List (List (Int×Int))} {W:List (List Int)} (hL:Lab T W) : ∀ (n t:Nat),t≤n→t < T.length→∀ y,respM T 0 (W.getD t []++y)=respM T 0 (W.getD t [])++respM T ((t:Nat) : Int) y
 | n,0,_,_,y=>by rw [hL.nil]; rfl
 | 0,t+1,h,_,_=>by omega
 | n+1,t+1,h,hl,y=>by
  obtain ⟨p,j,hE⟩:=hL.src (t+1) (by omega) hl
  obtain ⟨_,_,h3,h4⟩:=hL.ed p j _ hE
  obtain ⟨o,hO⟩:=hE.out
  have i1:=resp_app hL n p (by omega) hE.lt
  rw [h4,List.append_assoc,i1,i1]
  rw [List.singleton_append,hO.step,hO.step]
  simp [respM]
theorem resp_ed {T:List (List (Int×Int))} {W:List (List Int)} (hL:Lab T W) {p j t:Nat} {o:Int} (h:EdO T p j t o) : respM T 0 (W.getD t [])=respM T 0 (W.getD p [])++[o]:=by
 obtain ⟨_,_,_,h4⟩:=hL.ed p j t h.ed
 rw [h4,resp_app hL p p (Nat.le_refl _) h.ed.lt,h.step]; rfl
def bkM (T:List (List (Int×Int))) (W:List (List Int)) : List (List Int×List Int):=(endsM T 0).map fun s=>(eW W s,respM T 0 (eW W s))
theorem resp_end {T:List (List (Int×Int))} {W:List (List Int)} (hL:Lab T W) {k i:Nat} (hk:k < T.length) (hi:i < (T[k]).length) (h:T[k][i]=(-1,-2)) : respM T 0 (eW W (k,(i:Int)))=respM T 0 (W.getD k [])++[-1]:=by
 unfold eW
 dsimp only
 rw [if_neg (by omega),resp_app hL k k (Nat.le_refl _) hk,respM_step hk hi,h,if_pos rfl]
end Go.Ai
end
section
namespace Go.Ai
open Go.Proofs
set_option maxRecDepth 10000
set_option maxHeartbeats 40000000
structure ListW (g:Nat→Option Blk) (n:Nat) (l:List (List Int)) (sv:AV) : Prop where
 len:l.length≤1000000
 words:∀ w∈l,w.length≤1000000
 ex:∃ svs,SliceV g n sv l.length svs∧RowsW g n l svs∧∀ q∈svs,CapV q
structure TreeW (g:Nat→Option Blk) (n:Nat) (T:List (List (Int×Int))) (sv:AV) : Prop where
 len:T.length≤1000000
 rows:∀ r∈T,r.length≤1000000
 ex:∃ svs,SliceV g n sv T.length svs∧RowsK g n T svs
theorem ListW.mono {g g' : Nat→Option Blk} {n n' : Nat} {l:List (List Int)} {sv:AV} (h:ListW g n l sv) (hn:n≤n') (hg:∀ a,a < n→g' a=g a) : ListW g' n' l sv :=
 ⟨h.len,h.words,let ⟨svs,h1,h2,h3⟩:=h.ex; ⟨svs,h1.mono hn hg,h2.ext hn fun a x ha hx=>(hg a ha).trans hx,h3⟩⟩
theorem TreeW.mono {g g' : Nat→Option Blk} {n n' : Nat} {l:List (List (Int×Int))} {sv:AV} (h:TreeW g n l sv) (hn:n≤n') (hg:∀ a,a < n→g' a=g a) : TreeW g' n' l sv :=
 ⟨h.len,h.rows,let ⟨svs,h1,h2⟩:=h.ex; ⟨svs,h1.mono hn hg,h2.ext hn fun a x ha hx=>(hg a ha).trans hx⟩⟩
theorem mkI93:mkI Tryz.prog 22=some (.lit (.slice none 0 0)):=by kernel_rfl
theorem mkI163:mkI Tryz.prog 160=some (.lit (.bool false)):=by kernel_rfl
theorem stS_atB {H:Mem} {l:List AV} {z:Nat} {ag:Bool} {a off:Nat} {v:AV} (hv:oneC v=true) (h:off < l.length) :
  stS (some (ag,1)) (some (.cells l true z)) H a off [v]=.skip (H.upd a (.cells (l.set off v) true z)):=by
 refine (stS_cells (size:=1) rfl (by simp [hv]) h).trans ?_
 have e:putL l off [v]=l.set off v:=by
  unfold putL
  rw [List.set_eq_take_append_cons_drop,if_pos h]
  simp
 rw [e]
theorem stS_bool {H:Mem} {l:List AV} {z:Nat} {ag:Bool} {a off:Nat} {b:Bool} (h:off < l.length) :
  stS (some (ag,1)) (some (.cells l true z)) H a off [.lit (.bool b)]=.skip (H.upd a (.cells (l.set off (.lit (.bool b))) true z)):=stS_atB rfl h
def bvC (l:List Bool) : List AV:=l.map fun b=>.lit (.bool b)
theorem bvC_len (l:List Bool) : (bvC l).length=l.length:=by simp [bvC]
theorem bvC_set (l:List Bool) (t:Nat) (b:Bool) : (bvC l).set t (.lit (.bool b))=bvC (l.set t b):=by simp [bvC,List.map_set]
theorem bvC_at (l:List Bool) {m:Nat} (h:m < l.length) (h' : m < (bvC l).length) : (bvC l)[m]'h'=.lit (.bool (l.getD m false)):=by
 simp [bvC,List.getD_eq_getElem?_getD,h]
def OutW (g:Nat→Option Blk) (lo hi:Nat) (ws:List (List Int)) (L:List AV) : Prop :=
 L.length=ws.length∧∀ (m:Nat),m < ws.length→∃ sv,L[m]?=some sv∧((ws.getD m []=[]∧sv=.lit (.slice none 0 0))∨(ws.getD m []≠[]∧∃ a,lo≤a∧a < hi∧sv=.slq a 0 (ws.getD m []).length 0∧g a=some (.cells (wdC (ws.getD m [])) true 1)))
theorem OutW.ext {g g' : Nat→Option Blk} {lo hi hi' : Nat} {ws:List (List Int)} {L:List AV} (h:OutW g lo hi ws L) (hh:hi≤hi') (hg:∀ a,lo≤a→a < hi→g' a=g a) : OutW g' lo hi' ws L :=
 ⟨h.1,fun m hm=>let ⟨sv,h1,h2⟩:=h.2 m hm; ⟨sv,h1,h2.imp id fun ⟨h3,a,h4,h5,h6,h7⟩=>⟨h3,a,h4,by omega,h6,(hg a h4 h5).trans h7⟩⟩⟩
theorem OutW.set {g:Nat→Option Blk} {lo hi:Nat} {ws:List (List Int)} {L:List AV} (h:OutW g lo hi ws L) {t a:Nat} {w:List Int} (hw:w≠[]) (h1:lo≤a) (h2:a < hi) (h3:g a=some (.cells (wdC w) true 1)) : OutW g lo hi (ws.set t w) (L.set t (.slq a 0 w.length 0)):=by
 refine ⟨by rw [List.length_set,List.length_set,h.1],fun m hm=>?_⟩
 rw [List.length_set] at hm
 by_cases e:t=m
 ·subst e
  refine ⟨_,List.getElem?_set_self (by rw [h.1]; exact hm),?_⟩
  rw [getD_set,if_pos ⟨rfl,hm⟩]
  exact .inr ⟨hw,a,h1,h2,rfl,h3⟩
 ·obtain ⟨sv,h4,h5⟩:=h.2 m hm
  refine ⟨sv,by rw [List.getElem?_set_ne e]; exact h4,?_⟩
  rw [getD_set,if_neg (fun h=>e h.1)]
  exact h5
theorem OutW.list {g:Nat→Option Blk} {lo n:Nat} {ws:List (List Int)} {L:List AV} (h:OutW g lo n ws L) {B:Nat} (hB:B < n) (hg:g B=some (.cells L true 0)) (hl:ws.length≤1000000) (hw:∀ w∈ws,w.length≤1000000) : ListW g n ws (.sl B 0 ws.length ws.length):=by
 refine ⟨hl,hw,L,sliceV_all hg hB,⟨h.1,fun k hk=>?_⟩,fun q hq=>?_⟩
 ·obtain ⟨sv,h1,h2⟩:=h.2 k hk
  have e:ws.getD k []=ws[k]:=by rw [List.getD_eq_getElem?_getD,List.getElem?_eq_getElem hk]; rfl
  rw [e] at h2
  refine ⟨sv,h1,?_⟩
  rcases h2 with ⟨h3,rfl⟩ | ⟨h3,a,h4,h5,rfl,h6⟩
  ·rw [h3]; exact .inl ⟨rfl,rfl,.inl rfl⟩
  ·exact .inr ⟨a,0,h5,.inr ⟨0,rfl⟩,⟨_,_,_,h6,by simp,by simp⟩⟩
 ·obtain ⟨k,hk,rfl⟩:=List.mem_iff_getElem.1 hq
  obtain ⟨sv,h1,h2⟩:=h.2 k (by rw [← h.1]; exact hk)
  rw [List.getElem?_eq_getElem hk] at h1
  cases h1
  rcases h2 with ⟨h3,h4⟩ | ⟨h3,a,h4,h5,h6,h7⟩
  ·rw [h4]; intro a o n c e; cases e
  ·rw [h6]; intro a o n c e; cases e
structure WMem (g gL:Nat→Option Blk) (n n' : Nat) (len:Nat) (st:WSt) (L:List AV) : Prop where
 lt:n+3≤n'
 keep:∀ b,b < n→gL b=g b
 words:OutW gL (n+3) n' st.out L
 lo:st.out.length=len
 ls:st.seen.length=len
 cnt:st.many=st.seen.count true
 short:∀ m,(st.out.getD m []).length≤len
def kN (T:List (List (Int×Int))) (k r many:Nat) : Option WSt→Option WSt
 | none=>none
 | some s=>if s.many=many then some s else wR T k (r+1) s
def kI (r:Nat) (rows:List (List (Int×Int))) (n:Nat) : Option WSt→Option WSt
 | none=>none
 | some s=>wN r rows n s
theorem wR_eq (T:List (List (Int×Int))) (k r:Nat) (st:WSt) : wR T (k+1) r st=kN T k r st.many (wN r T 0 st):=rfl
theorem wN_eq (r:Nat) (row:List (Int×Int)) (l:List (List (Int×Int))) (n:Nat) (st:WSt) : wN r (row :: l) n st=kI r l (n+1) (wI r n row 0 st):=rfl
theorem WMem.many_le {g gL:Nat→Option Blk} {n n' len:Nat} {st:WSt} {L:List AV} (h:WMem g gL n n' len st L) : st.many≤len:=by
 rw [h.cnt,← h.ls]; exact List.count_le_length
theorem RepE.to {g:Nat→Option Blk} {n:Nat} {r:List (Int×Int)} {sv:AV} (h:RepE g n r sv) {i:Nat} (hi:i < r.length) :
  ∃ a off,a < n∧(∀ {H:Mem} {ev:Ev} {o:Oper} {t:TypeId},iaS Tryz.prog H ev o t (some (none,2)) (some sv) (some (.lit (.int .i64 (i:Int))))=.val (.ptr a (off+i * 2)) H)∧loadB (some (false,1)) (g a) (off+i * 2)=some (.lit (.int .i64 r[i].1)):=by
 obtain ⟨a,off,ha,hrow,hia⟩:=SliceV.ia (P:=Tryz.prog) h hi 2
 refine ⟨a,off,ha,hia,?_⟩
 have hk:i * 2 < (r.flatMap edC).length:=by rw [flat_len (sz:=2) _ (fun _ _=>rfl)]; omega
 have h1:=hrow.one (k:=i * 2) (s:=1) hk
 have h2:=flat_at (sz:=2) r i hi (f:=edC) (fun _ _=>rfl)
 have h3:(r.flatMap edC)[i * 2]?=some (.lit (.int .i64 r[i].1)):=by
  have h4:(((r.flatMap edC).drop (i * 2)).take 2)[0]?=some (.lit (.int .i64 r[i].1)):=by rw [h2]; rfl
  simpa using h4
 rw [(List.getElem?_eq_some_iff.1 h3).2] at h1
 exact h1
theorem WMem.put {g gN:Nat→Option Blk} {n n3 len:Nat} {s:WSt} {L:List AV} (h:WMem g gN n n3 len s L) {t:Nat} (ht:t < len) (hs:s.seen.getD t false=false) {w:List Int} {lw:Nat} (hlw:w.length=lw) (hw:0 < lw) (hwl:lw≤len)
  {gX:Nat→Option Blk} {nX A:Nat} (hnX:n3≤nX) (hA1:n3≤A) (hA2:A < nX) (hAg:gX A=some (.cells (wdC w) true 1)) (hold:∀ b,b < n3→b≠n+1→b≠n+1+1→gX b=gN b) :
  WMem g gX n nX len ⟨s.out.set t w,s.seen.set t true,s.many+1⟩ (L.set t (.slq A 0 lw 0)):=by
 have hlt:=h.lt
 refine ⟨by omega,fun b hb=>(hold b (by omega) (by omega) (by omega)).trans (h.keep b hb),?_,by rw [List.length_set]; exact h.lo,by rw [List.length_set]; exact h.ls,?_,fun m=>?_⟩
 ·have h2:=(h.words.ext (g':=gX) (hi':=nX) hnX fun a h1 h2=>hold a h2 (by omega) (by omega)).set (t:=t) (a:=A) (w:=w) (by intro e; rw [e] at hlw; simp at hlw; omega) (by omega) hA2 hAg
  rw [hlw] at h2
  exact h2
 ·show s.many+1=(s.seen.set t true).count true
  rw [count_set _ _ (by rw [h.ls]; exact ht) hs,h.cnt]
 ·show ((s.out.set t w).getD m []).length≤len
  rw [getD_set]
  split
  ·omega
  ·exact h.short m
def lowG (n:Nat) (g:Nat→Option Blk) : Nat→Option Blk:=fun a=>if n≤a then g a else none
theorem ListW.low {n:Nat} {g:Nat→Option Blk} {n' : Nat} {l:List (List Int)} {sv:AV} (h:ListW (lowG n g) n' l sv) : ListW g n' l sv :=
 have hg:∀ a x,a < n'→lowG n g a=some x→g a=some x:=fun a x _ hx=>by
  unfold lowG at hx
  split at hx
  ·exact hx
  ·cases hx
 ⟨h.len,h.words,let ⟨svs,h1,h2,h3⟩:=h.ex; ⟨svs,SliceV.ext (Nat.le_refl _) hg h1,h2.ext (Nat.le_refl _) hg,h3⟩⟩
theorem WMem.list {g gL:Nat→Option Blk} {n n' len:Nat} {st:WSt} {L:List AV} (h:WMem g gL n n' len st L) (hg:gL (n+1)=some (.cells L true 0)) (hl:len≤1000000) : ListW (lowG n gL) n' st.out (.sl (n+1) 0 len len):=by
 have hlt:=h.lt
 have hw2:OutW (lowG n gL) (n+3) n' st.out L:=h.words.ext (Nat.le_refl _) fun a h1 _=>if_pos (by omega)
 have h2:=hw2.list (B:=n+1) (by omega) ((if_pos (by omega)).trans hg) (by rw [h.lo]; exact hl) fun w hw=>by
  obtain ⟨k,hk,rfl⟩:=List.mem_iff_getElem.1 hw
  have:=h.short k
  rw [List.getD_eq_getElem?_getD,List.getElem?_eq_getElem hk] at this
  exact Nat.le_trans this hl
 rw [h.lo] at h2
 exact h2
def wOut (len:Nat) : Option WSt→List (List Int)
 | none=>[]
 | some s=>if s.many < len then [] else s.out
theorem rWords_out (T:List (List (Int×Int))) : rWords T=wOut T.length (wR T T.length 0 (wSt0 T.length)):=by
 unfold rWords wOut
 cases wR T T.length 0 (wSt0 T.length) <;> rfl
theorem rWords_w (I O:Int) (T:List (List (Int×Int))) (hok:∀ r∈T,(r.length:Int)=I∧∀ e∈r,okE T.length O e=true) (h1:1≤T.length) (g:Nat→Option Blk) (n:Nat) (sv:AV) (hT:TreeW g n T sv) :
  WC 0 Tryz.prog 70 [.agg [.lit (.int .i64 I),.lit (.int .i64 O),sv]] ⟨.fn g,n⟩ fun r=>∃ g' n' wv,r=.ret wv ⟨.fn g',n'⟩∧n≤n'∧(∀ b,b < n→g' b=g b)∧ListW (lowG n g') n' (rWords T) wv:=by
 obtain ⟨svs,hsv,hr⟩:=hT.ex
 have hlen:=@lenV Tryz.prog _ _ _ _ _ hsv
 have h1s:=hsv.one
 have hone:allOne [.lit (.int .i64 I),.lit (.int .i64 O),sv]=true:=by simp [h1s]
 have hl:=hT.len
 have HS:=Hide.mk hsv
 have HR:=Hide.mk hr
 have HT:=Hide.mk hT
 have HOK:=Hide.mk hok
 clear hsv hr hT hok
 have h1I:¬(T.length:Int)=0:=by omega
 have hn0:¬T.length=0:=by omega
 have s22:=mkI93
 have s160:=mkI163
 have hsb:=@stS_bool
 have hsq:=@stS_slq
 have hrl:0 < (List.replicate T.length (AV.lit (.bool false))).length:=by simp; omega
 obtain ⟨V,hV⟩ : ∃ V,V=wR T T.length 0 (wSt0 T.length):=⟨_,rfl⟩
 have HRW:Hide (rWords T=wOut T.length V):=⟨by rw [hV]; exact rWords_out T⟩
 have HV0:=Hide.mk hV
 clear hV
 refine WC.enterP (noO_ok _ _) hG [] Tryz.func70 rfl (by decide +kernel) (Nat.le_of_ble_eq_true (by kernel_rfl)) ?_
 iterate 8 all_goals try first|with_reducible refine splitI (fun h=>?_) fun h=>?_|with_reducible refine splitBI (fun h=>?_) fun h=>?_|simp (maxSteps:=999999) (disch:=first|assumption|omega|(simp;done)|fail) [Tryz.results70, *]
 refine LX.ind (fun m gf H'=>∃ (r n' : Nat) (gL:Nat→Option Blk) (st:WSt) (L:List AV),r≤T.length∧m=T.length - r∧H'=⟨.fn gL,n'⟩∧gL n=some (.cells [.lit (.int .i64 I),.lit (.int .i64 O),sv] true 0)∧gL (n+1)=some (.cells L true 0)∧gL (n+1+1)=some (.cells (bvC st.seen) true 0) ∧
  Hide (WMem g gL n n' T.length st L)∧Hide (V=wR T (T.length - r) r st) ∧
  gf 1=some (.ptr n 0)∧gf 3=some (.sl (n+1) 0 T.length T.length)∧gf 4=some (.sl (n+1+1) 0 T.length T.length)∧gf 5=some (.lit (.int .i64 st.many))∧gf 6=some (.lit (.int .i64 r))) (m0:=T.length) ?_ ?_
 ·refine ⟨0,_,_,wSt0 T.length,List.replicate T.length (.lit (.slice none 0 0)),Nat.zero_le _,rfl,rfl,(gput_lt (by omega)).trans ((gput_lt (by omega)).trans gput_eq),(gput_lt (by omega)).trans gput_eq,gput_eq.trans ?_,⟨?_⟩,HV0,by simp,by simp,by simp,by simp [wSt0],by simp⟩
  ·simp [wSt0,bvC,List.map_set]
  ·refine ⟨by omega,fun b hb=>(gput_lt (by omega)).trans ((gput_lt (by omega)).trans (gput_lt (by omega))),⟨by simp [wSt0],fun m hm=>⟨.lit (.slice none 0 0),?_,.inl ⟨?_,rfl⟩⟩⟩,by simp [wSt0],by simp [wSt0],?_,fun m=>?_⟩
   ·have:m < T.length:=by simpa [wSt0] using hm
    rw [List.getElem?_replicate,if_pos this]
   ·show (List.replicate T.length ([] : List Int)).getD m []=[]
    rw [List.getD_eq_getElem?_getD,List.getElem?_replicate]
    split <;> rfl
   ·show 1=((List.replicate T.length false).set 0 true).count true
    rw [count_set _ _ (by simp; omega) (by rw [List.getD_eq_getElem?_getD,List.getElem?_replicate]; split <;> rfl)]
    simp [List.count_replicate]
   ·show ((List.replicate T.length ([] : List Int)).getD m []).length≤T.length
    rw [List.getD_eq_getElem?_getD,List.getElem?_replicate]
    split <;> simp
 rintro m gf H' ⟨r,n',gL,st,L,hr,rfl,rfl,hgn,hgo,hgs,HM,HV,w1,w3,w4,w5,w6⟩ ih
 refine LX.roundP (noO_ok _ _) hG [] (by decide +kernel) ?_
 by_cases hlt:r < T.length
 ·have hltI:(r:Int) < (T.length:Int):=by omega
  have hv:=HV.out
  rw [show T.length - r=(T.length - (r+1))+1 by omega,wR_eq] at hv
  have HV2:=Hide.mk hv
  clear hv HV
  iterate 8 all_goals try first|with_reducible refine splitI (fun h=>?_) fun h=>?_|with_reducible refine splitBI (fun h=>?_) fun h=>?_|simp (maxSteps:=999999) (disch:=first|assumption|omega|(simp;done)|fail) [Tryz.results70, *]
  refine LX.ind (fun m gf H'=>∃ (k n2:Nat) (gM:Nat→Option Blk) (s2:WSt) (L2:List AV),k≤T.length∧m=T.length - k∧H'=⟨.fn gM,n2⟩∧gM n=some (.cells [.lit (.int .i64 I),.lit (.int .i64 O),sv] true 0)∧gM (n+1)=some (.cells L2 true 0)∧gM (n+1+1)=some (.cells (bvC s2.seen) true 0) ∧
   Hide (WMem g gM n n2 T.length s2 L2)∧Hide (V=kN T (T.length - (r+1)) r st.many (wN r (T.drop k) k s2)) ∧
   gf 1=some (.ptr n 0)∧gf 3=some (.sl (n+1) 0 T.length T.length)∧gf 4=some (.sl (n+1+1) 0 T.length T.length)∧gf 5=some (.lit (.int .i64 s2.many))∧gf 6=some (.lit (.int .i64 r))∧gf 7=some (.lit (.int .i64 st.many))∧gf 8=some (.lit (.int .i64 k))) (m0:=T.length) ?_ ?_
  ·exact ⟨0,n',gL,st,L,Nat.zero_le _,rfl,rfl,hgn,hgo,hgs,HM,HV2,by simp [*],by simp [*],by simp [*],by simp [*],by simp [*],by simp,by simp⟩
  clear w1 w3 w4 w5 w6 hgn hgo hgs HV2
  rintro m gf H' ⟨k,n2,gM,s2,L2,hk,rfl,rfl,hgn,hgo,hgs,HM2,HV2,w1,w3,w4,w5,w6,w7,w8⟩ ihN
  refine LX.roundP (noO_ok _ _) hG [] (by decide +kernel) ?_
  by_cases hlt2:k < T.length
  ·have hlt2I:(k:Int) < (T.length:Int):=by omega
   obtain ⟨q1,hw1,hrep⟩:=HR.out.2 k hlt2
   obtain ⟨a2,off,ha2,hrow,hia⟩:=HS.out.ia (P:=Tryz.prog) hlt2 1
   simp only [Nat.mul_one] at hia
   have hkl:k < svs.length:=(List.getElem?_eq_some_iff.1 hw1).1
   have HCELL:Hide (∀ gX:Nat→Option Blk,(∀ b,b < n→gX b=g b)→loadB (some (false,1)) (gX a2) (off+k)=some q1):=⟨fun gX hX=>by
    have hcell:=(hrow.mono (hX a2 ha2)).one (k:=k) (s:=1) hkl
    rwa [(List.getElem?_eq_some_iff.1 hw1).2] at hcell⟩
   have hv:=HV2.out
   rw [List.drop_eq_getElem_cons hlt2,wN_eq] at hv
   have hokr:=HOK.out _ (List.getElem_mem hlt2)
   have hrl2:=HT.out.rows _ (List.getElem_mem hlt2)
   have HV3:=Hide.mk hv
   have HREP:=Hide.mk hrep
   clear hrow hrep hw1 ha2 hv HV2
   generalize T[k]=row at *
   obtain ⟨hrowI,hoke⟩:=hokr
   have HOKE:=Hide.mk hoke
   clear hoke
   have HLW:=Hide.mk (@lenV Tryz.prog _ _ _ _ _ HREP.out)
   have h1q:oneC q1=true:=HREP.out.one
   iterate 8 all_goals try first|with_reducible refine splitI (fun h=>?_) fun h=>?_|with_reducible refine splitBI (fun h=>?_) fun h=>?_|simp (maxSteps:=999999) (disch:=first|assumption|omega|(simp;done)|fail) [Tryz.results70, *]
   refine LX.ind (fun m gf H'=>∃ (i n3:Nat) (gN:Nat→Option Blk) (s3:WSt) (L3:List AV),i≤row.length∧m=row.length - i∧H'=⟨.fn gN,n3⟩∧gN n=some (.cells [.lit (.int .i64 I),.lit (.int .i64 O),sv] true 0)∧gN (n+1)=some (.cells L3 true 0)∧gN (n+1+1)=some (.cells (bvC s3.seen) true 0) ∧
    Hide (WMem g gN n n3 T.length s3 L3)∧Hide (V=kN T (T.length - (r+1)) r st.many (kI r (T.drop (k+1)) (k+1) (wI r k (row.drop i) i s3))) ∧
    gf 1=some (.ptr n 0)∧gf 3=some (.sl (n+1) 0 T.length T.length)∧gf 4=some (.sl (n+1+1) 0 T.length T.length)∧gf 5=some (.lit (.int .i64 s3.many))∧gf 6=some (.lit (.int .i64 r))∧gf 7=some (.lit (.int .i64 st.many))∧gf 8=some (.lit (.int .i64 k))∧gf 9=some (.lit (.int .i64 i))) (m0:=row.length) ?_ ?_
   ·exact ⟨0,n2,gM,s2,L2,Nat.zero_le _,rfl,rfl,hgn,hgo,hgs,HM2,HV3,by simp [*],by simp [*],by simp [*],by simp [*],by simp [*],by simp [*],by simp [*],by simp⟩
   clear w1 w3 w4 w5 w6 w7 w8 hgn hgo hgs HV3
   rintro m gf H' ⟨i,n3,gN,s3,L3,hi,rfl,rfl,hgn,hgo,hgs,HM3,HV3,w1,w3,w4,w5,w6,w7,w8,w9⟩ ihI
   refine LX.roundP (noO_ok _ _) hG [] (by decide +kernel) ?_
   have hcell:=HCELL.out gN HM3.out.keep
   have hn3:=HM3.out.lt
   have hL3:L3.length=T.length:=HM3.out.words.1.trans HM3.out.lo
   have hS3:(bvC s3.seen).length=T.length:=(bvC_len _).trans HM3.out.ls
   have hkS:k < (bvC s3.seen).length:=by omega
   have hkL:k < L3.length:=by omega
   have hvS:(bvC s3.seen)[k]'hkS=.lit (.bool (s3.seen.getD k false)):=bvC_at _ (by rw [HM3.out.ls]; exact hlt2) hkS
   by_cases hlt3:i < row.length
   ·have hlt3I:(i:Int) < I:=by omega
    cases hsn:s3.seen.getD k false with
    | false =>
     rw [hsn] at hvS
     have HX:Hide (wI r k (row.drop i) i s3=some s3):=⟨by rw [List.drop_eq_getElem_cons hlt3]; unfold wI; rw [if_neg (by rw [hsn]; simp)]⟩
     iterate 8 all_goals try first|with_reducible refine splitI (fun h=>?_) fun h=>?_|with_reducible refine splitBI (fun h=>?_) fun h=>?_|simp (maxSteps:=999999) (disch:=first|assumption|omega|(simp;done)|fail) [Tryz.results70, *]
     refine ihN.out (T.length - (k+1)) _ _ (by omega) ⟨k+1,n3,gN,s3,L3,by omega,rfl,rfl,hgn,hgo,hgs,HM3,⟨HV3.out.trans (by rw [HX.out]; rfl)⟩,by simp [*],by simp [*],by simp [*],by simp [*],by simp [*],by simp [*],by simp⟩
    | true =>
     rw [hsn] at hvS
     obtain ⟨svk,hLk,halt⟩:=HM3.out.words.2 k (by rw [HM3.out.lo]; exact hlt2)
     have hLv:L3[k]'hkL=svk:=(List.getElem?_eq_some_iff.1 hLk).2
     clear hLk
     rcases halt with ⟨hw0,rfl⟩ | ⟨hwne,a,ha1,ha2,rfl,hga⟩
     ·by_cases hr0:r=0
      ·subst hr0
       have HLWK:Hide ((s3.out.getD k []).length=0):=⟨by rw [hw0]; rfl⟩
       have HW0:=Hide.mk hw0
       clear hw0
       obtain ⟨a3,of3,ha3,hia3,hc3⟩:=RepE.to HREP.out hlt3
       rw [← HM3.out.keep a3 ha3] at hc3
       have hoe:=HOKE.out _ (List.getElem_mem hlt3)
       have hdr:row.drop i=row[i] :: row.drop (i+1):=List.drop_eq_getElem_cons hlt3
       have hv:=HV3.out
       rw [hdr] at hv
       unfold wI at hv
       rw [if_pos ⟨hsn,HLWK.out⟩] at hv
       have HV4:=Hide.mk hv
       clear hv hdr
       generalize row[i]=e at *
       obtain ⟨to,eo⟩:=e
       dsimp only at hc3
       by_cases e1:to = -1
       ·subst e1
        have HX:Hide (V=kN T (T.length - (0+1)) 0 st.many (kI 0 (T.drop (k+1)) (k+1) (wI 0 k (row.drop (i+1)) (i+1) s3))):=⟨HV4.out.trans (by rw [if_pos rfl])⟩
        iterate 8 all_goals try first|with_reducible refine splitI (fun h=>?_) fun h=>?_|with_reducible refine splitBI (fun h=>?_) fun h=>?_|simp (maxSteps:=999999) (disch:=first|assumption|omega|(simp;done)|fail) [Tryz.results70, *]
        exact ihI.out (row.length - (i+1)) _ _ (by omega) ⟨i+1,n3,gN,s3,L3,by omega,rfl,rfl,hgn,hgo,hgs,HM3,HX,by simp [*],by simp [*],by simp [*],by simp [*],by simp [*],by simp [*],by simp [*],by simp⟩
       obtain ⟨t,rfl⟩ : ∃ t:Nat,to=(t:Int):=by
        unfold okE at hoe
        rcases Bool.or_eq_true_iff.1 hoe with h | h
        ·exact ⟨to.toNat,by have:=(of_decide_eq_true h).1; dsimp only at this; omega⟩
        ·exact absurd (of_decide_eq_true h).1 e1
       have htT:t < T.length:=by
        unfold okE at hoe
        rcases Bool.or_eq_true_iff.1 hoe with h | h
        ·have:=(of_decide_eq_true h).2.1; dsimp only at this; omega
        ·exact absurd (of_decide_eq_true h).1 e1
       have htS:t < (bvC s3.seen).length:=by omega
       have htL:t < L3.length:=by omega
       have hvT:(bvC s3.seen)[t]'htS=.lit (.bool (s3.seen.getD t false)):=bvC_at _ (by rw [HM3.out.ls]; exact htT) htS
       have HV5:=HV4.out
       rw [if_neg e1,show ((t:Int)).toNat=t by omega] at HV5
       clear hoe
       cases hsn2:s3.seen.getD t false with
       | true =>
        rw [hsn2,if_pos rfl] at HV5
        have HNIL:Hide (rWords T=[]):=⟨by rw [HRW.out,HV5]; rfl⟩
        rw [hsn2] at hvT
        clear HV5
        iterate 8 all_goals try first|with_reducible refine splitI (fun h=>?_) fun h=>?_|with_reducible refine splitBI (fun h=>?_) fun h=>?_|simp (maxSteps:=999999) (disch:=first|assumption|omega|(simp;done)|fail) [Tryz.results70, *]
        exact ⟨gN,n3,.lit (.slice none 0 0),by simp,by omega,HM3.out.keep,by rw [HNIL.out]; exact ⟨by simp,by simp,[],.inl ⟨rfl,rfl,.inl rfl⟩,⟨rfl,fun k hk=>by simp at hk⟩,by simp⟩⟩
       | false =>
        rw [hsn2,if_neg (by decide)] at HV5
        rw [hsn2] at hvT
        have HV6:=Hide.mk HV5
        clear HV5
        have hmm:s3.many≤T.length:=HM3.out.many_le
        iterate 8 all_goals try first|with_reducible refine splitI (fun h=>?_) fun h=>?_|with_reducible refine splitBI (fun h=>?_) fun h=>?_|simp (maxSteps:=999999) (disch:=first|assumption|omega|(simp;done)|fail) [Tryz.results70, *]
        refine ihI.out (row.length - (i+1)) _ _ (by omega) ⟨i+1,n3+1+1+1,_,⟨s3.out.set t (s3.out.getD k []++[(i:Int)]),s3.seen.set t true,s3.many+1⟩,L3.set t (.slq (n3+1+1) 0 1 0),by omega,rfl,rfl,?_,gput_eq,?_,⟨?_⟩,HV6,by simp [*],by simp [*],by simp [*],by simp [*],by simp [*],by simp [*],by simp [*],by simp⟩
        ·rw [gput_lt (by omega),gput_lt (by omega),gput_lt (by omega),gput_lt (by omega),gput_lt (by omega)]; exact hgn
        ·rw [gput_ne (by omega),gput_lt (by omega),gput_lt (by omega),gput_lt (by omega),gput_eq,bvC_set]
        ·refine HM3.out.put htT hsn2 (by rw [List.length_append,HLWK.out]; rfl) (by omega) (by omega) (by omega) (by omega) (by omega) ?_ fun b h1 h2 h3=>by rw [gput_ne (by omega),gput_lt (by omega),gput_lt (by omega),gput_lt (by omega),gput_ne (by omega)]
         rw [gput_ne (by omega),gput_eq]
         rw [HW0.out]; rfl
      ·have hr0I:¬(0:Int)=(r:Int):=by omega
       have HX:Hide (wI r k (row.drop i) i s3=some s3):=⟨by rw [List.drop_eq_getElem_cons hlt3]; unfold wI; rw [if_neg (by rw [hw0]; rintro ⟨-,h⟩; exact hr0 h.symm)]⟩
       clear hw0
       iterate 8 all_goals try first|with_reducible refine splitI (fun h=>?_) fun h=>?_|with_reducible refine splitBI (fun h=>?_) fun h=>?_|simp (maxSteps:=999999) (disch:=first|assumption|omega|(simp;done)|fail) [Tryz.results70, *]
       refine ihN.out (T.length - (k+1)) _ _ (by omega) ⟨k+1,n3,gN,s3,L3,by omega,rfl,rfl,hgn,hgo,hgs,HM3,⟨HV3.out.trans (by rw [HX.out]; rfl)⟩,by simp [*],by simp [*],by simp [*],by simp [*],by simp [*],by simp [*],by simp⟩
     ·by_cases hlw:(s3.out.getD k []).length=r
      ·have HLWK:=Hide.mk hlw
       rw [hlw] at hLv
       have HGA:=Hide.mk hga
       have hga2:∃ CS,Hide (CS=wdC (s3.out.getD k []))∧gN a=some (.cells CS true 1):=⟨_,⟨rfl⟩,hga⟩
       obtain ⟨CS,HCS,hga3⟩:=hga2
       have hCSl:CS.length=r:=by rw [HCS.out,wdC_len]; exact hlw
       have hCS1:allOne CS=true:=by rw [HCS.out]; exact wdC_one _
       have hr1:0 < r:=by rw [← hlw]; exact List.length_pos_iff.2 hwne
       clear hga hlw
       obtain ⟨r1,hr1e⟩ : ∃ r1,r=r1+1:=⟨r - 1,by omega⟩
       subst hr1e
       have htk:CS.take (r1+1)=CS:=List.take_of_length_le (by omega)
       obtain ⟨a3,of3,ha3,hia3,hc3⟩:=RepE.to HREP.out hlt3
       rw [← HM3.out.keep a3 ha3] at hc3
       have hoe:=HOKE.out _ (List.getElem_mem hlt3)
       have hdr:row.drop i=row[i] :: row.drop (i+1):=List.drop_eq_getElem_cons hlt3
       have hv:=HV3.out
       rw [hdr] at hv
       unfold wI at hv
       rw [if_pos ⟨hsn,HLWK.out⟩] at hv
       have HV4:=Hide.mk hv
       clear hv hdr
       generalize row[i]=e at *
       obtain ⟨to,eo⟩:=e
       dsimp only at hc3
       by_cases e1:to = -1
       ·subst e1
        have HX:Hide (V=kN T (T.length - ((r1+1)+1)) (r1+1) st.many (kI (r1+1) (T.drop (k+1)) (k+1) (wI (r1+1) k (row.drop (i+1)) (i+1) s3))):=⟨HV4.out.trans (by rw [if_pos rfl])⟩
        iterate 8 all_goals try first|with_reducible refine splitI (fun h=>?_) fun h=>?_|with_reducible refine splitBI (fun h=>?_) fun h=>?_|simp (maxSteps:=999999) (disch:=first|assumption|omega|(simp;done)|fail) [Tryz.results70, *]
        exact ihI.out (row.length - (i+1)) _ _ (by omega) ⟨i+1,n3,gN,s3,L3,by omega,rfl,rfl,hgn,hgo,hgs,HM3,HX,by simp [*],by simp [*],by simp [*],by simp [*],by simp [*],by simp [*],by simp [*],by simp⟩
       obtain ⟨t,rfl⟩ : ∃ t:Nat,to=(t:Int):=by
        unfold okE at hoe
        rcases Bool.or_eq_true_iff.1 hoe with h | h
        ·exact ⟨to.toNat,by have:=(of_decide_eq_true h).1; dsimp only at this; omega⟩
        ·exact absurd (of_decide_eq_true h).1 e1
       have htT:t < T.length:=by
        unfold okE at hoe
        rcases Bool.or_eq_true_iff.1 hoe with h | h
        ·have:=(of_decide_eq_true h).2.1; dsimp only at this; omega
        ·exact absurd (of_decide_eq_true h).1 e1
       have htS:t < (bvC s3.seen).length:=by omega
       have htL:t < L3.length:=by omega
       have hvT:(bvC s3.seen)[t]'htS=.lit (.bool (s3.seen.getD t false)):=bvC_at _ (by rw [HM3.out.ls]; exact htT) htS
       have HV5:=HV4.out
       rw [if_neg e1,show ((t:Int)).toNat=t by omega] at HV5
       clear hoe
       cases hsn2:s3.seen.getD t false with
       | true =>
        rw [hsn2,if_pos rfl] at HV5
        have HNIL:Hide (rWords T=[]):=⟨by rw [HRW.out,HV5]; rfl⟩
        rw [hsn2] at hvT
        clear HV5
        iterate 8 all_goals try first|with_reducible refine splitI (fun h=>?_) fun h=>?_|with_reducible refine splitBI (fun h=>?_) fun h=>?_|simp (maxSteps:=999999) (disch:=first|assumption|omega|(simp;done)|fail) [Tryz.results70, *]
        exact ⟨gN,n3,.lit (.slice none 0 0),by simp,by omega,HM3.out.keep,by rw [HNIL.out]; exact ⟨by simp,by simp,[],.inl ⟨rfl,rfl,.inl rfl⟩,⟨rfl,fun k hk=>by simp at hk⟩,by simp⟩⟩
       | false =>
        rw [hsn2,if_neg (by decide)] at HV5
        rw [hsn2] at hvT
        have HV6:=Hide.mk HV5
        clear HV5
        have hmm:s3.many≤T.length:=HM3.out.many_le
        iterate 8 all_goals try first|with_reducible refine splitI (fun h=>?_) fun h=>?_|with_reducible refine splitBI (fun h=>?_) fun h=>?_|simp (maxSteps:=999999) (disch:=first|assumption|omega|(simp;done)|fail) [Tryz.results70, *]
        refine ihI.out (row.length - (i+1)) _ _ (by omega) ⟨i+1,n3+1+1+1+1,_,⟨s3.out.set t (s3.out.getD k []++[(i:Int)]),s3.seen.set t true,s3.many+1⟩,L3.set t (.slq (n3+1+1+1) 0 (r1+1+1) 0),by omega,rfl,rfl,?_,gput_eq,?_,⟨?_⟩,HV6,by simp [*],by simp [*],by simp [*],by simp [*],by simp [*],by simp [*],by simp [*],by simp⟩
        ·rw [gput_lt (by omega),gput_lt (by omega),gput_lt (by omega),gput_lt (by omega),gput_lt (by omega),gput_lt (by omega),gput_lt (by omega)]; exact hgn
        ·rw [gput_ne (by omega),gput_lt (by omega),gput_lt (by omega),gput_lt (by omega),gput_lt (by omega),gput_lt (by omega),gput_eq,bvC_set]
        ·refine HM3.out.put htT hsn2 (by rw [List.length_append,HLWK.out]; rfl) (by omega) (by omega) (by omega) (by omega) (by omega) ?_ fun b h1 h2 h3=>by rw [gput_ne (by omega),gput_lt (by omega),gput_lt (by omega),gput_lt (by omega),gput_lt (by omega),gput_lt (by omega),gput_ne (by omega)]
         rw [gput_ne (by omega),gput_eq]
         rw [HCS.out]; simp [wdC]
      ·have hlwI:¬(((s3.out.getD k []).length:Nat) : Int)=(r:Int):=by omega
       have HX:Hide (wI r k (row.drop i) i s3=some s3):=⟨by rw [List.drop_eq_getElem_cons hlt3]; unfold wI; rw [if_neg (fun h=>hlw h.2)]⟩
       generalize (s3.out.getD k []).length=lw at *
       clear hwne
       iterate 8 all_goals try first|with_reducible refine splitI (fun h=>?_) fun h=>?_|with_reducible refine splitBI (fun h=>?_) fun h=>?_|simp (maxSteps:=999999) (disch:=first|assumption|omega|(simp;done)|fail) [Tryz.results70, *]
       refine ihN.out (T.length - (k+1)) _ _ (by omega) ⟨k+1,n3,gN,s3,L3,by omega,rfl,rfl,hgn,hgo,hgs,HM3,⟨HV3.out.trans (by rw [HX.out]; rfl)⟩,by simp [*],by simp [*],by simp [*],by simp [*],by simp [*],by simp [*],by simp⟩
   ·have hlt3I:¬(i:Int) < I:=by omega
    have HX:Hide (wI r k (row.drop i) i s3=some s3):=⟨by rw [List.drop_eq_nil_iff.2 (by omega)]; rfl⟩
    iterate 8 all_goals try first|with_reducible refine splitI (fun h=>?_) fun h=>?_|with_reducible refine splitBI (fun h=>?_) fun h=>?_|simp (maxSteps:=999999) (disch:=first|assumption|omega|(simp;done)|fail) [Tryz.results70, *]
    refine ihN.out (T.length - (k+1)) _ _ (by omega) ⟨k+1,n3,gN,s3,L3,by omega,rfl,rfl,hgn,hgo,hgs,HM3,⟨HV3.out.trans (by rw [HX.out]; rfl)⟩,by simp [*],by simp [*],by simp [*],by simp [*],by simp [*],by simp [*],by simp⟩
  ·have hlt2I:¬(k:Int) < (T.length:Int):=by omega
   have hk2:k=T.length:=by omega
   have hv:=HV2.out
   rw [hk2,List.drop_length] at hv
   have hv2:V=if s2.many=st.many then some s2 else wR T (T.length - (r+1)) (r+1) s2:=hv
   clear hv HV2 hk2
   by_cases hmm:s2.many=st.many
   ·rw [if_pos hmm] at hv2
    have HVV:=Hide.mk hv2
    have hmI:(st.many:Int)=(s2.many:Int):=by omega
    rw [hmI] at w7
    clear hv2 hmm hmI
    by_cases hfin:s2.many < T.length
    ·have hfinI:(s2.many:Int) < (T.length:Int):=by omega
     have HNIL:Hide (rWords T=[]):=⟨by rw [HRW.out,HVV.out]; exact if_pos hfin⟩
     iterate 8 all_goals try first|with_reducible refine splitI (fun h=>?_) fun h=>?_|with_reducible refine splitBI (fun h=>?_) fun h=>?_|simp (maxSteps:=999999) (disch:=first|assumption|omega|(simp;done)|fail) [Tryz.results70, *]
     exact ⟨gM,n2,.lit (.slice none 0 0),by simp,by have:=HM2.out.lt; omega,HM2.out.keep,by rw [HNIL.out]; exact ⟨by simp,by simp,[],.inl ⟨rfl,rfl,.inl rfl⟩,⟨rfl,fun k hk=>by simp at hk⟩,by simp⟩⟩
    ·have hfinI:¬(s2.many:Int) < (T.length:Int):=by omega
     have HSOME:Hide (rWords T=s2.out):=⟨by rw [HRW.out,HVV.out]; exact if_neg hfin⟩
     iterate 8 all_goals try first|with_reducible refine splitI (fun h=>?_) fun h=>?_|with_reducible refine splitBI (fun h=>?_) fun h=>?_|simp (maxSteps:=999999) (disch:=first|assumption|omega|(simp;done)|fail) [Tryz.results70, *]
     exact ⟨gM,n2,.sl (n+1) 0 T.length T.length,by simp,by have:=HM2.out.lt; omega,HM2.out.keep,by rw [HSOME.out]; exact HM2.out.list hgo hl⟩
   ·rw [if_neg hmm] at hv2
    have HVV:=Hide.mk hv2
    have hmI:¬(s2.many:Int)=(st.many:Int):=by omega
    clear hv2 hmm
    iterate 8 all_goals try first|with_reducible refine splitI (fun h=>?_) fun h=>?_|with_reducible refine splitBI (fun h=>?_) fun h=>?_|simp (maxSteps:=999999) (disch:=first|assumption|omega|(simp;done)|fail) [Tryz.results70, *]
    exact ih.out (T.length - (r+1)) _ _ (by omega) ⟨r+1,n2,gM,s2,L2,by omega,rfl,rfl,hgn,hgo,hgs,HM2,HVV,by simp [*],by simp [*],by simp [*],by simp [*],by simp⟩
 ·have hltI:¬(r:Int) < (T.length:Int):=by omega
  have hv:=HV.out
  rw [show T.length - r=0 by omega] at hv
  have HVV:Hide (V=some st):=⟨hv⟩
  clear hv HV
  by_cases hfin:st.many < T.length
  ·have hfinI:(st.many:Int) < (T.length:Int):=by omega
   have HNIL:Hide (rWords T=[]):=⟨by rw [HRW.out,HVV.out]; exact if_pos hfin⟩
   iterate 8 all_goals try first|with_reducible refine splitI (fun h=>?_) fun h=>?_|with_reducible refine splitBI (fun h=>?_) fun h=>?_|simp (maxSteps:=999999) (disch:=first|assumption|omega|(simp;done)|fail) [Tryz.results70, *]
   exact ⟨gL,n',.lit (.slice none 0 0),by simp,by have:=HM.out.lt; omega,HM.out.keep,by rw [HNIL.out]; exact ⟨by simp,by simp,[],.inl ⟨rfl,rfl,.inl rfl⟩,⟨rfl,fun k hk=>by simp at hk⟩,by simp⟩⟩
  ·have hfinI:¬(st.many:Int) < (T.length:Int):=by omega
   have HSOME:Hide (rWords T=st.out):=⟨by rw [HRW.out,HVV.out]; exact if_neg hfin⟩
   iterate 8 all_goals try first|with_reducible refine splitI (fun h=>?_) fun h=>?_|with_reducible refine splitBI (fun h=>?_) fun h=>?_|simp (maxSteps:=999999) (disch:=first|assumption|omega|(simp;done)|fail) [Tryz.results70, *]
   exact ⟨gL,n',.sl (n+1) 0 T.length T.length,by simp,by have:=HM.out.lt; omega,HM.out.keep,by rw [HSOME.out]; exact HM.out.list hgo hl⟩
theorem TreeW.keep {g g' : Nat→Option Blk} {n n' : Nat} {T:List (List (Int×Int))} {sv:AV} (h:TreeW g n T sv) (hn:n≤n') (hg:∀ b,b < n→g' b=g b) : TreeW g' n' T sv:=h.mono hn hg
theorem rCheckTree_w (I O:Int) (T:List (List (Int×Int))) (g:Nat→Option Blk) (n:Nat) (sv:AV) (hT:TreeW g n T sv) :
  WC 0 Tryz.prog 58 [.agg [.lit (.int .i64 I),.lit (.int .i64 O),sv]] ⟨.fn g,n⟩ fun r=>r=.ret (.lit (.int .i64 (treeErr I O T))) ⟨.fn g,n⟩:=by
 refine WC.drop1 rfl ?_
 obtain ⟨svs,hsv,hr⟩:=hT.ex
 have hl:=hT.len
 have hlen:=@lenV Tryz.prog _ _ _ _ _ hsv
 have h1s:=hsv.one
 have hone:allOne [.lit (.int .i64 I),.lit (.int .i64 O),sv]=true:=by simp [h1s]
 have HS:=Hide.mk hsv
 have HR:=Hide.mk hr
 have HT:=Hide.mk hT
 clear hsv hr hT
 obtain ⟨ret,hret⟩ : ∃ b,b=treeErr I O T:=⟨_,rfl⟩
 rw [← hret]
 rw [treeErr_eq] at hret
 unfold rTreeErr at hret
 by_cases t1:I > 16
 ·have hr:ret=3:=by rw [hret,if_pos (.inl t1)]
  clear hret
  refine WC.enterP (noO_ok _ _) hG pl58 Tryz.func58 rfl (by decide +kernel) (Nat.le_of_ble_eq_true (by kernel_rfl)) ?_
  iterate 8 all_goals try first|with_reducible refine splitI (fun h=>?_) fun h=>?_|with_reducible refine splitBI (fun h=>?_) fun h=>?_|simp (maxSteps:=999999) (disch:=first|assumption|omega|(simp;done)|fail) [Tryz.results58, *]
  all_goals exact ⟨Nat.le_succ n,fun b hb=>gput_lt hb⟩
 by_cases t2:O > 16
 ·have hr:ret=3:=by rw [hret,if_pos (.inr (.inl t2))]
  clear hret
  refine WC.enterP (noO_ok _ _) hG pl58 Tryz.func58 rfl (by decide +kernel) (Nat.le_of_ble_eq_true (by kernel_rfl)) ?_
  iterate 8 all_goals try first|with_reducible refine splitI (fun h=>?_) fun h=>?_|with_reducible refine splitBI (fun h=>?_) fun h=>?_|simp (maxSteps:=999999) (disch:=first|assumption|omega|(simp;done)|fail) [Tryz.results58, *]
  all_goals exact ⟨Nat.le_succ n,fun b hb=>gput_lt hb⟩
 by_cases t3:T.length > 65537
 ·have hr:ret=3:=by rw [hret,if_pos (.inr (.inr t3))]
  have t3I:65537 < (T.length:Int):=by omega
  clear hret
  refine WC.enterP (noO_ok _ _) hG pl58 Tryz.func58 rfl (by decide +kernel) (Nat.le_of_ble_eq_true (by kernel_rfl)) ?_
  iterate 8 all_goals try first|with_reducible refine splitI (fun h=>?_) fun h=>?_|with_reducible refine splitBI (fun h=>?_) fun h=>?_|simp (maxSteps:=999999) (disch:=first|assumption|omega|(simp;done)|fail) [Tryz.results58, *]
  all_goals exact ⟨Nat.le_succ n,fun b hb=>gput_lt hb⟩
 have t3I:¬65537 < (T.length:Int):=by omega
 rw [if_neg (by omega)] at hret
 by_cases t4:I < 1
 ·have hr:ret=1:=by rw [hret,if_pos (.inl t4)]
  clear hret
  refine WC.enterP (noO_ok _ _) hG pl58 Tryz.func58 rfl (by decide +kernel) (Nat.le_of_ble_eq_true (by kernel_rfl)) ?_
  iterate 8 all_goals try first|with_reducible refine splitI (fun h=>?_) fun h=>?_|with_reducible refine splitBI (fun h=>?_) fun h=>?_|simp (maxSteps:=999999) (disch:=first|assumption|omega|(simp;done)|fail) [Tryz.results58, *]
  all_goals exact ⟨Nat.le_succ n,fun b hb=>gput_lt hb⟩
 by_cases t5:O < 1
 ·have hr:ret=1:=by rw [hret,if_pos (.inr (.inl t5))]
  clear hret
  refine WC.enterP (noO_ok _ _) hG pl58 Tryz.func58 rfl (by decide +kernel) (Nat.le_of_ble_eq_true (by kernel_rfl)) ?_
  iterate 8 all_goals try first|with_reducible refine splitI (fun h=>?_) fun h=>?_|with_reducible refine splitBI (fun h=>?_) fun h=>?_|simp (maxSteps:=999999) (disch:=first|assumption|omega|(simp;done)|fail) [Tryz.results58, *]
  all_goals exact ⟨Nat.le_succ n,fun b hb=>gput_lt hb⟩
 by_cases t6:T.length < 1
 ·have hr:ret=1:=by rw [hret,if_pos (.inr (.inr t6))]
  have t6I:(T.length:Int) < 1:=by omega
  clear hret
  refine WC.enterP (noO_ok _ _) hG pl58 Tryz.func58 rfl (by decide +kernel) (Nat.le_of_ble_eq_true (by kernel_rfl)) ?_
  iterate 8 all_goals try first|with_reducible refine splitI (fun h=>?_) fun h=>?_|with_reducible refine splitBI (fun h=>?_) fun h=>?_|simp (maxSteps:=999999) (disch:=first|assumption|omega|(simp;done)|fail) [Tryz.results58, *]
  all_goals exact ⟨Nat.le_succ n,fun b hb=>gput_lt hb⟩
 have t6I:¬(T.length:Int) < 1:=by omega
 rw [if_neg (by omega)] at hret
 have HRET:=Hide.mk hret
 clear hret
 refine WC.enterP (noO_ok _ _) hG pl58 Tryz.func58 rfl (by decide +kernel) (Nat.le_of_ble_eq_true (by kernel_rfl)) ?_
 iterate 8 all_goals try first|with_reducible refine splitI (fun h=>?_) fun h=>?_|with_reducible refine splitBI (fun h=>?_) fun h=>?_|simp (maxSteps:=999999) (disch:=first|assumption|omega|(simp;done)|fail) [Tryz.results58, *]
 refine LX.ind (fun m gf H'=>∃ (k:Nat) (gL:Nat→Option Blk) (n' : Nat),k≤T.length∧m=T.length - k∧H'=⟨.fn gL,n'⟩∧n < n'∧Hide (∀ b,b < n→gL b=g b)∧gL n=some (.cells [.lit (.int .i64 I),.lit (.int .i64 O),sv] true 0) ∧
  Hide (∀ r∈T.take k,(r.length:Int)=I∧∀ e∈r,okE T.length O e=true)∧gf 1=some (.ptr n 0)∧gf 3=some (.lit (.int .i64 k))) (m0:=T.length) ?_ ?_
 ·exact ⟨0,_,_,Nat.zero_le _,rfl,rfl,by omega,⟨fun b hb=>gput_lt hb⟩,gput_eq,⟨by simp⟩,by simp,by simp⟩
 rintro m gf H' ⟨k,gL,n',hk,rfl,rfl,hn',HG,hgn,HA,w1,w3⟩ ih
 refine LX.roundP (noO_ok _ _) hG pl58 (by decide +kernel) ?_
 by_cases hlt:k < T.length
 ·have hltI:(k:Int) < (T.length:Int):=by omega
  obtain ⟨q1,hw1,hrep⟩:=HR.out.2 k hlt
  obtain ⟨a2,off,ha2,hrow,hia⟩:=HS.out.ia (P:=Tryz.prog) hlt 1
  simp only [Nat.mul_one] at hia
  have hkl:k < svs.length:=(List.getElem?_eq_some_iff.1 hw1).1
  have HCELL:Hide (∀ gX:Nat→Option Blk,(∀ b,b < n→gX b=g b)→loadB (some (false,1)) (gX a2) (off+k)=some q1):=⟨fun gX hX=>by
   have hcell:=(hrow.mono (hX a2 ha2)).one (k:=k) (s:=1) hkl
   rwa [(List.getElem?_eq_some_iff.1 hw1).2] at hcell⟩
  have hcell:=HCELL.out gL HG.out
  have hlw:=@lenV Tryz.prog _ _ _ _ _ hrep
  have HTT:Hide (T.take (k+1)=T.take k++[T[k]]):=⟨by rw [List.take_succ,List.getElem?_eq_getElem hlt]; rfl⟩
  have HMEM:=Hide.mk (List.getElem_mem hlt)
  have hrl:=HT.out.rows _ HMEM.out
  have HREP:=Hide.mk hrep
  clear hrow hrep hw1 ha2
  generalize T[k]=row at *
  have h1q:oneC q1=true:=HREP.out.one
  by_cases u1:(row.length:Int)=I
  ·subst u1
   iterate 8 all_goals try first|with_reducible refine splitI (fun h=>?_) fun h=>?_|with_reducible refine splitBI (fun h=>?_) fun h=>?_|simp (maxSteps:=999999) (disch:=first|assumption|omega|(simp;done)|fail) [Tryz.results58, *]
   refine LX.ind (fun m gf H'=>∃ (i:Nat) (gM:Nat→Option Blk) (n2:Nat),i≤row.length∧m=row.length - i∧H'=⟨.fn gM,n2⟩∧n < n2∧Hide (∀ b,b < n→gM b=g b)∧gM n=some (.cells [.lit (.int .i64 (row.length:Int)),.lit (.int .i64 O),sv] true 0) ∧
    Hide (∀ e∈row.take i,okE T.length O e=true)∧gf 1=some (.ptr n 0)∧gf 3=some (.lit (.int .i64 k))∧gf 4=some (.lit (.int .i64 i))) (m0:=row.length) ?_ ?_
   ·exact ⟨0,gL,n',Nat.zero_le _,rfl,rfl,hn',HG,hgn,⟨by simp⟩,by simp [*],by simp [*],by simp⟩
   clear hcell w1 w3 hgn
   rintro m gf H' ⟨i,gM,n2,hi,rfl,rfl,hn2,HGM,hgMn,HP,x1,x3,x4⟩ ih2
   have hcell:=HCELL.out gM HGM.out
   refine LX.roundP (noO_ok _ _) hG pl58 (by decide +kernel) ?_
   by_cases hlt2:i < row.length
   ·have hlt2I:(i:Int) < (row.length:Int):=by omega
    obtain ⟨a3,of3,ha3,hia3,hc3⟩:=RepE.at HREP.out hlt2
    rw [← HGM.out a3 ha3] at hc3
    have HTK:Hide (row.take (i+1)=row.take i++[row[i]]):=⟨by rw [List.take_succ,List.getElem?_eq_getElem hlt2]; rfl⟩
    have HE:=Hide.mk (List.getElem_mem hlt2)
    generalize row[i]=e at *
    obtain ⟨to,eo⟩:=e
    simp only [edC] at hc3
    by_cases c1:1≤to
    ·have d1:¬to = -1:=by omega
     by_cases c2:to < (T.length:Int)
     ·by_cases c3:0≤eo
      ·by_cases c4:eo < O
       ·have hok2:okE T.length O (to,eo)=true:=by unfold okE; rw [decide_eq_true (by dsimp only; omega:1≤(to,eo).1∧(to,eo).1 < (T.length:Int)∧0≤(to,eo).2∧(to,eo).2 < O),Bool.true_or]
        have HP2:Hide (∀ e∈row.take (i+1),okE T.length O e=true):=⟨fun e he=>by
         rw [HTK.out] at he
         rcases List.mem_append.1 he with h | h
         ·exact HP.out e h
         ·rw [List.mem_singleton.1 h]; exact hok2⟩
        clear hok2
        iterate 8 all_goals try first|with_reducible refine splitI (fun h=>?_) fun h=>?_|with_reducible refine splitBI (fun h=>?_) fun h=>?_|simp (maxSteps:=999999) (disch:=first|assumption|omega|(simp;done)|fail) [Tryz.results58, *]
        exact ih2.out (row.length - (i+1)) _ _ (by omega) ⟨i+1,_,_,by omega,rfl,rfl,by omega,⟨fun b hb=>(gput_lt (by omega)).trans (HGM.out b hb)⟩,(gput_lt (by omega)).trans hgMn,HP2,by simp [*],by simp [*],by simp⟩
       ·have hr:ret=1:=by
         rw [HRET.out,if_neg]
         intro h
         rw [Bool.and_eq_true,Bool.and_eq_true] at h
         have h2:=List.all_eq_true.1 h.1.1 row HMEM.out
         rw [Bool.and_eq_true] at h2
         have h3:=List.all_eq_true.1 h2.2 (to,eo) HE.out
         unfold okE at h3
         rcases Bool.or_eq_true_iff.1 h3 with h | h
         ·have h4:=of_decide_eq_true h; dsimp only at h4; omega
         ·have h4:=of_decide_eq_true h; dsimp only at h4; omega
        iterate 8 all_goals try first|with_reducible refine splitI (fun h=>?_) fun h=>?_|with_reducible refine splitBI (fun h=>?_) fun h=>?_|simp (maxSteps:=999999) (disch:=first|assumption|omega|(simp;done)|fail) [Tryz.results58, *]
        exact ⟨Nat.le_of_lt (Nat.lt_succ_of_lt hn2),fun b (hb:b < n)=>(gput_lt (by omega)).trans (HGM.out b hb)⟩
      ·have hr:ret=1:=by
        rw [HRET.out,if_neg]
        intro h
        rw [Bool.and_eq_true,Bool.and_eq_true] at h
        have h2:=List.all_eq_true.1 h.1.1 row HMEM.out
        rw [Bool.and_eq_true] at h2
        have h3:=List.all_eq_true.1 h2.2 (to,eo) HE.out
        unfold okE at h3
        rcases Bool.or_eq_true_iff.1 h3 with h | h
        ·have h4:=of_decide_eq_true h; dsimp only at h4; omega
        ·have h4:=of_decide_eq_true h; dsimp only at h4; omega
       iterate 8 all_goals try first|with_reducible refine splitI (fun h=>?_) fun h=>?_|with_reducible refine splitBI (fun h=>?_) fun h=>?_|simp (maxSteps:=999999) (disch:=first|assumption|omega|(simp;done)|fail) [Tryz.results58, *]
       exact ⟨Nat.le_of_lt (Nat.lt_succ_of_lt hn2),fun b (hb:b < n)=>(gput_lt (by omega)).trans (HGM.out b hb)⟩
     ·have hr:ret=1:=by
       rw [HRET.out,if_neg]
       intro h
       rw [Bool.and_eq_true,Bool.and_eq_true] at h
       have h2:=List.all_eq_true.1 h.1.1 row HMEM.out
       rw [Bool.and_eq_true] at h2
       have h3:=List.all_eq_true.1 h2.2 (to,eo) HE.out
       unfold okE at h3
       rcases Bool.or_eq_true_iff.1 h3 with h | h
       ·have h4:=of_decide_eq_true h; dsimp only at h4; omega
       ·have h4:=of_decide_eq_true h; dsimp only at h4; omega
      iterate 8 all_goals try first|with_reducible refine splitI (fun h=>?_) fun h=>?_|with_reducible refine splitBI (fun h=>?_) fun h=>?_|simp (maxSteps:=999999) (disch:=first|assumption|omega|(simp;done)|fail) [Tryz.results58, *]
      exact ⟨Nat.le_of_lt (Nat.lt_succ_of_lt hn2),fun b (hb:b < n)=>(gput_lt (by omega)).trans (HGM.out b hb)⟩
    ·by_cases d1:to = -1
     ·subst d1
      by_cases d2:eo = -1
      ·subst d2
       have hok2:okE T.length O ((-1:Int),(-1:Int))=true:=by unfold okE; rw [decide_eq_true (by dsimp only; omega:((-1:Int),(-1:Int)).1 = -1∧(((-1:Int),(-1:Int)).2 = -1∨((-1:Int),(-1:Int)).2 = -2)),Bool.or_true]
       have HP2:Hide (∀ e∈row.take (i+1),okE T.length O e=true):=⟨fun e he=>by
        rw [HTK.out] at he
        rcases List.mem_append.1 he with h | h
        ·exact HP.out e h
        ·rw [List.mem_singleton.1 h]; exact hok2⟩
       clear hok2
       iterate 8 all_goals try first|with_reducible refine splitI (fun h=>?_) fun h=>?_|with_reducible refine splitBI (fun h=>?_) fun h=>?_|simp (maxSteps:=999999) (disch:=first|assumption|omega|(simp;done)|fail) [Tryz.results58, *]
       exact ih2.out (row.length - (i+1)) _ _ (by omega) ⟨i+1,_,_,by omega,rfl,rfl,by omega,⟨fun b hb=>(gput_lt (by omega)).trans (HGM.out b hb)⟩,(gput_lt (by omega)).trans hgMn,HP2,by simp [*],by simp [*],by simp⟩
      ·by_cases d3:eo = -2
       ·subst d3
        have hok2:okE T.length O ((-1:Int),(-2:Int))=true:=by unfold okE; rw [decide_eq_true (by dsimp only; omega:((-1:Int),(-2:Int)).1 = -1∧(((-1:Int),(-2:Int)).2 = -1∨((-1:Int),(-2:Int)).2 = -2)),Bool.or_true]
        have HP2:Hide (∀ e∈row.take (i+1),okE T.length O e=true):=⟨fun e he=>by
         rw [HTK.out] at he
         rcases List.mem_append.1 he with h | h
         ·exact HP.out e h
         ·rw [List.mem_singleton.1 h]; exact hok2⟩
        clear hok2
        iterate 8 all_goals try first|with_reducible refine splitI (fun h=>?_) fun h=>?_|with_reducible refine splitBI (fun h=>?_) fun h=>?_|simp (maxSteps:=999999) (disch:=first|assumption|omega|(simp;done)|fail) [Tryz.results58, *]
        exact ih2.out (row.length - (i+1)) _ _ (by omega) ⟨i+1,_,_,by omega,rfl,rfl,by omega,⟨fun b hb=>(gput_lt (by omega)).trans (HGM.out b hb)⟩,(gput_lt (by omega)).trans hgMn,HP2,by simp [*],by simp [*],by simp⟩
       ·have hr:ret=1:=by
         rw [HRET.out,if_neg]
         intro h
         rw [Bool.and_eq_true,Bool.and_eq_true] at h
         have h2:=List.all_eq_true.1 h.1.1 row HMEM.out
         rw [Bool.and_eq_true] at h2
         have h3:=List.all_eq_true.1 h2.2 ((-1:Int),eo) HE.out
         unfold okE at h3
         rcases Bool.or_eq_true_iff.1 h3 with h | h
         ·have h4:=of_decide_eq_true h; dsimp only at h4; omega
         ·have h4:=of_decide_eq_true h; dsimp only at h4; omega
        iterate 8 all_goals try first|with_reducible refine splitI (fun h=>?_) fun h=>?_|with_reducible refine splitBI (fun h=>?_) fun h=>?_|simp (maxSteps:=999999) (disch:=first|assumption|omega|(simp;done)|fail) [Tryz.results58, *]
        exact ⟨Nat.le_of_lt (Nat.lt_succ_of_lt hn2),fun b (hb:b < n)=>(gput_lt (by omega)).trans (HGM.out b hb)⟩
     ·have hr:ret=1:=by
       rw [HRET.out,if_neg]
       intro h
       rw [Bool.and_eq_true,Bool.and_eq_true] at h
       have h2:=List.all_eq_true.1 h.1.1 row HMEM.out
       rw [Bool.and_eq_true] at h2
       have h3:=List.all_eq_true.1 h2.2 (to,eo) HE.out
       unfold okE at h3
       rcases Bool.or_eq_true_iff.1 h3 with h | h
       ·have h4:=of_decide_eq_true h; dsimp only at h4; omega
       ·have h4:=of_decide_eq_true h; dsimp only at h4; omega
      iterate 8 all_goals try first|with_reducible refine splitI (fun h=>?_) fun h=>?_|with_reducible refine splitBI (fun h=>?_) fun h=>?_|simp (maxSteps:=999999) (disch:=first|assumption|omega|(simp;done)|fail) [Tryz.results58, *]
      exact ⟨Nat.le_of_lt (Nat.lt_succ_of_lt hn2),fun b (hb:b < n)=>(gput_lt (by omega)).trans (HGM.out b hb)⟩
   ·have hlt2I:¬(i:Int) < (row.length:Int):=by omega
    have hi2:i=row.length:=by omega
    have HA2:Hide (∀ r∈T.take (k+1),(r.length:Int)=(row.length:Int)∧∀ e∈r,okE T.length O e=true):=⟨fun r hr=>by
     rw [HTT.out] at hr
     rcases List.mem_append.1 hr with h | h
     ·exact HA.out r h
     ·rw [List.mem_singleton.1 h]
      have:=HP.out
      rw [hi2,List.take_length] at this
      exact ⟨rfl,this⟩⟩
    clear hi2
    iterate 8 all_goals try first|with_reducible refine splitI (fun h=>?_) fun h=>?_|with_reducible refine splitBI (fun h=>?_) fun h=>?_|simp (maxSteps:=999999) (disch:=first|assumption|omega|(simp;done)|fail) [Tryz.results58, *]
    exact ih.out (T.length - (k+1)) _ _ (by omega) ⟨k+1,gM,n2,by omega,rfl,rfl,hn2,HGM,hgMn,HA2,by simp [*],by simp⟩
  ·have hr:ret=1:=by
    rw [HRET.out,if_neg]
    intro h
    rw [Bool.and_eq_true,Bool.and_eq_true] at h
    have h2:=List.all_eq_true.1 h.1.1 row HMEM.out
    rw [Bool.and_eq_true] at h2
    exact u1 (of_decide_eq_true h2.1)
   iterate 8 all_goals try first|with_reducible refine splitI (fun h=>?_) fun h=>?_|with_reducible refine splitBI (fun h=>?_) fun h=>?_|simp (maxSteps:=999999) (disch:=first|assumption|omega|(simp;done)|fail) [Tryz.results58, *]
   exact ⟨Nat.le_of_lt hn',fun b hb=>HG.out b hb⟩
 ·have hltI:¬(k:Int) < (T.length:Int):=by omega
  have hk2:k=T.length:=by omega
  have hall:∀ r∈T,(r.length:Int)=I∧∀ e∈r,okE T.length O e=true:=by
   have:=HA.out
   rw [hk2,List.take_length] at this
   exact this
  have hall2:(T.all fun r=>decide ((r.length:Int)=I) && r.all (okE T.length O))=true:=List.all_eq_true.2 fun r hr=>by
   rw [decide_eq_true (hall r hr).1,Bool.true_and]
   exact List.all_eq_true.2 (hall r hr).2
  have HRET2:Hide (ret=if (decide ((rWords T).length=T.length) && incW (rWords T))=true then 0 else 1):=⟨by rw [HRET.out,hall2,Bool.true_and]⟩
  have HWD:=Hide.mk (rWords_w I O T hall (by omega) gL n' sv (HT.out.keep (Nat.le_of_lt hn') HG.out))
  clear hall hall2 hk2 HA HRET
  iterate 8 all_goals try first|with_reducible refine splitI (fun h=>?_) fun h=>?_|with_reducible refine splitBI (fun h=>?_) fun h=>?_|simp (maxSteps:=999999) (disch:=first|assumption|omega|(simp;done)|fail) [Tryz.results58, *]
  refine WC.mono HWD.out ?_
  rintro _ ⟨g2,n2,wv,rfl,hn2,hg2,hWL0⟩
  have hWL:=hWL0.low
  clear hWL0
  have hg2n:g2 n=some (.cells [.lit (.int .i64 I),.lit (.int .i64 O),sv] true 0):=(hg2 n hn').trans hgn
  have HG2:Hide (∀ b,b < n→g2 b=g b):=⟨fun b hb=>(hg2 b (by omega)).trans (HG.out b hb)⟩
  obtain ⟨wvs,hwv,hwr,hwc⟩:=hWL.ex
  have HWL:=Hide.mk hWL
  have HWV:=Hide.mk hwv
  have HWR:=Hide.mk hwr
  have h1w:=hwv.one
  have hlen2:=@lenV Tryz.prog _ _ _ _ _ hwv
  clear hg2 hWL hwr hwc hwv
  generalize rWords T=ws at *
  by_cases hwl:ws.length=T.length
  ·rw [hwl] at hlen2
   have HRET3:Hide (ret=if incW ws=true then 0 else 1):=⟨by rw [HRET2.out,decide_eq_true hwl,Bool.true_and]⟩
   have HWLE:=Hide.mk hwl
   clear hwl
   iterate 8 all_goals try first|with_reducible refine splitI (fun h=>?_) fun h=>?_|with_reducible refine splitBI (fun h=>?_) fun h=>?_|simp (maxSteps:=999999) (disch:=first|assumption|omega|(simp;done)|fail) [Tryz.results58, *]
   refine LX.ind (fun m gf H'=>∃ (k:Nat),k+1≤T.length∧m=T.length - k∧H'=⟨.fn g2,n2⟩∧Hide (∀ j,j < k→cmpM (ws.getD j []) (ws.getD (j+1) []) < 0)∧gf 1=some (.ptr n 0)∧gf 7=some wv∧gf 8=some (.lit (.int .i64 ((k:Int)+1)))) (m0:=T.length) ?_ ?_
   ·exact ⟨0,by omega,rfl,rfl,⟨fun j hj=>by omega⟩,by simp [*],by simp [*],by simp⟩
   clear w1 w3
   rintro m gf H' ⟨k,hk,rfl,rfl,HP,w1,w7,w8⟩ ih3
   refine LX.roundP (noO_ok _ _) hG pl58 (by decide +kernel) ?_
   by_cases hlt:k+1 < T.length
   ·have hltI:(k:Int)+1 < (T.length:Int):=by omega
    have hkw:k < ws.length:=by rw [HWLE.out]; omega
    have hkw2:k+1 < ws.length:=by rw [HWLE.out]; omega
    obtain ⟨q1,hw1,hrep⟩:=HWR.out.2 k hkw
    obtain ⟨q2,hw2,hrep2⟩:=HWR.out.2 (k+1) hkw2
    obtain ⟨a2,off,ha2,hrow,hia⟩:=HWV.out.ia (P:=Tryz.prog) hkw 1
    obtain ⟨a3,of3,ha3,hrow3,hia3⟩:=HWV.out.ia (P:=Tryz.prog) hkw2 1
    simp only [Nat.mul_one] at hia hia3
    have hcell:=hrow.one (k:=k) (s:=1) (List.getElem?_eq_some_iff.1 hw1).1
    rw [(List.getElem?_eq_some_iff.1 hw1).2] at hcell
    have hcell3:=hrow3.one (k:=k+1) (s:=1) (List.getElem?_eq_some_iff.1 hw2).1
    rw [(List.getElem?_eq_some_iff.1 hw2).2] at hcell3
    have hia4:∀ {H:Mem} {ev:Ev} {o:Oper} {t:TypeId},iaS Tryz.prog H ev o t (some (none,1)) (some wv) (some (.lit (.int .i64 ((k:Int)+1))))=.val (.ptr a3 (of3+(k+1))) H:=fun {H ev o t}=>hia3
    have HCMP:=Hide.mk (rcmp2_w ws[k] ws[k+1] (HWL.out.words _ (List.getElem_mem hkw)) (HWL.out.words _ (List.getElem_mem hkw2)) g2 n2 q1 q2 hrep hrep2)
    have HD:Hide (cmpM (ws.getD k []) (ws.getD (k+1) [])=cmpM ws[k] ws[k+1]):=⟨by rw [List.getD_eq_getElem?_getD,List.getElem?_eq_getElem hkw,List.getD_eq_getElem?_getD,List.getElem?_eq_getElem hkw2]; rfl⟩
    clear hrow hrow3 hrep hrep2 hw1 hw2 ha2 ha3 hia3
    generalize cmpM ws[k] ws[k+1]=z at *
    clear hkw hkw2
    iterate 8 all_goals try first|with_reducible refine splitI (fun h=>?_) fun h=>?_|with_reducible refine splitBI (fun h=>?_) fun h=>?_|simp (maxSteps:=999999) (disch:=first|assumption|omega|(simp;done)|fail) [Tryz.results58, *]
    refine WC.mono HCMP.out ?_
    rintro _ rfl
    by_cases hz:0≤z
    ·have hr:ret=1:=by
      rw [HRET3.out,if_neg]
      intro h
      have h2:=List.all_eq_true.1 h k (by rw [HWLE.out]; simp; omega)
      have h3:=of_decide_eq_true h2
      rw [HD.out] at h3
      omega
     iterate 8 all_goals try first|with_reducible refine splitI (fun h=>?_) fun h=>?_|with_reducible refine splitBI (fun h=>?_) fun h=>?_|simp (maxSteps:=999999) (disch:=first|assumption|omega|(simp;done)|fail) [Tryz.results58, *]
     exact ⟨by show n≤n2; omega,fun b hb=>HG2.out b hb⟩
    ·have HP2:Hide (∀ j,j < k+1→cmpM (ws.getD j []) (ws.getD (j+1) []) < 0):=⟨fun j hj=>by
      by_cases e:j=k
      ·subst e; rw [HD.out]; omega
      ·exact HP.out j (by omega)⟩
     iterate 8 all_goals try first|with_reducible refine splitI (fun h=>?_) fun h=>?_|with_reducible refine splitBI (fun h=>?_) fun h=>?_|simp (maxSteps:=999999) (disch:=first|assumption|omega|(simp;done)|fail) [Tryz.results58, *]
     exact ih3.out (T.length - (k+1)) _ _ (by omega) ⟨k+1,by omega,rfl,rfl,HP2,by simp [*],by simp [*],by simp⟩
   ·have hltI:¬(k:Int)+1 < (T.length:Int):=by omega
    have hr:ret=0:=by
     rw [HRET3.out,if_pos]
     refine List.all_eq_true.2 fun j hj=>?_
     have:j < ws.length - 1:=by simpa using hj
     rw [HWLE.out] at this
     exact decide_eq_true (HP.out j (by omega))
    iterate 8 all_goals try first|with_reducible refine splitI (fun h=>?_) fun h=>?_|with_reducible refine splitBI (fun h=>?_) fun h=>?_|simp (maxSteps:=999999) (disch:=first|assumption|omega|(simp;done)|fail) [Tryz.results58, *]
    exact ⟨by show n≤n2; omega,fun b hb=>HG2.out b hb⟩
  ·have hwlI:¬(ws.length:Int)=(T.length:Int):=by omega
   have hr:ret=1:=by
    rw [HRET2.out,if_neg]
    intro h
    rw [Bool.and_eq_true] at h
    exact hwl (of_decide_eq_true h.1)
   iterate 8 all_goals try first|with_reducible refine splitI (fun h=>?_) fun h=>?_|with_reducible refine splitBI (fun h=>?_) fun h=>?_|simp (maxSteps:=999999) (disch:=first|assumption|omega|(simp;done)|fail) [Tryz.results58, *]
   exact ⟨by show n≤n2; omega,fun b hb=>HG2.out b hb⟩
end Go.Ai
end
section
namespace Go.Ai
set_option maxRecDepth 10000
structure TL (I:Nat) (O:Int) (V:List Int→Option Int) (ws:List (List Int)) (T:List (List (Int×Int))) (W:List (List Int)) : Prop where
 nod:Nod V ws
 srt:Srt2 ws
 rows:T=rowsT V ws I
 lab:Lab T W
 vin:∀ x i o,V (x++[i])=some o→(0≤i∧i < (I:Int))∧(o ≠ -1→0≤o∧o < O)
variable {I:Nat} {O:Int} {V:List Int→Option Int} {ws:List (List Int)} {T:List (List (Int×Int))} {W:List (List Int)}
theorem TL.len (h:TL I O V ws T W) : T.length=ws.length:=by rw [h.rows,rowsT_len]
theorem TL.nil (h:TL I O V ws T W) : []∈ws:=(h.nod.mem []).2 (.inl rfl)
theorem TL.row (h:TL I O V ws T W) {k:Nat} (hk:k < ws.length) (hk2:k < T.length) : T[k]=rowW V ws I ws[k]:=by
 have e:T.getD k []=rowW V ws I ws[k]:=by rw [h.rows]; exact rowsT_at hk
 rw [List.getD_eq_getElem?_getD,List.getElem?_eq_getElem hk2] at e
 exact e
theorem TL.ent (h:TL I O V ws T W) {k i:Nat} (hk:k < ws.length) (hk2:k < T.length) (hi:i < (T[k]).length) : i < I∧T[k][i]=entT V ws ws[k] i:=by
 have e:=h.row hk hk2
 have hi2:i < I:=by rw [e,rowW_len] at hi; exact hi
 refine ⟨hi2,?_⟩
 have e2:(T[k])[i]?=some (entT V ws ws[k] i):=by rw [e]; exact rowW_at hi2
 rw [List.getElem?_eq_getElem hi] at e2
 exact Option.some.inj e2
theorem TL.rlen (h:TL I O V ws T W) {k:Nat} (hk2:k < T.length) : (T[k]).length=I:=by
 have hk:k < ws.length:=by rw [← h.len]; exact hk2
 rw [h.row hk hk2,rowW_len]
theorem TL.edo (h:TL I O V ws T W) {p j t:Nat} {o:Int} (hE:EdO T p j t o) : ∃ (hp:p < ws.length) (ht:t < ws.length),V ws[t]=some o∧o ≠ -1∧ws[t]=ws[p]++[(j:Int)]:=by
 obtain ⟨hp2,hj,e⟩:=hE
 have hp:p < ws.length:=by rw [← h.len]; exact hp2
 obtain ⟨hj2,e2⟩:=h.ent hp hp2 hj
 rw [e2] at e
 unfold entT at e
 cases hv:V (ws[p]++[(j:Int)]) with
 | none=>rw [hv] at e; injection e with e1 e2; omega
 | some o' =>
  rw [hv] at e
  dsimp only at e
  by_cases ho:o' = -1
  ·rw [if_pos ho] at e; injection e with e1 e2; omega
  ·rw [if_neg ho] at e
   injection e with e1 e2
   obtain ⟨hl,hat⟩:=idx_at ((h.nod.mem _).2 (.inr ⟨o',hv,ho⟩))
   have ht:ws.idxOf (ws[p]++[(j:Int)])=t:=by omega
   subst ht
   exact ⟨hp,hl,by rw [hat,hv,e2],by rw [← e2]; exact ho,hat⟩
theorem TL.weq (h:TL I O V ws T W) : ∀ (n t:Nat),t≤n→∀ ht:t < ws.length,W.getD t []=ws[t]
 | n,0,_,ht=>by
  obtain ⟨hl,hat⟩:=idx_at h.nil
  rw [h.lab.nil]
  have e:=idx_nil h.srt h.nil
  have:ws[ws.idxOf []]?=some []:=by rw [List.getElem?_eq_getElem hl,hat]
  rw [e,List.getElem?_eq_getElem ht] at this
  exact (Option.some.inj this).symm
 | 0,t+1,hn,_=>by omega
 | n+1,t+1,hn,ht=>by
  obtain ⟨p,j,hE⟩:=h.lab.src (t+1) (by omega) (by rw [h.len]; exact ht)
  obtain ⟨_,_,h3,h4⟩:=h.lab.ed p j _ hE
  obtain ⟨o,hO⟩:=hE.out
  obtain ⟨hp,ht2,_,_,e⟩:=h.edo hO
  rw [h4,h.weq n p (by omega) hp,e]
theorem TL.resp (h:TL I O V ws T W) : ∀ (n t:Nat),t≤n→∀ ht:t < ws.length,(respM T 0 ws[t]).length=(ws[t]).length∧(∀ k,k < (ws[t]).length→V ((ws[t]).take (k+1))=some ((respM T 0 ws[t]).getD k 0))∧∀ o∈respM T 0 ws[t],0≤o∧o < O
 | n,0,_,ht=>by
  have e:ws[0]=[]:=by rw [← h.weq 0 0 (Nat.le_refl _) ht]; exact h.lab.nil
  rw [e]
  exact ⟨rfl,⟨fun k hk=>(by cases hk),fun o ho=>(by cases ho)⟩⟩
 | 0,t+1,hn,_=>by omega
 | n+1,t+1,hn,ht=>by
  obtain ⟨p,j,hE⟩:=h.lab.src (t+1) (by omega) (by rw [h.len]; exact ht)
  obtain ⟨_,_,h3,_⟩:=h.lab.ed p j _ hE
  obtain ⟨o,hO⟩:=hE.out
  obtain ⟨hp,ht2,hv,hne,e⟩:=h.edo hO
  obtain ⟨i1,i2,i3⟩:=h.resp n p (by omega) hp
  have er:=resp_ed h.lab hO
  rw [h.weq (t+1) (t+1) (Nat.le_refl _) ht,h.weq p p (Nat.le_refl _) hp] at er
  refine ⟨by rw [er,e,List.length_append,List.length_append,i1]; rfl,fun k hk=>?_,fun x hx=>?_⟩
  ·by_cases hkp:k < (ws[p]).length
   ·have e2:(ws[t+1]).take (k+1)=(ws[p]).take (k+1):=by rw [e,List.take_append_of_le_length (by omega)]
    rw [e2,i2 k hkp,er,List.getD_eq_getElem?_getD,List.getD_eq_getElem?_getD,List.getElem?_append_left (by omega)]
   ·have hk2:k=(ws[p]).length:=by rw [e,List.length_append,List.length_singleton] at hk; omega
    have e2:(ws[t+1]).take (k+1)=ws[t+1]:=List.take_of_length_le (by rw [e,List.length_append,List.length_singleton]; omega)
    rw [e2,hv,er,List.getD_eq_getElem?_getD,List.getElem?_append_right (by omega),show k - (respM T 0 ws[p]).length=0 by omega]
    rfl
  ·rw [er] at hx
   rcases List.mem_append.1 hx with h5 | h5
   ·exact i3 x h5
   ·rw [List.mem_singleton.1 h5]
    have h6:=(h.vin ws[p] (j:Int) o (by rw [← e]; exact hv)).2 hne
    exact h6
def EW (T:List (List (Int×Int))) (W:List (List Int)) (x:List Int) : Prop:=∃ s∈endsM T 0,x=eW W s
theorem TL.ew (h:TL I O V ws T W) {x:List Int} : EW T W x↔(∃ p∈ws,∃ i:Nat,i < I∧V (p++[(i:Int)])=some (-1)∧x=p++[(i:Int)])∨(x∈ws∧∀ i:Nat,i < I→V (x++[(i:Int)])=none):=by
 constructor
 ·rintro ⟨s,hs,rfl⟩
  rcases end_iff.1 hs with ⟨k,hk,i,hi,he,rfl⟩ | ⟨k,hk,hb,rfl⟩
  ·have hk2:k < ws.length:=by rw [← h.len]; exact hk
   obtain ⟨hi2,e⟩:=h.ent hk2 hk hi
   rw [he] at e
   refine .inl ⟨ws[k],List.getElem_mem hk2,i,hi2,?_,?_⟩
   ·unfold entT at e
    cases hv:V (ws[k]++[(i:Int)]) with
    | none=>rw [hv] at e; injection e with e1 e2; cases e2
    | some o =>
     rw [hv] at e
     dsimp only at e
     by_cases ho:o = -1
     ·rw [ho]
     ·rw [if_neg ho] at e; injection e with e1 e2; omega
   ·unfold eW
    dsimp only
    rw [if_neg (by omega),h.weq k k (Nat.le_refl _) hk2]
  ·have hk2:k < ws.length:=by rw [← h.len]; exact hk
   have e0:eW W (k,-1)=ws[k]:=by unfold eW; dsimp only; rw [if_pos rfl,List.append_nil,h.weq k k (Nat.le_refl _) hk2]
   rw [e0]
   refine .inr ⟨List.getElem_mem hk2,fun i hi=>?_⟩
   have hi2:i < (T[k]).length:=by rw [h.rlen hk]; exact hi
   obtain ⟨_,e⟩:=h.ent hk2 hk hi2
   unfold lastB at hb
   have hb2:=of_decide_eq_true (List.all_eq_true.1 hb _ (List.getElem_mem hi2))
   rw [e] at hb2
   unfold entT at hb2
   cases hv:V (ws[k]++[(i:Int)]) with
   | none=>rfl
   | some o =>
    rw [hv] at hb2
    dsimp only at hb2
    by_cases ho:o = -1
    ·rw [if_pos ho] at hb2; exact absurd rfl hb2.2
    ·rw [if_neg ho] at hb2; have:=hb2.1; dsimp only at this; omega
 ·rintro (⟨p,hp,i,hi,hv,rfl⟩ | ⟨hx,hn⟩)
  ·obtain ⟨k,hk2,rfl⟩:=List.getElem_of_mem hp
   have hk:k < T.length:=by rw [h.len]; exact hk2
   have hi2:i < (T[k]).length:=by rw [h.rlen hk]; exact hi
   obtain ⟨_,e⟩:=h.ent hk2 hk hi2
   refine ⟨(k,(i:Int)),end_iff.2 (.inl ⟨k,hk,i,hi2,?_,rfl⟩),?_⟩
   ·rw [e]; unfold entT; rw [hv]; rfl
   ·unfold eW; dsimp only; rw [if_neg (by omega),h.weq k k (Nat.le_refl _) hk2]
  ·obtain ⟨k,hk2,rfl⟩:=List.getElem_of_mem hx
   have hk:k < T.length:=by rw [h.len]; exact hk2
   refine ⟨(k,-1),end_iff.2 (.inr ⟨k,hk,?_,rfl⟩),?_⟩
   ·unfold lastB
    rw [List.all_eq_true]
    intro e he
    obtain ⟨i,hi,rfl⟩:=List.getElem_of_mem he
    obtain ⟨hi2,e⟩:=h.ent hk2 hk hi
    rw [e]
    unfold entT
    rw [hn i hi2]
    rfl
   ·unfold eW; dsimp only; rw [if_pos rfl,List.append_nil,h.weq k k (Nat.le_refl _) hk2]
theorem okR_pos {O:Int} : ∀ (r:List Int),(∀ o∈r,0≤o∧o < O)→1≤O→okR O false r=true∧okR O false (r++[-1])=true
 | [],_,hO=>⟨rfl,okR_cons (by omega) (by omega) (fun h=>by cases h) rfl⟩
 | o :: r,h,hO=>by
  have h1:=h o (by simp)
  obtain ⟨i1,i2⟩:=okR_pos r (fun x hx=>h x (by simp [hx])) hO
  refine ⟨okR_cons (by omega) h1.2 (fun h=>by cases h) ?_,okR_cons (by omega) h1.2 (fun h=>by cases h) ?_⟩
  ·rw [decide_eq_false (by omega)]; exact i1
  ·rw [decide_eq_false (by omega)]; exact i2
theorem TL.endr (h:TL I O V ws T W) (hO:1≤O) {x:List Int} (hx:EW T W x) : (respM T 0 x).length=x.length∧(∀ k,k < x.length→V (x.take (k+1))=some ((respM T 0 x).getD k 0))∧okR O false (respM T 0 x)=true∧inW x I=true:=by
 have hin:∀ (n:Nat) (y:List Int),y.length=n→y∈ws→inW y I=true:=by
  intro n
  induction n with
  | zero=>intro y hy _; rw [List.eq_nil_of_length_eq_zero hy]; rfl
  | succ n ih =>
   intro y hy hm
   have hne:y≠[]:=fun e=>by rw [e] at hy; cases hy
   have e:=List.dropLast_concat_getLast hne
   rw [← e] at hm ⊢
   rcases (h.nod.mem _).1 hm with h1 | ⟨o,h1,h2⟩
   ·simp at h1
   ·have h3:=ih y.dropLast (by rw [List.length_dropLast]; omega) (h.nod.up hm)
    have h4:=(h.vin _ _ _ h1).1
    unfold inW at h3 ⊢
    rw [List.all_append,h3]
    simp [h4]
 rcases h.ew.1 hx with ⟨p,hp,i,hi,hv,rfl⟩ | ⟨hm,_⟩
 ·obtain ⟨k,hk2,rfl⟩:=List.getElem_of_mem hp
  have hk:k < T.length:=by rw [h.len]; exact hk2
  have hi2:i < (T[k]).length:=by rw [h.rlen hk]; exact hi
  obtain ⟨_,e⟩:=h.ent hk2 hk hi2
  have he:T[k][i]=(-1,-2):=by rw [e]; unfold entT; rw [hv]; rfl
  have er:=resp_end h.lab hk hi2 he
  have e0:eW W (k,(i:Int))=ws[k]++[(i:Int)]:=by unfold eW; dsimp only; rw [if_neg (by omega),h.weq k k (Nat.le_refl _) hk2]
  rw [e0,h.weq k k (Nat.le_refl _) hk2] at er
  obtain ⟨i1,i2,i3⟩:=h.resp k k (Nat.le_refl _) hk2
  rw [er]
  refine ⟨by rw [List.length_append,List.length_append,i1]; rfl,fun m hm=>?_,(okR_pos _ i3 hO).2,?_⟩
  ·by_cases hkp:m < (ws[k]).length
   ·rw [List.take_append_of_le_length (by omega),i2 m hkp,List.getD_eq_getElem?_getD,List.getD_eq_getElem?_getD,List.getElem?_append_left (by omega)]
   ·have hm2:m=(ws[k]).length:=by rw [List.length_append,List.length_singleton] at hm; omega
    rw [List.take_of_length_le (by rw [List.length_append,List.length_singleton]; omega),hv,List.getD_eq_getElem?_getD,List.getElem?_append_right (by omega),show m - (respM T 0 ws[k]).length=0 by omega]
    rfl
  ·have h3:=hin _ _ rfl hp
   unfold inW at h3 ⊢
   rw [List.all_append,h3]
   simp
   omega
 ·obtain ⟨k,hk2,rfl⟩:=List.getElem_of_mem hm
  obtain ⟨i1,i2,i3⟩:=h.resp k k (Nat.le_refl _) hk2
  exact ⟨i1,i2,(okR_pos _ i3 hO).1,hin _ _ rfl hm⟩
theorem TL.ext (h:TL I O V ws T W) : ∀ (n t:Nat) (ht:t < ws.length),ws.length - t≤n→∃ x,EW T W x∧(ws[t]).length≤x.length∧x.take (ws[t]).length=ws[t]
 | 0,t,ht,hn=>by omega
 | n+1,t,ht,hn=>by
  by_cases hl:∀ i:Nat,i < I→V (ws[t]++[(i:Int)])=none
  ·exact ⟨ws[t],h.ew.2 (.inr ⟨List.getElem_mem ht,hl⟩),Nat.le_refl _,by rw [List.take_length]⟩
  ·have hex:∃ i:Nat,i < I∧V (ws[t]++[(i:Int)])≠none:=by
    refine Classical.byContradiction fun hc=>hl fun i hi=>Classical.byContradiction fun h2=>hc ⟨i,hi,h2⟩
   obtain ⟨i,hi,hv⟩:=hex
   cases hv2:V (ws[t]++[(i:Int)]) with
   | none=>exact absurd hv2 hv
   | some o =>
    by_cases ho:o = -1
    ·refine ⟨ws[t]++[(i:Int)],h.ew.2 (.inl ⟨ws[t],List.getElem_mem ht,i,hi,by rw [hv2,ho],rfl⟩),by rw [List.length_append]; omega,?_⟩
     rw [List.take_append_of_le_length (Nat.le_refl _),List.take_length]
    ·obtain ⟨hu,hat⟩:=idx_at ((h.nod.mem _).2 (.inr ⟨o,hv2,ho⟩))
     have hlt:t < ws.idxOf (ws[t]++[(i:Int)]):=by
      rcases Nat.lt_trichotomy t (ws.idxOf (ws[t]++[(i:Int)])) with h1 | h1 | h1
      ·exact h1
      ·have:ws[t]=ws[t]++[(i:Int)]:=by
        have e2:ws[ws.idxOf (ws[t]++[(i:Int)])]?=some (ws[t]++[(i:Int)]):=by rw [List.getElem?_eq_getElem hu,hat]
        rw [← h1,List.getElem?_eq_getElem ht] at e2
        exact Option.some.inj e2
       have:=congrArg List.length this
       simp at this
      ·have h2:=h.srt _ _ hu ht h1
       rw [hat] at h2
       have h3:=h2.le
       rw [List.length_append,List.length_singleton] at h3
       omega
     obtain ⟨x,x1,x2,x3⟩:=h.ext n _ hu (by omega)
     rw [hat] at x2 x3
     refine ⟨x,x1,by rw [List.length_append] at x2; omega,?_⟩
     have h4:=congrArg (List.take (ws[t]).length) x3
     rw [List.take_take,List.take_append_of_le_length (Nat.le_refl _),List.take_length,List.length_append,Nat.min_eq_left (by omega)] at h4
     exact h4
end Go.Ai
end
section
namespace Go.Ai
set_option maxRecDepth 10000
variable {I:Nat} {O:Int} {V:List Int→Option Int} {ws:List (List Int)} {T:List (List (Int×Int))} {W:List (List Int)}
def LogOf (T:List (List (Int×Int))) (W:List (List Int)) (U:List (List Int×List Int)) : Prop:=∀ u,u∈U↔EW T W u.1∧u.2=respM T 0 u.1
theorem TL.valid (h:TL I O V ws T W) (hO:1≤O) {U:List (List Int×List Int)} (hU:LogOf T W U) : ∀ u∈U,validB I O u=true:=by
 intro u hu
 obtain ⟨h1,h2⟩:=(hU u).1 hu
 obtain ⟨i1,_,i3,i4⟩:=h.endr hO h1
 exact validB_of (by rw [h2]; exact i1) i4 (by rw [h2]; exact i3)
theorem TL.get (h:TL I O V ws T W) (hO:1≤O) {U:List (List Int×List Int)} (hU:LogOf T W U) {u:List Int×List Int} (hu:u∈U) {k:Nat} (hk:k < u.1.length) : V (u.1.take (k+1))=some (u.2.getD k 0):=by
 obtain ⟨h1,h2⟩:=(hU u).1 hu
 rw [h2]
 exact (h.endr hO h1).2.1 k hk
theorem TL.cons (h:TL I O V ws T W) (hO:1≤O) {U:List (List Int×List Int)} (hU:LogOf T W U) : Cons U:=by
 intro u hu t ht k hk hk2 he
 have h1:=h.get hO hU hu hk
 have h2:=h.get hO hU ht hk2
 rw [he,h2] at h1
 exact (Option.some.inj h1).symm
theorem TL.anti (h:TL I O V ws T W) (hO:1≤O) {x y:List Int} (hx:EW T W x) (hy:EW T W y) (hl:x.length≤y.length) (he:y.take x.length=x) : x=y:=by
 by_cases hlt:x.length=y.length
 ·rw [← he,hlt,List.take_length]
 ·have hl2:x.length < y.length:=by omega
  have hxw:x∈ws:=by
   rcases h.ew.1 hy with ⟨p,hp,i,hi,hv,rfl⟩ | ⟨hm,_⟩
   ·rw [List.length_append,List.length_singleton] at hl2
    rw [List.take_append_of_le_length (by omega)] at he
    have:=h.nod.pre _ (p.drop x.length) rfl (x:=x) (by rw [← he,List.length_take,Nat.min_eq_left (by omega),List.take_append_drop]; exact hp)
    exact this
   ·exact h.nod.pre _ (y.drop x.length) rfl (x:=x) (by
     have e:x++y.drop x.length=y:=by
      have:=List.take_append_drop x.length y
      rw [he] at this; exact this
     rw [e]; exact hm)
  have hk:=(h.endr hO hy).2.1 x.length hl2
  have hin:=(h.endr hO hy).2.2.2
  have ht:y.take (x.length+1)=x++[y[x.length]]:=by rw [take_snoc hl2,he]
  rw [ht] at hk
  have hr:0≤y[x.length]∧y[x.length] < (I:Int):=by
   unfold inW at hin
   rw [List.all_eq_true] at hin
   exact of_decide_eq_true (hin _ (List.getElem_mem hl2))
  rcases h.ew.1 hx with ⟨p,hp,i,hi,hv,rfl⟩ | ⟨_,hn⟩
  ·rcases (h.nod.mem _).1 hxw with h1 | ⟨o,h1,h2⟩
   ·simp at h1
   ·rw [hv] at h1; injection h1 with h1; exact absurd h1.symm h2
  ·obtain ⟨j,hj⟩ : ∃ j:Nat,y[x.length]=(j:Int):=⟨(y[x.length]).toNat,by omega⟩
   rw [hj] at hk hr
   rw [hn j (by omega)] at hk
   cases hk
theorem TL.count (hO:1≤O) {ts:List (List Int×List Int)} (h:TL I O (valT ts) ws T W) {X:List (List Int)} (hX:∀ x∈X,EW T W x) (hnd:X.Nodup) : X.length≤max 1 ts.length:=by
 by_cases h0:[]∈X
 ·have hall:∀ x∈X,x∈[([] : List Int)]:=fun x hx=>by
   have:=h.anti hO (hX _ h0) (hX x hx) (Nat.zero_le _) rfl
   rw [← this]; simp
  have:=nodup_len hnd hall
  simp at this
  omega
 ·have hex:∀ x∈X,∃ i:Nat,i < ts.length∧∃ hi:i < ts.length,x.length≤(ts[i]).1.length∧(ts[i]).1.take x.length=x:=by
   intro x hx
   have hne:x≠[]:=fun e=>h0 (e ▸ hx)
   have hpos:0 < x.length:=List.length_pos_iff.2 hne
   have h1:=(h.endr hO (hX x hx)).2.1 (x.length - 1) (by omega)
   rw [show x.length - 1+1=x.length by omega,List.take_length] at h1
   obtain ⟨u,g1,g2,g3,g4,g5⟩:=valT_of h1
   obtain ⟨i,hi,rfl⟩:=List.getElem_of_mem g1
   exact ⟨i,hi,hi,g3,g4⟩
  classical
  let f:List Int→List Int:=fun x=>if hx:x∈X then [((Classical.choose (hex x hx) : Nat) : Int)] else []
  have hf:∀ x (hx:x∈X),f x=[((Classical.choose (hex x hx) : Nat) : Int)]:=fun x hx=>by simp [f,hx]
  have hinj:∀ x (hx:x∈X) y (hy:y∈X),f x=f y→x=y:=by
   intro x hx y hy he
   rw [hf x hx,hf y hy] at he
   have e1:Classical.choose (hex x hx)=Classical.choose (hex y hy):=by
    have:=List.cons.inj he
    omega
   obtain ⟨_,a2,a3,a4⟩:=Classical.choose_spec (hex x hx)
   obtain ⟨_,b2,b3,b4⟩:=Classical.choose_spec (hex y hy)
   have e2:(ts[Classical.choose (hex x hx)]'a2).1=(ts[Classical.choose (hex y hy)]'b2).1:=by
    congr 1
    exact getElem_congr_idx e1
   rw [e2] at a3 a4
   generalize (ts[Classical.choose (hex y hy)]'b2).1=w at *
   rcases Nat.le_total x.length y.length with hl | hl
   ·exact h.anti hO (hX x hx) (hX y hy) hl (by rw [← b4,List.take_take,Nat.min_eq_left hl]; exact a4)
   ·exact (h.anti hO (hX y hy) (hX x hx) hl (by rw [← a4,List.take_take,Nat.min_eq_left hl]; exact b4)).symm
  have hn2:(X.map f).Nodup:=by
   have:∀ (l:List (List Int)),(∀ x∈l,x∈X)→l.Nodup→(l.map f).Nodup:=by
    intro l
    induction l with
    | nil=>intro _ _; exact List.nodup_nil
    | cons a l ih =>
     intro hs hn
     rw [List.map_cons,List.nodup_cons]
     rw [List.nodup_cons] at hn
     refine ⟨fun hm=>?_,ih (fun x hx=>hs x (by simp [hx])) hn.2⟩
     obtain ⟨b,hb,e⟩:=List.mem_map.1 hm
     have:=hinj b (hs b (by simp [hb])) a (hs a (by simp)) e
     exact hn.1 (this ▸ hb)
   exact this X (fun _ h=>h) hnd
  have hsub:∀ z∈X.map f,z∈(List.range ts.length).map fun i:Nat=>[(i:Int)]:=by
   intro z hz
   obtain ⟨x,hx,rfl⟩:=List.mem_map.1 hz
   rw [hf x hx]
   exact List.mem_map.2 ⟨_,List.mem_range.2 (Classical.choose_spec (hex x hx)).1,rfl⟩
  have:=nodup_len hn2 hsub
  simp at this
  omega
theorem TL.short (hO:1≤O) {ts:List (List Int×List Int)} (h:TL I O (valT ts) ws T W) {k:Nat} (hk:∀ t∈ts,t.1.length≤k) {x:List Int} (hx:EW T W x) : x.length≤k:=by
 by_cases hne:x=[]
 ·rw [hne]; exact Nat.zero_le _
 ·have hpos:0 < x.length:=List.length_pos_iff.2 hne
  have h1:=(h.endr hO hx).2.1 (x.length - 1) (by omega)
  rw [show x.length - 1+1=x.length by omega,List.take_length] at h1
  obtain ⟨u,g1,g2,g3,g4,g5⟩:=valT_of h1
  exact Nat.le_trans g3 (hk u g1)
end Go.Ai
end
section
namespace Go.Ai
set_option maxRecDepth 10000
def EdLt (s t:Nat×Int) : Prop:=s.1 < t.1∨(s.1=t.1∧s.2 < t.2)
theorem refL_pw (n:Nat) : ∀ (row:List (Int×Int)) (i:Nat),(refL n row i).Pairwise EdLt∧∀ s∈refL n row i,s.1=n∧(i:Int)≤s.2
 | [],i=>⟨List.Pairwise.nil,fun s hs=>by cases hs⟩
 | e :: row,i=>by
  obtain ⟨h1,h2⟩:=refL_pw n row (i+1)
  have e0:refL n (e :: row) i=(if e.1 = -1∧e.2 = -2 then [(n,(i:Int))] else [])++refL n row (i+1):=rfl
  rw [e0]
  split
  ·refine ⟨?_,fun s hs=>?_⟩
   ·rw [List.singleton_append,List.pairwise_cons]
    refine ⟨fun s hs=>?_,h1⟩
    have:=h2 s hs
    exact .inr ⟨this.1.symm,by have:=this.2; show (i:Int) < s.2; omega⟩
   ·rcases List.mem_append.1 hs with h | h
    ·rw [List.mem_singleton.1 h]; exact ⟨rfl,Int.le_refl _⟩
    ·have:=h2 s h; exact ⟨this.1,by omega⟩
  ·refine ⟨h1,fun s hs=>?_⟩
   have:=h2 s hs; exact ⟨this.1,by omega⟩
theorem refL_none {n:Nat} {row:List (Int×Int)} (h:lastB row=true) (i:Nat) : refL n row i=[]:=by
 apply List.eq_nil_iff_forall_not_mem.2
 intro s hs
 obtain ⟨k,hk,h1,h2,_⟩:=refL_mem.1 hs
 unfold lastB at h
 have:=of_decide_eq_true (List.all_eq_true.1 h _ (List.getElem_mem hk))
 exact this.2 h2
theorem endsM_pw:∀ (T:List (List (Int×Int))) (n:Nat),(endsM T n).Pairwise EdLt∧∀ s∈endsM T n,n≤s.1
 | [],n=>⟨List.Pairwise.nil,fun s hs=>by cases hs⟩
 | r :: T,n=>by
  obtain ⟨h1,h2⟩:=endsM_pw T (n+1)
  obtain ⟨h3,h4⟩:=refL_pw n r 0
  have e0:endsM (r :: T) n=endR n r++endsM T (n+1):=rfl
  have hR:(endR n r).Pairwise EdLt∧∀ s∈endR n r,s.1=n:=by
   unfold endR
   by_cases hl:lastB r=true
   ·rw [if_pos hl,refL_none hl,List.nil_append]
    exact ⟨List.pairwise_singleton _ _,fun s hs=>by rw [List.mem_singleton.1 hs]⟩
   ·rw [if_neg hl,List.append_nil]
    exact ⟨h3,fun s hs=>(h4 s hs).1⟩
  rw [e0]
  refine ⟨List.pairwise_append.2 ⟨hR.1,h1,fun s hs t ht=>.inl ?_⟩,fun s hs=>?_⟩
  ·rw [hR.2 s hs]; have:=h2 t ht; omega
  ·rcases List.mem_append.1 hs with h | h
   ·rw [hR.2 s h]; exact Nat.le_refl _
   ·have:=h2 s h; omega
theorem Lab.eW_inj {T:List (List (Int×Int))} {W:List (List Int)} (hL:Lab T W) {s t:Nat×Int} (hs:s∈endsM T 0) (ht:t∈endsM T 0) (h:eW W s=eW W t) : s=t:=by
 have key:∀ (k:Nat) (hk:k < T.length) (i:Nat) (hi:i < (T[k]).length) (_:T[k][i]=(-1,-2)) (k' : Nat) (_:k' < T.length),W.getD k' []=W.getD k []++[(i:Int)]→False:=by
  intro k hk i hi he k' hk' hw
  have h0:k'≠0:=fun e=>by rw [e,hL.nil] at hw; simp at hw
  obtain ⟨p,j,hE⟩:=hL.src k' (by omega) hk'
  obtain ⟨_,_,_,h4⟩:=hL.ed p j k' hE
  rw [h4] at hw
  obtain ⟨e1,e2⟩:=snoc_inj hw
  have e3:=hL.inj hE.lt hk e1
  have e4:j=i:=by omega
  subst e3 e4
  obtain ⟨o,hp,hj,e⟩:=hE.out
  rw [he] at e
  injection e with e5 e6
  omega
 rcases end_iff.1 hs with ⟨k,hk,i,hi,he,rfl⟩ | ⟨k,hk,hb,rfl⟩ <;> rcases end_iff.1 ht with ⟨k',hk',i',hi',he',rfl⟩ | ⟨k',hk',hb',rfl⟩
 ·unfold eW at h
  dsimp only at h
  rw [if_neg (by omega),if_neg (by omega)] at h
  obtain ⟨e1,e2⟩:=snoc_inj h
  have:=hL.inj hk hk' e1
  rw [this,e2]
 ·unfold eW at h
  dsimp only at h
  rw [if_neg (by omega),if_pos rfl,List.append_nil] at h
  exact (key k hk i hi he k' hk' h.symm).elim
 ·unfold eW at h
  dsimp only at h
  rw [if_pos rfl,if_neg (by omega),List.append_nil] at h
  exact (key k' hk' i' hi' he' k hk h).elim
 ·unfold eW at h
  dsimp only at h
  simp only [if_true,List.append_nil] at h
  rw [hL.inj hk hk' h]
theorem Lab.nodup {T:List (List (Int×Int))} {W:List (List Int)} (hL:Lab T W) : ((bkM T W).map fun u=>u.1).Nodup:=by
 unfold bkM
 rw [List.map_map]
 refine List.pairwise_map.2 ?_
 refine List.Pairwise.imp_of_mem (fun {a b} ha hb hR he=>?_) (endsM_pw T 0).1
 have:=hL.eW_inj ha hb he
 subst this
 rcases hR with h | ⟨_,h⟩ <;> omega
end Go.Ai
end
section
namespace Go.Ai
open Go.Proofs
set_option maxRecDepth 10000
set_option maxHeartbeats 40000000
def keepG (c d:Nat) (g:Nat→Option Blk) : Nat→Option Blk:=fun a=>if c < a∧a≠d then g a else none
theorem keepG_out {c d:Nat} {g:Nat→Option Blk} : ∀ a x,keepG c d g a=some x→g a=some x:=by
 intro a x h
 unfold keepG at h
 split at h
 ·exact h
 ·cases h
theorem ListV.two {c d:Nat} {g:Nat→Option Blk} {n:Nat} {l:List (List Int)} {v:AV} (h:ListV (keepG c d g) n l v) : ∃ svs,SliceV g n v l.length svs∧RowsW (keepG c d g) n l svs :=
 let ⟨svs,h1,h2⟩:=h; ⟨svs,SliceV.ext (Nat.le_refl _) (fun a x _ hx=>keepG_out a x hx) h1,h2⟩
theorem ListV.ext {g g' : Nat→Option Blk} {n n' : Nat} {l:List (List Int)} {v:AV} (h:ListV g n l v) (hn:n≤n') (hg:∀ a x,a < n→g a=some x→g' a=some x) : ListV g' n' l v :=
 let ⟨svs,h1,h2⟩:=h; ⟨svs,SliceV.ext hn hg h1,h2.ext hn hg⟩
theorem ListW.v {g:Nat→Option Blk} {n:Nat} {l:List (List Int)} {sv:AV} (h:ListW g n l sv) : ListV g n l sv:=let ⟨svs,h1,h2,_⟩:=h.ex; ⟨svs,h1,h2⟩
def RowsO (gk:Nat→Option Blk) (lo:Nat) (g:Nat→Option Blk) (n B:Nat) (ts:List (List Int×List Int)) (cs:List AV) : Prop :=
 cs.length=ts.length * 2∧∀ (k:Nat) (h:k < ts.length),∃ s1 s2,cs[k * 2]?=some s1∧cs[k * 2+1]?=some s2∧RepW gk lo ts[k].1 s1∧SafeW g lo n B ts[k].2 s2
theorem RowsO.keep {gk g g' : Nat→Option Blk} {lo n n' B B' : Nat} {ts:List (List Int×List Int)} {cs:List AV} (h:RowsO gk lo g n B ts cs) (h2:n≤n') (hB:n≤B'∨B'=B∨B' < lo) (hg:∀ a,lo≤a→a < n→a≠B→g' a=g a) : RowsO gk lo g' n' B' ts cs :=
 ⟨h.1,fun k hk=>let ⟨s1,s2,h1,h3,h4,h5⟩:=h.2 k hk; ⟨s1,s2,h1,h3,h4,h5.keep (Nat.le_refl _) h2 hB hg⟩⟩
theorem RowsO.snoc {gk g:Nat→Option Blk} {lo n B:Nat} {ts:List (List Int×List Int)} {cs:List AV} (h:RowsO gk lo g n B ts cs) {t:List Int×List Int} {s1 s2:AV} (h1:RepW gk lo t.1 s1) (h2:SafeW g lo n B t.2 s2) : RowsO gk lo g n B (ts++[t]) (cs++[s1,s2]):=by
 have hl:=h.1
 refine ⟨by simp [hl]; omega,fun k hk=>?_⟩
 rw [List.length_append,List.length_singleton] at hk
 by_cases hlt:k < ts.length
 ·obtain ⟨t1,t2,e1,e2,e3,e4⟩:=h.2 k hlt
  refine ⟨t1,t2,?_,?_,?_,?_⟩
  ·rw [List.getElem?_append_left (by omega)]; exact e1
  ·rw [List.getElem?_append_left (by omega)]; exact e2
  ·rw [List.getElem_append_left hlt]; exact e3
  ·rw [List.getElem_append_left hlt]; exact e4
 ·have hk2:k=ts.length:=by omega
  subst hk2
  refine ⟨s1,s2,?_,?_,?_,?_⟩
  ·rw [List.getElem?_append_right (by omega),hl,Nat.sub_self]; rfl
  ·rw [List.getElem?_append_right (by omega),hl,show ts.length * 2+1 - ts.length * 2=1 by omega]; rfl
  ·simpa using h1
  ·simpa using h2
theorem RowsO.rows {gk g g' : Nat→Option Blk} {lo n B:Nat} {ts:List (List Int×List Int)} {cs:List AV} (h:RowsO gk lo g n B ts cs) (hn:lo≤n) (hg:∀ a x,a < lo→gk a=some x→g' a=some x) (hg2:∀ a,lo≤a→a < n→g' a=g a) : RowsT g' n ts cs :=
 ⟨h.1,fun k hk=>let ⟨s1,s2,h1,h3,h4,h5⟩:=h.2 k hk; ⟨s1,s2,h1,h3,SliceV.ext hn hg h4,(h5.keep (Nat.le_refl _) (Nat.le_refl _) (.inr (.inl rfl)) fun a h1 h2 _=>hg2 a h1 h2).rep⟩⟩
end Go.Ai
end
section
namespace Go.Ai
set_option maxRecDepth 10000
structure BF (I:Nat) (O:Int) (ts:List (List Int×List Int)) (T:List (List (Int×Int))) (W:List (List Int)) : Prop where
 lab:Lab T W
 tl:TL I O (valT ts) (nodesM ts) T W
 ne:0 < T.length
 len:T.length≤60000
 cnt:(endsM T 0).length≤200
 wl:∀ t,t < T.length→(W.getD t []).length≤256
 el:∀ s∈endsM T 0,(eW W s).length≤256
 sum:sumW W (endsM T 0)≤65536
end Go.Ai
end
section
namespace Go.Ai
open Go.Proofs
set_option maxRecDepth 10000
set_option maxHeartbeats 40000000
theorem RowsT.app {g:Nat→Option Blk} {n:Nat} {a b:List (List Int×List Int)} {ca cb:List AV} (h:RowsT g n a ca) (h2:RowsT g n b cb) : RowsT g n (a++b) (ca++cb):=by
 have hl:=h.1
 refine ⟨by simp [h.1,h2.1]; omega,fun k hk=>?_⟩
 by_cases hka:k < a.length
 ·obtain ⟨s1,s2,e1,e2,e3,e4⟩:=h.2 k hka
  refine ⟨s1,s2,?_,?_,?_,?_⟩
  ·rw [List.getElem?_append_left (by omega)]; exact e1
  ·rw [List.getElem?_append_left (by omega)]; exact e2
  ·rw [List.getElem_append_left hka]; exact e3
  ·rw [List.getElem_append_left hka]; exact e4
 ·rw [List.length_append] at hk
  obtain ⟨s1,s2,e1,e2,e3,e4⟩:=h2.2 (k - a.length) (by omega)
  refine ⟨s1,s2,?_,?_,?_,?_⟩
  ·rw [List.getElem?_append_right (by omega),← e1]; congr 1; omega
  ·rw [List.getElem?_append_right (by omega),← e2]; congr 1; omega
  ·rw [List.getElem_append_right (by omega)]; exact e3
  ·rw [List.getElem_append_right (by omega)]; exact e4
theorem TreeV.from' {g g' : Nat→Option Blk} {lo n n' : Nat} {rows:List (List (Int×Int))} {tv:AV} (h:TreeV (fromG lo g) n rows tv) (hn:n≤n') (hg:∀ a,lo≤a→a < n→g' a=g a) : TreeV g' n' rows tv:=by
 have hx:∀ a x,a < n→fromG lo g a=some x→g' a=some x:=fun a x ha hx=>by
  obtain ⟨h1,h2⟩:=fromG_in hx
  exact (hg a h1 ha).trans h2
 obtain ⟨svs,h1,h2,h3⟩:=h
 exact ⟨svs,SliceV.ext hn hx h1,h2,fun k hk=>let ⟨q,e1,e2⟩:=h3 k hk; ⟨q,e1,SliceV.ext hn hx e2⟩⟩
theorem TabV.from' {g g' : Nat→Option Blk} {lo n n' : Nat} {S E:List (List Int)} {T:List (List (Int×Int))} {sv ev tv:AV} (h:TabV (fromG lo g) n S E T sv ev tv) (hn:n≤n') (hg:∀ a,lo≤a→a < n→g' a=g a) : TabV g' n' S E T sv ev tv:=by
 have hx:∀ a x,a < n→fromG lo g a=some x→g' a=some x:=fun a x ha hx=>by
  obtain ⟨h1,h2⟩:=fromG_in hx
  exact (hg a h1 ha).trans h2
 exact ⟨h.s.ext hn hx,h.e.ext hn hx,h.t.from' hn hg⟩
theorem RowsC.from' {g:Nat→Option Blk} {lo n I:Nat} {rows:List (List (Int×Int))} {bs:List Nat} (h:RowsC g lo n I rows bs) : RowsC (fromG lo g) lo n I rows bs :=
 ⟨h.len,fun k h1 h2=>let ⟨a,b,c,d⟩:=h.at' k h1 h2; ⟨a,b,(fromG_ne a).trans c,d⟩⟩
def eCells (n I k:Nat) : List AV:=(List.range k).map (fun i=>.sl (n+i) 0 1 1)++List.replicate (I - k) (.lit (.slice none 0 0))
theorem eCells_len {n I k:Nat} (h:k≤I) : (eCells n I k).length=I:=by
 unfold eCells; simp; omega
theorem eCells_set {n I k:Nat} (h:k < I) : (eCells n I k).set k (.sl (n+k) 0 1 1)=eCells n I (k+1):=by
 unfold eCells
 rw [List.set_append,if_neg (by simp)]
 simp only [List.length_map,List.length_range,Nat.sub_self]
 rw [show I - k=(I - (k+1))+1 by omega,List.replicate_succ,List.set_cons_zero,List.range_succ,List.map_append]
 simp
theorem eCells_at {n I i:Nat} (h:i < I) : (eCells n I I)[i]?=some (.sl (n+i) 0 1 1):=by
 unfold eCells
 simp [h]
def ones (I:Nat) : List (List Int):=(List.range I).map fun i:Nat=>[(i:Int)]
def newErr (x o:Int) : Int:=if 16 < x∨16 < o then 3 else if x < 1∨o < 1 then 1 else 0
def NewR (g:Nat→Option Blk) (n:Nat) (x o:Int) (r:COut) : Prop:=∃ g' n',n≤n'∧(∀ b,b < n→g' b=g b) ∧
  ((newErr x o≠0∧r=.ret (.tup [.agg [.lit (.int .i64 0),.lit (.int .i64 0),.lit (.slice none 0 0),.lit (.slice none 0 0),.lit (.int .i64 0),.lit (.int .i64 0),.lit (.slice none 0 0)],.lit (.int .i64 (newErr x o))]) ⟨.fn g',n'⟩) ∨
   (newErr x o=0∧∃ I:Nat,x=I∧1≤I∧I≤16∧1≤o∧o≤16∧∃ b1 b2 b3,r=.ret (.tup [.agg [.lit (.int .i64 I),.lit (.int .i64 o),.sl b1 0 1 1,.sl b2 0 I I,.lit (.int .i64 I),.lit (.int .i64 o),.sl b3 0 (rowsL I []).length (rowsL I []).length],.lit (.int .i64 0)]) ⟨.fn g',n'⟩∧TabV g' n' [[]] (ones I) (rowsL I []) (.sl b1 0 1 1) (.sl b2 0 I I) (.sl b3 0 (rowsL I []).length (rowsL I []).length)∧goT I o (rowsL I []) 0 1=some (rowsL I []).length))
theorem logOK_nil {I:Nat} {o:Int} (h1:1≤I) (h2:I≤16) (h3:1≤o) (h4:o≤16) : LogOK I o []:=⟨by simp,by omega,by omega,h3,h4,by simp,by simp⟩
theorem TNew_w (x o:Int) (g:Nat→Option Blk) (n:Nat) : WC 0 Tryz.prog 12 [.lit (.int .i64 x),.lit (.int .i64 o)] ⟨.fn g,n⟩ (NewR g n x o):=by
 have he:∀ e:Int,newErr x o=e→e≠0→∀ (g' : Nat→Option Blk) (n' : Nat),n≤n'→(∀ b,b < n→g' b=g b)→NewR g n x o (.ret (.tup [.agg [.lit (.int .i64 0),.lit (.int .i64 0),.lit (.slice none 0 0),.lit (.slice none 0 0),.lit (.int .i64 0),.lit (.int .i64 0),.lit (.slice none 0 0)],.lit (.int .i64 e)]) ⟨.fn g',n'⟩):=fun e h h0 g' n' h1 h2=>⟨g',n',h1,h2,.inl ⟨by rw [h]; exact h0,by rw [h]⟩⟩
 have HE:=Hide.mk he
 clear he
 by_cases h1:16 < x
 ·have HQ:=Hide.mk (HE.out 3 (by unfold newErr; rw [if_pos (.inl h1)]) (by decide))
  generalize NewR g n x o=K at *
  refine WC.enterP (noO_ok _ _) hG [] Tryz.func12 rfl (by decide +kernel) (Nat.le_of_ble_eq_true (by kernel_rfl)) ?_
  iterate 8 all_goals try first|with_reducible refine splitI (fun h=>?_) fun h=>?_|with_reducible refine splitBI (fun h=>?_) fun h=>?_|simp (maxSteps:=999999) (disch:=first|assumption|omega|(simp;done)|fail) [Tryz.results12, *]
  exact HQ.out _ _ (by omega) fun b hb=>by simp (disch:=omega) only [gput_lt]
 by_cases h2:16 < o
 ·have HQ:=Hide.mk (HE.out 3 (by unfold newErr; rw [if_pos (.inr h2)]) (by decide))
  generalize NewR g n x o=K at *
  refine WC.enterP (noO_ok _ _) hG [] Tryz.func12 rfl (by decide +kernel) (Nat.le_of_ble_eq_true (by kernel_rfl)) ?_
  iterate 8 all_goals try first|with_reducible refine splitI (fun h=>?_) fun h=>?_|with_reducible refine splitBI (fun h=>?_) fun h=>?_|simp (maxSteps:=999999) (disch:=first|assumption|omega|(simp;done)|fail) [Tryz.results12, *]
  exact HQ.out _ _ (by omega) fun b hb=>by simp (disch:=omega) only [gput_lt]
 by_cases h3:x < 1
 ·have HQ:=Hide.mk (HE.out 1 (by unfold newErr; rw [if_neg (by omega),if_pos (.inl h3)]) (by decide))
  generalize NewR g n x o=K at *
  refine WC.enterP (noO_ok _ _) hG [] Tryz.func12 rfl (by decide +kernel) (Nat.le_of_ble_eq_true (by kernel_rfl)) ?_
  iterate 8 all_goals try first|with_reducible refine splitI (fun h=>?_) fun h=>?_|with_reducible refine splitBI (fun h=>?_) fun h=>?_|simp (maxSteps:=999999) (disch:=first|assumption|omega|(simp;done)|fail) [Tryz.results12, *]
  exact HQ.out _ _ (by omega) fun b hb=>by simp (disch:=omega) only [gput_lt]
 by_cases h4:o < 1
 ·have HQ:=Hide.mk (HE.out 1 (by unfold newErr; rw [if_neg (by omega),if_pos (.inr h4)]) (by decide))
  generalize NewR g n x o=K at *
  refine WC.enterP (noO_ok _ _) hG [] Tryz.func12 rfl (by decide +kernel) (Nat.le_of_ble_eq_true (by kernel_rfl)) ?_
  iterate 8 all_goals try first|with_reducible refine splitI (fun h=>?_) fun h=>?_|with_reducible refine splitBI (fun h=>?_) fun h=>?_|simp (maxSteps:=999999) (disch:=first|assumption|omega|(simp;done)|fail) [Tryz.results12, *]
  exact HQ.out _ _ (by omega) fun b hb=>by simp (disch:=omega) only [gput_lt]
 obtain ⟨I,rfl⟩ : ∃ I:Nat,x=I:=⟨x.toNat,by omega⟩
 have h0e:newErr I o=0:=by unfold newErr; rw [if_neg (by omega),if_neg (by omega)]
 have h5:(0:Int)≤(I:Int):=by omega
 have h6:(I:Int)≤1048576:=by omega
 have hrr:List.replicate I (AV.lit (.slice none 0 0))=eCells (n+5) I 0:=by simp [eCells]
 have HEND:=Hide.mk fun (g' : Nat→Option Blk) (n' b1 b2 b3:Nat) (q1:n≤n') (q2:∀ b,b < n→g' b=g b) (q3:TabV g' n' [[]] (ones I) (rowsL I []) (.sl b1 0 1 1) (.sl b2 0 I I) (.sl b3 0 (rowsL I []).length (rowsL I []).length)) (q4:goT I o (rowsL I []) 0 1=some (rowsL I []).length)=>(show NewR g n I o (.ret (.tup [.agg [.lit (.int .i64 I),.lit (.int .i64 o),.sl b1 0 1 1,.sl b2 0 I I,.lit (.int .i64 I),.lit (.int .i64 o),.sl b3 0 (rowsL I []).length (rowsL I []).length],.lit (.int .i64 0)]) ⟨.fn g',n'⟩) from ⟨g',n',q1,q2,.inr ⟨h0e,I,rfl,by omega,by omega,by omega,by omega,b1,b2,b3,rfl,q3,q4⟩⟩)
 generalize NewR g n I o=K at *
 clear h0e HE
 refine WC.enterP (noO_ok _ _) hG [] Tryz.func12 rfl (by decide +kernel) (Nat.le_of_ble_eq_true (by kernel_rfl)) ?_
 iterate 8 all_goals try first|with_reducible refine splitI (fun h=>?_) fun h=>?_|with_reducible refine splitBI (fun h=>?_) fun h=>?_|simp (maxSteps:=999999) (disch:=first|assumption|omega|(simp;done)|fail) [Tryz.results12, *]
 refine LX.ind (fun m gf H'=>∃ (k nL:Nat) (gL:Nat→Option Blk),k≤I∧m=I - k∧H'=⟨.fn gL,nL⟩∧nL=n+5+k∧Hide (∀ b,b < n→gL b=g b)∧gL n=some (.cells [.lit (.int .i64 0),.lit (.int .i64 0),.lit (.slice none 0 0),.lit (.slice none 0 0),.lit (.int .i64 0),.lit (.int .i64 0),.lit (.slice none 0 0)] true 0)∧gL (n+1)=some (.cells [] true 0)∧gL (n+1+1)=some (.cells [.sl (n+1) 0 0 0] true 0)∧gL (n+1+1+1)=some (.cells (eCells (n+5) I k) true 0) ∧
  gL (n+1+1+1+1)=some (.cells [.lit (.int .i64 I),.lit (.int .i64 o),.sl (n+1+1) 0 1 1,.sl (n+1+1+1) 0 I I,.lit (.int .i64 0),.lit (.int .i64 0),.lit (.slice none 0 0)] true 0)∧Hide (∀ i,i < k→gL (n+5+i)=some (.cells [.lit (.int .i64 (i:Nat))] true 0)) ∧
  gf 0=some (.lit (.int .i64 I))∧gf 1=some (.lit (.int .i64 o))∧gf 4=some (.ptr n 0)∧gf 6=some (.ptr (n+1+1+1+1) 0)∧gf 29=some (.lit (.int .i64 I))∧gf 30=some (.lit (.int .i64 k))) (m0:=I) ?_ ?_
 ·refine ⟨0,_,_,Nat.zero_le _,rfl,rfl,rfl,⟨fun b hb=>?_⟩,?_,?_,?_,?_,gput_eq,⟨fun i hi=>by omega⟩,by simp,by simp,by simp,by simp,by simp,by simp⟩
  all_goals simp (disch:=omega) only [gput_lt,gput_eq]
 clear hrr
 rintro m gf H' ⟨k,_,gL,hk,rfl,rfl,rfl,HG,hg0,hg1,hg2,hg3,hg4,HI,w0,w1,w4,w6,w29,w30⟩ ih
 refine LX.roundP (noO_ok _ _) hG [] (by decide +kernel) ?_
 by_cases hlt:k < I
 ·have hltI:(k:Int) < (I:Int):=by omega
  have hel:=eCells_len (n:=n+5) (I:=I) (k:=k) (by omega)
  have hel2:k < (eCells (n+5) I k).length:=by omega
  have HS:Hide ((eCells (n+5) I k).set k (.sl (n+5+k) 0 1 1)=eCells (n+5) I (k+1)):=⟨eCells_set hlt⟩
  iterate 8 all_goals try first|with_reducible refine splitI (fun h=>?_) fun h=>?_|with_reducible refine splitBI (fun h=>?_) fun h=>?_|simp (maxSteps:=999999) (disch:=first|assumption|omega|(simp;done)|fail) [Tryz.results12, *]
  refine ih.out (I - (k+1)) _ _ (by omega) ⟨k+1,n+5+k+1,_,by omega,rfl,rfl,by omega,⟨fun b hb=>?_⟩,?_,?_,?_,?_,?_,⟨fun i hi=>?_⟩,by simp [*],by simp [*],by simp [*],by simp [*],by simp [*],by simp⟩
  ·simp (disch:=omega) only [gput_lt,gput_ne]; exact HG.out b hb
  ·simp (disch:=omega) only [gput_lt,gput_ne]; exact hg0
  ·simp (disch:=omega) only [gput_lt,gput_ne]; exact hg1
  ·simp (disch:=omega) only [gput_lt,gput_ne]; exact hg2
  ·rw [← HS.out]; exact gput_eq
  ·simp (disch:=omega) only [gput_gt,gput_lt,gput_ne]; exact hg4
  ·by_cases e:i=k
   ·subst e; rw [gput_ne (by omega)]; exact gput_eq
   ·rw [gput_ne (by omega),gput_ne (by omega)]; exact HI.out i (by omega)
 ·have hltI:¬(k:Int) < (I:Int):=by omega
  have hke:k=I:=by omega
  subst hke
  have hLR:LogR gL (n+5+k) [] (.lit (.slice none 0 0)):=⟨[],.inl ⟨rfl,rfl,.inl rfl⟩,⟨rfl,fun i h=>by cases h⟩⟩
  have HT:=Hide.mk (TreeOf_good (I:=k) (O:=o) (ts:=[]) (logOK_nil (by omega) (by omega) (by omega) (by omega)) rfl gL (n+5+k) _ hLR (fun _ _ _ _ e=>by cases e))
  clear hLR ih
  iterate 8 all_goals try first|with_reducible refine splitI (fun h=>?_) fun h=>?_|with_reducible refine splitBI (fun h=>?_) fun h=>?_|simp (maxSteps:=999999) (disch:=first|assumption|omega|(simp;done)|fail) [Tryz.results12, *]
  refine WC.mono HT.out ?_
  rintro _ ⟨g5,n5,bs,B,rfl,hn5,hg5,hB1,hB2,hrc,hgB,hgo⟩
  have HG5:=Hide.mk hg5
  have HRC:=Hide.mk hrc
  have HGB:=Hide.mk hgB
  have HGO:=Hide.mk hgo
  have f0:=(hg5 n (by omega)).trans hg0
  have f4:=(hg5 (n+1+1+1+1) (by omega)).trans hg4
  have F1:=Hide.mk ((hg5 (n+1) (by omega)).trans hg1)
  have F2:=Hide.mk ((hg5 (n+1+1) (by omega)).trans hg2)
  have F3:=Hide.mk ((hg5 (n+1+1+1) (by omega)).trans hg3)
  clear hg5 hrc hgB hgo hg0 hg1 hg2 hg3 hg4 HT
  iterate 8 all_goals try first|with_reducible refine splitI (fun h=>?_) fun h=>?_|with_reducible refine splitBI (fun h=>?_) fun h=>?_|simp (maxSteps:=999999) (disch:=first|assumption|omega|(simp;done)|fail) [Tryz.results12, *]
  refine HEND.out _ _ _ _ _ (by omega) (fun b hb=>?_) ⟨⟨[.sl (n+1) 0 0 0],?_,⟨rfl,fun i hi=>?_⟩,fun q hq=>?_⟩,⟨eCells (n+5) k k,?_,⟨?_,fun i hi=>?_⟩,fun q hq=>?_⟩,?_⟩ HGO.out
  ·rw [gput_lt hb,gput_lt (by omega),HG5.out b (by omega)]; exact HG.out b hb
  ·exact .inr ⟨n+1+1,0,by omega,.inl ⟨1,rfl⟩,⟨[.sl (n+1) 0 0 0],true,0,by rw [gput_ne (by omega),gput_lt (by omega)]; exact F2.out,by simp,by simp⟩⟩
  ·have:i=0:=by simpa using hi
   subst this
   exact ⟨_,rfl,.inr ⟨n+1,0,by omega,.inl ⟨0,rfl⟩,⟨[],true,0,by rw [gput_ne (by omega),gput_lt (by omega)]; exact F1.out,by simp [wdC],by simp [wdC]⟩⟩⟩
  ·have:=List.mem_singleton.1 hq
   subst this
   intro a o2 m c e
   cases e; exact Nat.le_refl _
  ·refine .inr ⟨n+1+1+1,0,by omega,.inl ⟨k,by simp [ones]⟩,⟨eCells (n+5) k k,true,0,by rw [gput_ne (by omega),gput_lt (by omega)]; exact F3.out,by simp,by simp⟩⟩
  ·rw [eCells_len (Nat.le_refl _)]; simp [ones]
  ·have hi2:i < k:=by simpa [ones] using hi
   refine ⟨_,eCells_at hi2,?_⟩
   have hoi:(ones k)[i]=[(i:Int)]:=by simp [ones]
   rw [hoi]
   refine .inr ⟨n+5+i,0,by omega,.inl ⟨1,rfl⟩,⟨[.lit (.int .i64 (i:Nat))],true,0,?_,by simp [wdC],by simp [wdC]⟩⟩
   rw [gput_ne (by omega),gput_ne (by omega),HG5.out _ (by omega)]; exact HI.out i hi2
  ·obtain ⟨i,hi⟩:=List.getElem?_of_mem hq
   have hi2:i < k:=by have:=(List.getElem?_eq_some_iff.1 hi).1; rwa [eCells_len (Nat.le_refl _)] at this
   rw [eCells_at hi2] at hi
   cases hi
   intro a o2 m c e
   cases e; exact Nat.le_refl _
  ·refine (RowsC.tree HRC.out.from' hB2 (by rw [fromG_ne hB1]; exact HGB.out)).from' (Nat.le_refl _) fun a h1 h2=>?_
   rw [gput_ne (by omega),gput_ne (by omega)]
theorem rowsL_nil (I:Nat) : rowsL I []=[List.replicate I (-1,-1)]:=by
 have h:∀ l:List Nat,l.map (entT (valT []) (nodesM []) [])=List.replicate l.length (-1,-1):=fun l=>by
  induction l with
  | nil=>rfl
  | cons a l ih=>rw [List.map_cons,ih]; rfl
 show [(List.range I).map (entT (valT []) (nodesM []) [])]=_
 rw [h,List.length_range]
theorem ansM_nil {I:Nat} : ∀ {x:List Int},x≠[]→ansM (rowsL I []) 0 x=none
 | [],h=>absurd rfl h
 | i :: w,_=>by
  rw [rowsL_nil]
  unfold ansM
  have e:(([List.replicate I ((-1:Int),(-1:Int))].getD (0:Int).toNat []).getD i.toNat (-1,-1))=(-1,-1):=by
   show (List.replicate I ((-1:Int),(-1:Int))).getD i.toNat (-1,-1)=_
   rw [List.getD_eq_getElem?_getD,List.getElem?_replicate]
   split <;> rfl
  rw [e]; rfl
def pairsI (I:Nat) : List (List Int):=(ones I).flatMap fun w=>(ones I).map (w ++ ·)
theorem ones_mem {I:Nat} {w:List Int} : w∈ones I↔∃ i:Nat,i < I∧w=[(i:Int)]:=by
 unfold ones
 rw [List.mem_map]
 exact ⟨fun ⟨i,h,e⟩=>⟨i,List.mem_range.1 h,e.symm⟩,fun ⟨i,h,e⟩=>⟨i,List.mem_range.2 h,e.symm⟩⟩
theorem pairs_mem {I:Nat} {w:List Int} : w∈pairsI I↔∃ i j:Nat,i < I∧j < I∧w=[(i:Int),(j:Int)]:=by
 unfold pairsI
 rw [List.mem_flatMap]
 constructor
 ·rintro ⟨a,ha,h⟩
  obtain ⟨b,hb,rfl⟩:=List.mem_map.1 h
  obtain ⟨i,hi,rfl⟩:=ones_mem.1 ha
  obtain ⟨j,hj,rfl⟩:=ones_mem.1 hb
  exact ⟨i,j,hi,hj,rfl⟩
 ·rintro ⟨i,j,hi,hj,rfl⟩
  exact ⟨_,ones_mem.2 ⟨i,hi,rfl⟩,List.mem_map.2 ⟨_,ones_mem.2 ⟨j,hj,rfl⟩,rfl⟩⟩
theorem unks_new {I:Nat} : unksU (rowsL I []) (ones I) (wordsM I [[]])=ones I++pairsI I:=by
 have h1:∀ w,unkU (rowsL I []) (ones I) w=(ones I).map (w ++ ·):=fun w=>by
  unfold unkU
  rw [List.filter_eq_self.2]
  intro x hx
  obtain ⟨e,he,rfl⟩:=List.mem_map.1 hx
  obtain ⟨j,_,rfl⟩:=ones_mem.1 he
  rw [ansM_nil (by simp)]; rfl
 have h2:wordsM I [[]]=[] :: ones I:=by
  unfold wordsM kidsM ones
  simp
 unfold unksU pairsI
 rw [h2,funext h1,List.flatMap_cons]
 simp
theorem ones_nodup (I:Nat) : (ones I).Nodup:=by
 unfold ones
 rw [List.nodup_iff_pairwise_ne]
 refine List.pairwise_map.2 ((List.nodup_iff_pairwise_ne.1 List.nodup_range).imp fun h e=>h ?_)
 injection e with e
 omega
theorem pairs_nodup (I:Nat) : (pairsI I).Nodup:=by
 unfold pairsI
 rw [List.nodup_iff_pairwise_ne,List.pairwise_flatMap]
 refine ⟨fun a _=>List.pairwise_map.2 ((List.nodup_iff_pairwise_ne.1 (ones_nodup I)).imp fun h e=>h (List.append_cancel_left e)),?_⟩
 refine ((List.nodup_iff_pairwise_ne.1 (ones_nodup I)).imp_of_mem fun {a b} ha hb h x hx y hy e=>h ?_)
 obtain ⟨i,_,rfl⟩:=ones_mem.1 ha
 obtain ⟨j,_,rfl⟩:=ones_mem.1 hb
 obtain ⟨u,_,rfl⟩:=List.mem_map.1 hx
 obtain ⟨v,_,rfl⟩:=List.mem_map.1 hy
 simp at e
 simp [e.1]
theorem news_nodup (I:Nat) : (ones I++pairsI I).Nodup:=by
 rw [List.nodup_append]
 refine ⟨ones_nodup I,pairs_nodup I,fun a ha b hb e=>?_⟩
 obtain ⟨i,_,rfl⟩:=ones_mem.1 ha
 obtain ⟨j,k,_,_,h⟩:=pairs_mem.1 hb
 rw [h] at e; simp at e
theorem leaf_new {I:Nat} (hI:1≤I) {l:List (List Int)} (h:l.Perm (ones I++pairsI I)) : (leafM l).length=I * I:=by
 have hf:∀ w,frontM l w=frontM (ones I++pairsI I) w:=fun w=>by
  unfold frontM
  rw [Bool.eq_iff_iff,List.any_eq_true,List.any_eq_true]
  exact ⟨fun ⟨x,hx,hh⟩=>⟨x,h.mem_iff.1 hx,hh⟩,fun ⟨x,hx,hh⟩=>⟨x,h.mem_iff.2 hx,hh⟩⟩
 have h1:leafM l=l.filter fun w=>!frontM (ones I++pairsI I) w:=by
  unfold leafM
  exact List.filter_congr fun w _=>by rw [hf]
 rw [h1,(h.filter _).length_eq,List.filter_append,List.filter_eq_nil_iff.2,List.filter_eq_self.2]
 ·unfold pairsI
  have hs:∀ L:List Nat,(L.map ((fun _=>I) ∘ fun i:Nat=>[(i:Int)])).sum=L.length * I:=fun L=>by
   induction L with
   | nil=>simp
   | cons a L ih=>rw [List.map_cons,List.sum_cons,ih,List.length_cons,Nat.add_mul]; simp; omega
  simp [ones,hs]
 ·intro w hw
  obtain ⟨i,j,_,_,rfl⟩:=pairs_mem.1 hw
  rw [Bool.not_eq_true',Bool.eq_false_iff]
  unfold frontM
  intro hh
  rw [List.any_eq_true] at hh
  obtain ⟨v,hv,hh⟩:=hh
  have hh:=of_decide_eq_true hh
  rcases List.mem_append.1 hv with hv | hv
  ·obtain ⟨_,_,rfl⟩:=ones_mem.1 hv
   simp at hh
  ·obtain ⟨_,_,_,_,rfl⟩:=pairs_mem.1 hv
   simp at hh
 ·intro w hw
  obtain ⟨i,hi,rfl⟩:=ones_mem.1 hw
  have:frontM (ones I++pairsI I) [(i:Int)]=true:=by
   unfold frontM
   rw [List.any_eq_true]
   exact ⟨[(i:Int),((0:Nat) : Int)],List.mem_append.2 (.inr (pairs_mem.2 ⟨i,0,hi,by omega,rfl⟩)),by simp⟩
  rw [this]; simp
theorem tab_new {I:Nat} {o:Int} (h1:1≤I) (h2:I≤16) (h3:1≤o) (h4:o≤16) (hg:goT I o (rowsL I []) 0 1=some (rowsL I []).length) : tabErr I o [[]] (ones I) I o (rowsL I [])=0:=by
 refine tab_ok h1 h2 h3 h4 SOK.base (EOK.base (Nat.le_refl 1)) (by decide) (by decide) (by decide) ?_
 have hl:(rowsL I []).length=1:=by rw [rowsL_nil]; rfl
 unfold treeErr
 rw [if_neg (by omega),if_neg (by omega),if_pos hg]
end Go.Ai
end
