/- A small verified interpreter over names, its proofs, and what was proved with it. No condition. -/
import Derived.Shelf.SlSortCmp.WholeK
import Derived.Test.YtpimmmnkcgnjjaaGreatProg
import Derived.Shelf.SlSortCmp.Whole1
import Derived.Test.YtpimmmnkcgnjjaaGreatRows
import Derived.Test.YtpimmmnkcgnjjaaGreatN13
import Derived.Test.YtpimmmnkcgnjjaaGreatN10
import Derived.Test.YtpimmmnkcgnjjaaGreatN07
import Derived.Test.YtpimmmnkcgnjjaaGreatN12
import Derived.Test.YtpimmmnkcgnjjaaGreatN08
set_option linter.all false
set_option linter.deprecated false
section
namespace Go.Ai
open Go.Proofs
set_option maxRecDepth 10000
set_option maxHeartbeats 40000000
theorem tall_w (c0 c1 c2 c3 c4 c5 c6:AV) (hc:allOne [c0,c1,c2,c3,c4,c5,c6]=true) (g:Nat→Option Blk) (n:Nat) :
  WC 0 Tryz.prog 108 [.agg [c0,c1,c2,c3,c4,c5,c6]] ⟨.fn g,n⟩ fun r=>r=.ret (.func (.func 136) [] [.ptr n 0]) ⟨.fn (gput g n (some (.cells [c0,c1,c2,c3,c4,c5,c6] true 0))),n+1⟩:=by
 refine WC.enterP (noO_ok _ _) hG [] Tryz.func108 rfl (by decide +kernel) (Nat.le_of_ble_eq_true (by kernel_rfl)) ?_
 iterate 8 all_goals try first|with_reducible refine splitI (fun h=>?_) fun h=>?_|with_reducible refine splitBI (fun h=>?_) fun h=>?_|simp (maxSteps:=999999) (disch:=first|assumption|omega|(simp;done)|fail) [Tryz.results108, *]
def unkU (T:List (List (Int×Int))) (E:List (List Int)) (w:List Int) : List (List Int):=(E.map (w ++ ·)).filter fun x=>(ansM T 0 x).isNone
def unksU (T:List (List (Int×Int))) (E:List (List Int)) (ws:List (List Int)) : List (List Int):=ws.flatMap (unkU T E)
theorem unkU_step {T:List (List (Int×Int))} {E:List (List Int)} {w:List Int} {k:Nat} (h:k < E.length) : unkU T (E.take (k+1)) w=unkU T (E.take k) w++(if (ansM T 0 (w++E[k])).isNone then [w++E[k]] else []):=by
 unfold unkU
 rw [List.take_succ_eq_append_getElem h,List.map_append,List.filter_append]
 congr 1
 by_cases h2:(ansM T 0 (w++E[k])).isNone=true <;> simp [h2]
theorem unksU_step {T:List (List (Int×Int))} {E:List (List Int)} {ws:List (List Int)} {k:Nat} {w:List Int} (h:ws[k]?=some w) : unksU T E (ws.take (k+1))=unksU T E (ws.take k)++unkU T E w:=by
 unfold unksU
 obtain ⟨hk,rfl⟩:=List.getElem?_eq_some_iff.1 h
 rw [List.take_succ_eq_append_getElem hk,List.flatMap_append]
 simp
def outG (g:Nat→Option Blk) (lo B:Nat) : Nat→Option Blk:=fun a=>if lo≤a∧a≠B then g a else none
theorem outG_some {g:Nat→Option Blk} {lo B a:Nat} {z:Blk} (h:outG g lo B a=some z) : lo≤a∧a≠B∧g a=some z:=by
 unfold outG at h
 split at h
 ·rename_i h1; exact ⟨h1.1,h1.2,h⟩
 ·cases h
theorem outG_at {g:Nat→Option Blk} {lo B a:Nat} (h1:lo≤a) (h2:a≠B) : outG g lo B a=g a:=if_pos ⟨h1,h2⟩
def OutL (X:Nat→Prop) (gL:Nat→Option Blk) (lo n2:Nat) (l:List (List Int)) (ov:AV) : Prop :=
 (l=[]∧ov=.lit (.slice none 0 0))∨(0 < l.length∧∃ B cs,ov=.slq B 0 l.length 0∧lo≤B∧B < n2∧X B∧gL B=some (.cells cs true 1)∧cs.length=l.length∧RowsW (outG gL lo B) n2 l cs∧∀ q∈cs,CapV q)
theorem OutL.keep {X Y:Nat→Prop} {gL g' : Nat→Option Blk} {lo n2 n' : Nat} {l:List (List Int)} {ov:AV} (h:OutL X gL lo n2 l ov) (hX:∀ b,lo≤b→b < n2→X b→Y b) (hn:n2≤n') (hg:∀ b,lo≤b→b < n2→g' b=gL b) : OutL Y g' lo n' l ov:=by
 rcases h with h | ⟨h0,B,cs,h1,h2,h3,h9,h4,h5,h7,h8⟩
 ·exact .inl h
 ·refine .inr ⟨h0,B,cs,h1,h2,by omega,hX _ h2 h3 h9,(hg B h2 h3).trans h4,h5,h7.ext hn fun a z ha hz=>?_,h8⟩
  obtain ⟨e1,e2,e3⟩:=outG_some hz
  rw [outG_at e1 e2,hg a e1 ha]; exact e3
theorem OutL.push {X:Nat→Prop} {gL gN:Nat→Option Blk} {lo n2 n5:Nat} {l:List (List Int)} {x:List Int} {cs:List AV} {uv:AV} (B:Nat) (hrows:RowsW (outG gL lo B) n2 l cs) (hcap:∀ q∈cs,CapV q) (hn:n2≤n5) (hlo:lo≤n2) (hg:∀ b,lo≤b→b < n2→b≠B→gN b=gL b) (hfr:FreshW gN n2 n5 x uv) (hcu:CapV uv) (hnew:gN (n5+1)=some (.cells (cs++[uv]) true 1)) (hX:X (n5+1)) : OutL X gN lo (n5+1+1) (l++[x]) (.slq (n5+1) 0 (l.length+1) 0):=by
 refine .inr ⟨by simp,n5+1,cs++[uv],by simp,by omega,by omega,hX,hnew,by simp [hrows.1],RowsW.snoc (hrows.ext (by omega) fun a z ha hz=>?_) ?_,fun q hq=>?_⟩
 ·obtain ⟨e1,e2,e3⟩:=outG_some hz
  rw [outG_at e1 (by omega),hg a e1 ha e2]; exact e3
 ·obtain ⟨gk,h1,h2⟩:=hfr
  refine SliceV.ext (by omega) (fun a z _ hz=>?_) h2
  obtain ⟨e1,e2,e3⟩:=h1 a z hz
  rw [outG_at (by omega) (by omega)]; exact e1
 ·rcases List.mem_append.1 hq with h | h
  ·exact hcap q h
  ·rw [List.mem_singleton.1 h]; exact hcu
def AskM (X:Nat→Prop) (g:Nat→Option Blk) (n:Nat) (tc:List AV) (l:List (List Int)) (gL:Nat→Option Blk) (n2:Nat) : Prop :=
 (∀ b,b < n→gL b=g b)∧n+3≤n2∧gL n=some (.cells tc true 0)∧gL (n+2)=some (.cells tc true 0)∧∃ ov,gL (n+1)=some (.cells [ov] true 0)∧OutL X gL (n+3) n2 l ov
theorem AskM.keep {X Y:Nat→Prop} {g gL g' : Nat→Option Blk} {n n2 n' : Nat} {tc:List AV} {l:List (List Int)} (h:AskM X g n tc l gL n2) (hX:∀ b,n+3≤b→b < n2→X b→Y b) (hn:n2≤n') (hg:∀ b,b < n2→g' b=gL b) : AskM Y g n tc l g' n':=by
 obtain ⟨h1,h2,h3,h4,ov,h5,h6⟩:=h
 exact ⟨fun b hb=>(hg b (by omega)).trans (h1 b hb),by omega,(hg _ (by omega)).trans h3,(hg _ (by omega)).trans h4,ov,(hg _ (by omega)).trans h5,h6.keep hX hn fun b _ hb=>hg b hb⟩
theorem inW_snoc {w:List Int} {I i:Nat} (h:inW w I=true) (hi:i < I) : inW (w++[(i:Int)]) I=true:=inW_app h (by simp [inW]; omega)
theorem words_mem {I:Nat} {S:List (List Int)} (hSw:∀ w∈S,w.length≤300∧inW w I=true) {k:Nat} {w:List Int} (h:(wordsM I S)[k]?=some w) : w.length≤301∧inW w I=true:=by
 have hm:=List.mem_of_getElem? h
 rcases List.mem_append.1 hm with h1 | h1
 ·have:=hSw w h1; exact ⟨by omega,this.2⟩
 ·obtain ⟨s,hs,h2⟩:=List.mem_flatMap.1 h1
  obtain ⟨i,hi,rfl⟩:=List.mem_map.1 h2
  have:=hSw s hs
  exact ⟨by rw [List.length_append,List.length_singleton]; omega,inW_snoc this.2 (List.mem_range.1 hi)⟩
theorem unkU_len {T:List (List (Int×Int))} {E:List (List Int)} {w:List Int} : (unkU T E w).length≤E.length:=by
 unfold unkU
 exact Nat.le_trans (List.length_filter_le _ _) (by simp)
theorem unksU_len {T:List (List (Int×Int))} {E:List (List Int)} : ∀ {ws:List (List Int)},(unksU T E ws).length≤ws.length * E.length
 | []=>by simp [unksU]
 | w :: ws=>by
  have h1:=unksU_len (T:=T) (E:=E) (ws:=ws)
  have h2:=unkU_len (T:=T) (E:=E) (w:=w)
  unfold unksU at h1 ⊢
  rw [List.flatMap_cons,List.length_append,List.length_cons,Nat.add_mul]; omega
def cI (x y:Int) : Int:=if x < y then -1 else if y < x then 1 else 0
theorem isNaN_w (x:Int) (g:Nat→Option Blk) (n:Nat) : WC 0 Tryz.prog 158 [.lit (.int .i64 x)] ⟨.fn g,n⟩ fun r=>r=.ret (.lit (.bool false)) ⟨.fn g,n⟩:=by
 refine WC.enterP (noO_ok _ _) hG [] Tryz.func158 rfl (by decide +kernel) (Nat.le_of_ble_eq_true (by kernel_rfl)) ?_
 iterate 8 all_goals try first|with_reducible refine splitI (fun h=>?_) fun h=>?_|with_reducible refine splitBI (fun h=>?_) fun h=>?_|simp (maxSteps:=999999) (disch:=first|assumption|omega|(simp;done)|fail) [Tryz.results158, *]
theorem cCmp_w (x y:Int) (g:Nat→Option Blk) (n:Nat) : WC 0 Tryz.prog 140 [.lit (.int .i64 x),.lit (.int .i64 y)] ⟨.fn g,n⟩ fun r=>r=.ret (.lit (.int .i64 (cI x y))) ⟨.fn g,n⟩:=by
 obtain ⟨ret,hret⟩ : ∃ c,c=cI x y:=⟨_,rfl⟩
 rw [← hret]
 unfold cI at hret
 have H1:=Hide.mk (isNaN_w x g n)
 have H2:=Hide.mk (isNaN_w y g n)
 rcases Int.lt_trichotomy x y with h | h | h
 ·rw [if_pos h] at hret
  refine WC.enterP (noO_ok _ _) hG [] Tryz.func140 rfl (by decide +kernel) (Nat.le_of_ble_eq_true (by kernel_rfl)) ?_
  iterate 8 all_goals try first|with_reducible refine splitI (fun h=>?_) fun h=>?_|with_reducible refine splitBI (fun h=>?_) fun h=>?_|simp (maxSteps:=999999) (disch:=first|assumption|omega|(simp;done)|fail) [Tryz.results140, *]
  refine WC.mono H1.out ?_
  rintro _ rfl
  iterate 8 all_goals try first|with_reducible refine splitI (fun h=>?_) fun h=>?_|with_reducible refine splitBI (fun h=>?_) fun h=>?_|simp (maxSteps:=999999) (disch:=first|assumption|omega|(simp;done)|fail) [Tryz.results140, *]
  refine WC.mono H2.out ?_
  rintro _ rfl
  iterate 8 all_goals try first|with_reducible refine splitI (fun h=>?_) fun h=>?_|with_reducible refine splitBI (fun h=>?_) fun h=>?_|simp (maxSteps:=999999) (disch:=first|assumption|omega|(simp;done)|fail) [Tryz.results140, *]
 ·subst h
  rw [if_neg (by omega),if_neg (by omega)] at hret
  refine WC.enterP (noO_ok _ _) hG [] Tryz.func140 rfl (by decide +kernel) (Nat.le_of_ble_eq_true (by kernel_rfl)) ?_
  iterate 8 all_goals try first|with_reducible refine splitI (fun h=>?_) fun h=>?_|with_reducible refine splitBI (fun h=>?_) fun h=>?_|simp (maxSteps:=999999) (disch:=first|assumption|omega|(simp;done)|fail) [Tryz.results140, *]
  refine WC.mono H1.out ?_
  rintro _ rfl
  iterate 8 all_goals try first|with_reducible refine splitI (fun h=>?_) fun h=>?_|with_reducible refine splitBI (fun h=>?_) fun h=>?_|simp (maxSteps:=999999) (disch:=first|assumption|omega|(simp;done)|fail) [Tryz.results140, *]
  refine WC.mono H2.out ?_
  rintro _ rfl
  iterate 8 all_goals try first|with_reducible refine splitI (fun h=>?_) fun h=>?_|with_reducible refine splitBI (fun h=>?_) fun h=>?_|simp (maxSteps:=999999) (disch:=first|assumption|omega|(simp;done)|fail) [Tryz.results140, *]
 ·have h3:¬x < y:=by omega
  rw [if_neg h3,if_pos h] at hret
  refine WC.enterP (noO_ok _ _) hG [] Tryz.func140 rfl (by decide +kernel) (Nat.le_of_ble_eq_true (by kernel_rfl)) ?_
  iterate 8 all_goals try first|with_reducible refine splitI (fun h=>?_) fun h=>?_|with_reducible refine splitBI (fun h=>?_) fun h=>?_|simp (maxSteps:=999999) (disch:=first|assumption|omega|(simp;done)|fail) [Tryz.results140, *]
  refine WC.mono H1.out ?_
  rintro _ rfl
  iterate 8 all_goals try first|with_reducible refine splitI (fun h=>?_) fun h=>?_|with_reducible refine splitBI (fun h=>?_) fun h=>?_|simp (maxSteps:=999999) (disch:=first|assumption|omega|(simp;done)|fail) [Tryz.results140, *]
  refine WC.mono H2.out ?_
  rintro _ rfl
  iterate 8 all_goals try first|with_reducible refine splitI (fun h=>?_) fun h=>?_|with_reducible refine splitBI (fun h=>?_) fun h=>?_|simp (maxSteps:=999999) (disch:=first|assumption|omega|(simp;done)|fail) [Tryz.results140, *]
theorem cOr_w (x y:Int) (g:Nat→Option Blk) (n B:Nat) (hB:g B=some (.cells [.lit (.int .i64 x),.lit (.int .i64 y)] true 0)) (hBn:B < n) : WC 0 Tryz.prog 139 [.sl B 0 2 2] ⟨.fn g,n⟩ fun r=>r=.ret (.lit (.int .i64 (if x=0 then y else x))) ⟨.fn g,n⟩:=by
 obtain ⟨ret,hret⟩ : ∃ c,c=if x=0 then y else x:=⟨_,rfl⟩
 rw [← hret]
 have HRT:=Hide.mk hret
 clear hret
 refine WC.enterP (noO_ok _ _) hG [] Tryz.func139 rfl (by decide +kernel) (Nat.le_of_ble_eq_true (by kernel_rfl)) ?_
 iterate 8 all_goals try first|with_reducible refine splitI (fun h=>?_) fun h=>?_|with_reducible refine splitBI (fun h=>?_) fun h=>?_|simp (maxSteps:=999999) (disch:=first|assumption|omega|(simp;done)|fail) [Tryz.results139, *]
 refine LX.ind (fun m gf H'=>∃ k:Nat,k≤2∧m=2 - k∧H'=⟨.fn g,n⟩∧(k=1→x=0)∧(k=2→x=0∧y=0)∧gf 3=some (.lit (.int .i64 0))∧gf 6=some (.sl B 0 2 2)∧gf 7=some (.lit (.int .i64 2))∧gf 8=some (.lit (.int .i64 k))) (m0:=2) ?_ ?_
 ·exact ⟨0,by omega,rfl,rfl,fun h=>by omega,fun h=>by omega,by simp,by simp,by simp,by simp⟩
 rintro m gf H' ⟨k,hk,rfl,rfl,h1,h2,w3,w6,w7,w8⟩ ih
 have HX:=Hide.mk (And.intro h1 h2)
 clear h1 h2
 refine LX.roundP (noO_ok _ _) hG [] (by decide +kernel) ?_
 rcases (by omega:k=0∨k=1∨k=2) with rfl | rfl | rfl
 ·have w8' : gf 8=some (.lit (.int .i64 0)):=w8
  clear w8 hk
  by_cases hx:x=0
  ·have HX0:=Hide.mk hx
   subst hx
   iterate 8 all_goals try first|with_reducible refine splitI (fun h=>?_) fun h=>?_|with_reducible refine splitBI (fun h=>?_) fun h=>?_|simp (maxSteps:=999999) (disch:=first|assumption|omega|(simp;done)|fail) [Tryz.results139, *]
   exact ih.out 1 _ _ (by omega) ⟨1,by omega,rfl,rfl,fun _=>rfl,fun h=>by omega,by simp [*],by simp [*],by simp [*],by simp⟩
  ·have hr:ret=x:=by rw [HRT.out,if_neg hx]
   subst hr
   iterate 8 all_goals try first|with_reducible refine splitI (fun h=>?_) fun h=>?_|with_reducible refine splitBI (fun h=>?_) fun h=>?_|simp (maxSteps:=999999) (disch:=first|assumption|omega|(simp;done)|fail) [Tryz.results139, *]
 ·have w8' : gf 8=some (.lit (.int .i64 1)):=w8
  have hx:=HX.out.1 rfl
  clear w8 hk
  subst hx
  have hr:ret=y:=by rw [HRT.out,if_pos rfl]
  clear HRT HX
  by_cases hy:y=0
  ·subst hy
   iterate 8 all_goals try first|with_reducible refine splitI (fun h=>?_) fun h=>?_|with_reducible refine splitBI (fun h=>?_) fun h=>?_|simp (maxSteps:=999999) (disch:=first|assumption|omega|(simp;done)|fail) [Tryz.results139, *]
   exact ih.out 0 _ _ (by omega) ⟨2,by omega,rfl,rfl,fun h=>by omega,fun _=>⟨rfl,rfl⟩,by simp [*],by simp [*],by simp [*],by simp⟩
  ·subst hr
   iterate 8 all_goals try first|with_reducible refine splitI (fun h=>?_) fun h=>?_|with_reducible refine splitBI (fun h=>?_) fun h=>?_|simp (maxSteps:=999999) (disch:=first|assumption|omega|(simp;done)|fail) [Tryz.results139, *]
 ·have w8' : gf 8=some (.lit (.int .i64 2)):=w8
  obtain ⟨hx,hy⟩:=HX.out.2 rfl
  clear w8 hk
  have hr:ret=0:=by rw [HRT.out,hx,hy]; rfl
  subst hr
  iterate 8 all_goals try first|with_reducible refine splitI (fun h=>?_) fun h=>?_|with_reducible refine splitBI (fun h=>?_) fun h=>?_|simp (maxSteps:=999999) (disch:=first|assumption|omega|(simp;done)|fail) [Tryz.results139, *]
def slcM:List Int→List Int→Int
 | [],[]=>0
 | [],_ :: _=>-1
 | _ :: _,[]=>1
 | x :: a,y :: b=>if cI x y=0 then slcM a b else cI x y
theorem slcM_lex:∀ (a b:List Int),a.length=b.length→slcM a b=lexC a b
 | [],[],_=>rfl
 | [],_ :: _,h=>by cases h
 | _ :: _,[],h=>by cases h
 | x :: a,y :: b,h=>by
  show (if cI x y=0 then slcM a b else cI x y)=if x < y then -1 else if y < x then 1 else lexC a b
  rw [slcM_lex a b (by simpa using h)]
  unfold cI
  by_cases h1:x < y
  ·simp [h1]
  ·by_cases h2:y < x
   ·simp [h1,h2]
   ·simp [h1,h2]
theorem sCmp_w (a b:List Int) (hal:a.length≤1000000) (hbl:b.length≤1000000) (g:Nat→Option Blk) (n:Nat) (sa sb:AV) (ha:RepW g n a sa) (hb:RepW g n b sb) :
  WC 0 Tryz.prog 141 [sa,sb] ⟨.fn g,n⟩ fun r=>r=.ret (.lit (.int .i64 (slcM a b))) ⟨.fn g,n⟩:=by
 have hla:=@lenV Tryz.prog _ _ _ _ _ ha
 have hlb:=@lenV Tryz.prog _ _ _ _ _ hb
 have HA:=Hide.mk ha
 have HB:=Hide.mk hb
 clear ha hb
 obtain ⟨ret,hret⟩ : ∃ c,c=slcM a b:=⟨_,rfl⟩
 rw [← hret]
 have HRET:=Hide.mk hret
 clear hret
 refine WC.enterP (noO_ok _ _) hG [] Tryz.func141 rfl (by decide +kernel) (Nat.le_of_ble_eq_true (by kernel_rfl)) ?_
 iterate 8 all_goals try first|with_reducible refine splitI (fun h=>?_) fun h=>?_|with_reducible refine splitBI (fun h=>?_) fun h=>?_|simp (maxSteps:=999999) (disch:=first|assumption|omega|(simp;done)|fail) [Tryz.results141, *]
 refine LX.ind (fun m gf H'=>∃ k:Nat,k≤a.length∧k≤b.length∧m=a.length - k∧H'=⟨.fn g,n⟩∧Hide (ret=slcM (a.drop k) (b.drop k))∧gf 0=some sa∧gf 1=some sb∧gf 9=some sa∧gf 10=some (.lit (.int .i64 a.length))∧gf 11=some (.lit (.int .i64 k))) (m0:=a.length) ?_ ?_
 ·exact ⟨0,Nat.zero_le _,Nat.zero_le _,rfl,rfl,⟨HRET.out⟩,by simp,by simp,by simp,by simp,by simp⟩
 clear HRET
 rintro m gf H' ⟨k,hk,hk2,rfl,rfl,HR,w0,w1,w9,w10,w11⟩ ih
 refine LX.roundP (noO_ok _ _) hG [] (by decide +kernel) ?_
 by_cases hlt:k < a.length
 ·have hltI:(k:Int) < (a.length:Int):=by omega
  obtain ⟨a1,o1,ha1,hia1,hc1⟩:=RepW.at HA.out hlt
  have HDA:Hide (a.drop k=a[k] :: a.drop (k+1)):=⟨List.drop_eq_getElem_cons hlt⟩
  by_cases hlt2:k < b.length
  ·have hlt2I:¬(b.length:Int)≤(k:Int):=by omega
   obtain ⟨a2,o2,ha2,hia2,hc2⟩:=RepW.at HB.out hlt2
   have HST:Hide (ret=if cI a[k] b[k]=0 then slcM (a.drop (k+1)) (b.drop (k+1)) else cI a[k] b[k]):=⟨by
    rw [HR.out,HDA.out,List.drop_eq_getElem_cons hlt2]; rfl⟩
   have HC:=Hide.mk (cCmp_w a[k] b[k] g n)
   clear HR HDA
   generalize cI a[k] b[k]=c at *
   generalize a[k]=x at *
   generalize b[k]=y at *
   iterate 8 all_goals try first|with_reducible refine splitI (fun h=>?_) fun h=>?_|with_reducible refine splitBI (fun h=>?_) fun h=>?_|simp (maxSteps:=999999) (disch:=first|assumption|omega|(simp;done)|fail) [Tryz.results141, *]
   refine WC.mono HC.out ?_
   rintro _ rfl
   by_cases hc:c=0
   ·rw [if_pos hc] at HST
    subst hc
    iterate 8 all_goals try first|with_reducible refine splitI (fun h=>?_) fun h=>?_|with_reducible refine splitBI (fun h=>?_) fun h=>?_|simp (maxSteps:=999999) (disch:=first|assumption|omega|(simp;done)|fail) [Tryz.results141, *]
    exact ih.out (a.length - (k+1)) _ _ (by omega) ⟨k+1,by omega,by omega,rfl,rfl,HST,by simp [*],by simp [*],by simp [*],by simp [*],by simp⟩
   ·rw [if_neg hc] at HST
    have hr:=HST.out
    subst hr
    iterate 8 all_goals try first|with_reducible refine splitI (fun h=>?_) fun h=>?_|with_reducible refine splitBI (fun h=>?_) fun h=>?_|simp (maxSteps:=999999) (disch:=first|assumption|omega|(simp;done)|fail) [Tryz.results141, *]
  ·have hlt2I:(b.length:Int)≤(k:Int):=by omega
   have hr:ret=1:=by rw [HR.out,HDA.out,List.drop_eq_nil_of_le (by omega:b.length≤k)]; rfl
   subst hr
   iterate 8 all_goals try first|with_reducible refine splitI (fun h=>?_) fun h=>?_|with_reducible refine splitBI (fun h=>?_) fun h=>?_|simp (maxSteps:=999999) (disch:=first|assumption|omega|(simp;done)|fail) [Tryz.results141, *]
 ·have hltI:¬(k:Int) < (a.length:Int):=by omega
  have hka:k=a.length:=by omega
  by_cases hlt2:k < b.length
  ·have hlt2I:(a.length:Int) < (b.length:Int):=by omega
   have hr:ret = -1:=by rw [HR.out,List.drop_eq_nil_of_le (by omega:a.length≤k),List.drop_eq_getElem_cons hlt2]; rfl
   subst hr
   iterate 8 all_goals try first|with_reducible refine splitI (fun h=>?_) fun h=>?_|with_reducible refine splitBI (fun h=>?_) fun h=>?_|simp (maxSteps:=999999) (disch:=first|assumption|omega|(simp;done)|fail) [Tryz.results141, *]
  ·have hlt2I:¬(a.length:Int) < (b.length:Int):=by omega
   have hr:ret=0:=by rw [HR.out,List.drop_eq_nil_of_le (by omega:a.length≤k),List.drop_eq_nil_of_le (by omega:b.length≤k)]; rfl
   subst hr
   iterate 8 all_goals try first|with_reducible refine splitI (fun h=>?_) fun h=>?_|with_reducible refine splitBI (fun h=>?_) fun h=>?_|simp (maxSteps:=999999) (disch:=first|assumption|omega|(simp;done)|fail) [Tryz.results141, *]
theorem cmpM_or (a b:List Int) : (if cI (a.length:Int) (b.length:Int)=0 then slcM a b else cI (a.length:Int) (b.length:Int))=cmpM a b:=by
 unfold cmpM
 rcases Nat.lt_trichotomy a.length b.length with h | h | h
 ·have:cI (a.length:Int) (b.length:Int) = -1:=by unfold cI; rw [if_pos (by omega)]
  rw [this,if_neg (by decide),if_pos h]
 ·have:cI (a.length:Int) (b.length:Int)=0:=by unfold cI; rw [if_neg (by omega),if_neg (by omega)]
  rw [this,if_pos rfl,slcM_lex a b h,if_neg (by omega),if_neg (by omega)]
 ·have:cI (a.length:Int) (b.length:Int)=1:=by unfold cI; rw [if_neg (by omega),if_pos (by omega)]
  rw [this,if_neg (by decide),if_neg (by omega),if_pos h]
theorem wCompare_w (a b:List Int) (hal:a.length≤1000000) (hbl:b.length≤1000000) (g:Nat→Option Blk) (n:Nat) (sa sb:AV) (ha:RepW g n a sa) (hb:RepW g n b sb) :
  WC 0 Tryz.prog 110 [sa,sb] ⟨.fn g,n⟩ fun r=>r=.ret (.lit (.int .i64 (cmpM a b))) ⟨.fn g,n⟩:=by
 refine WC.drop1 rfl ?_
 have hla:=@lenV Tryz.prog _ _ _ _ _ ha
 have hlb:=@lenV Tryz.prog _ _ _ _ _ hb
 have HC:=Hide.mk (sCmp_w a b hal hbl g n sa sb ha hb)
 have HL:=Hide.mk (cCmp_w a.length b.length g n)
 have HOR:=Hide.mk (cmpM_or a b)
 clear ha hb
 generalize cmpM a b=ret at *
 generalize slcM a b=c2 at *
 generalize cI (a.length:Int) (b.length:Int)=c1 at *
 refine WC.enterP (noO_ok _ _) hG [] Tryz.func110 rfl (by decide +kernel) (Nat.le_of_ble_eq_true (by kernel_rfl)) ?_
 iterate 8 all_goals try first|with_reducible refine splitI (fun h=>?_) fun h=>?_|with_reducible refine splitBI (fun h=>?_) fun h=>?_|simp (maxSteps:=999999) (disch:=first|assumption|omega|(simp;done)|fail) [Tryz.results110, *]
 refine WC.mono HL.out ?_
 rintro _ rfl
 iterate 8 all_goals try first|with_reducible refine splitI (fun h=>?_) fun h=>?_|with_reducible refine splitBI (fun h=>?_) fun h=>?_|simp (maxSteps:=999999) (disch:=first|assumption|omega|(simp;done)|fail) [Tryz.results110, *]
 refine WC.mono HC.out ?_
 rintro _ rfl
 iterate 8 all_goals try first|with_reducible refine splitI (fun h=>?_) fun h=>?_|with_reducible refine splitBI (fun h=>?_) fun h=>?_|simp (maxSteps:=999999) (disch:=first|assumption|omega|(simp;done)|fail) [Tryz.results110, *]
 refine WC.mono (cOr_w c1 c2 _ _ n gput_eq (by omega)) ?_
 rintro _ rfl
 rw [HOR.out]
 iterate 8 all_goals try first|with_reducible refine splitI (fun h=>?_) fun h=>?_|with_reducible refine splitBI (fun h=>?_) fun h=>?_|simp (maxSteps:=999999) (disch:=first|assumption|omega|(simp;done)|fail) [Tryz.results110, *]
 exact ⟨Nat.le_succ n,fun b hb=>gput_lt hb⟩
end Go.Ai
end
section
namespace Go.Proofs
open Go.Shelf
end Go.Proofs
end
section
namespace Go.Ai
open Go.Proofs Go.RowKit Go.Shelf
set_option maxRecDepth 10000
set_option maxHeartbeats 40000000
theorem SafeW.froz {g:Nat→Option Blk} {lo n B:Nat} {w:List Int} {sv:AV} (h:SafeW g lo n B w sv) : RepW (froz B g) n w sv:=by
 obtain ⟨gk,h1,h2⟩:=h
 rcases h2 with h2 | ⟨a,off,h3,h4,l,own,z,e1,e2,e3⟩
 ·exact .inl h2
 ·obtain ⟨q1,_,_,q2⟩:=h1 a _ e1
  exact .inr ⟨a,off,h3,h4,l,false,z,froz_at q2 q1,e2,e3⟩
theorem swo_cmp (key:Nat→List Int) : Go.Sort.SWO (ltOf fun i j=>cmpM (key i) (key j)):=by
 have hl:∀ i j,ltOf (fun i j=>cmpM (key i) (key j)) i j=decide (cmpM (key i) (key j) < 0):=fun i j=>rfl
 refine ⟨fun x=>?_,fun x y z h1 h2=>?_,fun x y z h1 h2=>?_⟩
 ·rw [hl,decide_eq_false]
  intro h
  exact SL.irrefl (cmpM_SL.1 h)
 ·rw [hl,decide_eq_true_eq] at h1 h2 ⊢
  exact cmpM_SL.2 ((cmpM_SL.1 h1).trans (cmpM_SL.1 h2))
 ·rw [hl,decide_eq_false_iff_not] at h1 h2 ⊢
  intro h3
  have h3:=cmpM_SL.1 h3
  rcases Int.lt_trichotomy (cmpM (key x) (key y)) 0 with h | h | h
  ·exact h1 h
  ·rw [cmpM_zero h] at h3; exact h2 (cmpM_SL.2 h3)
  ·exact h2 (cmpM_SL.2 ((cmpM_pos h).trans h3))
end Go.Ai
end
section
namespace Go.Proofs
open Go.Shelf
def Tryz.sortW_ren:Go.Shelf.Ren:=⟨fun | 6=>109 | 15=>138 | 14=>137 | 28=>156 | 29=>157 | 20=>148 | 21=>149 | 22=>150 | 23=>151 | 24=>152 | 25=>153 | 26=>154 | 27=>155 | 46=>167 | 47=>168 | 48=>169 | 49=>170 | 50=>171 | 57=>175 | n=>n,fun | 22=>22 | 24=>65 | 25=>110 | 3=>3 | 39=>172 | 0=>0 | 53=>189 | 55=>191 | 4=>4 | 46=>183 | 45=>182 | 50=>120 | 5=>5 | 9=>9 | 66=>197 | 70=>201 | 76=>205 | 77=>206 | n=>n,fun | n=>n⟩
theorem Tryz.sortW:Go.Proofs.SlLaysF.n6 Tryz.prog Tryz.sortW_ren:={
 mixed:=by kernel_rfl
 f6:=⟨Tryz.f109.name,by decide,Tryz.func109.trans (congrArg some (by kernel_rfl))⟩
 f14:=⟨Tryz.f137.name,by decide,Tryz.func137.trans (congrArg some (by kernel_rfl))⟩
 f15:=Tryz.func138.trans (congrArg some (by kernel_rfl))
 f20:=⟨Tryz.f148.name,by decide,Tryz.func148.trans (congrArg some (by kernel_rfl))⟩
 f21:=⟨Tryz.f149.name,by decide,Tryz.func149.trans (congrArg some (by kernel_rfl))⟩
 f22:=⟨Tryz.f150.name,by decide,Tryz.func150.trans (congrArg some (by kernel_rfl))⟩
 f23:=⟨Tryz.f151.name,by decide,Tryz.func151.trans (congrArg some (by kernel_rfl))⟩
 f24:=⟨Tryz.f152.name,by decide,Tryz.func152.trans (congrArg some (by kernel_rfl))⟩
 f25:=⟨Tryz.f153.name,by decide,Tryz.func153.trans (congrArg some (by kernel_rfl))⟩
 f26:=⟨Tryz.f154.name,by decide,Tryz.func154.trans (congrArg some (by kernel_rfl))⟩
 f27:=⟨Tryz.f155.name,by decide,Tryz.func155.trans (congrArg some (by kernel_rfl))⟩
 f28:=Tryz.func156.trans (congrArg some (by kernel_rfl))
 f29:=Tryz.func157.trans (congrArg some (by kernel_rfl))
 f46:=⟨Tryz.f167.name,by decide,Tryz.func167.trans (congrArg some (by kernel_rfl))⟩
 f47:=Tryz.func168.trans (congrArg some (by kernel_rfl))
 f48:=Tryz.func169.trans (congrArg some (by kernel_rfl))
 f49:=⟨Tryz.f170.name,by decide,Tryz.func170.trans (congrArg some (by kernel_rfl))⟩
 f50:=⟨Tryz.f171.name,by decide,Tryz.func171.trans (congrArg some (by kernel_rfl))⟩
 f57:=⟨Tryz.f175.name,by decide,Tryz.func175.trans (congrArg some (by kernel_rfl))⟩
 t0:=Tryz.underlying0
 a0:=Tryz.isAgg0
 z0:=Tryz.sizeOf0
 v0:=Tryz.zeroValue0
 t3:=Tryz.underlying3
 a3:=Tryz.isAgg3
 z3:=Tryz.sizeOf3
 v3:=Tryz.zeroValue3
 t4:=Tryz.underlying4
 a4:=Tryz.isAgg4
 z4:=Tryz.sizeOf4
 v4:=Tryz.zeroValue4
 t5:=Tryz.underlying5
 a5:=Tryz.isAgg5
 z5:=Tryz.sizeOf5
 v5:=Tryz.zeroValue5
 t9:=Tryz.underlying9
 a9:=Tryz.isAgg9
 z9:=Tryz.sizeOf9
 v9:=Tryz.zeroValue9
 t22:=Tryz.underlying22
 a22:=Tryz.isAgg22
 z22:=Tryz.sizeOf22
 v22:=Tryz.zeroValue22
 a24:=Tryz.isAgg65
 z24:=Tryz.sizeOf65
 t25:=Tryz.underlying110
 a25:=Tryz.isAgg110
 z25:=Tryz.sizeOf110
 v25:=Tryz.zeroValue110
 t39:=Tryz.underlying172
 a39:=Tryz.isAgg172
 z39:=Tryz.sizeOf172
 v39:=Tryz.zeroValue172
 t45:=Tryz.underlying182
 a45:=Tryz.isAgg182
 z45:=Tryz.sizeOf182
 v45:=Tryz.zeroValue182
 t46:=Tryz.underlying183
 a46:=Tryz.isAgg183
 z46:=Tryz.sizeOf183
 v46:=Tryz.zeroValue183
 t50:=Tryz.underlying120
 a50:=Tryz.isAgg120
 z50:=Tryz.sizeOf120
 v50:=Tryz.zeroValue120
 t53:=Tryz.underlying189
 a53:=Tryz.isAgg189
 z53:=Tryz.sizeOf189
 v53:=Tryz.zeroValue189
 t55:=Tryz.underlying191
 a55:=Tryz.isAgg191
 z55:=Tryz.sizeOf191
 v55:=Tryz.zeroValue191
 t66:=Tryz.underlying197
 a66:=Tryz.isAgg197
 z66:=Tryz.sizeOf197
 v66:=Tryz.zeroValue197
 t70:=Tryz.underlying201
 a70:=Tryz.isAgg201
 z70:=Tryz.sizeOf201
 v70:=Tryz.zeroValue201
 t76:=Tryz.underlying205
 a76:=Tryz.isAgg205
 z76:=Tryz.sizeOf205
 v76:=Tryz.zeroValue205
 t77:=Tryz.underlying206
 a77:=Tryz.isAgg206
 z77:=Tryz.sizeOf206
 v77:=Tryz.zeroValue206 }
end Go.Proofs
end
section
namespace Go.Ai
open Go.Proofs Go.RowKit Go.Shelf
set_option maxRecDepth 10000
set_option maxHeartbeats 40000000
theorem RepW.froz {g:Nat→Option Blk} {lo n B:Nat} {w:List Int} {sv:AV} (h:RepW (outG g lo B) n w sv) : RepW (froz B g) n w sv:=by
 rcases h with h2 | ⟨a,off,h3,h4,l,own,z,e1,e2,e3⟩
 ·exact .inl h2
 ·obtain ⟨_,q2,q1⟩:=outG_some e1
  exact .inr ⟨a,off,h3,h4,l,false,z,froz_at q2 q1,e2,e3⟩
theorem sortW_w {l:List (List Int)} {cs:List AV} {g:Nat→Option Blk} {lo n B:Nat} (hrf:RowsW (outG g lo B) n l cs) (hgB:g B=some (.cells cs true 1)) (hpos:0 < l.length) (hlen:l.length≤100000) (hw:∀ w∈l,w.length≤1000000) :
  WC 0 Tryz.prog 109 [.slq B 0 l.length 0,.lit (.func (.func 110) #[] #[])] ⟨.fn g,n⟩ fun r=>∃ (l' : List (List Int)) (cs' : List AV),l'.Perm l∧(∀ (i j:Nat) (_:i < j) (hj:j < l'.length),¬ cmpM l'[j] (l'[i]'(by omega)) < 0)∧r=.ret (.tup []) ⟨.fn (gput g B (some (.cells cs' true 1))),n⟩∧RowsW (outG (gput g B (some (.cells cs' true 1))) lo B) n l' cs'∧∀ v∈cs',v∈cs:=by
 have hit:∀ (k:Nat) (h:k < cs.length),RepW (outG g lo B) n (l[k]'(by have:=hrf.1; omega)) cs[k]:=by
  intro k h
  obtain ⟨sv,e1,e2⟩:=hrf.2 k (by have:=hrf.1; omega)
  rw [List.getElem?_eq_getElem h] at e1
  cases e1; exact e2
 have hl:=hrf.1
 have h:=WC.sort1 (G:=0) Tryz.sortW 110 (enters_of Tryz.func110 (by kernel_rfl) rfl) (its:=cs) hrf.allOne (fun i j=>cmpM (l.getD i []) (l.getD j [])) (swo_cmp fun i=>l.getD i []) (g:=g) (n:=n) (Bn:=B) (z:=1) hgB (sv:=.slq B 0 l.length 0) (.inr ⟨0,by rw [hl]⟩) (by omega) (by omega) (fun i j hi hj=>by
   rw [(getD_mem (d:=[]) (show i < l.length by omega)).2,(getD_mem (d:=[]) (show j < l.length by omega)).2]
   exact WC.mono (wCompare_w _ _ (hw _ (List.getElem_mem _)) (hw _ (List.getElem_mem _)) _ n _ _ (hit i hi).froz (hit j hj).froz) fun r hr=>⟨_,_,hr⟩)
 refine WC.mono h ?_
 rintro _ ⟨is,hp,hs,rfl⟩
 have hil:is.length=l.length:=by rw [hp.length_eq,List.length_range,hl]
 have hlt:∀ i∈is,i < l.length:=fun i hi=>by have:=List.mem_range.1 (hp.mem_iff.1 hi); omega
 refine ⟨is.map fun i=>l.getD i [],_,?_,fun i j hij hj=>?_,rfl,⟨by simp,fun k hk=>?_⟩,fun v hv=>?_⟩
 ·have:=hp.map fun i=>l.getD i []
  refine this.trans (List.Perm.of_eq ?_)
  apply List.ext_getElem
  ·simp [hl]
  ·intro k h1 h2
   rw [List.getElem_map,List.getElem_range,(getD_mem (by omega)).2]
 ·rw [List.getElem_map,List.getElem_map]
  rw [List.length_map] at hj
  exact hs i j hij hj
 ·rw [List.length_map] at hk
  have hik:=hlt _ (List.getElem_mem hk)
  refine ⟨cs[is[k]]'(by omega),?_,?_⟩
  ·rw [List.getElem?_map,List.getElem?_eq_getElem hk,Option.map_some,List.getD_eq_getElem?_getD,List.getElem?_eq_getElem (by omega)]; rfl
  ·rw [List.getElem_map,(getD_mem (by omega)).2]
   refine SliceV.ext (Nat.le_refl _) (fun a z _ hz=>?_) (hit is[k] (by omega))
   obtain ⟨e1,e2,e3⟩:=outG_some hz
   rw [outG_at e1 e2,gput_ne e2]; exact e3
 ·obtain ⟨i,hi,rfl⟩:=List.mem_map.1 hv
  have:=hlt i hi
  rw [List.getD_eq_getElem?_getD,List.getElem?_eq_getElem (by omega)]
  exact List.getElem_mem _
end Go.Ai
end
section
namespace Go.Ai
open Go.Proofs
set_option maxRecDepth 10000
set_option maxHeartbeats 40000000
theorem RowK.low {g:Nat→Option Blk} {lo lo' n:Nat} {r:Option (List Int)} {rv:AV} (h:RowK g lo n r rv) (hl:lo'≤lo) : RowK g lo' n r rv:=by
 cases r with
 | none=>exact h
 | some r=>exact ⟨h.1.keep hl (Nat.le_refl _) fun _ _ _=>rfl,h.2⟩
theorem SEqual_w {a b:List Int} (hal:a.length≤100000) (hbl:b.length≤100000) (g:Nat→Option Blk) (n:Nat) (av bv:AV) (ha:RepW g n a av) (hb:RepW g n b bv) :
  WC 0 Tryz.prog 112 [av,bv] ⟨.fn g,n⟩ fun r=>r=.ret (.lit (.bool (decide (a=b)))) ⟨.fn g,n⟩:=by
 have hlena:=@lenV Tryz.prog _ _ _ _ _ ha
 have hlenb:=@lenV Tryz.prog _ _ _ _ _ hb
 have HA:=Hide.mk ha
 have HB:=Hide.mk hb
 clear ha hb
 obtain ⟨ret,hret⟩ : ∃ x,x=decide (a=b):=⟨_,rfl⟩
 rw [← hret]
 have HRET:=Hide.mk hret
 clear hret
 by_cases hl:a.length=b.length
 ·have hlI:(a.length:Int)=(b.length:Int):=by omega
  refine WC.enterP (noO_ok _ _) hG pl112 Tryz.func112 rfl (by decide +kernel) (Nat.le_of_ble_eq_true (by kernel_rfl)) ?_
  iterate 8 all_goals try first|with_reducible refine splitI (fun h=>?_) fun h=>?_|with_reducible refine splitBI (fun h=>?_) fun h=>?_|simp (maxSteps:=999999) (disch:=first|assumption|omega|(simp;done)|fail) [Tryz.results112, *]
  refine LX.ind (fun m gf H'=>∃ k:Nat,k≤b.length∧m=b.length - k∧H'=⟨.fn g,n⟩∧Hide (a.take k=b.take k)∧gf 0=some av∧gf 1=some bv∧gf 12=some (.lit (.int .i64 b.length))∧gf 13=some (.lit (.int .i64 k))) (m0:=b.length) ?_ ?_
  ·exact ⟨0,Nat.zero_le _,rfl,rfl,⟨by simp⟩,by simp,by simp,by simp,by simp⟩
  rintro m gf H' ⟨k,hk,rfl,rfl,HT,w0,w1,w12,w13⟩ ih
  refine LX.roundP (noO_ok _ _) hG pl112 (by decide +kernel) ?_
  by_cases hlt:k < b.length
  ·have hltI:(k:Int) < (b.length:Int):=by omega
   have hlta:k < a.length:=by omega
   obtain ⟨a2,o2,ha2,hia2,hc2⟩:=RepW.at HA.out hlta
   obtain ⟨a3,o3,ha3,hia3,hc3⟩:=RepW.at HB.out hlt
   have HTA:=Hide.mk (take_snoc hlta)
   have HTB:=Hide.mk (take_snoc hlt)
   generalize a[k]=x at *
   generalize b[k]=y at *
   by_cases hxy:x=y
   ·subst hxy
    iterate 8 all_goals try first|with_reducible refine splitI (fun h=>?_) fun h=>?_|with_reducible refine splitBI (fun h=>?_) fun h=>?_|simp (maxSteps:=999999) (disch:=first|assumption|omega|(simp;done)|fail) [Tryz.results112, *]
    exact ih.out (b.length - (k+1)) _ _ (by omega) ⟨k+1,by omega,rfl,rfl,⟨by rw [HTA.out,HTB.out,HT.out]⟩,by simp [*],by simp [*],by simp [*],by simp⟩
   ·have hr:ret=false:=by
     rw [HRET.out]
     refine decide_eq_false fun h=>hxy ?_
     have h1:=HTA.out
     rw [h,HTB.out,← h,HT.out] at h1
     have:=List.append_cancel_left h1
     simpa using this.symm
    subst hr
    iterate 8 all_goals try first|with_reducible refine splitI (fun h=>?_) fun h=>?_|with_reducible refine splitBI (fun h=>?_) fun h=>?_|simp (maxSteps:=999999) (disch:=first|assumption|omega|(simp;done)|fail) [Tryz.results112, *]
  ·have hltI:¬(k:Int) < (b.length:Int):=by omega
   have hr:ret=true:=by
    rw [HRET.out]
    refine decide_eq_true ?_
    have:=HT.out
    rwa [List.take_of_length_le (by omega),List.take_of_length_le (by omega)] at this
   subst hr
   iterate 8 all_goals try first|with_reducible refine splitI (fun h=>?_) fun h=>?_|with_reducible refine splitBI (fun h=>?_) fun h=>?_|simp (maxSteps:=999999) (disch:=first|assumption|omega|(simp;done)|fail) [Tryz.results112, *]
 ·have hlI:¬(a.length:Int)=(b.length:Int):=by omega
  have hr:ret=false:=by rw [HRET.out]; exact decide_eq_false fun h=>hl (by rw [h])
  subst hr
  refine WC.enterP (noO_ok _ _) hG pl112 Tryz.func112 rfl (by decide +kernel) (Nat.le_of_ble_eq_true (by kernel_rfl)) ?_
  iterate 8 all_goals try first|with_reducible refine splitI (fun h=>?_) fun h=>?_|with_reducible refine splitBI (fun h=>?_) fun h=>?_|simp (maxSteps:=999999) (disch:=first|assumption|omega|(simp;done)|fail) [Tryz.results112, *]
theorem CompactS_w {l:List (List Int)} {cs:List AV} {g:Nat→Option Blk} {lo n B:Nat} (hrf:RowsW (outG g lo B) n l cs) (hgB:g B=some (.cells cs true 1)) (hpos:0 < l.length) (hlen:l.length≤100000) (hw:∀ w∈l,w.length≤100000) (hne:∀ k (h:k+1 < l.length),l[k+1]≠l[k]) :
  WC 0 Tryz.prog 111 [.slq B 0 l.length 0,.lit (.func (.func 112) #[] #[])] ⟨.fn g,n⟩ fun r=>r=.ret (.slq B 0 l.length 0) ⟨.fn g,n⟩:=by
 have hcl:=hrf.1
 have hit:∀ (k:Nat) (h:k < l.length),RepW g n l[k] (cs[k]'(by omega)):=by
  intro k h
  obtain ⟨sv,e1,e2⟩:=hrf.2 k h
  rw [List.getElem?_eq_getElem (by omega)] at e1
  cases e1
  exact SliceV.ext (Nat.le_refl _) (fun a z _ hz=>(outG_some hz).2.2) e2
 have HIT:=Hide.mk hit
 have HW:=Hide.mk hw
 have HNE:=Hide.mk hne
 clear hit hrf hw hne
 have hlI:(l.length:Int)≤100000:=by omega
 by_cases h1:l.length < 2
 ·have h1I:(l.length:Int) < 2:=by omega
  refine WC.enterP (noO_ok _ _) hG pl111 Tryz.func111 rfl (by decide +kernel) (Nat.le_of_ble_eq_true (by kernel_rfl)) ?_
  iterate 8 all_goals try first|with_reducible refine splitI (fun h=>?_) fun h=>?_|with_reducible refine splitBI (fun h=>?_) fun h=>?_|simp (maxSteps:=999999) (disch:=first|assumption|omega|(simp;done)|fail) [Tryz.results111, *]
 have h1I:¬(l.length:Int) < 2:=by omega
 refine WC.enterP (noO_ok _ _) hG pl111 Tryz.func111 rfl (by decide +kernel) (Nat.le_of_ble_eq_true (by kernel_rfl)) ?_
 iterate 8 all_goals try first|with_reducible refine splitI (fun h=>?_) fun h=>?_|with_reducible refine splitBI (fun h=>?_) fun h=>?_|simp (maxSteps:=999999) (disch:=first|assumption|omega|(simp;done)|fail) [Tryz.results111, *]
 refine LX.ind (fun m gf H'=>∃ (k:Nat),1≤k∧k≤l.length∧m=l.length - k∧H'=⟨.fn g,n⟩∧gf 0=some (.slq B 0 l.length 0)∧gf 1=some (.lit (.func (.func 112) #[] #[]))∧gf 5=some (.lit (.int .i64 k))) (m0:=l.length - 1) ?_ ?_
 ·exact ⟨1,Nat.le_refl _,by omega,rfl,rfl,by simp,by simp,by simp⟩
 rintro m gf H' ⟨k,hk1,hk,rfl,rfl,w0,w1,w5⟩ ih
 refine LX.roundP (noO_ok _ _) hG pl111 (by decide +kernel) ?_
 by_cases hlt:k < l.length
 ·have hltI:(k:Int) < (l.length:Int):=by omega
  obtain ⟨j,rfl⟩ : ∃ j,k=j+1:=⟨k - 1,by omega⟩
  have HE:=Hide.mk (SEqual_w (HW.out _ (List.getElem_mem hlt)) (HW.out _ (List.getElem_mem (show j < l.length by omega))) g n _ _ (HIT.out (j+1) hlt) (HIT.out j (by omega)))
  rw [decide_eq_false (HNE.out j hlt)] at HE
  iterate 8 all_goals try first|with_reducible refine splitI (fun h=>?_) fun h=>?_|with_reducible refine splitBI (fun h=>?_) fun h=>?_|simp (maxSteps:=999999) (disch:=first|assumption|omega|(simp;done)|fail) [Tryz.results111, *]
  refine WC.mono HE.out ?_
  rintro _ rfl
  iterate 8 all_goals try first|with_reducible refine splitI (fun h=>?_) fun h=>?_|with_reducible refine splitBI (fun h=>?_) fun h=>?_|simp (maxSteps:=999999) (disch:=first|assumption|omega|(simp;done)|fail) [Tryz.results111, *]
  exact ih.out (l.length - (j+1+1)) _ _ (by omega) ⟨j+1+1,by omega,by omega,rfl,rfl,by simp [*],by simp [*],by simp⟩
 ·have hltI:¬(k:Int) < (l.length:Int):=by omega
  iterate 8 all_goals try first|with_reducible refine splitI (fun h=>?_) fun h=>?_|with_reducible refine splitBI (fun h=>?_) fun h=>?_|simp (maxSteps:=999999) (disch:=first|assumption|omega|(simp;done)|fail) [Tryz.results111, *]
end Go.Ai
end
section
namespace Go.Ai
open Go.Proofs
set_option maxRecDepth 100000
def vI (k:IntKind) (n:Nat) : AV:=.lit (.int k (Int.ofNat n))
def vM (k:IntKind) (n:Nat) : AV:=.lit (.int k (Int.negSucc n))
def bl0:List AV:=[vM .i64 0,vM .i64 0,vM .i64 0,vM .i64 0]
def bl1:List AV:=[.sl 20 0 2 2]
def bl2:List AV:=[vI .i64 1]
def bl3:List AV:=[vI .i64 0]
def bl4:List AV:=[.sl 5 0 1 1,.sl 6 0 1 1]
def bl5:List AV:=[]
def bl6:List AV:=[.sl 1 0 0 0]
def bl7:List AV:=[vI .i64 5,vI .i64 0,vI .i64 6,vI .i64 0]
def bl8:List AV:=[vI .i64 3,vI .i64 1,vI .i64 4,vI .i64 0]
def bl9:List AV:=[vI .i64 1,vI .i64 0,vI .i64 2,vI .i64 0]
def bl10:List AV:=[.sl 495 0 2 2,.sl 502 0 2 2,.sl 509 0 2 2,.sl 516 0 2 2,.sl 521 0 2 2,.sl 526 0 2 2,.sl 531 0 2 2]
def bl11:List AV:=[.sl 546 0 1 1,.sl 548 0 1 1]
def bl12:List AV:=[.sl 544 0 0 0]
def bl13:List AV:=[.sl 724 0 2 2,.sl 726 0 2 2,.sl 728 0 2 2,.sl 730 0 2 2,.sl 732 0 2 2,.sl 734 0 2 2,.sl 736 0 2 2]
def bl14:List AV:=[.sl 720 0 1 1,.sl 722 0 1 1]
def bl15:List AV:=[.sl 718 0 0 0,.sl 739 0 1 1]
def bl16:List AV:=[vI .i64 9,vI .i64 1,vI .i64 10,vI .i64 0]
def bl17:List AV:=[vI .i64 7,vI .i64 0,vI .i64 8,vI .i64 0]
def bl18:List AV:=[.sl 1530 0 2 2,.sl 1537 0 2 2,.sl 1544 0 2 2,.sl 1551 0 2 2,.sl 1558 0 2 2,.sl 1565 0 2 2,.sl 1570 0 2 2,.sl 1575 0 2 2,.sl 1580 0 2 2,.sl 1585 0 2 2,.sl 1590 0 2 2]
def bl19:List AV:=[.sl 1607 0 1 1,.sl 1609 0 1 1]
def bl20:List AV:=[.sl 1603 0 0 0,.sl 1605 0 1 1]
def bl21:List AV:=[vM .i64 0,vM .i64 0]
def bl22:List AV:=[.sl 2881 0 1 1]
def bl23:List AV:=[.sl 2867 0 1 1]
def bl24:List AV:=[.sl 2863 0 0 0]
def bl25:List AV:=[vI .i64 2,vI .i64 0]
def bl26:List AV:=[vI .i64 1,vI .i64 0]
def bl27:List AV:=[.sl 2952 0 1 1,.sl 2957 0 1 1,.sl 2962 0 1 1]
def bl28:List AV:=[.sl 2976 0 1 1]
def bl29:List AV:=[.sl 2974 0 0 0]
def bl30:List AV:=[vI .i64 3,vI .i64 1]
def bl31:List AV:=[.sl 3415 0 1 1,.sl 3420 0 1 1,.sl 3425 0 1 1,.sl 3430 0 1 1]
def bl32:List AV:=[.sl 3444 0 1 1]
def bl33:List AV:=[.sl 3442 0 0 0]
def bl34:List AV:=[vI .i64 0,vI .i64 1,vI .i64 1,vI .i64 0]
def bl35:List AV:=[vI .i64 1,vI .i64 0,vI .i64 0,vI .i64 0]
def bl36:List AV:=[.sl 117 0 2 2,.sl 118 0 2 2]
def bl37:List AV:=[vI .i64 0,vI .i64 0,vI .i64 0]
def bl38:List AV:=[vI .i64 0,vI .i64 1,vI .i64 1]
def bl39:List AV:=[vI .i64 0,vI .i64 0,vI .i64 1]
def bl40:List AV:=[vI .i64 0,vI .i64 1,vI .i64 0]
def bl41:List AV:=[.sl 1110 0 3 3,.sl 1102 0 3 3,.sl 1142 0 3 3,.sl 1134 0 3 3,.sl 1174 0 3 3,.sl 1166 0 3 3,.sl 1206 0 3 3,.sl 1198 0 3 3]
def bl42:List AV:=[.sl 896 0 2 2,.sl 897 0 2 2]
def bl43:List AV:=[vI .i64 0,vI .i64 0]
def glob0:List (Nat×List AV):=[]
noncomputable def H0:Mem:=⟨.tr (baseT glob0 e4),0⟩
theorem hG0:0=Tryz.prog.globals.size:=by kernel_rfl
def bs0:List (Nat×List AV):=glob0++[(20,bl0),(18,bl1),(6,bl2),(5,bl3),(3,bl4),(1,bl5),(2,bl6)]
def bs1:List (Nat×List AV):=glob0++[(531,bl0),(526,bl0),(521,bl0),(516,bl0),(509,bl7),(502,bl8),(495,bl9),(493,bl10),(548,bl2),(546,bl3),(541,bl11),(544,bl5),(539,bl12)]
def bs2:List (Nat×List AV):=glob0++[(736,bl0),(734,bl0),(732,bl0),(730,bl0),(728,bl7),(726,bl8),(724,bl9),(717,bl13),(722,bl2),(720,bl3),(715,bl14),(739,bl3),(718,bl5),(741,bl15)]
def bs3:List (Nat×List AV):=glob0++[(1590,bl0),(1585,bl0),(1580,bl0),(1575,bl0),(1570,bl0),(1565,bl0),(1558,bl16),(1551,bl17),(1544,bl7),(1537,bl8),(1530,bl9),(1528,bl18),(1609,bl2),(1607,bl3),(1600,bl19),(1605,bl3),(1603,bl5),(1598,bl20)]
def bs4:List (Nat×List AV):=glob0++[(2881,bl21),(2879,bl22),(2867,bl3),(2865,bl23),(2863,bl5),(2864,bl24)]
def bs5:List (Nat×List AV):=glob0++[(2962,bl21),(2957,bl25),(2952,bl26),(2950,bl27),(2976,bl3),(2971,bl28),(2974,bl5),(2969,bl29)]
def bs6:List (Nat×List AV):=glob0++[(3430,bl21),(3425,bl30),(3420,bl25),(3415,bl26),(3413,bl31),(3444,bl3),(3439,bl32),(3442,bl5),(3437,bl33)]
def bs7:List (Nat×List AV):=glob0++[(118,bl34),(117,bl35),(119,bl36),(20,bl0),(18,bl1),(6,bl2),(5,bl3),(3,bl4),(1,bl5),(2,bl6)]
def bs8:List (Nat×List AV):=glob0++[(1198,bl37),(1206,bl38),(1166,bl39),(1174,bl40),(1134,bl40),(1142,bl39),(1102,bl40),(1110,bl37),(1068,bl41),(736,bl0),(734,bl0),(732,bl0),(730,bl0),(728,bl7),(726,bl8),(724,bl9),(717,bl13),(722,bl2),(720,bl3),(715,bl14),(739,bl3),(718,bl5),(741,bl15)]
def bs9:List (Nat×List AV):=glob0++[(897,bl34),(896,bl35),(898,bl42),(736,bl0),(734,bl0),(732,bl0),(730,bl0),(728,bl7),(726,bl8),(724,bl9),(717,bl13),(722,bl2),(720,bl3),(715,bl14),(739,bl3),(718,bl5),(741,bl15)]
def bs10:List (Nat×List AV):=glob0++[(2379,bl43),(2378,bl26),(1590,bl0),(1585,bl0),(1580,bl0),(1575,bl0),(1570,bl0),(1565,bl0),(1558,bl16),(1551,bl17),(1544,bl7),(1537,bl8),(1530,bl9),(1528,bl18),(1609,bl2),(1607,bl3),(1600,bl19),(1605,bl3),(1603,bl5),(1598,bl20)]
end Go.Ai
end
