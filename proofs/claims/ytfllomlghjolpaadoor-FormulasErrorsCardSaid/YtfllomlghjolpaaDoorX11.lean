/- A small verified interpreter over names, its proofs, and what was proved with it. No condition. -/
import Derived.Test.YtfllomlghjolpaaDoorX07
import Derived.Test.YtfllomlghjolpaaDoorX09
import Derived.Test.YtfllomlghjolpaaDoorX06
import Derived.Test.YtfllomlghjolpaaDoorX05
import Derived.Test.YtfllomlghjolpaaDoorX10
set_option linter.all false
set_option linter.deprecated false
section
namespace Go.Ai
open Go.Proofs
set_option maxRecDepth 10000
set_option maxHeartbeats 40000000
end Go.Ai
end
section
namespace Go.Ai
open Go.Proofs
set_option maxRecDepth 10000
set_option maxHeartbeats 40000000
end Go.Ai
end
section
namespace Go.Ai
open Go.Proofs
set_option maxRecDepth 10000
set_option maxHeartbeats 40000000
end Go.Ai
end
section
namespace Go.Ai
open Go.Proofs
set_option maxRecDepth 10000
set_option maxHeartbeats 40000000
end Go.Ai
end
section
namespace Go.Ai
open Go.Proofs
set_option maxRecDepth 10000
set_option maxHeartbeats 40000000
end Go.Ai
end
section
namespace Go.Ai
open Go.Proofs Go.ChangeShapes Go.WideShapes Go.ChangeAt Go.RowKit
set_option maxRecDepth 10000
variable {H:Type} {enc:TypeId×Value→H} {w:World} {base:Nat}
theorem h0_get (i:Nat) (x:Blk) (hx:blks0[i]?=some x) : H0.get i=some x:=by
 have h9:=holds_spec (H:=H0) (l:=blks0) (i:=0) (by kernel_rfl) i x hx
 rwa [Nat.zero_add] at h9
end Go.Ai
end
section
namespace Go.Ai
open Go.Proofs Go.ChangeShapes Go.WideShapes Go.ChangeAt Go.RowKit
set_option maxRecDepth 10000
variable {H:Type} {enc:TypeId×Value→H} {w:World}
theorem c34:Tryd.prog.cellsOf 34=4:=by kernel_rfl
theorem c30:Tryd.prog.cellsOf 30=3:=by kernel_rfl
theorem c70:Tryd.prog.cellsOf 70=2:=by kernel_rfl
theorem c63:Tryd.prog.cellsOf 63=1:=by kernel_rfl
theorem c28:Tryd.prog.cellsOf 28=1:=by kernel_rfl
theorem c31:Tryd.prog.cellsOf 31=1:=by kernel_rfl
theorem c32:Tryd.prog.cellsOf 32=1:=by kernel_rfl
theorem c3:Tryd.prog.cellsOf 3=1:=by kernel_rfl
theorem wf8u {z:Int} (h:(Lit.int .u8 z).wf=true) : 0≤z∧z≤255:=by
 simp only [Lit.wf,Bool.and_eq_true,decide_eq_true_eq] at h
 exact h
theorem two_of {cs:List Value} (h:cs.length=2) : ∃ a b,cs=[a,b]:=by
 match cs,h with
 | [a,b],_=>exact ⟨a,b,rfl⟩
theorem three_of {cs:List Value} (h:cs.length=3) : ∃ a b c,cs=[a,b,c]:=by
 match cs,h with
 | [a,b,c],_=>exact ⟨a,b,c,rfl⟩
theorem four_of {cs:List Value} (h:cs.length=4) : ∃ a b c d,cs=[a,b,c,d]:=by
 match cs,h with
 | [a,b,c,d],_=>exact ⟨a,b,c,d,rfl⟩
theorem repN_cells {g:Nat→Option Blk} {b:Nat} {x:NodeM} {cs:List AV} (h:repN g b x cs) : cs.length=4:=by
 cases x
 obtain ⟨_,sv,rfl,_⟩:=h
 rfl
theorem slice_one {t e:TypeId} {fuel:Nat} {cs:List Value} {x:DataW H×List MemPlace} (ht:Tryd.prog.underlying t=some (.slice e)) (h:DataW.trod enc Tryd.prog w 0 (fun _=>true) true fuel t cs=some x) : ∃ s,cs=[s]:=by
 rcases DataW.trod_slice ht h with ⟨h1,_⟩ | ⟨a,len,cap,elems,rest,m,_,h1,_⟩
 ·exact ⟨_,h1⟩
 ·exact ⟨_,h1⟩
def RL {β:Type} (R:(Nat→Option Blk)→Nat→β→List AV→Prop) (g:Nat→Option Blk) (b:Nat) : List β→List AV→Prop
 | [],cs=>cs=[]
 | x :: l,cs=>∃ c r,cs=c++r∧R g b x c∧RL R g b l r
theorem RL_len {β:Type} {R:(Nat→Option Blk)→Nat→β→List AV→Prop} {g:Nat→Option Blk} {b sz:Nat} (hl:∀ {x cs},R g b x cs→cs.length=sz) : ∀ {l:List β} {cs:List AV},RL R g b l cs→cs.length=l.length * sz
 | [],cs,h=>by have h' : cs=[]:=h; rw [h']; simp
 | x :: l,cs,⟨c,r,h1,h2,h3⟩=>by rw [h1,List.length_append,hl h2,RL_len hl h3,List.length_cons,Nat.succ_mul]; omega
theorem RL_take {β:Type} {R:(Nat→Option Blk)→Nat→β→List AV→Prop} {g:Nat→Option Blk} {b:Nat} : ∀ (n:Nat) {l:List β} {cs:List AV},RL R g b l cs→∃ c r,cs=c++r∧RL R g b (l.take n) c
 | 0,l,cs,_=>⟨[],cs,rfl,rfl⟩
 | n+1,[],cs,h=>⟨cs,[],by simp,h⟩
 | n+1,x :: l,cs,⟨c,r,h1,h2,h3⟩=>by
  obtain ⟨c',r',h4,h5⟩:=RL_take n h3
  exact ⟨c++c',r',by rw [h1,h4,List.append_assoc],c,c',rfl,h2,h5⟩
theorem mkL_rep {α β:Type} {f:α→Mem→Option (List AV×Mem)} {R:(Nat→Option Blk)→Nat→β→List AV→Prop} {sz:Nat} (hm:∀ {g g' : Nat→Option Blk} {b b' : Nat} {x:β} {cs:List AV},b≤b'→(∀ a,a < b→g' a=g a)→R g b x cs→R g' b' x cs)
  (hl:∀ {g:Nat→Option Blk} {b:Nat} {x:β} {cs:List AV},R g b x cs→cs.length=sz) :
  ∀ (ds:List α),(∀ d∈ds,∀ g b,∃ avs g' b' x,f d ⟨.fn g,b⟩=some (avs,⟨.fn g',b'⟩)∧b≤b'∧(∀ a,a < b→g' a=g a)∧R g' b' x avs) →
  ∀ g b,∃ avs g' b' l,mkL f sz ds ⟨.fn g,b⟩=some (avs,⟨.fn g',b'⟩)∧b≤b'∧(∀ a,a < b→g' a=g a)∧l.length=ds.length∧RL R g' b' l avs
 | [],_,g,b=>⟨[],g,b,[],rfl,Nat.le_refl _,fun _ _=>rfl,rfl,rfl⟩
 | d :: ds,h,g,b=>by
  obtain ⟨a1,g1,b1,x,e1,h1,h2,h3⟩:=h d (by simp) g b
  obtain ⟨a2,g2,b2,l,e2,k1,k2,k3,k4⟩:=mkL_rep (f:=f) (R:=R) (sz:=sz) hm hl ds (fun d hd=>h d (by simp [hd])) g1 b1
  refine ⟨a1++a2,g2,b2,x :: l,?_,by omega,fun a ha=>(k2 a (by omega)).trans (h2 a ha),by simp [k3],a1,a2,rfl,hm k1 k2 h3,k4⟩
  unfold mkL
  rw [e1]
  dsimp only
  rw [e2]
  dsimp only
  rw [show Nat.beq a1.length sz=true from Nat.beq_eq.mpr (hl h3)]
theorem name_slice {β:Type} {R:(Nat→Option Blk)→Nat→β→List AV→Prop} {t e:TypeId} {sz:Nat} (ht:Tryd.prog.underlying t=some (.slice e)) (hsz:Tryd.prog.cellsOf e=sz) (hs0:0 < sz)
  (hm:∀ {g g' : Nat→Option Blk} {b b' : Nat} {x:β} {cs:List AV},b≤b'→(∀ a,a < b→g' a=g a)→R g b x cs→R g' b' x cs)
  (hl:∀ {g:Nat→Option Blk} {b:Nat} {x:β} {cs:List AV},R g b x cs→cs.length=sz) {fuel:Nat} {s:Value} {d:DataW H} {p:List MemPlace}
  (h:DataW.trod enc Tryd.prog w 0 (fun _=>true) true fuel t [s]=some (d,p))
  (he:∀ m cs d p,m < fuel→DataW.trod enc Tryd.prog w 0 (fun _=>true) true m e cs=some (d,p)→∀ N,m≤N→∀ g b,∃ avs g' b' x,mkD Tryd.prog noTok N e d ⟨.fn g,b⟩=some (avs,⟨.fn g',b'⟩)∧b≤b'∧(∀ a,a < b→g' a=g a)∧R g' b' x avs)
  (N:Nat) (hN:fuel≤N) (g:Nat→Option Blk) (b:Nat) :
  ∃ sv g' b' l,mkD Tryd.prog noTok N t d ⟨.fn g,b⟩=some ([sv],⟨.fn g',b'⟩)∧b≤b'∧(∀ a,a < b→g' a=g a) ∧
   ((l=[]∧(sv=.lit (.slice none 0 0)∨sv=.es))∨∃ a off r,a < b'∧((∃ c,sv=.sl a off l.length c)∨∃ c,sv=.slq a off l.length c)∧Row g' a off r∧RL R g' b' l r):=by
 rcases DataW.trod_slice ht h with ⟨_,hx⟩ | ⟨a,len,cap,elems,rest,m,rfl,_,hx,_,hlc,_,hlen,hel,hrs,_⟩
 ·cases hx
  have hf:fuel≠0:=by
   rintro rfl
   simp [DataW.trod] at h
  obtain ⟨N,rfl⟩ : ∃ M,N=M+1:=⟨N - 1,by omega⟩
  refine ⟨.lit (.slice none 0 0),g,b,[],?_,Nat.le_refl _,fun _ _=>rfl,.inl ⟨rfl,.inl rfl⟩⟩
  unfold mkD
  rw [ht]
 ·obtain ⟨hrl,hre⟩:=hrs rfl
  simp only [Prod.mk.injEq] at hx
  obtain ⟨rfl,_⟩:=hx
  obtain ⟨N,rfl⟩ : ∃ M,N=M+1:=⟨N - 1,by omega⟩
  have all:∀ x∈elems++rest,∃ ci,DataW.trod enc Tryd.prog w 0 (fun _=>true) true m e ci=some x:=by
   intro x hx
   rcases List.mem_append.1 hx with hx | hx
   ·obtain ⟨i,hi,rfl⟩:=List.mem_iff_getElem.1 hx
    have:=hel i (by omega)
    rw [List.getElem?_eq_getElem hi] at this
    obtain ⟨ci,_,h3⟩:=Option.bind_eq_some_iff.1 this
    exact ⟨ci,h3⟩
   ·obtain ⟨i,hi,rfl⟩:=List.mem_iff_getElem.1 hx
    have:=hre i (by omega)
    rw [List.getElem?_eq_getElem hi] at this
    obtain ⟨ci,_,h3⟩:=Option.bind_eq_some_iff.1 this
    exact ⟨ci,h3⟩
  obtain ⟨avs,g1,b1,l,e1,k1,k2,k3,k4⟩:=mkL_rep (f:=mkD Tryd.prog noTok N e) (R:=R) (sz:=sz) hm hl ((elems++rest).map (·.1)) (by
   intro d hd g b
   obtain ⟨x,hx,rfl⟩:=List.mem_map.1 hd
   obtain ⟨ci,h3⟩:=all x hx
   exact he m ci x.1 x.2 (by omega) h3 N (by omega) g b) g b
  rw [List.map_append] at e1
  have hla:=RL_len (fun h=>hl h) k4
  rw [List.length_map,List.length_append] at k3
  cases hcs:elems.map (·.1)++rest.map (·.1) with
  | nil =>
   have h0:elems.length=0:=by
    have:=congrArg List.length hcs
    rw [List.length_append,List.length_map,List.length_nil] at this
    omega
   refine ⟨.es,g,b,[],?_,Nat.le_refl _,fun _ _=>rfl,.inl ⟨rfl,.inr rfl⟩⟩
   unfold mkD
   rw [ht]
   dsimp only
   rw [hcs]
  | cons y ys =>
   have hpos:0 < elems.length+rest.length:=by
    have:=congrArg List.length hcs
    rw [List.length_append,List.length_map,List.length_map,List.length_cons] at this
    omega
   obtain ⟨z,zs,rfl⟩ : ∃ z zs,avs=z :: zs:=by
    cases avs with
    | nil =>
     rw [k3] at hla
     have:0 < (elems.length+rest.length) * sz:=Nat.mul_pos hpos hs0
     rw [List.length_nil] at hla
     omega
    | cons z zs=>exact ⟨z,zs,rfl⟩
   obtain ⟨c,r,q1,q2⟩:=RL_take elems.length k4
   have hcl:=RL_len (fun h=>hl h) q2
   have hfr:∀ a,a < b1→gput g1 b1 (some (.cells (z :: zs) false 0)) a=g1 a:=fun a ha=>gput_lt ha
   refine ⟨.sl b1 0 elems.length (elems.length+rest.length),gput g1 b1 (some (.cells (z :: zs) false 0)),b1+1,l.take elems.length,?_,by omega,fun a ha=>(hfr a (by omega)).trans (k2 a ha),.inr ⟨b1,0,c,Nat.lt_succ_self _,.inl ⟨elems.length+rest.length,?_⟩,?_,?_⟩⟩
   ·unfold mkD
    rw [ht]
    dsimp only
    rw [hcs] at e1
    rw [hsz,hcs]
    dsimp only
    rw [e1]
    simp only [List.length_map]
    rfl
   ·rw [List.length_take,Nat.min_eq_left (by omega)]
   ·refine ⟨z :: zs,false,0,if_pos rfl,?_,?_⟩
    ·rw [q1,List.length_append]; omega
    ·rw [q1,List.drop_zero,List.take_left]
   ·have key:∀ (l:List β) (cs:List AV),RL R g1 b1 l cs→RL R (gput g1 b1 (some (.cells (z :: zs) false 0))) (b1+1) l cs:=by
     intro l
     induction l with
     | nil=>intro cs h; exact h
     | cons x l ih=>rintro cs ⟨c,r,h1,h2,h3⟩; exact ⟨c,r,h1,hm (by omega) hfr h2,ih r h3⟩
    exact key _ _ q2
theorem repL_of:∀ {g:Nat→Option Blk} {b:Nat} {l:List NodeM} {cs:List AV},RL repN g b l cs→repL g b l cs
 | _,_,[],_,h=>h
 | _,_,_ :: _,_,⟨c,r,h1,h2,h3⟩=>⟨c,r,h1,h2,repL_of h3⟩
theorem node_mk:∀ (fuel:Nat) (cs:List Value) (d:DataW H) (p:List MemPlace),DataW.trod enc Tryd.prog w 0 (fun _=>true) true fuel 34 cs=some (d,p)→∀ N,fuel≤N→∀ g b,∃ avs g' b' x,mkD Tryd.prog noTok N 34 d ⟨.fn g,b⟩=some (avs,⟨.fn g',b'⟩)∧b≤b'∧(∀ a,a < b→g' a=g a)∧repN g' b' x avs
 | fuel,cs,d,p,h,N,hN,g,b=>by
  obtain ⟨xs,m,rfl,hd,hl,hn,he⟩:=DataW.trod_struct Tryd.underlying34 h
  rw [c34] at hl
  obtain ⟨v0,v1,v2,v3,rfl⟩:=four_of hl
  have h0:DataW.trod enc Tryd.prog w 0 (fun _=>true) true m 31 (([v0,v1,v2,v3].drop 0).take (Tryd.prog.cellsOf 31))=xs[0]?:=he 0 _ rfl
  have h1:DataW.trod enc Tryd.prog w 0 (fun _=>true) true m 3 (([v0,v1,v2,v3].drop 1).take (Tryd.prog.cellsOf 3))=xs[1]?:=he 1 _ rfl
  have h2:DataW.trod enc Tryd.prog w 0 (fun _=>true) true m 3 (([v0,v1,v2,v3].drop 2).take (Tryd.prog.cellsOf 3))=xs[2]?:=he 2 _ rfl
  have h3:DataW.trod enc Tryd.prog w 0 (fun _=>true) true m 32 (([v0,v1,v2,v3].drop 3).take (Tryd.prog.cellsOf 32))=xs[3]?:=he 3 _ rfl
  rw [c31] at h0
  rw [c3] at h1 h2
  rw [c32] at h3
  have hn' : xs.length=4:=hn
  obtain ⟨x0,x1,x2,x3,rfl⟩ : ∃ a b c d,xs=[a,b,c,d]:=by
   match xs,hn' with
   | [a,b,c,d],_=>exact ⟨a,b,c,d,rfl⟩
  obtain ⟨op,e0,f0,hw⟩:=DataW.trod_int (x:=x0) Tryd.underlying31 h0
  obtain ⟨k,e1,f1,_⟩:=DataW.trod_int (x:=x1) Tryd.underlying3 h1
  obtain ⟨q,e2,f2,_⟩:=DataW.trod_int (x:=x2) Tryd.underlying3 h2
  subst f0
  subst f1
  subst f2
  have hx3:DataW.trod enc Tryd.prog w 0 (fun _=>true) true m 32 [v3]=some (x3.1,x3.2):=h3
  obtain ⟨sv,g1,b1,l,e4,k1,k2,k3⟩:=name_slice (R:=repN) Tryd.underlying32 c34 (by decide) (fun h1 h2 h3=>repN_mono h1 h2 h3) (fun h=>repN_cells h) hx3
   (fun m' cs' d' p' hm' h' N' hN' g' b'=>node_mk m' cs' d' p' h' N' hN' g' b') (N - 1) (by omega) g b
  have hop:=wf8u hw
  refine ⟨[.lit (.int .u8 op),.lit (.int .i64 k),.lit (.int .i64 q),sv],g1,b1,.mk op.toNat k q l,?_,k1,k2,by omega,sv,?_,?_⟩
  ·have hd' : d=.agg [.lit (.int .u8 op),.lit (.int .i64 k),.lit (.int .i64 q),x3.1]:=by
    have:=congrArg Prod.fst hd
    exact this
   subst hd'
   have hm0:m≠0:=by rintro rfl; simp [DataW.trod] at h0
   obtain ⟨N,rfl⟩ : ∃ M,N=M+2:=⟨N - 2,by omega⟩
   have e4' : mkD Tryd.prog noTok (N+1) 32 x3.1 ⟨.fn g,b⟩=some ([sv],⟨.fn g1,b1⟩):=e4
   have i0:mkD (Hh:=H) Tryd.prog noTok (N+1) 31 (.lit (.int .u8 op)) ⟨.fn g,b⟩=some ([.lit (.int .u8 op)],⟨.fn g,b⟩):=by
    unfold mkD; rw [Tryd.underlying31]
   have i1:∀ k:Int,mkD (Hh:=H) Tryd.prog noTok (N+1) 3 (.lit (.int .i64 k)) ⟨.fn g,b⟩=some ([.lit (.int .i64 k)],⟨.fn g,b⟩):=by
    intro k; unfold mkD; rw [Tryd.underlying3]
   unfold mkD
   rw [Tryd.underlying34]
   dsimp only
   simp only [mkF,i0,i1,e4',c31,c3,c32,c34]
   rfl
  ·rw [Int.toNat_of_nonneg hop.1]
  ·rcases k3 with k3 | ⟨a,off,r,q1,q2,q3,q4⟩
   ·exact .inl k3
   ·exact .inr ⟨a,off,r,q1,q2,q3,repL_of q4⟩
 termination_by fuel=>fuel
def EdgeR (_:Nat→Option Blk) (_:Nat) (x:Int×Int) (avs:List AV) : Prop:=avs=[.lit (.int .i64 x.1),.lit (.int .i64 x.2)]
def RowR (g:Nat→Option Blk) (b:Nat) (r:List (Int×Int)) (avs:List AV) : Prop:=∃ sv,avs=[sv]∧SliceV g b sv r.length (rowC r)
theorem edge_mk (fuel:Nat) (cs:List Value) (d:DataW H) (p:List MemPlace) (h:DataW.trod enc Tryd.prog w 0 (fun _=>true) true fuel 70 cs=some (d,p)) (N:Nat) (hN:fuel≤N) (g:Nat→Option Blk) (b:Nat) :
  ∃ avs g' b' x,mkD Tryd.prog noTok N 70 d ⟨.fn g,b⟩=some (avs,⟨.fn g',b'⟩)∧b≤b'∧(∀ a,a < b→g' a=g a)∧EdgeR g' b' x avs:=by
 obtain ⟨xs,m,rfl,hd,hl,hn,he⟩:=DataW.trod_struct Tryd.underlying70 h
 rw [c70] at hl
 obtain ⟨v0,v1,rfl⟩:=two_of hl
 have h0:DataW.trod enc Tryd.prog w 0 (fun _=>true) true m 3 (([v0,v1].drop 0).take (Tryd.prog.cellsOf 3))=xs[0]?:=he 0 _ rfl
 have h1:DataW.trod enc Tryd.prog w 0 (fun _=>true) true m 3 (([v0,v1].drop 1).take (Tryd.prog.cellsOf 3))=xs[1]?:=he 1 _ rfl
 rw [c3] at h0 h1
 have hn' : xs.length=2:=hn
 obtain ⟨x0,x1,rfl⟩ : ∃ a b,xs=[a,b]:=by
  match xs,hn' with
  | [a,b],_=>exact ⟨a,b,rfl⟩
 obtain ⟨to,e0,f0,_⟩:=DataW.trod_int (x:=x0) Tryd.underlying3 h0
 obtain ⟨out,e1,f1,_⟩:=DataW.trod_int (x:=x1) Tryd.underlying3 h1
 subst f0
 subst f1
 have hd' : d=.agg [.lit (.int .i64 to),.lit (.int .i64 out)]:=congrArg Prod.fst hd
 subst hd'
 have hm0:m≠0:=by rintro rfl; simp [DataW.trod] at h0
 obtain ⟨N,rfl⟩ : ∃ M,N=M+2:=⟨N - 2,by omega⟩
 refine ⟨[.lit (.int .i64 to),.lit (.int .i64 out)],g,b,(to,out),?_,Nat.le_refl _,fun _ _=>rfl,rfl⟩
 have i1:∀ k:Int,mkD (Hh:=H) Tryd.prog noTok (N+1) 3 (.lit (.int .i64 k)) ⟨.fn g,b⟩=some ([.lit (.int .i64 k)],⟨.fn g,b⟩):=by
  intro k; unfold mkD; rw [Tryd.underlying3]
 unfold mkD
 rw [Tryd.underlying70]
 dsimp only
 simp only [mkF,i1,c3,c70]
 rfl
theorem edges_of {g:Nat→Option Blk} {b:Nat} : ∀ {l:List (Int×Int)} {cs:List AV},RL EdgeR g b l cs→cs=rowC l
 | [],_,h=>h
 | x :: l,_,⟨c,r,h1,h2,h3⟩=>by
  have h2:c=[.lit (.int .i64 x.1),.lit (.int .i64 x.2)]:=h2
  rw [h1,h2,edges_of h3]; rfl
theorem row_mk (fuel:Nat) (cs:List Value) (d:DataW H) (p:List MemPlace) (h:DataW.trod enc Tryd.prog w 0 (fun _=>true) true fuel 63 cs=some (d,p)) (N:Nat) (hN:fuel≤N) (g:Nat→Option Blk) (b:Nat) :
  ∃ avs g' b' x,mkD Tryd.prog noTok N 63 d ⟨.fn g,b⟩=some (avs,⟨.fn g',b'⟩)∧b≤b'∧(∀ a,a < b→g' a=g a)∧RowR g' b' x avs:=by
 obtain ⟨s,rfl⟩:=slice_one Tryd.underlying63 h
 obtain ⟨sv,g1,b1,l,e1,t1,t2,t3⟩:=name_slice (R:=EdgeR) Tryd.underlying63 c70 (by decide) (fun _ _ h=>h) (fun h=>by rw [show _=_ from h]; rfl) h (fun m cs d p _ h N hN g b=>edge_mk m cs d p h N hN g b) N hN g b
 refine ⟨[sv],g1,b1,l,e1,t1,t2,sv,rfl,?_⟩
 rcases t3 with ⟨rfl,h⟩ | ⟨a,off,r,q1,q2,q3,q4⟩
 ·exact .inl ⟨rfl,rfl,h⟩
 ·exact .inr ⟨a,off,q1,q2,by rw [← edges_of q4]; exact q3⟩
theorem rows_of {g:Nat→Option Blk} {b:Nat} : ∀ {l:List (List (Int×Int))} {cs:List AV},RL RowR g b l cs→RowsE g b l cs
 | [],_,h=>h
 | _ :: _,_,⟨c,r,h1,⟨sv,h2,h3⟩,h4⟩=>⟨sv,r,by rw [h1,h2]; rfl,h3,rows_of h4⟩
theorem mach_mk (fuel:Nat) (cs:List Value) (d:DataW H) (p:List MemPlace) (h:DataW.trod enc Tryd.prog w 0 (fun _=>true) true fuel 30 cs=some (d,p)) (N:Nat) (hN:fuel≤N) (g:Nat→Option Blk) (b:Nat) :
  ∃ avs g' b' M,mkD Tryd.prog noTok N 30 d ⟨.fn g,b⟩=some (avs,⟨.fn g',b'⟩)∧b≤b'∧(∀ a,a < b→g' a=g a)∧RepM g' b' M avs:=by
 obtain ⟨xs,m,rfl,hd,hl,hn,he⟩:=DataW.trod_struct Tryd.underlying30 h
 rw [c30] at hl
 obtain ⟨v0,v1,v2,rfl⟩:=three_of hl
 have h0:DataW.trod enc Tryd.prog w 0 (fun _=>true) true m 3 (([v0,v1,v2].drop 0).take (Tryd.prog.cellsOf 3))=xs[0]?:=he 0 _ rfl
 have h1:DataW.trod enc Tryd.prog w 0 (fun _=>true) true m 3 (([v0,v1,v2].drop 1).take (Tryd.prog.cellsOf 3))=xs[1]?:=he 1 _ rfl
 have h2:DataW.trod enc Tryd.prog w 0 (fun _=>true) true m 28 (([v0,v1,v2].drop 2).take (Tryd.prog.cellsOf 28))=xs[2]?:=he 2 _ rfl
 rw [c3] at h0 h1
 rw [c28] at h2
 have hn' : xs.length=3:=hn
 obtain ⟨x0,x1,x2,rfl⟩ : ∃ a b c,xs=[a,b,c]:=by
  match xs,hn' with
  | [a,b,c],_=>exact ⟨a,b,c,rfl⟩
 obtain ⟨inp,e0,f0,_⟩:=DataW.trod_int (x:=x0) Tryd.underlying3 h0
 obtain ⟨out,e1,f1,_⟩:=DataW.trod_int (x:=x1) Tryd.underlying3 h1
 subst f0
 subst f1
 have hx2:DataW.trod enc Tryd.prog w 0 (fun _=>true) true m 28 [v2]=some (x2.1,x2.2):=h2
 obtain ⟨sv,g1,b1,l,e2,k1,k2,k3⟩:=name_slice (R:=RowR) Tryd.underlying28 c63 (by decide) (fun h1 h2 ⟨sv,e,h3⟩=>⟨sv,e,h3.mono h1 h2⟩) (fun ⟨sv,e,h3⟩=>by rw [e]; rfl) hx2
  (fun m cs d p _ h N hN g b=>row_mk m cs d p h N hN g b) (N - 1) (by omega) g b
 refine ⟨[.lit (.int .i64 inp),.lit (.int .i64 out),sv],g1,b1,⟨inp,out,l⟩,?_,k1,k2,?_⟩
 ·have hd' : d=.agg [.lit (.int .i64 inp),.lit (.int .i64 out),x2.1]:=congrArg Prod.fst hd
  subst hd'
  have hm0:m≠0:=by rintro rfl; simp [DataW.trod] at h0
  obtain ⟨N,rfl⟩ : ∃ M,N=M+2:=⟨N - 2,by omega⟩
  have e2' : mkD Tryd.prog noTok (N+1) 28 x2.1 ⟨.fn g,b⟩=some ([sv],⟨.fn g1,b1⟩):=e2
  have i1:∀ k:Int,mkD (Hh:=H) Tryd.prog noTok (N+1) 3 (.lit (.int .i64 k)) ⟨.fn g,b⟩=some ([.lit (.int .i64 k)],⟨.fn g,b⟩):=by
   intro k; unfold mkD; rw [Tryd.underlying3]
  unfold mkD
  rw [Tryd.underlying30]
  dsimp only
  simp only [mkF,i1,e2',c3,c28,c30]
  rfl
 ·rcases k3 with ⟨rfl,h⟩ | ⟨a,off,r,q1,q2,q3,q4⟩
  ·exact ⟨sv,[],rfl,rfl,.inl ⟨rfl,rfl,h⟩⟩
  ·exact ⟨sv,r,rfl,rows_of q4,.inr ⟨a,off,q1,q2,q3⟩⟩
theorem calls_X (hl:retIs (.lit (.bool true)) (callF Tryd.prog noO 10000 14 [] H0)=true) {W:World} {v0 v1 v2:Value} {d0 d1 d2:DataW H} {p0 p1 p2:List MemPlace} {base:Nat} (hL:laidMetH Tryd.prog YtfllomlghjolpaaDoor.Rows.formulasKnownRow.laid W)
  (h0:DataW.Trod enc Tryd.prog W 0 (fun _=>true) true 30 v0 d0 p0) (h1:DataW.Trod enc Tryd.prog W 0 (fun _=>true) true 34 v1 d1 p1) (h2:DataW.Trod enc Tryd.prog W 0 (fun _=>true) true 3 v2 d2 p2) (k0:Value.okWide Tryd.prog W .any base 30 v0) (k1:Value.okWide Tryd.prog W .any base 34 v1) (k2:Value.okWide Tryd.prog W .any base 3 v2) :
  Calls Tryd.prog 8 #[v0,v1,v2] W fun e W'=>e=.returned (.bool true)∧Below W.heap.size W W':=by
 obtain ⟨sz,rfl,_,_,_⟩:=open_int Tryd.underlying3 k2 h2
 simp only [Value.okWide,Tryd.underlying30] at k0
 simp only [Value.okWide,Tryd.underlying34] at k1
 obtain ⟨cm,rfl,_⟩:=k0
 obtain ⟨cv,rfl,_⟩:=k1
 obtain ⟨f0,h0⟩:=h0
 obtain ⟨f1,h1⟩:=h1
 obtain ⟨ρ,s,hno⟩:=start_sound hL YtfllomlghjolpaaDoor.kinds lay0
 have s' : Sim W.heap.size 6 ρ ⟨.fn H0.get,8⟩ W:=by rw [← hG] at s; exact s.toFn
 have hno' : NoOwn ⟨.fn H0.get,8⟩:=fun a x hx=>hno a x hx
 obtain ⟨ms,g1,n1,M,e1,t1,t2,t3⟩:=mach_mk f0 _ d0 p0 h0 f0 (Nat.le_refl _) H0.get 8
 obtain ⟨ρ1,M1⟩:=mkD_sound (sp:=fun _=>true) (fun _=>rfl) (noTok_ok enc) f0 f0 30 _ d0 p0 ⟨.fn H0.get,8⟩ _ _ ρ h0 (fun h=>by cases h) s' hno' e1
 obtain ⟨cn,g2,n2,x,e2,u1,u2,u3⟩:=node_mk f1 _ d1 p1 h1 f1 (Nat.le_refl _) g1 n1
 obtain ⟨ρ2,M2⟩:=mkD_sound (sp:=fun _=>true) (fun _=>rfl) (noTok_ok enc) f1 f1 34 _ d1 p1 ⟨.fn g1,n1⟩ _ _ ρ1 h1 (fun h=>by cases h) M1.sim M1.no e2
 have hw:=formulasErrors_w hl M x sz ms cn g2 n2 (fun i y hy=>?_) (by omega) (t3.mono u1 u2) u3
 ·refine (hw W.heap.size ρ2 #[.agg cm,.agg cv,.int .i64 sz] W M2.sim ?_).mono ?_
  ·exact ⟨_,_,rfl,⟨cm,rfl,M1.vals.mono (M2.sub M1.sim)⟩,_,_,rfl,⟨cv,rfl,M2.vals⟩,_,_,rfl,rfl,rfl⟩
  ·rintro e W' ⟨r,⟨H',rfl⟩,hcp⟩
   cases e with
   | returned u=>obtain ⟨ρ',q1,q2,q3,q4⟩:=hcp; exact ⟨congrArg _ q3,q1.below⟩
   | _=>exact hcp.elim
 ·have h8:i < 8:=(List.getElem?_eq_some_iff.1 hy).1
  rw [u2 i (by omega),t2 i h8]
  exact h0_get i y hy
end Go.Ai
end
section
namespace Go.Proofs.YtfllomlghjolpaaDoor
open Go Go.Ai Go.ChangeShapes Go.WideShapes Go.ChangeAt Go.RowKit
theorem readsX (os:Os) {H:Type} (enc:TypeId×Value→H) : ∃ places,DataW.whole enc Tryd.prog ((World.doorLaid Tryd.prog 200 os).forCall (fun _ _=>0) ⟨#[],#[.agg #[.int .i64 0,.int .i64 0,.slice none 0 0],.agg #[.int .u8 0,.int .i64 0,.int .i64 0,.slice none 0 0],.int .i64 0],[]⟩).memory Tryd.f8.params.toList Rows.formulasErrorsSpec.vars false (#[.agg #[.int .i64 0,.int .i64 0,.slice none 0 0],.agg #[.int .u8 0,.int .i64 0,.int .i64 0,.slice none 0 0],.int .i64 0] : Array Value).toList 8=some ([.agg [.lit (.int .i64 0),.lit (.int .i64 0),.nil],.agg [.lit (.int .u8 0),.lit (.int .i64 0),.lit (.int .i64 0),.nil],.lit (.int .i64 0)],[],places) :=
 ⟨[],by kernel_rfl⟩
theorem door_metX (os:Os) (args:Array Value) : laidMetH Tryd.prog Rows.formulasErrorsRow.laid ((World.doorLaid Tryd.prog 200 os).forCall (fun _ _=>0) ⟨#[],args,[]⟩).memory:=door_met os args
set_option maxRecDepth 100000 in
theorem liftedX (hl:retIs (.lit (.bool true)) (callF Tryd.prog noO 10000 14 [] H0)=true) (os:Os) (started:os.Started) (H:Type) (enc:TypeId×Value→H) (F:Stop.Interp) :
  ReturnsInHanded {} Tryd.checked os 8 .any ((OpenSpec.ofChange Rows.formulasErrorsSpec).preRow enc Tryd.prog Tryd.f8 Rows.formulasErrorsRow.domain false Rows.formulasErrorsRow.laid) (((OpenSpec.ofChange Rows.formulasErrorsSpec).at F).post enc Tryd.prog Tryd.f8 false true false false):=by
 obtain ⟨places,hx⟩:=readsX os enc
 refine returnsInHanded_of_row (C:=Tryd.checked) (s:=OpenSpec.ofChange Rows.formulasErrorsSpec) own started (by kernel_rfl) Tryd.func8
  (witness_row_at (enc:=enc) (C:=Tryd.checked) false (World.doorLaid Tryd.prog 200 os) #[.agg #[.int .i64 0,.int .i64 0,.slice none 0 0],.agg #[.int .u8 0,.int .i64 0,.int .i64 0,.slice none 0 0],.int .i64 0] rfl (by kernel_rfl) (by kernel_rfl) (by kernel_rfl)
   (OpenSpec.preRow_of_cond 8 hx (by kernel_rfl) (fun k hk=>by cases hk) (by kernel_rfl) (door_metX os _))) ?_
 intro W base args ds gs before hval0 hW _ _ _ hL _ _
 have hval:∀ (j:Nat) t v,Tryd.f8.params[j]?=some t→args[j]?=some v→Value.okWide Tryd.prog W .any base t v:=hval0
 have hW':=hW
 obtain ⟨p,q,hA0,hV,rfl,hfz,hnd⟩:=hW
 have hA:DataW.TrodAll enc Tryd.prog W 0 (fun _=>true) true Tryd.f8.params.toList args.toList ds p:=hA0
 rw [Tryd.params8] at hA hval
 obtain ⟨v0,v1,v2,d0,d1,d2,p0,p1,p2,rfl,rfl,rfl,h0,h1,h2⟩:=trodAll_three hA
 obtain ⟨rfl,rfl⟩:=trodVars_none hV
 clear hA0
 have hlt:∀ x∈p0++(p1++p2),x.block < W.heap.size:=fun x hx=>by
  have:=hW'.lt x (by simpa using hx)
  exact this
 refine (calls_X (enc:=enc) hl hL h0 h1 h2 (hval 0 30 v0 rfl rfl) (hval 1 34 v1 rfl rfl) (hval 2 3 v2 rfl rfl)).mono fun e W' ⟨he,hB⟩=>?_
 subst he
 simp only [List.append_nil] at hW'
 refine ⟨_,rfl,post_below (pa:=p0++(p1++p2)) (pv:=[]) hW' (fun _ _ _=>trodAll_cons_mk (shut_bool Tryd.underlying4 _) trodAll_mk0) (fun sp hsp=>?_) (fun _ _=>rfl) (by simp) hB (ok_one (by kernel_rfl) rfl (okWide_bool_mk Tryd.underlying4 _))⟩
 have g0:=WideElems.Trod_stays (sp':=sp) laidOut (by kernel_rfl) (of_decide_eq_true (by kernel_rfl)) h0 (fun x hx=>hB.same (hlt x (by simp [hx]))) (fun x hx=>hsp x (by simp [hx]))
 have g1:=WideElems.Trod_stays (sp':=sp) laidOut (by kernel_rfl) (of_decide_eq_true (by kernel_rfl)) h1 (fun x hx=>hB.same (hlt x (by simp [hx]))) (fun x hx=>hsp x (by simp [hx]))
 have g2:=WideElems.Trod_stays (sp':=sp) laidOut (by kernel_rfl) (of_decide_eq_true (by kernel_rfl)) h2 (fun x hx=>hB.same (hlt x (by simp [hx]))) (fun x hx=>hsp x (by simp [hx]))
 exact trodAll_mk3 g0 g1 g2
theorem saidX (hl:retIs (.lit (.bool true)) (callF Tryd.prog noO 10000 14 [] H0)=true) : Rows.FormulasErrorsSaid :=
 OpenClaim.holds_of_cond 8 Tryd.f8 rfl rfl rfl rfl rfl rfl rfl ⟨rfl,rfl,rfl,rfl,rfl⟩ rfl rfl rfl rfl rfl (by kernel_rfl) Tryd.func8 (by kernel_rfl)
  (of_decide_eq_true (by kernel_rfl)) (by unfold Func.isWrapper; first | (rw [if_pos (by decide +kernel)]; kernel_rfl) | (rw [if_neg (by decide +kernel)]; exact ⟨rfl,rfl⟩))
  (fun os started H enc _ F=>by rw [OpenClaim.pre_eq_preRow]; exact liftedX hl os started H enc F)
theorem plainX (f:FuncId) (fn:Func) (hf:Tryd.pinned.checked.prog.funcNamed "gauntlet/gauntletlaw33.FormulasErrors" = some f) (hfn:Tryd.pinned.checked.prog.funcs[f]?=some fn) :
  true=Tryd.pinned.checked.prog.looks []∧∀ (j:Nat) t,fn.params[j]?=some t→Tryd.pinned.checked.prog.wantsStandIn t=false:=by
 obtain rfl:f=8:=Option.some.inj ((show Tryd.prog.funcNamed "gauntlet/gauntletlaw33.FormulasErrors" = some 8 by kernel_rfl).symm.trans hf) |>.symm
 obtain rfl:fn=Tryd.f8:=(Option.some.inj (Tryd.func8.symm.trans hfn)).symm
 refine ⟨by kernel_rfl,fun j t ht=>?_⟩
 rw [Tryd.params8] at ht
 have hm:t∈[30,34,3]:=by simpa using Array.mem_of_getElem? ht
 have hall:([30,34,3].all fun u=>!Tryd.prog.wantsStandIn u)=true:=by kernel_rfl
 exact (show Tryd.prog.wantsStandIn t=false by simpa using List.all_eq_true.1 hall t hm)
theorem cardX (hl:retIs (.lit (.bool true)) (callF Tryd.prog noO 10000 14 [] H0)=true) : Rows.FormulasErrorsCardSaid :=
 Claim7.holds_tied_plain_at .later [] _ _ _ _ (saidX hl) (fun _ h=>by cases h) (by kernel_rfl) (fun _ h=>by cases h) formulasErrors_row_tie rfl ⟨rfl,rfl⟩ (by kernel_rfl) rfl plainX (by kernel_rfl)
end Go.Proofs.YtfllomlghjolpaaDoor
end
