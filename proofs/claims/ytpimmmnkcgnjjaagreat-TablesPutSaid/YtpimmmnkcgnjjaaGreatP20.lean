/- A small verified interpreter over names, its proofs, and what was proved with it. No condition. -/
import Derived.Shelf.Vars
import Derived.Test.YtpimmmnkcgnjjaaGreatP05
import Derived.Test.YtpimmmnkcgnjjaaGreatP19
import Derived.Test.YtpimmmnkcgnjjaaGreatP14
set_option linter.all false
set_option linter.deprecated false
section
namespace Go.Ai
open Go.Proofs Go.ChangeShapes Go.WideShapes Go.ChangeAt Go.RowKit
set_option maxRecDepth 10000
variable {H:Type} {enc:TypeId×Value→H} {w:World}
theorem c3:Tryz.prog.cellsOf 3=1:=by kernel_rfl
theorem c4:Tryz.prog.cellsOf 4=1:=by kernel_rfl
theorem c5:Tryz.prog.cellsOf 5=1:=by kernel_rfl
theorem c36:Tryz.prog.cellsOf 36=1:=by kernel_rfl
theorem c38:Tryz.prog.cellsOf 38=5:=by kernel_rfl
theorem c113:Tryz.prog.cellsOf 113=1:=by kernel_rfl
theorem slice_one {t e:TypeId} {fuel:Nat} {cs:List Value} {x:DataW H×List MemPlace} (ht:Tryz.prog.underlying t=some (.slice e)) (h:DataW.trod enc Tryz.prog w 0 (fun _=>true) true fuel t cs=some x) : ∃ s,cs=[s]:=by
 rcases DataW.trod_slice ht h with ⟨h1,_⟩ | ⟨a,len,cap,elems,rest,m,_,h1,_⟩
 ·exact ⟨_,h1⟩
 ·exact ⟨_,h1⟩
def RL {β:Type} (R:(Nat→Option Blk)→Nat→β→List AV→Prop) (g:Nat→Option Blk) (b:Nat) : List β→List AV→Prop
 | [],cs=>cs=[]
 | x :: l,cs=>∃ c r,cs=c++r∧R g b x c∧RL R g b l r
theorem RL_len {β:Type} {R:(Nat→Option Blk)→Nat→β→List AV→Prop} {g:Nat→Option Blk} {b sz:Nat} (hl:∀ {x cs},R g b x cs→cs.length=sz) : ∀ {l:List β} {cs:List AV},RL R g b l cs→cs.length=l.length * sz
 | [],cs,h=>by have h' : cs=[]:=h; rw [h']; simp
 | x :: l,cs,⟨c,r,h1,h2,h3⟩=>by rw [h1,List.length_append,hl h2,RL_len hl h3,List.length_cons,Nat.succ_mul]; omega
theorem RL_take {β:Type} {R:(Nat→Option Blk)→Nat→β→List AV→Prop} {g:Nat→Option Blk} {b:Nat} : ∀ (n:Nat) {l:List β} {cs:List AV},RL R g b l cs→∃ c r,cs=c++r∧RL R g b (l.take n) c
 | 0,l,cs,_=>⟨[],cs,rfl,rfl⟩
 | n+1,[],cs,h=>⟨cs,[],by simp,h⟩
 | n+1,x :: l,cs,⟨c,r,h1,h2,h3⟩=>by
  obtain ⟨c',r',h4,h5⟩:=RL_take n h3
  exact ⟨c++c',r',by rw [h1,h4,List.append_assoc],c,c',rfl,h2,h5⟩
theorem mkL_rep {α β:Type} {f:α→Mem→Option (List AV×Mem)} {R:(Nat→Option Blk)→Nat→β→List AV→Prop} {sz:Nat} (hm:∀ {g g' : Nat→Option Blk} {b b' : Nat} {x:β} {cs:List AV},b≤b'→(∀ a,a < b→g' a=g a)→R g b x cs→R g' b' x cs)
  (hl:∀ {g:Nat→Option Blk} {b:Nat} {x:β} {cs:List AV},R g b x cs→cs.length=sz) :
  ∀ (ds:List α),(∀ d∈ds,∀ g b,∃ avs g' b' x,f d ⟨.fn g,b⟩=some (avs,⟨.fn g',b'⟩)∧b≤b'∧(∀ a,a < b→g' a=g a)∧R g' b' x avs) →
  ∀ g b,∃ avs g' b' l,mkL f sz ds ⟨.fn g,b⟩=some (avs,⟨.fn g',b'⟩)∧b≤b'∧(∀ a,a < b→g' a=g a)∧l.length=ds.length∧RL R g' b' l avs
 | [],_,g,b=>⟨[],g,b,[],rfl,Nat.le_refl _,fun _ _=>rfl,rfl,rfl⟩
 | d :: ds,h,g,b=>by
  obtain ⟨a1,g1,b1,x,e1,h1,h2,h3⟩:=h d (by simp) g b
  obtain ⟨a2,g2,b2,l,e2,k1,k2,k3,k4⟩:=mkL_rep (f:=f) (R:=R) (sz:=sz) hm hl ds (fun d hd=>h d (by simp [hd])) g1 b1
  refine ⟨a1++a2,g2,b2,x :: l,?_,by omega,fun a ha=>(k2 a (by omega)).trans (h2 a ha),by simp [k3],a1,a2,rfl,hm k1 k2 h3,k4⟩
  unfold mkL
  rw [e1]
  dsimp only
  rw [e2]
  dsimp only
  rw [show Nat.beq a1.length sz=true from Nat.beq_eq.mpr (hl h3)]
theorem name_slice {β:Type} {R:(Nat→Option Blk)→Nat→β→List AV→Prop} {t e:TypeId} {sz:Nat} (ht:Tryz.prog.underlying t=some (.slice e)) (hsz:Tryz.prog.cellsOf e=sz) (hs0:0 < sz)
  (hm:∀ {g g' : Nat→Option Blk} {b b' : Nat} {x:β} {cs:List AV},b≤b'→(∀ a,a < b→g' a=g a)→R g b x cs→R g' b' x cs)
  (hl:∀ {g:Nat→Option Blk} {b:Nat} {x:β} {cs:List AV},R g b x cs→cs.length=sz) {fuel:Nat} {s:Value} {d:DataW H} {p:List MemPlace}
  (h:DataW.trod enc Tryz.prog w 0 (fun _=>true) true fuel t [s]=some (d,p))
  (he:∀ m cs d p,m < fuel→DataW.trod enc Tryz.prog w 0 (fun _=>true) true m e cs=some (d,p)→∀ N,m≤N→∀ g b,∃ avs g' b' x,mkD Tryz.prog noTok N e d ⟨.fn g,b⟩=some (avs,⟨.fn g',b'⟩)∧b≤b'∧(∀ a,a < b→g' a=g a)∧R g' b' x avs)
  (N:Nat) (hN:fuel≤N) (g:Nat→Option Blk) (b:Nat) :
  ∃ sv g' b' l,mkD Tryz.prog noTok N t d ⟨.fn g,b⟩=some ([sv],⟨.fn g',b'⟩)∧b≤b'∧(∀ a,a < b→g' a=g a) ∧
   CapV sv∧((l=[]∧(sv=.lit (.slice none 0 0)∨sv=.es))∨∃ a off r,a < b'∧(∃ c,sv=.sl a off l.length c)∧Row g' a off r∧RL R g' b' l r):=by
 rcases DataW.trod_slice ht h with ⟨_,hx⟩ | ⟨a,len,cap,elems,rest,m,rfl,_,hx,_,hlc,_,hlen,hel,hrs,_⟩
 ·cases hx
  have hf:fuel≠0:=by
   rintro rfl
   simp [DataW.trod] at h
  obtain ⟨N,rfl⟩ : ∃ M,N=M+1:=⟨N - 1,by omega⟩
  refine ⟨.lit (.slice none 0 0),g,b,[],?_,Nat.le_refl _,fun _ _=>rfl,fun _ _ _ _ e=>(by cases e),.inl ⟨rfl,.inl rfl⟩⟩
  unfold mkD
  rw [ht]
 ·obtain ⟨hrl,hre⟩:=hrs rfl
  simp only [Prod.mk.injEq] at hx
  obtain ⟨rfl,_⟩:=hx
  obtain ⟨N,rfl⟩ : ∃ M,N=M+1:=⟨N - 1,by omega⟩
  have all:∀ x∈elems++rest,∃ ci,DataW.trod enc Tryz.prog w 0 (fun _=>true) true m e ci=some x:=by
   intro x hx
   rcases List.mem_append.1 hx with hx | hx
   ·obtain ⟨i,hi,rfl⟩:=List.mem_iff_getElem.1 hx
    have:=hel i (by omega)
    rw [List.getElem?_eq_getElem hi] at this
    obtain ⟨ci,_,h3⟩:=Option.bind_eq_some_iff.1 this
    exact ⟨ci,h3⟩
   ·obtain ⟨i,hi,rfl⟩:=List.mem_iff_getElem.1 hx
    have:=hre i (by omega)
    rw [List.getElem?_eq_getElem hi] at this
    obtain ⟨ci,_,h3⟩:=Option.bind_eq_some_iff.1 this
    exact ⟨ci,h3⟩
  obtain ⟨avs,g1,b1,l,e1,k1,k2,k3,k4⟩:=mkL_rep (f:=mkD Tryz.prog noTok N e) (R:=R) (sz:=sz) hm hl ((elems++rest).map (·.1)) (by
   intro d hd g b
   obtain ⟨x,hx,rfl⟩:=List.mem_map.1 hd
   obtain ⟨ci,h3⟩:=all x hx
   exact he m ci x.1 x.2 (by omega) h3 N (by omega) g b) g b
  rw [List.map_append] at e1
  have hla:=RL_len (fun h=>hl h) k4
  rw [List.length_map,List.length_append] at k3
  cases hcs:elems.map (·.1)++rest.map (·.1) with
  | nil =>
   have h0:elems.length=0:=by
    have:=congrArg List.length hcs
    rw [List.length_append,List.length_map,List.length_nil] at this
    omega
   refine ⟨.es,g,b,[],?_,Nat.le_refl _,fun _ _=>rfl,fun _ _ _ _ e=>(by cases e),.inl ⟨rfl,.inr rfl⟩⟩
   unfold mkD
   rw [ht]
   dsimp only
   rw [hcs]
  | cons y ys =>
   have hpos:0 < elems.length+rest.length:=by
    have:=congrArg List.length hcs
    rw [List.length_append,List.length_map,List.length_map,List.length_cons] at this
    omega
   obtain ⟨z,zs,rfl⟩ : ∃ z zs,avs=z :: zs:=by
    cases avs with
    | nil =>
     rw [k3] at hla
     have:0 < (elems.length+rest.length) * sz:=Nat.mul_pos hpos hs0
     rw [List.length_nil] at hla
     omega
    | cons z zs=>exact ⟨z,zs,rfl⟩
   obtain ⟨c,r,q1,q2⟩:=RL_take elems.length k4
   have hcl:=RL_len (fun h=>hl h) q2
   have hfr:∀ a,a < b1→gput g1 b1 (some (.cells (z :: zs) false 0)) a=g1 a:=fun a ha=>gput_lt ha
   refine ⟨.sl b1 0 elems.length (elems.length+rest.length),gput g1 b1 (some (.cells (z :: zs) false 0)),b1+1,l.take elems.length,?_,by omega,fun a ha=>(hfr a (by omega)).trans (k2 a ha),fun _ _ _ _ e=>(by cases e; omega),.inr ⟨b1,0,c,Nat.lt_succ_self _,⟨elems.length+rest.length,?_⟩,?_,?_⟩⟩
   ·unfold mkD
    rw [ht]
    dsimp only
    rw [hcs] at e1
    rw [hsz,hcs]
    dsimp only
    rw [e1]
    simp only [List.length_map]
    rfl
   ·rw [List.length_take,Nat.min_eq_left (by omega)]
   ·refine ⟨z :: zs,false,0,if_pos rfl,?_,?_⟩
    ·rw [q1,List.length_append]; omega
    ·rw [q1,List.drop_zero,List.take_left]
   ·have key:∀ (l:List β) (cs:List AV),RL R g1 b1 l cs→RL R (gput g1 b1 (some (.cells (z :: zs) false 0))) (b1+1) l cs:=by
     intro l
     induction l with
     | nil=>intro cs h; exact h
     | cons x l ih=>rintro cs ⟨c,r,h1,h2,h3⟩; exact ⟨c,r,h1,hm (by omega) hfr h2,ih r h3⟩
    exact key _ _ q2
def IntR (_:Nat→Option Blk) (_:Nat) (x:Int) (avs:List AV) : Prop:=avs=[.lit (.int .i64 x)]
theorem int_mk (fuel:Nat) (cs:List Value) (d:DataW H) (p:List MemPlace) (h:DataW.trod enc Tryz.prog w 0 (fun _=>true) true fuel 3 cs=some (d,p)) (N:Nat) (hN:fuel≤N) (g:Nat→Option Blk) (b:Nat) :
  ∃ avs g' b' x,mkD Tryz.prog noTok N 3 d ⟨.fn g,b⟩=some (avs,⟨.fn g',b'⟩)∧b≤b'∧(∀ a,a < b→g' a=g a)∧IntR g' b' x avs:=by
 obtain ⟨x,_,f0,_⟩:=DataW.trod_int (x:=(d,p)) Tryz.underlying3 h
 have hd:d=.lit (.int .i64 x):=congrArg Prod.fst f0
 subst hd
 have hm0:fuel≠0:=by rintro rfl; simp [DataW.trod] at h
 obtain ⟨N,rfl⟩ : ∃ M,N=M+1:=⟨N - 1,by omega⟩
 exact ⟨[.lit (.int .i64 x)],g,b,x,by unfold mkD; rw [Tryz.underlying3],Nat.le_refl _,fun _ _=>rfl,rfl⟩
theorem ints_of {g:Nat→Option Blk} {b:Nat} : ∀ {l:List Int} {cs:List AV},RL IntR g b l cs→cs=wdC l
 | [],_,h=>h
 | x :: l,_,⟨c,r,h1,h2,h3⟩=>by
  have h2:c=[.lit (.int .i64 x)]:=h2
  rw [h1,h2,ints_of h3]; rfl
def WordR (g:Nat→Option Blk) (b:Nat) (x:List Int) (avs:List AV) : Prop:=∃ sv,avs=[sv]∧RepW g b x sv∧CapV sv
theorem word_mk (fuel:Nat) (cs:List Value) (d:DataW H) (p:List MemPlace) (h:DataW.trod enc Tryz.prog w 0 (fun _=>true) true fuel 65 cs=some (d,p)) (N:Nat) (hN:fuel≤N) (g:Nat→Option Blk) (b:Nat) :
  ∃ avs g' b' x,mkD Tryz.prog noTok N 65 d ⟨.fn g,b⟩=some (avs,⟨.fn g',b'⟩)∧b≤b'∧(∀ a,a < b→g' a=g a)∧WordR g' b' x avs:=by
 obtain ⟨s,rfl⟩:=slice_one Tryz.underlying65 h
 obtain ⟨sv,g1,b1,l,e1,t1,t2,tc,t3⟩:=name_slice (R:=IntR) Tryz.underlying65 c3 (by decide) (fun _ _ h=>h) (fun h=>by rw [show _=_ from h]; rfl) h (fun m cs d p _ h N hN g b=>int_mk m cs d p h N hN g b) N hN g b
 refine ⟨[sv],g1,b1,l,e1,t1,t2,sv,rfl,?_,tc⟩
 rcases t3 with ⟨rfl,h⟩ | ⟨a,off,r,q1,q2,q3,q4⟩
 ·exact .inl ⟨rfl,rfl,h⟩
 ·exact .inr ⟨a,off,q1,.inl q2,by rw [← ints_of q4]; exact q3⟩
theorem five_of {cs:List Value} (h:cs.length=5) : ∃ a b c d e,cs=[a,b,c,d,e]:=by
 match cs,h with
 | [a,b,c,d,e],_=>exact ⟨a,b,c,d,e,rfl⟩
theorem five_xs {α:Type} {xs:List α} (h:xs.length=5) : ∃ a b c d e,xs=[a,b,c,d,e]:=by
 match xs,h with
 | [a,b,c,d,e],_=>exact ⟨a,b,c,d,e,rfl⟩
def HalfR (_:Nat→Option Blk) (_:Nat) (x:Nat) (avs:List AV) : Prop:=x < 65536∧avs=[.lit (.int .u16 x)]
theorem wf8 {z:Int} (h:(Lit.int .u8 z).wf=true) : ∃ n:Nat,z=n∧n < 256:=by
 simp only [Lit.wf,Bool.and_eq_true,decide_eq_true_eq] at h
 have h' : 0≤z∧z≤255:=h
 exact ⟨z.toNat,by omega,by omega⟩
theorem wf16 {z:Int} (h:(Lit.int .u16 z).wf=true) : ∃ n:Nat,z=n∧n < 65536:=by
 simp only [Lit.wf,Bool.and_eq_true,decide_eq_true_eq] at h
 have h' : 0≤z∧z≤65535:=h
 exact ⟨z.toNat,by omega,by omega⟩
theorem half_mk (fuel:Nat) (cs:List Value) (d:DataW H) (p:List MemPlace) (h:DataW.trod enc Tryz.prog w 0 (fun _=>true) true fuel 113 cs=some (d,p)) (N:Nat) (hN:fuel≤N) (g:Nat→Option Blk) (b:Nat) :
  ∃ avs g' b' x,mkD Tryz.prog noTok N 113 d ⟨.fn g,b⟩=some (avs,⟨.fn g',b'⟩)∧b≤b'∧(∀ a,a < b→g' a=g a)∧HalfR g' b' x avs:=by
 obtain ⟨x,_,f0,hw⟩:=DataW.trod_int (x:=(d,p)) Tryz.underlying113 h
 obtain ⟨x,rfl,hx⟩:=wf16 hw
 have hd:d=.lit (.int .u16 x):=congrArg Prod.fst f0
 subst hd
 have hm0:fuel≠0:=by rintro rfl; simp [DataW.trod] at h
 obtain ⟨N,rfl⟩ : ∃ M,N=M+1:=⟨N - 1,by omega⟩
 exact ⟨[.lit (.int .u16 x)],g,b,x,by unfold mkD; rw [Tryz.underlying113],Nat.le_refl _,fun _ _=>rfl,hx,rfl⟩
theorem halves_of {g:Nat→Option Blk} {b:Nat} : ∀ {l:List Nat} {cs:List AV},RL HalfR g b l cs→cs=u16Cells l∧∀ c∈l,c < 65536
 | [],_,h=>⟨h,fun c hc=>by cases hc⟩
 | x :: l,_,⟨c,r,h1,⟨hx,h2⟩,h3⟩=>by
  obtain ⟨i1,i2⟩:=halves_of h3
  refine ⟨by rw [h1,h2,i1]; rfl,fun y hy=>?_⟩
  rcases List.mem_cons.1 hy with rfl | hy
  ·exact hx
  ·exact i2 y hy
theorem halfs_mk (fuel:Nat) (s:Value) (d:DataW H) (p:List MemPlace) (h:DataW.trod enc Tryz.prog w 0 (fun _=>true) true fuel 36 [s]=some (d,p)) (N:Nat) (hN:fuel≤N) (g:Nat→Option Blk) (b:Nat) :
  ∃ sv g' b' l,mkD Tryz.prog noTok N 36 d ⟨.fn g,b⟩=some ([sv],⟨.fn g',b'⟩)∧b≤b'∧(∀ a,a < b→g' a=g a)∧SliceA g' b' sv l.length (u16Cells l)∧∀ c∈l,c < 65536:=by
 obtain ⟨sv,g1,b1,l,e1,t1,t2,tc,t3⟩:=name_slice (R:=HalfR) Tryz.underlying36 c113 (by decide) (fun _ _ h=>h) (fun h=>by rw [h.2]; rfl) h (fun m cs d p _ h N hN g b=>half_mk m cs d p h N hN g b) N hN g b
 refine ⟨sv,g1,b1,l,e1,t1,t2,?_⟩
 rcases t3 with ⟨rfl,h⟩ | ⟨a,off,r,q1,⟨c,q2⟩,q3,q4⟩
 ·exact ⟨.inl ⟨rfl,h⟩,fun c hc=>by cases hc⟩
 ·obtain ⟨j1,j2⟩:=halves_of q4
  subst j1
  exact ⟨.inr ⟨a,off,c,q1,q2,q3⟩,j2⟩
theorem M_mk (fuel:Nat) (cs:List Value) (d:DataW H) (p:List MemPlace) (h:DataW.trod enc Tryz.prog w 0 (fun _=>true) true fuel 38 cs=some (d,p)) (N:Nat) (hN:fuel≤N) (g:Nat→Option Blk) (b:Nat) :
  ∃ (st inp out:Nat) (part:Bool) (es:List Nat) (ev:AV) (g' : Nat→Option Blk) (b' : Nat),mkD Tryz.prog noTok N 38 d ⟨.fn g,b⟩=some ([.lit (.int .u8 st),.lit (.int .u8 inp),.lit (.int .u8 out),.lit (.bool part),ev],⟨.fn g',b'⟩)∧b≤b'∧(∀ a,a < b→g' a=g a) ∧
   st < 256∧inp < 256∧out < 256∧SliceA g' b' ev es.length (u16Cells es)∧∀ c∈es,c < 65536:=by
 obtain ⟨xs,m,rfl,hd,hl,hn,he⟩:=DataW.trod_struct Tryz.underlying38 h
 rw [c38] at hl
 obtain ⟨v0,v1,v2,v3,v4,rfl⟩:=five_of hl
 have h0:DataW.trod enc Tryz.prog w 0 (fun _=>true) true m 5 (([v0,v1,v2,v3,v4].drop 0).take (Tryz.prog.cellsOf 5))=xs[0]?:=he 0 _ rfl
 have h1:DataW.trod enc Tryz.prog w 0 (fun _=>true) true m 5 (([v0,v1,v2,v3,v4].drop 1).take (Tryz.prog.cellsOf 5))=xs[1]?:=he 1 _ rfl
 have h2:DataW.trod enc Tryz.prog w 0 (fun _=>true) true m 5 (([v0,v1,v2,v3,v4].drop 2).take (Tryz.prog.cellsOf 5))=xs[2]?:=he 2 _ rfl
 have h3:DataW.trod enc Tryz.prog w 0 (fun _=>true) true m 4 (([v0,v1,v2,v3,v4].drop 3).take (Tryz.prog.cellsOf 4))=xs[3]?:=he 3 _ rfl
 have h4:DataW.trod enc Tryz.prog w 0 (fun _=>true) true m 36 (([v0,v1,v2,v3,v4].drop 4).take (Tryz.prog.cellsOf 36))=xs[4]?:=he 4 _ rfl
 rw [c5] at h0 h1 h2
 rw [c4] at h3
 rw [c36] at h4
 obtain ⟨x0,x1,x2,x3,x4,rfl⟩:=five_xs (show xs.length=5 from hn)
 obtain ⟨st,e0,f0,w0⟩:=DataW.trod_int (x:=x0) Tryz.underlying5 h0
 obtain ⟨inp,e1,f1,w1⟩:=DataW.trod_int (x:=x1) Tryz.underlying5 h1
 obtain ⟨out,e2,f2,w2⟩:=DataW.trod_int (x:=x2) Tryz.underlying5 h2
 obtain ⟨part,e3,f3⟩:=DataW.trod_bool (x:=x3) Tryz.underlying4 h3
 obtain ⟨st,rfl,b0⟩:=wf8 w0
 obtain ⟨inp,rfl,b1⟩:=wf8 w1
 obtain ⟨out,rfl,b2⟩:=wf8 w2
 subst f0
 subst f1
 subst f2
 subst f3
 have hx4:DataW.trod enc Tryz.prog w 0 (fun _=>true) true m 36 [v4]=some (x4.1,x4.2):=h4
 obtain ⟨sv,g1,b1',l,e4,k1,k2,k3,k4⟩:=halfs_mk m v4 _ _ hx4 (N - 1) (by omega) g b
 refine ⟨st,inp,out,part,l,sv,g1,b1',?_,k1,k2,b0,b1,b2,k3,k4⟩
 have hd' : d=.agg [.lit (.int .u8 st),.lit (.int .u8 inp),.lit (.int .u8 out),.lit (.bool part),x4.1]:=congrArg Prod.fst hd
 subst hd'
 have hm0:m≠0:=by rintro rfl; simp [DataW.trod] at h0
 obtain ⟨N,rfl⟩ : ∃ M,N=M+2:=⟨N - 2,by omega⟩
 have e4' : mkD Tryz.prog noTok (N+1) 36 x4.1 ⟨.fn g,b⟩=some ([sv],⟨.fn g1,b1'⟩):=e4
 have i1:∀ k:Int,mkD (Hh:=H) Tryz.prog noTok (N+1) 5 (.lit (.int .u8 k)) ⟨.fn g,b⟩=some ([.lit (.int .u8 k)],⟨.fn g,b⟩):=by
  intro k; unfold mkD; rw [Tryz.underlying5]
 have i2:∀ k:Bool,mkD (Hh:=H) Tryz.prog noTok (N+1) 4 (.lit (.bool k)) ⟨.fn g,b⟩=some ([.lit (.bool k)],⟨.fn g,b⟩):=by
  intro k; unfold mkD; rw [Tryz.underlying4]
 unfold mkD
 rw [Tryz.underlying38]
 dsimp only
 simp only [mkF,i1,i2,e4',c5,c4,c36,c38]
 rfl
theorem c39:Tryz.prog.cellsOf 39=1:=by kernel_rfl
theorem c41:Tryz.prog.cellsOf 41=9:=by kernel_rfl
theorem c42:Tryz.prog.cellsOf 42=1:=by kernel_rfl
def ByteR (_:Nat→Option Blk) (_:Nat) (x:Nat) (avs:List AV) : Prop:=x < 256∧avs=[.lit (.int .u8 x)]
theorem byte_mk (fuel:Nat) (cs:List Value) (d:DataW H) (p:List MemPlace) (h:DataW.trod enc Tryz.prog w 0 (fun _=>true) true fuel 5 cs=some (d,p)) (N:Nat) (hN:fuel≤N) (g:Nat→Option Blk) (b:Nat) :
  ∃ avs g' b' x,mkD Tryz.prog noTok N 5 d ⟨.fn g,b⟩=some (avs,⟨.fn g',b'⟩)∧b≤b'∧(∀ a,a < b→g' a=g a)∧ByteR g' b' x avs:=by
 obtain ⟨x,_,f0,hw⟩:=DataW.trod_int (x:=(d,p)) Tryz.underlying5 h
 obtain ⟨x,rfl,hx⟩:=wf8 hw
 have hd:d=.lit (.int .u8 x):=congrArg Prod.fst f0
 subst hd
 have hm0:fuel≠0:=by rintro rfl; simp [DataW.trod] at h
 obtain ⟨N,rfl⟩ : ∃ M,N=M+1:=⟨N - 1,by omega⟩
 exact ⟨[.lit (.int .u8 x)],g,b,x,by unfold mkD; rw [Tryz.underlying5],Nat.le_refl _,fun _ _=>rfl,hx,rfl⟩
theorem bytes_of {g:Nat→Option Blk} {b:Nat} : ∀ {l:List Nat} {cs:List AV},RL ByteR g b l cs→cs=u8C l∧∀ c∈l,c < 256
 | [],_,h=>⟨h,fun c hc=>by cases hc⟩
 | x :: l,_,⟨c,r,h1,⟨hx,h2⟩,h3⟩=>by
  obtain ⟨i1,i2⟩:=bytes_of h3
  refine ⟨by rw [h1,h2,i1]; rfl,fun y hy=>?_⟩
  rcases List.mem_cons.1 hy with rfl | hy
  ·exact hx
  ·exact i2 y hy
def BytesR (g:Nat→Option Blk) (b:Nat) (x:List Nat) (avs:List AV) : Prop:=∃ sv,avs=[sv]∧RepB g b x sv∧∀ c∈x,c < 256
theorem bytes_mk (fuel:Nat) (cs:List Value) (d:DataW H) (p:List MemPlace) (h:DataW.trod enc Tryz.prog w 0 (fun _=>true) true fuel 42 cs=some (d,p)) (N:Nat) (hN:fuel≤N) (g:Nat→Option Blk) (b:Nat) :
  ∃ avs g' b' x,mkD Tryz.prog noTok N 42 d ⟨.fn g,b⟩=some (avs,⟨.fn g',b'⟩)∧b≤b'∧(∀ a,a < b→g' a=g a)∧BytesR g' b' x avs:=by
 obtain ⟨s,rfl⟩:=slice_one Tryz.underlying42 h
 obtain ⟨sv,g1,b1,l,e1,t1,t2,tc,t3⟩:=name_slice (R:=ByteR) Tryz.underlying42 c5 (by decide) (fun _ _ h=>h) (fun h=>by rw [h.2]; rfl) h (fun m cs d p _ h N hN g b=>byte_mk m cs d p h N hN g b) N hN g b
 refine ⟨[sv],g1,b1,l,e1,t1,t2,sv,rfl,?_⟩
 rcases t3 with ⟨rfl,h⟩ | ⟨a,off,r,q1,q2,q3,q4⟩
 ·exact ⟨.inl ⟨rfl,rfl,h⟩,fun c hc=>by cases hc⟩
 ·obtain ⟨j1,j2⟩:=bytes_of q4
  exact ⟨.inr ⟨a,off,q1,.inl q2,by rw [← j1]; exact q3⟩,j2⟩
theorem lists_of {g:Nat→Option Blk} {b:Nat} : ∀ {l:List (List Nat)} {cs:List AV},RL BytesR g b l cs→(cs.length=l.length∧∀ (k:Nat) (h:k < l.length),∃ sv,cs[k]?=some sv∧RepB g b l[k] sv)∧∀ x∈l,∀ c∈x,c < 256
 | [],_,h=>by
  have h:_=[]:=h
  subst h
  exact ⟨⟨rfl,fun k hk=>by simp at hk⟩,fun x hx=>by cases hx⟩
 | x :: l,_,⟨c,r,h1,⟨sv,h2,h3,h4⟩,h5⟩=>by
  obtain ⟨⟨i1,i2⟩,i3⟩:=lists_of h5
  subst h1 h2
  refine ⟨⟨by simp [i1],fun k hk=>?_⟩,fun y hy=>?_⟩
  ·cases k with
   | zero=>exact ⟨sv,rfl,h3⟩
   | succ k =>
    obtain ⟨t1,j1,j2⟩:=i2 k (by simpa using hk)
    exact ⟨t1,by simpa using j1,j2⟩
  ·rcases List.mem_cons.1 hy with rfl | hy
   ·exact h4
   ·exact i3 y hy
theorem lists_mk (fuel:Nat) (s:Value) (d:DataW H) (p:List MemPlace) (h:DataW.trod enc Tryz.prog w 0 (fun _=>true) true fuel 39 [s]=some (d,p)) (N:Nat) (hN:fuel≤N) (g:Nat→Option Blk) (b:Nat) :
  ∃ sv g' b' l,mkD Tryz.prog noTok N 39 d ⟨.fn g,b⟩=some ([sv],⟨.fn g',b'⟩)∧b≤b'∧(∀ a,a < b→g' a=g a)∧ListB g' b' l sv∧∀ x∈l,∀ c∈x,c < 256:=by
 obtain ⟨sv,g1,b1,l,e1,t1,t2,tc,t3⟩:=name_slice (R:=BytesR) Tryz.underlying39 c42 (by decide) (fun h1 h2 ⟨s1,e,h3,h4⟩=>⟨s1,e,SliceV.mono h1 h2 h3,h4⟩) (fun ⟨s1,e,_,_⟩=>by rw [e]; rfl) h (fun m cs d p _ h N hN g b=>bytes_mk m cs d p h N hN g b) N hN g b
 refine ⟨sv,g1,b1,l,e1,t1,t2,?_⟩
 rcases t3 with ⟨rfl,h⟩ | ⟨a,off,r,q1,q2,q3,q4⟩
 ·exact ⟨⟨[],.inl ⟨rfl,rfl,h⟩,rfl,fun k hk=>by simp at hk⟩,fun x hx=>by cases hx⟩
 ·obtain ⟨⟨j1,j2⟩,j3⟩:=lists_of q4
  exact ⟨⟨r,.inr ⟨a,off,q1,.inl q2,q3⟩,j1,j2⟩,j3⟩
theorem nine_of {cs:List Value} (h:cs.length=9) : ∃ a b c d e f g i j,cs=[a,b,c,d,e,f,g,i,j]:=by
 match cs,h with
 | [a,b,c,d,e,f,g,i,j],_=>exact ⟨a,b,c,d,e,f,g,i,j,rfl⟩
theorem G_mk (fuel:Nat) (cs:List Value) (d:DataW H) (p:List MemPlace) (h:DataW.trod enc Tryz.prog w 0 (fun _=>true) true fuel 41 cs=some (d,p)) (N:Nat) (hN:fuel≤N) (g:Nat→Option Blk) (b:Nat) :
  ∃ (st inp out:Nat) (part:Bool) (es:List Nat) (ev:AV) (ws:List (List Nat)) (wv:AV) (ia ib ic:Nat) (g' : Nat→Option Blk) (b' : Nat),mkD Tryz.prog noTok N 41 d ⟨.fn g,b⟩=some ([.lit (.int .u8 st),.lit (.int .u8 inp),.lit (.int .u8 out),.lit (.bool part),ev,wv,.lit (.int .u8 ia),.lit (.int .u8 ib),.lit (.int .u8 ic)],⟨.fn g',b'⟩)∧b≤b'∧(∀ a,a < b→g' a=g a) ∧
   InG g' b' st inp out es ev ws wv∧ia < 256∧ib < 256∧ic < 256:=by
 obtain ⟨xs,m,rfl,hd,hl,hn,he⟩:=DataW.trod_struct Tryz.underlying41 h
 rw [c41] at hl
 obtain ⟨v0,v1,v2,v3,v4,v5,v6,v7,v8,rfl⟩:=nine_of hl
 have h0:DataW.trod enc Tryz.prog w 0 (fun _=>true) true m 38 (([v0,v1,v2,v3,v4,v5,v6,v7,v8].drop 0).take (Tryz.prog.cellsOf 38))=xs[0]?:=he 0 _ rfl
 have h1:DataW.trod enc Tryz.prog w 0 (fun _=>true) true m 39 (([v0,v1,v2,v3,v4,v5,v6,v7,v8].drop 5).take (Tryz.prog.cellsOf 39))=xs[1]?:=he 1 _ rfl
 have h2:DataW.trod enc Tryz.prog w 0 (fun _=>true) true m 5 (([v0,v1,v2,v3,v4,v5,v6,v7,v8].drop 6).take (Tryz.prog.cellsOf 5))=xs[2]?:=he 2 _ rfl
 have h3:DataW.trod enc Tryz.prog w 0 (fun _=>true) true m 5 (([v0,v1,v2,v3,v4,v5,v6,v7,v8].drop 7).take (Tryz.prog.cellsOf 5))=xs[3]?:=he 3 _ rfl
 have h4:DataW.trod enc Tryz.prog w 0 (fun _=>true) true m 5 (([v0,v1,v2,v3,v4,v5,v6,v7,v8].drop 8).take (Tryz.prog.cellsOf 5))=xs[4]?:=he 4 _ rfl
 rw [c38] at h0
 rw [c39] at h1
 rw [c5] at h2 h3 h4
 obtain ⟨x0,x1,x2,x3,x4,rfl⟩:=five_xs (show xs.length=5 from hn)
 obtain ⟨ia,e2,f2,w2⟩:=DataW.trod_int (x:=x2) Tryz.underlying5 h2
 obtain ⟨ib,e3,f3,w3⟩:=DataW.trod_int (x:=x3) Tryz.underlying5 h3
 obtain ⟨ic,e4,f4,w4⟩:=DataW.trod_int (x:=x4) Tryz.underlying5 h4
 obtain ⟨ia,rfl,b2⟩:=wf8 w2
 obtain ⟨ib,rfl,b3⟩:=wf8 w3
 obtain ⟨ic,rfl,b4⟩:=wf8 w4
 subst f2
 subst f3
 subst f4
 have hx0:DataW.trod enc Tryz.prog w 0 (fun _=>true) true m 38 [v0,v1,v2,v3,v4]=some (x0.1,x0.2):=h0
 have hx1:DataW.trod enc Tryz.prog w 0 (fun _=>true) true m 39 [v5]=some (x1.1,x1.2):=h1
 obtain ⟨st,inp,out,part,es,ev,g1,b1',e0,k1,k2,k3,k4,k5,k6,k7⟩:=M_mk m _ _ _ hx0 (N - 1) (by omega) g b
 obtain ⟨sv,g2,b2',l,e1,l1,l2,l3,l4⟩:=lists_mk m v5 _ _ hx1 (N - 1) (by omega) g1 b1'
 refine ⟨st,inp,out,part,es,ev,l,sv,ia,ib,ic,g2,b2',?_,by omega,fun a ha=>(l2 a (by omega)).trans (k2 a ha),⟨k3,k4,k5,k6.mono l1 l2,k7,l3,l4⟩,b2,b3,b4⟩
 have hd' : d=.agg [x0.1,x1.1,.lit (.int .u8 ia),.lit (.int .u8 ib),.lit (.int .u8 ic)]:=congrArg Prod.fst hd
 subst hd'
 have hm0:m≠0:=by rintro rfl; simp [DataW.trod] at hx0
 obtain ⟨N,rfl⟩ : ∃ M,N=M+2:=⟨N - 2,by omega⟩
 have e0' : mkD Tryz.prog noTok (N+1) 38 x0.1 ⟨.fn g,b⟩=some ([.lit (.int .u8 st),.lit (.int .u8 inp),.lit (.int .u8 out),.lit (.bool part),ev],⟨.fn g1,b1'⟩):=e0
 have e1' : mkD Tryz.prog noTok (N+1) 39 x1.1 ⟨.fn g1,b1'⟩=some ([sv],⟨.fn g2,b2'⟩):=e1
 have i1:∀ k:Int,mkD (Hh:=H) Tryz.prog noTok (N+1) 5 (.lit (.int .u8 k)) ⟨.fn g2,b2'⟩=some ([.lit (.int .u8 k)],⟨.fn g2,b2'⟩):=by
  intro k; unfold mkD; rw [Tryz.underlying5]
 unfold mkD
 rw [Tryz.underlying41]
 dsimp only
 simp only [mkF,i1,e0',e1',c5,c38,c39,c41]
 rfl
theorem c44:Tryz.prog.cellsOf 44=12:=by kernel_rfl
theorem four_xs {α:Type} {xs:List α} (h:xs.length=4) : ∃ a b c d,xs=[a,b,c,d]:=by
 match xs,h with
 | [a,b,c,d],_=>exact ⟨a,b,c,d,rfl⟩
theorem twelve_of {cs:List Value} (h:cs.length=12) : ∃ a b c d e f g i j k l m,cs=[a,b,c,d,e,f,g,i,j,k,l,m]:=by
 match cs,h with
 | [a,b,c,d,e,f,g,i,j,k,l,m],_=>exact ⟨a,b,c,d,e,f,g,i,j,k,l,m,rfl⟩
theorem Q_mk (fuel:Nat) (cs:List Value) (d:DataW H) (p:List MemPlace) (h:DataW.trod enc Tryz.prog w 0 (fun _=>true) true fuel 44 cs=some (d,p)) (N:Nat) (hN:fuel≤N) (g:Nat→Option Blk) (b:Nat) :
  ∃ (st inp out:Nat) (part:Bool) (es:List Nat) (ev:AV) (ws:List (List Nat)) (wv:AV) (ia ib ic:Nat) (sb:List Nat) (sbv:AV) (eb:List (List Nat)) (ebv:AV) (full:Bool) (g' : Nat→Option Blk) (b' : Nat),mkD Tryz.prog noTok N 44 d ⟨.fn g,b⟩=some ([.lit (.int .u8 st),.lit (.int .u8 inp),.lit (.int .u8 out),.lit (.bool part),ev,wv,.lit (.int .u8 ia),.lit (.int .u8 ib),.lit (.int .u8 ic),sbv,ebv,.lit (.bool full)],⟨.fn g',b'⟩)∧b≤b'∧(∀ a,a < b→g' a=g a) ∧
   InQ g' b' st inp out es ev ws wv sb sbv eb ebv:=by
 obtain ⟨xs,m,rfl,hd,hl,hn,he⟩:=DataW.trod_struct Tryz.underlying44 h
 rw [c44] at hl
 obtain ⟨v0,v1,v2,v3,v4,v5,v6,v7,v8,v9,va,vb,rfl⟩:=twelve_of hl
 have h0:DataW.trod enc Tryz.prog w 0 (fun _=>true) true m 41 (([v0,v1,v2,v3,v4,v5,v6,v7,v8,v9,va,vb].drop 0).take (Tryz.prog.cellsOf 41))=xs[0]?:=he 0 _ rfl
 have h1:DataW.trod enc Tryz.prog w 0 (fun _=>true) true m 42 (([v0,v1,v2,v3,v4,v5,v6,v7,v8,v9,va,vb].drop 9).take (Tryz.prog.cellsOf 42))=xs[1]?:=he 1 _ rfl
 have h2:DataW.trod enc Tryz.prog w 0 (fun _=>true) true m 39 (([v0,v1,v2,v3,v4,v5,v6,v7,v8,v9,va,vb].drop 10).take (Tryz.prog.cellsOf 39))=xs[2]?:=he 2 _ rfl
 have h3:DataW.trod enc Tryz.prog w 0 (fun _=>true) true m 4 (([v0,v1,v2,v3,v4,v5,v6,v7,v8,v9,va,vb].drop 11).take (Tryz.prog.cellsOf 4))=xs[3]?:=he 3 _ rfl
 rw [c41] at h0
 rw [c42] at h1
 rw [c39] at h2
 rw [c4] at h3
 obtain ⟨x0,x1,x2,x3,rfl⟩:=four_xs (show xs.length=4 from hn)
 obtain ⟨full,e3,f3⟩:=DataW.trod_bool (x:=x3) Tryz.underlying4 h3
 subst f3
 have hx0:DataW.trod enc Tryz.prog w 0 (fun _=>true) true m 41 [v0,v1,v2,v3,v4,v5,v6,v7,v8]=some (x0.1,x0.2):=h0
 have hx1:DataW.trod enc Tryz.prog w 0 (fun _=>true) true m 42 [v9]=some (x1.1,x1.2):=h1
 have hx2:DataW.trod enc Tryz.prog w 0 (fun _=>true) true m 39 [va]=some (x2.1,x2.2):=h2
 obtain ⟨st,inp,out,part,es,ev,ws,wv,ia,ib,ic,g1,b1',e0,k1,k2,k3,k4,k5,k6⟩:=G_mk m _ _ _ hx0 (N - 1) (by omega) g b
 obtain ⟨avs,g2,b2',sb,e1,l1,l2,sbv,rfl,l3,l4⟩:=bytes_mk m _ _ _ hx1 (N - 1) (by omega) g1 b1'
 obtain ⟨ebv,g3,b3',eb,e2,q1,q2,q3,q4⟩:=lists_mk m va _ _ hx2 (N - 1) (by omega) g2 b2'
 refine ⟨st,inp,out,part,es,ev,ws,wv,ia,ib,ic,sb,sbv,eb,ebv,full,g3,b3',?_,by omega,fun a ha=>(q2 a (by omega)).trans ((l2 a (by omega)).trans (k2 a ha)),⟨k3.mono (by omega) fun a ha=>(q2 a (by omega)).trans (l2 a ha),l4,q4,SliceV.mono q1 q2 l3,q3⟩⟩
 have hd' : d=.agg [x0.1,x1.1,x2.1,.lit (.bool full)]:=congrArg Prod.fst hd
 subst hd'
 have hm0:m≠0:=by rintro rfl; simp [DataW.trod] at hx0
 obtain ⟨N,rfl⟩ : ∃ M,N=M+2:=⟨N - 2,by omega⟩
 have e0' : mkD Tryz.prog noTok (N+1) 41 x0.1 ⟨.fn g,b⟩=some ([.lit (.int .u8 st),.lit (.int .u8 inp),.lit (.int .u8 out),.lit (.bool part),ev,wv,.lit (.int .u8 ia),.lit (.int .u8 ib),.lit (.int .u8 ic)],⟨.fn g1,b1'⟩):=e0
 have e1' : mkD Tryz.prog noTok (N+1) 42 x1.1 ⟨.fn g1,b1'⟩=some ([sbv],⟨.fn g2,b2'⟩):=e1
 have e2' : mkD Tryz.prog noTok (N+1) 39 x2.1 ⟨.fn g2,b2'⟩=some ([ebv],⟨.fn g3,b3'⟩):=e2
 have i1:∀ k:Bool,mkD (Hh:=H) Tryz.prog noTok (N+1) 4 (.lit (.bool k)) ⟨.fn g3,b3'⟩=some ([.lit (.bool k)],⟨.fn g3,b3'⟩):=by
  intro k; unfold mkD; rw [Tryz.underlying4]
 unfold mkD
 rw [Tryz.underlying44]
 dsimp only
 simp only [mkF,i1,e0',e1',e2',c41,c42,c39,c4,c44]
 rfl
end Go.Ai
end
section
namespace Go.Ai
open Go.Proofs Go.ChangeShapes Go.WideShapes Go.ChangeAt Go.RowKit
set_option maxRecDepth 10000
variable {H:Type} {enc:TypeId×Value→H}
theorem start36 {W:World} (hL:laidMetH Tryz.prog [] W) : ∃ (g:Nat→Option Blk) (n:Nat) (ρ:Rn),Sim W.heap.size 0 ρ ⟨.fn g,n⟩ W∧NoOwn ⟨.fn g,n⟩:=by
 obtain ⟨ρ,s,hno⟩:=start_sound hL rfl (show layG Tryz.prog [] (mem0 Tryz.prog)=some (mem0 Tryz.prog) from rfl)
 have s' : Sim W.heap.size 0 ρ ⟨.fn (mem0 Tryz.prog).get,(mem0 Tryz.prog).next⟩ W:=by rw [← hG] at s; exact s.toFn
 exact ⟨_,_,ρ,s',fun a x hx=>hno a x hx⟩
end Go.Ai
end
section
namespace Go.Ai
open Go.Proofs
set_option maxRecDepth 10000
set_option maxHeartbeats 40000000
theorem SEqual_w {a b:List Int} (hal:a.length≤100000) (hbl:b.length≤100000) (g:Nat→Option Blk) (n:Nat) (av bv:AV) (ha:RepW g n a av) (hb:RepW g n b bv) :
  WC 0 Tryz.prog 112 [av,bv] ⟨.fn g,n⟩ fun r=>r=.ret (.lit (.bool (decide (a=b)))) ⟨.fn g,n⟩:=by
 have hlena:=@lenV Tryz.prog _ _ _ _ _ ha
 have hlenb:=@lenV Tryz.prog _ _ _ _ _ hb
 have HA:=Hide.mk ha
 have HB:=Hide.mk hb
 clear ha hb
 obtain ⟨ret,hret⟩ : ∃ x,x=decide (a=b):=⟨_,rfl⟩
 rw [← hret]
 have HRET:=Hide.mk hret
 clear hret
 by_cases hl:a.length=b.length
 ·have hlI:(a.length:Int)=(b.length:Int):=by omega
  refine WC.enterP (noO_ok _ _) hG pl112 Tryz.func112 rfl (by decide +kernel) (Nat.le_of_ble_eq_true (by kernel_rfl)) ?_
  iterate 8 (all_goals try (first | with_reducible refine splitI (fun h=>?_) (fun h=>?_) | with_reducible refine splitBI (fun h=>?_) (fun h=>?_) | simp (config:={ maxSteps:=1000000 }) (disch:=first | assumption | omega | (simp; done) | fail) [Tryz.results112, *]))
  refine LX.ind (fun m gf H'=>∃ k:Nat,k≤b.length∧m=b.length - k∧H'=⟨.fn g,n⟩∧Hide (a.take k=b.take k)∧gf 0=some av∧gf 1=some bv∧gf 12=some (.lit (.int .i64 b.length))∧gf 13=some (.lit (.int .i64 k))) (m0:=b.length) ?_ ?_
  ·exact ⟨0,Nat.zero_le _,rfl,rfl,⟨by simp⟩,by simp,by simp,by simp,by simp⟩
  rintro m gf H' ⟨k,hk,rfl,rfl,HT,w0,w1,w12,w13⟩ ih
  refine LX.roundP (noO_ok _ _) hG pl112 (by decide +kernel) ?_
  by_cases hlt:k < b.length
  ·have hltI:(k:Int) < (b.length:Int):=by omega
   have hlta:k < a.length:=by omega
   obtain ⟨a2,o2,ha2,hia2,hc2⟩:=RepW.at HA.out hlta
   obtain ⟨a3,o3,ha3,hia3,hc3⟩:=RepW.at HB.out hlt
   have HTA:=Hide.mk (take_snoc hlta)
   have HTB:=Hide.mk (take_snoc hlt)
   generalize a[k]=x at *
   generalize b[k]=y at *
   by_cases hxy:x=y
   ·subst hxy
    iterate 8 (all_goals try (first | with_reducible refine splitI (fun h=>?_) (fun h=>?_) | with_reducible refine splitBI (fun h=>?_) (fun h=>?_) | simp (config:={ maxSteps:=1000000 }) (disch:=first | assumption | omega | (simp; done) | fail) [Tryz.results112, *]))
    exact ih.out (b.length - (k+1)) _ _ (by omega) ⟨k+1,by omega,rfl,rfl,⟨by rw [HTA.out,HTB.out,HT.out]⟩,by simp [*],by simp [*],by simp [*],by simp⟩
   ·have hr:ret=false:=by
     rw [HRET.out]
     refine decide_eq_false fun h=>hxy ?_
     have h1:=HTA.out
     rw [h,HTB.out,← h,HT.out] at h1
     have:=List.append_cancel_left h1
     simpa using this.symm
    subst hr
    iterate 8 (all_goals try (first | with_reducible refine splitI (fun h=>?_) (fun h=>?_) | with_reducible refine splitBI (fun h=>?_) (fun h=>?_) | simp (config:={ maxSteps:=1000000 }) (disch:=first | assumption | omega | (simp; done) | fail) [Tryz.results112, *]))
  ·have hltI:¬(k:Int) < (b.length:Int):=by omega
   have hr:ret=true:=by
    rw [HRET.out]
    refine decide_eq_true ?_
    have:=HT.out
    rwa [List.take_of_length_le (by omega),List.take_of_length_le (by omega)] at this
   subst hr
   iterate 8 (all_goals try (first | with_reducible refine splitI (fun h=>?_) (fun h=>?_) | with_reducible refine splitBI (fun h=>?_) (fun h=>?_) | simp (config:={ maxSteps:=1000000 }) (disch:=first | assumption | omega | (simp; done) | fail) [Tryz.results112, *]))
 ·have hlI:¬(a.length:Int)=(b.length:Int):=by omega
  have hr:ret=false:=by rw [HRET.out]; exact decide_eq_false fun h=>hl (by rw [h])
  subst hr
  refine WC.enterP (noO_ok _ _) hG pl112 Tryz.func112 rfl (by decide +kernel) (Nat.le_of_ble_eq_true (by kernel_rfl)) ?_
  iterate 8 (all_goals try (first | with_reducible refine splitI (fun h=>?_) (fun h=>?_) | with_reducible refine splitBI (fun h=>?_) (fun h=>?_) | simp (config:={ maxSteps:=1000000 }) (disch:=first | assumption | omega | (simp; done) | fail) [Tryz.results112, *]))
theorem hasF_w {x w:List Int} (hxl:x.length≤100000) (hwl:w.length≤100000) (p:Nat) (g:Nat→Option Blk) (n:Nat) (xv wv:AV) (hp:g p=some (.cells [wv] true 0)) (hx:RepW g n x xv) (hw:RepW g n w wv) :
  WC 0 Tryz.prog 128 [xv,.ptr p 0] ⟨.fn g,n⟩ fun r=>r=.ret (.lit (.bool (decide (x=w)))) ⟨.fn g,n⟩:=by
 have HE:=Hide.mk (SEqual_w hxl hwl g n xv wv hx hw)
 have h1:=hw.one
 clear hx hw
 obtain ⟨res,hres⟩ : ∃ b,b=decide (x=w):=⟨_,rfl⟩
 rw [← hres] at HE ⊢
 clear hres
 refine WC.enterP (noO_ok _ _) hG [] Tryz.func128 rfl (by decide +kernel) (Nat.le_of_ble_eq_true (by kernel_rfl)) ?_
 iterate 8 (all_goals try (first | with_reducible refine splitI (fun h=>?_) (fun h=>?_) | with_reducible refine splitBI (fun h=>?_) (fun h=>?_) | simp (config:={ maxSteps:=1000000 }) (disch:=first | assumption | omega | (simp; done) | fail) [Tryz.results128, *]))
 refine WC.mono HE.out ?_
 rintro _ rfl
 cases res <;> iterate 8 (all_goals try (first | with_reducible refine splitI (fun h=>?_) (fun h=>?_) | with_reducible refine splitBI (fun h=>?_) (fun h=>?_) | simp (config:={ maxSteps:=1000000 }) (disch:=first | assumption | omega | (simp; done) | fail) [Tryz.results128, *]))
theorem IFuncW_w {l:List (List Int)} (hll:l.length≤100000) {w:List Int} (hwl:w.length≤1000) (hwls:∀ x∈l,x.length≤1000) (p:Nat) (g:Nat→Option Blk) (n:Nat) (lv wv:AV) (hp:g p=some (.cells [wv] true 0)) (h1:ListV g n l lv) (hw:RepW g n w wv) :
  WC 0 Tryz.prog 145 [lv,.func (.func 128) [] [.ptr p 0]] ⟨.fn g,n⟩ fun r=>∃ z:Int,r=.ret (.lit (.int .i64 z)) ⟨.fn g,n⟩∧decide (0≤z)=decide (w∈l):=by
 have hlen:=@lenV Tryz.prog _ _ _ _ _ h1.choose_spec.1
 have H1:=Hide.mk h1
 have HH:=Hide.mk fun (x:List Int) (hx:x∈l) (xv:AV) (hr:RepW g n x xv)=>hasF_w (by have:=hwls x hx; omega) (by omega) p g n xv wv hp hr hw
 clear h1 hw hwls hp
 obtain ⟨res,hres⟩ : ∃ b,b=decide (w∈l):=⟨_,rfl⟩
 rw [← hres]
 have HRE:=Hide.mk hres
 clear hres
 refine WC.enterP (noO_ok _ _) hG [] Tryz.func145 rfl (by decide +kernel) (Nat.le_of_ble_eq_true (by kernel_rfl)) ?_
 iterate 8 (all_goals try (first | with_reducible refine splitI (fun h=>?_) (fun h=>?_) | with_reducible refine splitBI (fun h=>?_) (fun h=>?_) | simp (config:={ maxSteps:=1000000 }) (disch:=first | assumption | omega | (simp; done) | fail) [Tryz.results145, *]))
 refine LX.ind (fun m gf H'=>∃ k:Nat,k≤l.length∧m=l.length - k∧H'=⟨.fn g,n⟩∧Hide (w ∉ l.take k)∧gf 0=some lv∧gf 1=some (.func (.func 128) [] [.ptr p 0])∧gf 7=some (.lit (.int .i64 l.length))∧gf 8=some (.lit (.int .i64 k))) (m0:=l.length) ?_ ?_
 ·exact ⟨0,Nat.zero_le _,rfl,rfl,⟨by simp⟩,by simp,by simp,by simp,by simp⟩
 rintro m gf H' ⟨k,hk,rfl,rfl,HN,w0,w1,w7,w8⟩ ih
 refine LX.roundP (noO_ok _ _) hG [] (by decide +kernel) ?_
 by_cases hlt:k < l.length
 ·have hltI:(k:Int) < (l.length:Int):=by omega
  obtain ⟨a,off,q,ha,hia,hc,hq⟩:=H1.out.at hlt
  have HC:=Hide.mk (HH.out _ (List.getElem_mem hlt) q hq)
  have hwk:Hide (w ∉ l.take (k+1)∨l[k]=w):=⟨by
   by_cases h:l[k]=w
   ·exact .inr h
   ·refine .inl ?_
    rw [take_snoc hlt,List.mem_append,List.mem_singleton]
    rintro (h1 | h1)
    ·exact HN.out h1
    ·exact h h1.symm⟩
  have HIX:Hide (l[k]=w→res=true):=⟨fun h=>by rw [HRE.out,← h]; exact decide_eq_true (List.getElem_mem hlt)⟩
  clear hq
  generalize l[k]=x at *
  iterate 8 (all_goals try (first | with_reducible refine splitI (fun h=>?_) (fun h=>?_) | with_reducible refine splitBI (fun h=>?_) (fun h=>?_) | simp (config:={ maxSteps:=1000000 }) (disch:=first | assumption | omega | (simp; done) | fail) [Tryz.results145, *]))
  refine WC.mono HC.out ?_
  rintro _ rfl
  by_cases hx:x=w
  ·have hix:=HIX.out hx
   subst hix
   have HX:=Hide.mk hx
   simp only [hx,decide_true]
   clear hx
   iterate 8 (all_goals try (first | with_reducible refine splitI (fun h=>?_) (fun h=>?_) | with_reducible refine splitBI (fun h=>?_) (fun h=>?_) | simp (config:={ maxSteps:=1000000 }) (disch:=first | assumption | omega | (simp; done) | fail) [Tryz.results145, *]))
  ·have hnm:w ∉ l.take (k+1):=hwk.out.resolve_right hx
   have HNM:=Hide.mk hnm
   simp only [hx,decide_false]
   clear hx hnm
   iterate 8 (all_goals try (first | with_reducible refine splitI (fun h=>?_) (fun h=>?_) | with_reducible refine splitBI (fun h=>?_) (fun h=>?_) | simp (config:={ maxSteps:=1000000 }) (disch:=first | assumption | omega | (simp; done) | fail) [Tryz.results145, *]))
   exact ih.out (l.length - (k+1)) _ _ (by omega) ⟨k+1,by omega,rfl,rfl,HNM,by simp [*],by simp [*],by simp [*],by simp⟩
 ·have hltI:¬(k:Int) < (l.length:Int):=by omega
  have hre:res=false:=by
   have h2:=HN.out
   rw [List.take_of_length_le (by omega)] at h2
   rw [HRE.out]; exact decide_eq_false h2
  subst hre
  iterate 8 (all_goals try (first | with_reducible refine splitI (fun h=>?_) (fun h=>?_) | with_reducible refine splitBI (fun h=>?_) (fun h=>?_) | simp (config:={ maxSteps:=1000000 }) (disch:=first | assumption | omega | (simp; done) | fail) [Tryz.results145, *]))
theorem CFuncW_w {l:List (List Int)} (hll:l.length≤100000) {w:List Int} (hwl:w.length≤1000) (hwls:∀ x∈l,x.length≤1000) (p:Nat) (g:Nat→Option Blk) (n:Nat) (lv wv:AV) (hp:g p=some (.cells [wv] true 0)) (h1:ListV g n l lv) (hw:RepW g n w wv) :
  WC 0 Tryz.prog 127 [lv,.func (.func 128) [] [.ptr p 0]] ⟨.fn g,n⟩ fun r=>r=.ret (.lit (.bool (decide (w∈l)))) ⟨.fn g,n⟩:=by
 have HI:=Hide.mk (IFuncW_w hll hwl hwls p g n lv wv hp h1 hw)
 clear hp h1 hw hwls
 generalize decide (w∈l)=bb at *
 refine WC.enterP (noO_ok _ _) hG [] Tryz.func127 rfl (by decide +kernel) (Nat.le_of_ble_eq_true (by kernel_rfl)) ?_
 iterate 8 (all_goals try (first | with_reducible refine splitI (fun h=>?_) (fun h=>?_) | with_reducible refine splitBI (fun h=>?_) (fun h=>?_) | simp (config:={ maxSteps:=1000000 }) (disch:=first | assumption | omega | (simp; done) | fail) [Tryz.results127, *]))
 refine WC.mono HI.out ?_
 rintro _ ⟨z,rfl,hz⟩
 cases bb with
 | true =>
  have hz1:0≤z:=of_decide_eq_true hz
  clear hz
  iterate 8 (all_goals try (first | with_reducible refine splitI (fun h=>?_) (fun h=>?_) | with_reducible refine splitBI (fun h=>?_) (fun h=>?_) | simp (config:={ maxSteps:=1000000 }) (disch:=first | assumption | omega | (simp; done) | fail) [Tryz.results127, *]))
 | false =>
  have hz1:¬0≤z:=of_decide_eq_false hz
  clear hz
  iterate 8 (all_goals try (first | with_reducible refine splitI (fun h=>?_) (fun h=>?_) | with_reducible refine splitBI (fun h=>?_) (fun h=>?_) | simp (config:={ maxSteps:=1000000 }) (disch:=first | assumption | omega | (simp; done) | fail) [Tryz.results127, *]))
theorem thas_w {l:List (List Int)} (hll:l.length≤100000) {w:List Int} (hwl:w.length≤1000) (hwls:∀ x∈l,x.length≤1000) (g:Nat→Option Blk) (n:Nat) (lv wv:AV) (h1:ListV g n l lv) (hw:RepW g n w wv) :
  WC 0 Tryz.prog 92 [lv,wv] ⟨.fn g,n⟩ fun r=>r=.ret (.lit (.bool (decide (w∈l)))) ⟨.fn g,n⟩:=by
 refine WC.drop1 rfl ?_
 have h1w:=hw.one
 have hcw:=hw.cell
 have h2w:allOne [wv]=true:=by simp [h1w]
 have HC:=Hide.mk (CFuncW_w hll hwl hwls n (gput g n (some (.cells [wv] true 0))) (n+1) lv wv gput_eq (h1.mono (by omega) fun b hb=>gput_lt hb) (SliceV.mono (by omega) (fun b hb=>gput_lt hb) hw))
 clear h1 hw hwls
 generalize decide (w∈l)=bb at *
 refine WC.enterP (noO_ok _ _) hG [] Tryz.func92 rfl (by decide +kernel) (Nat.le_of_ble_eq_true (by kernel_rfl)) ?_
 iterate 8 (all_goals try (first | with_reducible refine splitI (fun h=>?_) (fun h=>?_) | with_reducible refine splitBI (fun h=>?_) (fun h=>?_) | simp (config:={ maxSteps:=1000000 }) (disch:=first | assumption | omega | (simp; done) | fail) [Tryz.results92, *]))
 refine WC.mono HC.out ?_
 rintro _ rfl
 cases bb
 all_goals
  iterate 8 (all_goals try (first | with_reducible refine splitI (fun h=>?_) (fun h=>?_) | with_reducible refine splitBI (fun h=>?_) (fun h=>?_) | simp (config:={ maxSteps:=1000000 }) (disch:=first | assumption | omega | (simp; done) | fail) [Tryz.results92, *]))
  exact ⟨show n≤n+1 by omega,fun b (hb:b < n)=>gput_lt hb⟩
end Go.Ai
end
