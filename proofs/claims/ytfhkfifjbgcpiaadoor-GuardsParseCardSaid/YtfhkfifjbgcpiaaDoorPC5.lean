/- A small verified interpreter over names, its proofs, and what was proved with it. No condition. -/
import Derived.Test.YtfhkfifjbgcpiaaDoorPC4
import Derived.Test.YtfhkfifjbgcpiaaDoorPA4
set_option linter.all false
set_option linter.deprecated false
section
namespace Go.Ai
open Go.Proofs
set_option maxRecDepth 10000
set_option maxHeartbeats 40000000
def SliceA (g:Nat→Option Blk) (b:Nat) (sv:AV) (len:Nat) (cs:List AV) : Prop :=
  (len=0∧(sv=.lit (.slice none 0 0)∨sv=.es))∨∃ a off c,a < b∧sv=.sl a off len c∧Row g a off cs
def RowN (g gk:Nat→Option Blk) (n0 n A:Nat) (sv:AV) (l:List NodeM) : Prop :=
  (l=[]∧sv=.lit (.slice none 0 0))∨(l=[]∧sv=.sl A 0 0 0∧n0≤A∧A < n∧∃ own z,g A=some (.cells [] own z)) ∨
  (∃ r,l≠[]∧sv=.slq A 0 l.length 0∧n0≤A∧A < n∧g A=some (.cells r true 3)∧r.length=l.length * 3∧repL gk n l.reverse r)
mutual
theorem repN_ext {g g' : Nat→Option Blk} {b b' : Nat} (hb:b≤b') (h:∀ a x,a < b→g a=some x→g' a=some x) : ∀ {x:NodeM} {cs:List AV},repN g b x cs→repN g' b' x cs
  | .mk op k subs,cs,⟨h0,sv,h1,h2⟩=>⟨h0,sv,h1,h2.imp id fun ⟨a,off,r,h3,h4,⟨l,own,z,h5,h6⟩,h7⟩=>⟨a,off,r,by omega,h4,⟨l,own,z,h a _ h3 h5,h6⟩,repL_ext hb h h7⟩⟩
theorem repL_ext {g g' : Nat→Option Blk} {b b' : Nat} (hb:b≤b') (h:∀ a x,a < b→g a=some x→g' a=some x) : ∀ {l:List NodeM} {cs:List AV},repL g b l cs→repL g' b' l cs
  | [],_,h0=>h0
  | _ :: _,_,⟨c,r,h1,h2,h3⟩=>⟨c,r,h1,repN_ext hb h h2,repL_ext hb h h3⟩
end
theorem repL_append {g:Nat→Option Blk} {b:Nat} : ∀ {l m:List NodeM} {r s:List AV},repL g b l r→repL g b m s→repL g b (l++m) (r++s)
  | [],m,r,s,h,k=>by have h' : r=[]:=h; subst h'; exact k
  | x :: l,m,r,s,⟨c,q,h1,h2,h3⟩,k=>⟨c,q++s,by rw [h1,List.append_assoc],h2,repL_append h3 k⟩
theorem repL_one {g:Nat→Option Blk} {b:Nat} {x:NodeM} {cs:List AV} (h:repN g b x cs) : repL g b [x] cs:=⟨cs,[],by simp,h,rfl⟩
theorem RowN.keep {g g' gk gk' : Nat→Option Blk} {n0 n n' A:Nat} {sv:AV} {l:List NodeM} (h:RowN g gk n0 n A sv l) (hn:n≤n') (hA:n0≤A→A < n→g' A=g A) (hk:∀ a x,a < n→gk a=some x→gk' a=some x) : RowN g' gk' n0 n' A sv l:=by
  rcases h with h | ⟨h1,h2,h3,h4,own,z,h5⟩ | ⟨r,h1,h2,h3,h4,h5,h6,h7⟩
  · exact .inl h
  · exact .inr (.inl ⟨h1,h2,h3,by omega,own,z,(hA h3 h4).trans h5⟩)
  · exact .inr (.inr ⟨r,h1,h2,h3,by omega,(hA h3 h4).trans h5,h6,repL_ext hn hk h7⟩)
structure OfI (g:Nat→Option Blk) (n:Nat) (cv nv:AV) (i n' : Nat) (g' gk:Nat→Option Blk) (ns ts:List NodeM) (A1 A2:Nat) (sv tv:AV) : Prop where
  nx:n+2≤n'
  old:∀ b,b < n→g' b=g b
  e:g' n=some (.cells [cv,nv] true 0)
  r:g' (n+1)=some (.cells [.lit (.int .u8 0),.lit (.int .i64 0),.lit (.slice none 0 0)] true 0)
  kk:∀ a x,gk a=some x→g' a=some x∧a≠A1∧a≠A2∧n+2≤a∧a < n'
  rs:RowN g' gk (n+2) n' A1 sv ns
  rt:RowN g' gk (n+2) n' A2 tv ts
  ne:A1≠A2
  a1:A1 < n'
  a2:A2 < n'
  l1:ns.length≤i
  l2:ts.length≤i
theorem OfI.next {g g' gk g2 gk2:Nat→Option Blk} {n i n' n2 A1 A2 B1 B2:Nat} {cv nv sv tv sv2 tv2:AV} {ns ts ns2 ts2:List NodeM} (h:OfI g n cv nv i n' g' gk ns ts A1 A2 sv tv) (hn:n'≤n2)
    (hg:∀ b,b < n'→(n+2≤b→b≠A1∧b≠A2)→g2 b=g' b) (hk:∀ a x,gk2 a=some x→(gk a=some x∧a≠B1∧a≠B2)∨(n'≤a∧g2 a=some x∧a < n2∧a≠B1∧a≠B2))
    (rs:RowN g2 gk2 (n+2) n2 B1 sv2 ns2) (rt:RowN g2 gk2 (n+2) n2 B2 tv2 ts2) (ne:B1≠B2) (a1:B1 < n2) (a2:B2 < n2) (l1:ns2.length≤ns.length+1) (l2:ts2.length≤ts.length+1) : OfI g n cv nv (i+1) n2 g2 gk2 ns2 ts2 B1 B2 sv2 tv2:=by
  have hnx:=h.nx
  have hl1:=h.l1
  have hl2:=h.l2
  refine ⟨by omega,fun b hb=>?_,?_,?_,fun a z hz=>?_,rs,rt,ne,a1,a2,by omega,by omega⟩
  · rw [hg b (by omega) (fun h=>by omega)]; exact h.old b hb
  · rw [hg n (by omega) (fun h=>by omega)]; exact h.e
  · rw [hg (n+1) (by omega) (fun h=>by omega)]; exact h.r
  · rcases hk a z hz with ⟨hz,hb⟩ | ⟨h1,h2,h3,h4,h5⟩
    · obtain ⟨h1,h2,h3,h4,h5⟩:=h.kk a z hz
      exact ⟨(hg a h5 (fun _=>⟨h2,h3⟩)).trans h1,hb.1,hb.2,h4,by omega⟩
    · exact ⟨h2,h4,h5,by omega,h3⟩
theorem gput_ne {g:Nat→Option Blk} {a j:Nat} {x:Option Blk} (h:j≠a) : gput g a x j=g j:=if_neg h
theorem gput_eq {g:Nat→Option Blk} {a:Nat} {x:Option Blk} : gput g a x a=x:=if_pos rfl
theorem OfI.push {g g' gk g2:Nat→Option Blk} {n i n' n2 A1 A2:Nat} {cv nv sv tv:AV} {ns ts:List NodeM} {x:NodeM} {X r:List AV} (h:OfI g n cv nv i n' g' gk ns ts A1 A2 sv tv) (hn2:n'+1 < n2)
    (hg:∀ b,b < n'→(n+2≤b→b≠A1)→g2 b=g' b) (hB:g2 (n'+1)=some (.cells (r++X) true 3)) (hr:r.length=ns.length * 3) (hrep:repL gk n' ns.reverse r) (hX:X.length=3) (hx:∀ q b,repN q b x X) :
    OfI g n cv nv (i+1) n2 g2 gk (x :: ns) ts (n'+1) A2 (.slq (n'+1) 0 (ns.length+1) 0) tv:=by
  have hnx:=h.nx
  have ha2:=h.a2
  have hne:=h.ne
  refine h.next (by omega) (fun b hb hb2=>hg b hb (fun h3=>(hb2 h3).1)) (fun a z hz=>.inl ⟨hz,?_,(h.kk a z hz).2.2.1⟩) ?_ ?_ (by omega) (by omega) (by omega) (by simp) (by omega)
  · have:=(h.kk a z hz).2.2.2.2
    omega
  · refine .inr (.inr ⟨r++X,by simp,by simp,by omega,by omega,hB,?_,?_⟩)
    · rw [List.length_append,hr,hX,List.length_cons]; omega
    · rw [List.reverse_cons]
      exact repL_append (repL_ext (by omega) (fun _ _ _ h=>h) hrep) (repL_one (hx _ _))
  · exact h.rt.keep (by omega) (fun h1 h2=>hg A2 h2 (fun _=>fun e=>hne e.symm)) (fun _ _ _ h=>h)
theorem repL_split {g:Nat→Option Blk} {b:Nat} : ∀ {l m:List NodeM} {r:List AV},repL g b (l++m) r→∃ r1 r2,r=r1++r2∧repL g b l r1∧repL g b m r2
  | [],m,r,h=>⟨[],r,rfl,rfl,h⟩
  | x :: l,m,r,⟨c,q,h1,h2,h3⟩=>by
    obtain ⟨r1,r2,h4,h5,h6⟩:=repL_split h3
    exact ⟨c++r1,r2,by rw [h1,h4,List.append_assoc],⟨c,r1,rfl,h2,h5⟩,h6⟩
theorem repL_one' {g:Nat→Option Blk} {b:Nat} {x:NodeM} {cs:List AV} (h:repL g b [x] cs) : repN g b x cs:=by
  obtain ⟨c,r,h1,h2,h3⟩:=h
  have h3' : r=[]:=h3
  subst h3'
  rw [h1,List.append_nil]; exact h2
theorem RowN.mkq {g2 gk2:Nat→Option Blk} {n0 n2 B:Nat} {t:List NodeM} {x:NodeM} {r0 X:List AV} (hB:g2 B=some (.cells (r0++X) true 3)) (hX:X.length=3) (h1:repL gk2 n2 t.reverse r0) (h2:repN gk2 n2 x X) (h0:n0≤B) (hn:B < n2) :
    RowN g2 gk2 n0 n2 B (.slq B 0 (t.length+1) 0) (x :: t):=by
  refine .inr (.inr ⟨r0++X,by simp,by simp,h0,hn,hB,?_,?_⟩)
  · have:=repL_len h1
    rw [List.length_reverse] at this
    rw [List.length_append,hX,this,List.length_cons]; omega
  · rw [List.reverse_cons]
    exact repL_append h1 (repL_one h2)
theorem RowN.last {g' gk:Nat→Option Blk} {n0 n' A:Nat} {sv:AV} {x:NodeM} {t:List NodeM} (h:RowN g' gk n0 n' A sv (x :: t)) : ∃ r r0 cx,sv=.slq A 0 (t.length+1) 0∧n0≤A∧A < n'∧g' A=some (.cells r true 3)∧r.length=(t.length+1) * 3 ∧
    r.take (t.length * 3)=r0∧(r.drop (t.length * 3)).take 3=cx∧repL gk n' t.reverse r0∧repN gk n' x cx:=by
  rcases h with ⟨h9,_⟩ | ⟨h9,_⟩ | ⟨r,hne,h1,hA0,hA1,hA,hrl,hrep⟩
  · cases h9
  · cases h9
  · rw [List.reverse_cons] at hrep
    obtain ⟨r1,r2,rfl,h2,h3⟩:=repL_split hrep
    have h4:=repL_len h2
    have h5:=repL_len h3
    rw [List.length_reverse] at h4
    refine ⟨r1++r2,r1,r2,h1,hA0,hA1,hA,hrl,?_,?_,h2,repL_one' h3⟩
    · rw [List.take_left' h4]
    · rw [List.drop_left' h4,List.take_of_length_le (by rw [h5]; simp)]
theorem node_rep {gk:Nat→Option Blk} {n' n2 S op k:Nat} {subs:List NodeM} {cs:List AV} (hs:repL gk n' subs cs) (hk:subs.length=k) (hop:op < 256) (h1:n'≤S) (h2:S < n2) :
    repN (gput gk S (some (.cells cs true 0))) n2 (.mk op 0 subs) [.lit (.int .u8 op),.lit (.int .i64 0),.sl S 0 k k]:=by
  subst hk
  refine ⟨hop,_,rfl,.inr ⟨S,0,cs,h2,.inl ⟨_,rfl⟩,⟨cs,true,0,gput_eq,by simp,by simp⟩,?_⟩⟩
  exact repL_ext (by omega) (fun a z ha hz=>by rw [gput_lt (by omega)]; exact hz) hs
theorem OfI.cmp {g g' gk g2:Nat→Option Blk} {n i n' n2 A1 A2 S B Z op k:Nat} {cv nv sv tv sv2:AV} {ns ts t subs:List NodeM} {cs rt:List AV} (h:OfI g n cv nv i n' g' gk ns ts A1 A2 sv tv) (ht:t.length≤ns.length)
    (h1:n'≤S) (h2:S < n2) (h3:n'≤B) (h4:B < n2) (h5:S≠B) (h6:n'≤Z) (h7:Z < n2) (h8:S≠Z) (h9:Z≠B) (hg:∀ b,b < n'→(n+2≤b→b≠A1∧b≠A2)→g2 b=g' b)
    (rs2:RowN g2 (gput gk S (some (.cells cs true 0))) (n+2) n2 Z sv2 t) (hS:g2 S=some (.cells cs true 0)) (hB:g2 B=some (.cells (rt++[.lit (.int .u8 op),.lit (.int .i64 0),.sl S 0 k k]) true 3))
    (h0:repL gk n' ts.reverse rt) (hs:repL gk n' subs cs) (hk:subs.length=k) (hop:op < 256) :
    OfI g n cv nv (i+1) n2 g2 (gput gk S (some (.cells cs true 0))) t (.mk op 0 subs :: ts) Z B sv2 (.slq B 0 (ts.length+1) 0):=by
  have hnx:=h.nx
  have hext:∀ a z,a < n'→gk a=some z→gput gk S (some (.cells cs true 0)) a=some z:=fun a z ha hz=>by rw [gput_lt (by omega)]; exact hz
  refine h.next (by omega) hg (fun a z hz=>?_) rs2 (RowN.mkq hB rfl (repL_ext (by omega) hext h0) (node_rep hs hk hop h1 h2) (by omega) h4) h9 h7 h4 (by omega) (by simp)
  rcases gput_v hz with ⟨rfl,rfl⟩ | ⟨_,hz⟩
  · exact .inr ⟨h1,hS,h2,h8,h5⟩
  · have:=(h.kk a z hz).2.2.2.2
    exact .inl ⟨hz,by omega,by omega⟩
def FreshN (g:Nat→Option Blk) (n n' : Nat) (x:NodeM) (cs:List AV) : Prop:=∃ gk:Nat→Option Blk,(∀ a z,gk a=some z→g a=some z∧n≤a∧a < n')∧repN gk n' x cs
theorem FreshN.leaf {g:Nat→Option Blk} {n n' op:Nat} {k:Int} (h:op < 256) : FreshN g n n' (.mk op k []) [.lit (.int .u8 op),.lit (.int .i64 k),.lit (.slice none 0 0)]:=by
  refine ⟨fun _=>none,⟨fun a z h=>?_,?_⟩⟩
  · cases h
  · exact ⟨h,_,rfl,.inl ⟨rfl,.inl rfl⟩⟩
end Go.Ai
end
