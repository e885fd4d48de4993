/- A small verified interpreter over names, its proofs, and what was proved with it. No condition. -/
import Derived.Test.YtfhkfifjbgcpiaaDoorTC4
import Derived.Test.YtfhkfifjbgcpiaaDoorTA4
set_option linter.all false
set_option linter.deprecated false
section
namespace Go.Ai
open Go.Proofs
set_option maxRecDepth 10000
set_option maxHeartbeats 40000000
theorem node_w (g:Nat→Option Blk) (n op a off len cap:Nat) :
    WC 6 Tryd.prog 21 [.lit (.int .u8 op),.sl a off len cap] ⟨.fn g,n⟩ fun r=>r=.ret (.agg [.lit (.int .u8 op),.lit (.int .i64 0),.sl a off len cap]) ⟨.fn (gput g n (some (.cells [.lit (.int .u8 op),.lit (.int .i64 0),.sl a off len cap] true 0))),n+1⟩:=by
  refine WC.enterP (noO_ok _ _) hG6 [] Tryd.func21 rfl (by decide +kernel) (Nat.le_of_ble_eq_true (by kernel_rfl)) ?_
  have h1a:allOne [.lit (.int .u8 op),.lit (.int .i64 0),.sl a off len cap]=true:=by simp
  iterate 12 (all_goals try (first | with_reducible refine splitI (fun h=>?_) (fun h=>?_) | with_reducible refine splitBI (fun h=>?_) (fun h=>?_) | simp (disch:=first | assumption | omega | (simp; done) | fail) [Tryd.results21, *]))
def u8Cells (l:List Nat) : List AV:=l.map fun (c:Nat)=>.lit (.int .u8 (c:Int))
def i32Cells (l:List Int) : List AV:=l.map fun (c:Int)=>.lit (.int .i32 c)
def SliceA (g:Nat→Option Blk) (b:Nat) (sv:AV) (len:Nat) (cs:List AV) : Prop :=
  (len=0∧(sv=.lit (.slice none 0 0)∨sv=.es))∨∃ a off c,a < b∧sv=.sl a off len c∧Row g a off cs
def dfltM (c:Nat) (ns ts:List NodeM) : List NodeM×List NodeM:=(.mk 1 ((c / 12 % 3:Nat) : Int) [] :: ns,ts)
def stepM (c:Nat) (num:Option Int) (ns ts:List NodeM) : List NodeM×List NodeM :=
  if c % 12=2 then match ns with | x :: t=>(.mk 2 0 [x] :: t,ts) | []=>dfltM c ns ts
  else if 3≤c % 12∧c % 12 < 6 then match ns with | y :: x :: t=>(.mk (c % 12) 0 [x,y] :: t,ts) | _=>dfltM c ns ts
  else if 6≤c % 12∧c % 12 < 9 then match ns with | y :: x :: t=>(t,.mk (c % 12) 0 [x,y] :: ts) | _=>dfltM c ns ts
  else if c % 12=9 then match ts with | x :: t=>(ns,.mk 9 0 [x] :: t) | []=>dfltM c ns ts
  else if 9 < c % 12 then match ts with | y :: x :: t=>(ns,.mk (c % 12) 0 [x,y] :: t) | _=>dfltM c ns ts
  else if c % 12=0 then match num with | some k=>(.mk 0 (if k < 0 then -k else k) [] :: ns,ts) | none=>dfltM c ns ts
  else dfltM c ns ts
def ofL:List Nat→List Int→List NodeM→List NodeM→List NodeM×List NodeM
  | [],_,ns,ts=>(ns,ts)
  | c :: cs,nums,ns,ts=>ofL cs nums.tail (stepM c nums.head? ns ts).1 (stepM c nums.head? ns ts).2
def ofE (p:List NodeM×List NodeM) : NodeM:=match p with
  | (_,t :: _)=>t
  | (x :: _,[])=>x
  | ([],[])=>.mk 0 0 []
def ofM (codes:List Nat) (nums:List Int) : NodeM:=ofE (ofL (codes.take 14) nums [] [])
def RowN (g gk:Nat→Option Blk) (n0 n A:Nat) (sv:AV) (l:List NodeM) : Prop :=
  (l=[]∧sv=.lit (.slice none 0 0))∨(l=[]∧sv=.sl A 0 0 0∧n0≤A∧A < n∧∃ own z,g A=some (.cells [] own z)) ∨
  (∃ r,l≠[]∧sv=.slq A 0 l.length 0∧n0≤A∧A < n∧g A=some (.cells r true 3)∧r.length=l.length * 3∧repL gk n l.reverse r)
mutual
theorem repN_ext {g g' : Nat→Option Blk} {b b' : Nat} (hb:b≤b') (h:∀ a x,a < b→g a=some x→g' a=some x) : ∀ {x:NodeM} {cs:List AV},repN g b x cs→repN g' b' x cs
  | .mk op k subs,cs,⟨h0,sv,h1,h2⟩=>⟨h0,sv,h1,h2.imp id fun ⟨a,off,r,h3,h4,⟨l,own,z,h5,h6⟩,h7⟩=>⟨a,off,r,by omega,h4,⟨l,own,z,h a _ h3 h5,h6⟩,repL_ext hb h h7⟩⟩
theorem repL_ext {g g' : Nat→Option Blk} {b b' : Nat} (hb:b≤b') (h:∀ a x,a < b→g a=some x→g' a=some x) : ∀ {l:List NodeM} {cs:List AV},repL g b l cs→repL g' b' l cs
  | [],_,h0=>h0
  | _ :: _,_,⟨c,r,h1,h2,h3⟩=>⟨c,r,h1,repN_ext hb h h2,repL_ext hb h h3⟩
end
theorem repL_append {g:Nat→Option Blk} {b:Nat} : ∀ {l m:List NodeM} {r s:List AV},repL g b l r→repL g b m s→repL g b (l++m) (r++s)
  | [],m,r,s,h,k=>by have h' : r=[]:=h; subst h'; exact k
  | x :: l,m,r,s,⟨c,q,h1,h2,h3⟩,k=>⟨c,q++s,by rw [h1,List.append_assoc],h2,repL_append h3 k⟩
theorem repL_one {g:Nat→Option Blk} {b:Nat} {x:NodeM} {cs:List AV} (h:repN g b x cs) : repL g b [x] cs:=⟨cs,[],by simp,h,rfl⟩
theorem RowN.keep {g g' gk gk' : Nat→Option Blk} {n0 n n' A:Nat} {sv:AV} {l:List NodeM} (h:RowN g gk n0 n A sv l) (hn:n≤n') (hA:n0≤A→A < n→g' A=g A) (hk:∀ a x,a < n→gk a=some x→gk' a=some x) : RowN g' gk' n0 n' A sv l:=by
  rcases h with h | ⟨h1,h2,h3,h4,own,z,h5⟩ | ⟨r,h1,h2,h3,h4,h5,h6,h7⟩
  · exact .inl h
  · exact .inr (.inl ⟨h1,h2,h3,by omega,own,z,(hA h3 h4).trans h5⟩)
  · exact .inr (.inr ⟨r,h1,h2,h3,by omega,(hA h3 h4).trans h5,h6,repL_ext hn hk h7⟩)
structure OfI (g:Nat→Option Blk) (n:Nat) (cv nv:AV) (i n' : Nat) (g' gk:Nat→Option Blk) (ns ts:List NodeM) (A1 A2:Nat) (sv tv:AV) : Prop where
  nx:n+2≤n'
  old:∀ b,b < n→g' b=g b
  e:g' n=some (.cells [cv,nv] true 0)
  r:g' (n+1)=some (.cells [.lit (.int .u8 0),.lit (.int .i64 0),.lit (.slice none 0 0)] true 0)
  kk:∀ a x,gk a=some x→g' a=some x∧a≠A1∧a≠A2∧n+2≤a∧a < n'
  rs:RowN g' gk (n+2) n' A1 sv ns
  rt:RowN g' gk (n+2) n' A2 tv ts
  ne:A1≠A2
  a1:A1 < n'
  a2:A2 < n'
  l1:ns.length≤i
  l2:ts.length≤i
theorem OfI.next {g g' gk g2 gk2:Nat→Option Blk} {n i n' n2 A1 A2 B1 B2:Nat} {cv nv sv tv sv2 tv2:AV} {ns ts ns2 ts2:List NodeM} (h:OfI g n cv nv i n' g' gk ns ts A1 A2 sv tv) (hn:n'≤n2)
    (hg:∀ b,b < n'→(n+2≤b→b≠A1∧b≠A2)→g2 b=g' b) (hk:∀ a x,gk2 a=some x→(gk a=some x∧a≠B1∧a≠B2)∨(n'≤a∧g2 a=some x∧a < n2∧a≠B1∧a≠B2))
    (rs:RowN g2 gk2 (n+2) n2 B1 sv2 ns2) (rt:RowN g2 gk2 (n+2) n2 B2 tv2 ts2) (ne:B1≠B2) (a1:B1 < n2) (a2:B2 < n2) (l1:ns2.length≤ns.length+1) (l2:ts2.length≤ts.length+1) : OfI g n cv nv (i+1) n2 g2 gk2 ns2 ts2 B1 B2 sv2 tv2:=by
  have hnx:=h.nx
  have hl1:=h.l1
  have hl2:=h.l2
  refine ⟨by omega,fun b hb=>?_,?_,?_,fun a z hz=>?_,rs,rt,ne,a1,a2,by omega,by omega⟩
  · rw [hg b (by omega) (fun h=>by omega)]; exact h.old b hb
  · rw [hg n (by omega) (fun h=>by omega)]; exact h.e
  · rw [hg (n+1) (by omega) (fun h=>by omega)]; exact h.r
  · rcases hk a z hz with ⟨hz,hb⟩ | ⟨h1,h2,h3,h4,h5⟩
    · obtain ⟨h1,h2,h3,h4,h5⟩:=h.kk a z hz
      exact ⟨(hg a h5 (fun _=>⟨h2,h3⟩)).trans h1,hb.1,hb.2,h4,by omega⟩
    · exact ⟨h2,h4,h5,by omega,h3⟩
theorem gput_ne {g:Nat→Option Blk} {a j:Nat} {x:Option Blk} (h:j≠a) : gput g a x j=g j:=if_neg h
theorem gput_eq {g:Nat→Option Blk} {a:Nat} {x:Option Blk} : gput g a x a=x:=if_pos rfl
theorem lenS_sv {g gk:Nat→Option Blk} {n0 n A:Nat} {sv:AV} {l:List NodeM} (h:RowN g gk n0 n A sv l) : ∀ {H:Mem} {ev:Ev} {o:Oper} {c:Call} {e:TypeId},lenS Tryd.prog H ev o c (some (.slice e)) (some [sv])=.val (.lit (.int .i64 l.length)) H:=by
  intro H ev o c e
  rcases h with ⟨rfl,rfl⟩ | ⟨rfl,rfl,_⟩ | ⟨r,h1,rfl,_⟩ <;> rfl
theorem OfI.push {g g' gk g2:Nat→Option Blk} {n i n' n2 A1 A2:Nat} {cv nv sv tv:AV} {ns ts:List NodeM} {x:NodeM} {X r:List AV} (h:OfI g n cv nv i n' g' gk ns ts A1 A2 sv tv) (hn2:n'+1 < n2)
    (hg:∀ b,b < n'→(n+2≤b→b≠A1)→g2 b=g' b) (hB:g2 (n'+1)=some (.cells (r++X) true 3)) (hr:r.length=ns.length * 3) (hrep:repL gk n' ns.reverse r) (hX:X.length=3) (hx:∀ q b,repN q b x X) :
    OfI g n cv nv (i+1) n2 g2 gk (x :: ns) ts (n'+1) A2 (.slq (n'+1) 0 (ns.length+1) 0) tv:=by
  have hnx:=h.nx
  have ha2:=h.a2
  have hne:=h.ne
  refine h.next (by omega) (fun b hb hb2=>hg b hb (fun h3=>(hb2 h3).1)) (fun a z hz=>.inl ⟨hz,?_,(h.kk a z hz).2.2.1⟩) ?_ ?_ (by omega) (by omega) (by omega) (by simp) (by omega)
  · have:=(h.kk a z hz).2.2.2.2
    omega
  · refine .inr (.inr ⟨r++X,by simp,by simp,by omega,by omega,hB,?_,?_⟩)
    · rw [List.length_append,hr,hX,List.length_cons]; omega
    · rw [List.reverse_cons]
      exact repL_append (repL_ext (by omega) (fun _ _ _ h=>h) hrep) (repL_one (hx _ _))
  · exact h.rt.keep (by omega) (fun h1 h2=>hg A2 h2 (fun _=>fun e=>hne e.symm)) (fun _ _ _ h=>h)
theorem repL_split {g:Nat→Option Blk} {b:Nat} : ∀ {l m:List NodeM} {r:List AV},repL g b (l++m) r→∃ r1 r2,r=r1++r2∧repL g b l r1∧repL g b m r2
  | [],m,r,h=>⟨[],r,rfl,rfl,h⟩
  | x :: l,m,r,⟨c,q,h1,h2,h3⟩=>by
    obtain ⟨r1,r2,h4,h5,h6⟩:=repL_split h3
    exact ⟨c++r1,r2,by rw [h1,h4,List.append_assoc],⟨c,r1,rfl,h2,h5⟩,h6⟩
theorem repL_one' {g:Nat→Option Blk} {b:Nat} {x:NodeM} {cs:List AV} (h:repL g b [x] cs) : repN g b x cs:=by
  obtain ⟨c,r,h1,h2,h3⟩:=h
  have h3' : r=[]:=h3
  subst h3'
  rw [h1,List.append_nil]; exact h2
theorem RowN.mkq {g2 gk2:Nat→Option Blk} {n0 n2 B:Nat} {t:List NodeM} {x:NodeM} {r0 X:List AV} (hB:g2 B=some (.cells (r0++X) true 3)) (hX:X.length=3) (h1:repL gk2 n2 t.reverse r0) (h2:repN gk2 n2 x X) (h0:n0≤B) (hn:B < n2) :
    RowN g2 gk2 n0 n2 B (.slq B 0 (t.length+1) 0) (x :: t):=by
  refine .inr (.inr ⟨r0++X,by simp,by simp,h0,hn,hB,?_,?_⟩)
  · have:=repL_len h1
    rw [List.length_reverse] at this
    rw [List.length_append,hX,this,List.length_cons]; omega
  · rw [List.reverse_cons]
    exact repL_append h1 (repL_one h2)
theorem RowN.last {g' gk:Nat→Option Blk} {n0 n' A:Nat} {sv:AV} {x:NodeM} {t:List NodeM} (h:RowN g' gk n0 n' A sv (x :: t)) : ∃ r r0 cx,sv=.slq A 0 (t.length+1) 0∧n0≤A∧A < n'∧g' A=some (.cells r true 3)∧r.length=(t.length+1) * 3 ∧
    r.take (t.length * 3)=r0∧(r.drop (t.length * 3)).take 3=cx∧repL gk n' t.reverse r0∧repN gk n' x cx:=by
  rcases h with ⟨h9,_⟩ | ⟨h9,_⟩ | ⟨r,hne,h1,hA0,hA1,hA,hrl,hrep⟩
  · cases h9
  · cases h9
  · rw [List.reverse_cons] at hrep
    obtain ⟨r1,r2,rfl,h2,h3⟩:=repL_split hrep
    have h4:=repL_len h2
    have h5:=repL_len h3
    rw [List.length_reverse] at h4
    refine ⟨r1++r2,r1,r2,h1,hA0,hA1,hA,hrl,?_,?_,h2,repL_one' h3⟩
    · rw [List.take_left' h4]
    · rw [List.drop_left' h4,List.take_of_length_le (by rw [h5]; simp)]
theorem RowN.last2 {g' gk:Nat→Option Blk} {n0 n' A:Nat} {sv:AV} {x y:NodeM} {t:List NodeM} (h:RowN g' gk n0 n' A sv (y :: x :: t)) : ∃ r r0 cx cy,sv=.slq A 0 (t.length+1+1) 0∧n0≤A∧A < n'∧g' A=some (.cells r true 3)∧r.length=(t.length+1+1) * 3 ∧
    r.take (t.length * 3)=r0∧(r.drop (t.length * 3)).take 3=cx∧(r.drop ((t.length+1) * 3)).take 3=cy∧repL gk n' t.reverse r0∧repN gk n' x cx∧repN gk n' y cy:=by
  obtain ⟨r,r0,cy,h1,h2,h3,h4,h5,h6,h7,h8,h9⟩:=h.last
  rw [List.reverse_cons] at h8
  obtain ⟨r1,r2,rfl,k2,k3⟩:=repL_split h8
  have k4:=repL_len k2
  have k5:=repL_len k3
  rw [List.length_reverse] at k4
  have k6:r=(r1++r2)++r.drop ((t.length+1) * 3):=by
    have:=List.take_append_drop ((t.length+1) * 3) r
    have h6' : r.take ((t.length+1) * 3)=r1++r2:=h6
    rw [h6'] at this
    exact this.symm
  refine ⟨r,r1,r2,cy,h1,h2,h3,h4,h5,?_,?_,h7,k2,repL_one' k3,h9⟩
  · rw [k6,List.append_assoc,List.take_left' k4]
  · rw [k6,List.append_assoc,List.drop_left' k4,List.take_left' (by rw [k5]; simp)]
theorem node_rep {gk:Nat→Option Blk} {n' n2 S op k:Nat} {subs:List NodeM} {cs:List AV} (hs:repL gk n' subs cs) (hk:subs.length=k) (hop:op < 256) (h1:n'≤S) (h2:S < n2) :
    repN (gput gk S (some (.cells cs true 0))) n2 (.mk op 0 subs) [.lit (.int .u8 op),.lit (.int .i64 0),.sl S 0 k k]:=by
  subst hk
  refine ⟨hop,_,rfl,.inr ⟨S,0,cs,h2,.inl ⟨_,rfl⟩,⟨cs,true,0,gput_eq,by simp,by simp⟩,?_⟩⟩
  exact repL_ext (by omega) (fun a z ha hz=>by rw [gput_lt (by omega)]; exact hz) hs
theorem OfI.pop {g g' gk g2:Nat→Option Blk} {n i n' n2 A1 A2 S B op k:Nat} {cv nv sv tv:AV} {ns ts t subs:List NodeM} {cs r0:List AV} (h:OfI g n cv nv i n' g' gk ns ts A1 A2 sv tv) (ht:t.length≤ns.length)
    (h1:n'≤S) (h2:S < n2) (h3:n'≤B) (h4:B < n2) (h5:S≠B) (hg:∀ b,b < n'→(n+2≤b→b≠A1)→g2 b=g' b) (hS:g2 S=some (.cells cs true 0)) (hB:g2 B=some (.cells (r0++[.lit (.int .u8 op),.lit (.int .i64 0),.sl S 0 k k]) true 3))
    (h0:repL gk n' t.reverse r0) (hs:repL gk n' subs cs) (hk:subs.length=k) (hop:op < 256) :
    OfI g n cv nv (i+1) n2 g2 (gput gk S (some (.cells cs true 0))) (.mk op 0 subs :: t) ts B A2 (.slq B 0 (t.length+1) 0) tv:=by
  have hnx:=h.nx
  have ha2:=h.a2
  have hne:=h.ne
  have hext:∀ a z,a < n'→gk a=some z→gput gk S (some (.cells cs true 0)) a=some z:=fun a z ha hz=>by rw [gput_lt (by omega)]; exact hz
  refine h.next (by omega) (fun b hb hb2=>hg b hb (fun h3=>(hb2 h3).1)) (fun a z hz=>?_) (RowN.mkq hB rfl (repL_ext (by omega) hext h0) (node_rep hs hk hop h1 h2) (by omega) h4) (h.rt.keep (by omega) (fun _ h7=>hg A2 h7 (fun _ e=>hne e.symm)) hext) (by omega) h4 (by omega) (by simp; omega) (by omega)
  rcases gput_v hz with ⟨rfl,rfl⟩ | ⟨_,hz⟩
  · exact .inr ⟨h1,hS,h2,h5,by omega⟩
  · have:=(h.kk a z hz).2.2.2.2
    exact .inl ⟨hz,by omega,(h.kk a z hz).2.2.1⟩
theorem OfI.swap {g g' gk:Nat→Option Blk} {n i n' A1 A2:Nat} {cv nv sv tv:AV} {ns ts:List NodeM} (h:OfI g n cv nv i n' g' gk ns ts A1 A2 sv tv) : OfI g n cv nv i n' g' gk ts ns A2 A1 tv sv :=
  ⟨h.nx,h.old,h.e,h.r,fun a x hx=>let ⟨h1,h2,h3,h4⟩:=h.kk a x hx; ⟨h1,h3,h2,h4⟩,h.rt,h.rs,h.ne.symm,h.a2,h.a1,h.l2,h.l1⟩
theorem OfI.cmp {g g' gk g2:Nat→Option Blk} {n i n' n2 A1 A2 S B Z op k:Nat} {cv nv sv tv sv2:AV} {ns ts t subs:List NodeM} {cs rt:List AV} (h:OfI g n cv nv i n' g' gk ns ts A1 A2 sv tv) (ht:t.length≤ns.length)
    (h1:n'≤S) (h2:S < n2) (h3:n'≤B) (h4:B < n2) (h5:S≠B) (h6:n'≤Z) (h7:Z < n2) (h8:S≠Z) (h9:Z≠B) (hg:∀ b,b < n'→(n+2≤b→b≠A1∧b≠A2)→g2 b=g' b)
    (rs2:RowN g2 (gput gk S (some (.cells cs true 0))) (n+2) n2 Z sv2 t) (hS:g2 S=some (.cells cs true 0)) (hB:g2 B=some (.cells (rt++[.lit (.int .u8 op),.lit (.int .i64 0),.sl S 0 k k]) true 3))
    (h0:repL gk n' ts.reverse rt) (hs:repL gk n' subs cs) (hk:subs.length=k) (hop:op < 256) :
    OfI g n cv nv (i+1) n2 g2 (gput gk S (some (.cells cs true 0))) t (.mk op 0 subs :: ts) Z B sv2 (.slq B 0 (ts.length+1) 0):=by
  have hnx:=h.nx
  have hext:∀ a z,a < n'→gk a=some z→gput gk S (some (.cells cs true 0)) a=some z:=fun a z ha hz=>by rw [gput_lt (by omega)]; exact hz
  refine h.next (by omega) hg (fun a z hz=>?_) rs2 (RowN.mkq hB rfl (repL_ext (by omega) hext h0) (node_rep hs hk hop h1 h2) (by omega) h4) h9 h7 h4 (by omega) (by simp)
  rcases gput_v hz with ⟨rfl,rfl⟩ | ⟨_,hz⟩
  · exact .inr ⟨h1,hS,h2,h8,h5⟩
  · have:=(h.kk a z hz).2.2.2.2
    exact .inl ⟨hz,by omega,by omega⟩
def FreshN (g:Nat→Option Blk) (n n' : Nat) (x:NodeM) (cs:List AV) : Prop:=∃ gk:Nat→Option Blk,(∀ a z,gk a=some z→g a=some z∧n≤a∧a < n')∧repN gk n' x cs
theorem FreshN.leaf {g:Nat→Option Blk} {n n' op:Nat} {k:Int} (h:op < 256) : FreshN g n n' (.mk op k []) [.lit (.int .u8 op),.lit (.int .i64 k),.lit (.slice none 0 0)]:=by
  refine ⟨fun _=>none,⟨fun a z h=>?_,?_⟩⟩
  · cases h
  · exact ⟨h,_,rfl,.inl ⟨rfl,.inl rfl⟩⟩
theorem of_w2 (codes:List Nat) (nums:List Int) (g:Nat→Option Blk) (n:Nat) (cv nv:AV) (hc:SliceA g n cv codes.length (u8Cells codes)) (hcb:∀ c∈codes,c < 256) (hnv:SliceA g n nv nums.length (i32Cells nums))
    (hnb:∀ c∈nums,-2147483648≤c∧c≤2147483647) (hl1:oneC cv=true) (hl2:oneC nv=true) :
    WC 6 Tryd.prog 10 [.agg [cv,nv]] ⟨.fn g,n⟩ fun r=>∃ cs g' n',r=.ret (.agg cs) ⟨.fn g',n'⟩∧n≤n'∧(∀ b,b < n→g' b=g b)∧FreshN g' n n' (ofM codes nums) cs:=by
  have h1a:allOne [cv,nv]=true:=by simp [hl1,hl2]
  have HC:=Hide.mk hc
  have HNV:=Hide.mk hnv
  have HCB:=Hide.mk hcb
  have HNB:=Hide.mk hnb
  clear hc hnv hcb hnb
  refine WC.enterP (noO_ok _ _) hG6 pl10 Tryd.func10 rfl (by decide +kernel) (Nat.le_of_ble_eq_true (by kernel_rfl)) ?_
  iterate 12 (all_goals try (first | with_reducible refine splitI (fun h=>?_) (fun h=>?_) | with_reducible refine splitBI (fun h=>?_) (fun h=>?_) | simp (disch:=first | assumption | omega | (simp; done) | fail) [Tryd.results10, *]))
  refine LX.ind (fun m gf H'=>∃ (i n' : Nat) (g' gk:Nat→Option Blk) (ns ts:List NodeM) (A1 A2:Nat) (sv tv:AV),i≤codes.length∧i≤14∧m=14 - i∧H'=⟨.fn g',n'⟩∧OfI g n cv nv i n' g' gk ns ts A1 A2 sv tv ∧
    gf 1=some (.ptr n 0)∧gf 2=some (.ptr (n+1) 0)∧gf 3=some sv∧gf 4=some tv∧gf 5=some (.lit (.int .i64 i))∧ofE (ofL ((codes.take 14).drop i) (nums.drop i) ns ts)=ofM codes nums) (m0:=14) ?_ ?_
  · refine ⟨0,n+1+1,_,fun _=>none,[],[],n,n+1,_,_,Nat.zero_le _,by omega,rfl,rfl,⟨by omega,fun b hb=>?_,?_,?_,fun a x h=>by simp at h,.inl ⟨rfl,rfl⟩,.inl ⟨rfl,rfl⟩,by omega,by omega,by omega,Nat.zero_le _,Nat.zero_le _⟩,by simp,by simp,by simp,by simp,by simp,rfl⟩
    · simp (disch:=omega) only [gput_lt]
    · rw [gput_lt (by omega),gput_eq]
    · rw [gput_eq]
  rintro m gf H' ⟨i,n',g',gk,ns,ts,A1,A2,sv,tv,hi,hi14,rfl,rfl,hI,g1,g2,g3,g4,g5,hof⟩ ih
  refine LX.roundP (noO_ok _ _) hG6 pl10 (by decide +kernel) ?_
  have HOF:=Hide.mk hof
  have HI:=Hide.mk hI
  clear hof
  have hE:=hI.e
  have hlT:=@lenS_sv _ _ _ _ _ _ _ hI.rt
  have hlN:=@lenS_sv _ _ _ _ _ _ _ hI.rs
  have hl1:=hI.l1
  have hl2:=hI.l2
  have hnx:=hI.nx
  have hlC:∀ {H:Mem} {ev:Ev} {o:Oper} {c:Call} {e:TypeId},lenS Tryd.prog H ev o c (some (.slice e)) (some [cv])=.val (.lit (.int .i64 codes.length)) H:=by
    intro H ev o c e
    rcases HC.out with ⟨h1,rfl | rfl⟩ | ⟨a,off,c',h1,rfl,_⟩
    · rw [h1]; rfl
    · rw [h1]; rfl
    · rfl
  by_cases hlt:i < codes.length∧i < 14
  · obtain ⟨hlt1,hlt2⟩:=hlt
    have hltI:(i:Int) < (codes.length:Int):=by omega
    have hltJ:(i:Int) < 14:=by omega
    rcases HC.out with ⟨h1,_⟩ | ⟨a,off,c',ha,rfl,hrow⟩
    · omega
    have hcode:=(hrow.mono (hI.old a ha)).one (k:=i) (s:=1) (by simp only [u8Cells,List.length_map]; exact hlt1)
    have hcv:(u8Cells codes)[i]'(by simp only [u8Cells,List.length_map]; exact hlt1)=.lit (.int .u8 (codes[i] : Int)):=by simp [u8Cells]
    rw [hcv] at hcode
    have hcb:=HCB.out codes[i] (List.getElem_mem hlt1)
    have htake:(codes.take 14).drop i=codes[i] :: (codes.take 14).drop (i+1):=by
      have h1:i < (codes.take 14).length:=by rw [List.length_take]; omega
      rw [List.drop_eq_getElem_cons h1]
      simp
    have HO2:Hide (ofE (ofL ((codes.take 14).drop (i+1)) (nums.drop (i+1)) (stepM codes[i] (nums.drop i).head? ns ts).1 (stepM codes[i] (nums.drop i).head? ns ts).2)=ofM codes nums):=⟨by
      have:=HOF.out
      rw [htake] at this
      simpa [ofL] using this⟩
    generalize codes[i]=cd at hcode hcb HO2
    clear htake hcv hrow
    have htm:(cd:Int).tmod 12=((cd % 12:Nat) : Int):=(Int.ofNat_tmod cd 12).symm
    have htd:(cd:Int).tdiv 12=((cd / 12:Nat) : Int):=rfl
    have htm3:((cd / 12:Nat) : Int).tmod 3=((cd / 12 % 3:Nat) : Int):=(Int.ofNat_tmod (cd / 12) 3).symm
    have hd21:cd / 12≤255:=by omega
    generalize hq3:cd / 12 % 3=q3 at htm3
    have hq3' : q3 < 3:=by omega
    generalize hq:cd / 12=q at htd htm3 hd21 hq3
    generalize hop:cd % 12=op at htm
    have hop12:op < 12:=by omega
    have hlNV:∀ {H:Mem} {ev:Ev} {o:Oper} {c:Call} {e:TypeId},lenS Tryd.prog H ev o c (some (.slice e)) (some [nv])=.val (.lit (.int .i64 nums.length)) H:=by
      intro H ev o c e
      rcases HNV.out with ⟨h1,rfl | rfl⟩ | ⟨a,off,c',h1,rfl,_⟩
      · rw [h1]; rfl
      · rw [h1]; rfl
      · rfl
    by_cases c1:op=1
    · subst c1
      have HST:Hide (stepM cd (nums.drop i).head? ns ts=(.mk 1 (q3:Int) [] :: ns,ts)):=⟨by unfold stepM dfltM; rw [hq,hq3,hop]; simp [*]⟩
      clear hq3 hop
      rcases hI.rs with ⟨rfl,rfl⟩ | ⟨rfl,rfl,hA0,hA1,own,z,hA⟩ | ⟨r,hne,rfl,hA0,hA1,hA,hrl,hrep⟩
      all_goals
        clear hlN
        have HM:=Hide.mk htm3
        clear htm3
        iterate 3 (all_goals try (first | with_reducible refine splitI (fun h=>?_) (fun h=>?_) | with_reducible refine splitBI (fun h=>?_) (fun h=>?_) | simp (config:={ maxSteps:=1000000 }) (disch:=first | assumption | omega | (simp; done) | fail) [Tryd.results10, *]))
        rw [HM.out]
      · refine ih.out (14 - (i+1)) _ _ (by omega) ⟨i+1,n'+1+1,_,gk,_ :: [],ts,n'+1,A2,_,tv,hlt1,hlt2,rfl,rfl,hI.push (x:=(.mk 1 (q3:Int) [])) (r:=[]) (by omega) (fun b hb _=>?_) gput_eq rfl rfl rfl (fun q b=>⟨by omega,_,rfl,.inl ⟨rfl,.inl rfl⟩⟩),by simp [*],by simp [*],by simp,by simp [*],by simp,?_⟩
        · simp (disch:=omega) only [gput_lt]
        · have:=HO2.out
          rw [HST.out] at this
          exact this
      · refine ih.out (14 - (i+1)) _ _ (by omega) ⟨i+1,n'+1+1,_,gk,_ :: [],ts,n'+1,A2,_,tv,hlt1,hlt2,rfl,rfl,hI.push (x:=(.mk 1 (q3:Int) [])) (r:=[]) (by omega) (fun b hb _=>?_) gput_eq rfl rfl rfl (fun q b=>⟨by omega,_,rfl,.inl ⟨rfl,.inl rfl⟩⟩),by simp [*],by simp [*],by simp,by simp [*],by simp,?_⟩
        · simp (disch:=omega) only [gput_lt]
        · have:=HO2.out
          rw [HST.out] at this
          exact this
      · refine ih.out (14 - (i+1)) _ _ (by omega) ⟨i+1,n'+1+1,_,gk,_ :: ns,ts,n'+1,A2,_,tv,hlt1,hlt2,rfl,rfl,hI.push (x:=(.mk 1 (q3:Int) [])) (by omega) (fun b hb hb2=>?_) gput_eq hrl hrep rfl (fun q b=>⟨by omega,_,rfl,.inl ⟨rfl,.inl rfl⟩⟩),by simp [*],by simp [*],by simp,by simp [*],by simp,?_⟩
        · have hbA:b≠A1:=by
            by_cases h3:n+2≤b
            · exact hb2 h3
            · omega
          simp (disch:=omega) only [gput_lt,gput_ne]
        · have:=HO2.out
          rw [HST.out] at this
          exact this
    by_cases c0:op=0
    · subst c0
      by_cases hin:i < nums.length
      · have hinI:(i:Int) < (nums.length:Int):=by omega
        rcases HNV.out with ⟨h1,_⟩ | ⟨a2,off2,c2,ha2,rfl,hrow2⟩
        · omega
        have hnum:=(hrow2.mono (hI.old a2 ha2)).one (k:=i) (s:=1) (by simp only [i32Cells,List.length_map]; exact hin)
        have hnv2:(i32Cells nums)[i]'(by simp only [i32Cells,List.length_map]; exact hin)=.lit (.int .i32 nums[i]):=by simp [i32Cells]
        rw [hnv2] at hnum
        have hnb2:=HNB.out nums[i] (List.getElem_mem hin)
        have hhead:(nums.drop i).head?=some nums[i]:=by simp [List.head?_drop,hin]
        rw [hhead] at HO2
        generalize nums[i]=kv at hnum hnb2 HO2
        clear hnv2 hrow2 hhead htm3
        by_cases hkv:kv < 0
        · have HST:Hide (stepM cd (some kv) ns ts=(.mk 0 (-kv) [] :: ns,ts)):=⟨by unfold stepM; rw [hop]; simp [hkv]⟩
          have hw:IntKind.i64.wrap (-kv) = -kv:=wrap_i64 ⟨by omega,by omega⟩
          clear hq3 hop
          rcases hI.rs with ⟨rfl,rfl⟩ | ⟨rfl,rfl,hA0,hA1,own,z,hA⟩ | ⟨r,hne,rfl,hA0,hA1,hA,hrl,hrep⟩
          all_goals
            clear hlN
            iterate 3 (all_goals try (first | with_reducible refine splitI (fun h=>?_) (fun h=>?_) | with_reducible refine splitBI (fun h=>?_) (fun h=>?_) | simp (config:={ maxSteps:=1000000 }) (disch:=first | assumption | omega | (simp; done) | fail) [Tryd.results10, *]))
          · refine ih.out (14 - (i+1)) _ _ (by omega) ⟨i+1,n'+1+1,_,gk,_ :: [],ts,n'+1,A2,_,tv,hlt1,hlt2,rfl,rfl,hI.push (x:=(.mk 0 (-kv) [])) (r:=[]) (by omega) (fun b hb _=>?_) gput_eq rfl rfl rfl (fun q b=>⟨by omega,_,rfl,.inl ⟨rfl,.inl rfl⟩⟩),by simp [*],by simp [*],by simp,by simp [*],by simp,?_⟩
            · simp (disch:=omega) only [gput_lt]
            · have:=HO2.out
              rw [HST.out] at this
              exact this
          · refine ih.out (14 - (i+1)) _ _ (by omega) ⟨i+1,n'+1+1,_,gk,_ :: [],ts,n'+1,A2,_,tv,hlt1,hlt2,rfl,rfl,hI.push (x:=(.mk 0 (-kv) [])) (r:=[]) (by omega) (fun b hb _=>?_) gput_eq rfl rfl rfl (fun q b=>⟨by omega,_,rfl,.inl ⟨rfl,.inl rfl⟩⟩),by simp [*],by simp [*],by simp,by simp [*],by simp,?_⟩
            · simp (disch:=omega) only [gput_lt]
            · have:=HO2.out
              rw [HST.out] at this
              exact this
          · refine ih.out (14 - (i+1)) _ _ (by omega) ⟨i+1,n'+1+1,_,gk,_ :: ns,ts,n'+1,A2,_,tv,hlt1,hlt2,rfl,rfl,hI.push (x:=(.mk 0 (-kv) [])) (by omega) (fun b hb hb2=>?_) gput_eq hrl hrep rfl (fun q b=>⟨by omega,_,rfl,.inl ⟨rfl,.inl rfl⟩⟩),by simp [*],by simp [*],by simp,by simp [*],by simp,?_⟩
            · have hbA:b≠A1:=by
                by_cases h3:n+2≤b
                · exact hb2 h3
                · omega
              simp (disch:=omega) only [gput_lt,gput_ne]
            · have:=HO2.out
              rw [HST.out] at this
              exact this
        · have HST:Hide (stepM cd (some kv) ns ts=(.mk 0 kv [] :: ns,ts)):=⟨by unfold stepM; rw [hop]; simp [hkv]⟩
          clear hq3 hop
          rcases hI.rs with ⟨rfl,rfl⟩ | ⟨rfl,rfl,hA0,hA1,own,z,hA⟩ | ⟨r,hne,rfl,hA0,hA1,hA,hrl,hrep⟩
          all_goals
            clear hlN
            iterate 3 (all_goals try (first | with_reducible refine splitI (fun h=>?_) (fun h=>?_) | with_reducible refine splitBI (fun h=>?_) (fun h=>?_) | simp (config:={ maxSteps:=1000000 }) (disch:=first | assumption | omega | (simp; done) | fail) [Tryd.results10, *]))
          · refine ih.out (14 - (i+1)) _ _ (by omega) ⟨i+1,n'+1+1,_,gk,_ :: [],ts,n'+1,A2,_,tv,hlt1,hlt2,rfl,rfl,hI.push (x:=(.mk 0 kv [])) (r:=[]) (by omega) (fun b hb _=>?_) gput_eq rfl rfl rfl (fun q b=>⟨by omega,_,rfl,.inl ⟨rfl,.inl rfl⟩⟩),by simp [*],by simp [*],by simp,by simp [*],by simp,?_⟩
            · simp (disch:=omega) only [gput_lt]
            · have:=HO2.out
              rw [HST.out] at this
              exact this
          · refine ih.out (14 - (i+1)) _ _ (by omega) ⟨i+1,n'+1+1,_,gk,_ :: [],ts,n'+1,A2,_,tv,hlt1,hlt2,rfl,rfl,hI.push (x:=(.mk 0 kv [])) (r:=[]) (by omega) (fun b hb _=>?_) gput_eq rfl rfl rfl (fun q b=>⟨by omega,_,rfl,.inl ⟨rfl,.inl rfl⟩⟩),by simp [*],by simp [*],by simp,by simp [*],by simp,?_⟩
            · simp (disch:=omega) only [gput_lt]
            · have:=HO2.out
              rw [HST.out] at this
              exact this
          · refine ih.out (14 - (i+1)) _ _ (by omega) ⟨i+1,n'+1+1,_,gk,_ :: ns,ts,n'+1,A2,_,tv,hlt1,hlt2,rfl,rfl,hI.push (x:=(.mk 0 kv [])) (by omega) (fun b hb hb2=>?_) gput_eq hrl hrep rfl (fun q b=>⟨by omega,_,rfl,.inl ⟨rfl,.inl rfl⟩⟩),by simp [*],by simp [*],by simp,by simp [*],by simp,?_⟩
            · have hbA:b≠A1:=by
                by_cases h3:n+2≤b
                · exact hb2 h3
                · omega
              simp (disch:=omega) only [gput_lt,gput_ne]
            · have:=HO2.out
              rw [HST.out] at this
              exact this
      · have hinI:¬(i:Int) < (nums.length:Int):=by omega
        have hhead:(nums.drop i).head?=none:=by rw [List.drop_eq_nil_of_le (by omega)]; rfl
        rw [hhead] at HO2
        have HST:Hide (stepM cd none ns ts=(.mk 1 (q3:Int) [] :: ns,ts)):=⟨by unfold stepM dfltM; rw [hq,hq3,hop]; simp [*]⟩
        clear hq3 hop
        rcases hI.rs with ⟨rfl,rfl⟩ | ⟨rfl,rfl,hA0,hA1,own,z,hA⟩ | ⟨r,hne,rfl,hA0,hA1,hA,hrl,hrep⟩
        all_goals
          clear hlN
          have HM:=Hide.mk htm3
          clear htm3
          iterate 3 (all_goals try (first | with_reducible refine splitI (fun h=>?_) (fun h=>?_) | with_reducible refine splitBI (fun h=>?_) (fun h=>?_) | simp (config:={ maxSteps:=1000000 }) (disch:=first | assumption | omega | (simp; done) | fail) [Tryd.results10, *]))
          rw [HM.out]
        · refine ih.out (14 - (i+1)) _ _ (by omega) ⟨i+1,n'+1+1,_,gk,_ :: [],ts,n'+1,A2,_,tv,hlt1,hlt2,rfl,rfl,hI.push (x:=(.mk 1 (q3:Int) [])) (r:=[]) (by omega) (fun b hb _=>?_) gput_eq rfl rfl rfl (fun q b=>⟨by omega,_,rfl,.inl ⟨rfl,.inl rfl⟩⟩),by simp [*],by simp [*],by simp,by simp [*],by simp,?_⟩
          · simp (disch:=omega) only [gput_lt]
          · have:=HO2.out
            rw [HST.out] at this
            exact this
        · refine ih.out (14 - (i+1)) _ _ (by omega) ⟨i+1,n'+1+1,_,gk,_ :: [],ts,n'+1,A2,_,tv,hlt1,hlt2,rfl,rfl,hI.push (x:=(.mk 1 (q3:Int) [])) (r:=[]) (by omega) (fun b hb _=>?_) gput_eq rfl rfl rfl (fun q b=>⟨by omega,_,rfl,.inl ⟨rfl,.inl rfl⟩⟩),by simp [*],by simp [*],by simp,by simp [*],by simp,?_⟩
          · simp (disch:=omega) only [gput_lt]
          · have:=HO2.out
            rw [HST.out] at this
            exact this
        · refine ih.out (14 - (i+1)) _ _ (by omega) ⟨i+1,n'+1+1,_,gk,_ :: ns,ts,n'+1,A2,_,tv,hlt1,hlt2,rfl,rfl,hI.push (x:=(.mk 1 (q3:Int) [])) (by omega) (fun b hb hb2=>?_) gput_eq hrl hrep rfl (fun q b=>⟨by omega,_,rfl,.inl ⟨rfl,.inl rfl⟩⟩),by simp [*],by simp [*],by simp,by simp [*],by simp,?_⟩
          · have hbA:b≠A1:=by
              by_cases h3:n+2≤b
              · exact hb2 h3
              · omega
            simp (disch:=omega) only [gput_lt,gput_ne]
          · have:=HO2.out
            rw [HST.out] at this
            exact this
    by_cases c2:op=2
    · subst c2
      rcases ns with _ | ⟨x,t⟩
      · have HST:Hide (stepM cd (nums.drop i).head? [] ts=(.mk 1 (q3:Int) [] :: [],ts)):=⟨by unfold stepM dfltM; rw [hq,hq3,hop]; simp [*]⟩
        clear hq3 hop
        rcases hI.rs with ⟨_,rfl⟩ | ⟨_,rfl,hA0,hA1,own,z,hA⟩ | ⟨r,hne,rfl,hA0,hA1,hA,hrl,hrep⟩
        rotate_right
        · exact absurd rfl hne
        all_goals
          clear hlN
          have HM:=Hide.mk htm3
          clear htm3
          iterate 3 (all_goals try (first | with_reducible refine splitI (fun h=>?_) (fun h=>?_) | with_reducible refine splitBI (fun h=>?_) (fun h=>?_) | simp (config:={ maxSteps:=1000000 }) (disch:=first | assumption | omega | (simp; done) | fail) [Tryd.results10, *]))
          rw [HM.out]
        · refine ih.out (14 - (i+1)) _ _ (by omega) ⟨i+1,n'+1+1,_,gk,_ :: [],ts,n'+1,A2,_,tv,hlt1,hlt2,rfl,rfl,hI.push (x:=(.mk 1 (q3:Int) [])) (r:=[]) (by omega) (fun b hb _=>?_) gput_eq rfl rfl rfl (fun q b=>⟨by omega,_,rfl,.inl ⟨rfl,.inl rfl⟩⟩),by simp [*],by simp [*],by simp,by simp [*],by simp,?_⟩
          · simp (disch:=omega) only [gput_lt]
          · have:=HO2.out
            rw [HST.out] at this
            exact this
        · refine ih.out (14 - (i+1)) _ _ (by omega) ⟨i+1,n'+1+1,_,gk,_ :: [],ts,n'+1,A2,_,tv,hlt1,hlt2,rfl,rfl,hI.push (x:=(.mk 1 (q3:Int) [])) (r:=[]) (by omega) (fun b hb _=>?_) gput_eq rfl rfl rfl (fun q b=>⟨by omega,_,rfl,.inl ⟨rfl,.inl rfl⟩⟩),by simp [*],by simp [*],by simp,by simp [*],by simp,?_⟩
          · simp (disch:=omega) only [gput_lt]
          · have:=HO2.out
            rw [HST.out] at this
            exact this
      · obtain ⟨r,r0,cx,rfl,hA0,hA1,hA,hrl,htk,hdr,hrep0,hx⟩:=hI.rs.last
        have HST:Hide (stepM cd (nums.drop i).head? (x :: t) ts=(.mk 2 0 [x] :: t,ts)):=⟨by unfold stepM; rw [hop]; simp⟩
        obtain ⟨op2,k2,sv2,rfl,h2c⟩:=repN_one hx
        have h2a:allOne [.lit (.int .u8 op2),.lit (.int .i64 k2),sv2]=true:=by simp [h2c]
        have hlt14:t.length < 14:=by simp at hl1 hl2; omega
        have hpos:(0:Int) < (t.length:Int)+1:=by omega
        have hw1:IntKind.i64.wrap ((t.length:Int)+1 - 1)=(t.length:Int):=by rw [show (t.length:Int)+1 - 1=t.length by omega]; exact wrap_i64 ⟨by omega,by omega⟩
        have HTK:=Hide.mk htk
        have HREP:=Hide.mk hrep0
        have HX:=Hide.mk hx
        clear hq3 hop htm3 hlN htk hrep0 hx
        cases t with
        | nil =>
          have hr3:r=[.lit (.int .u8 op2),.lit (.int .i64 k2),sv2]:=by
            rw [← hdr]
            simp only [List.length_nil,Nat.zero_mul,List.drop_zero]
            rw [List.take_of_length_le (by rw [hrl]; simp)]
          subst hr3
          clear hdr
          iterate 4 (all_goals try (first | with_reducible refine splitI (fun h=>?_) (fun h=>?_) | with_reducible refine splitBI (fun h=>?_) (fun h=>?_) | simp (config:={ maxSteps:=1000000 }) (disch:=first | assumption | omega | (simp; done) | fail) [Tryd.results10, *]))
          refine WC.mono (node_w _ _ _ _ _ _ _) ?_
          rintro _ rfl
          iterate 4 (all_goals try (first | with_reducible refine splitI (fun h=>?_) (fun h=>?_) | with_reducible refine splitBI (fun h=>?_) (fun h=>?_) | simp (config:={ maxSteps:=1000000 }) (disch:=first | assumption | omega | (simp; done) | fail) [Tryd.results10, *]))
          refine ih.out (14 - (i+1)) _ _ (by omega) ⟨i+1,n'+1+1+1+1+1,_,_,(.mk 2 0 [x]) :: [],ts,n'+1+1+1+1,A2,_,tv,hlt1,hlt2,rfl,rfl,(hI.pop (t:=[]) (S:=n'+1) (B:=n'+1+1+1+1) (r0:=[]) (subs:=[x]) (by simp) (by omega) (by omega) (by omega) (by omega) (by omega) (fun b hb hb2=>?_) ?_ ?_ rfl (repL_one HX.out) rfl (by omega)),by simp [*],by simp [*],by simp [*],by simp [*],by simp,?_⟩
          · have hbA:b≠A1:=by
              by_cases h3:n+2≤b
              · exact hb2 h3
              · omega
            simp (disch:=omega) only [gput_lt,gput_ne]
          · simp (disch:=omega) only [gput_lt,gput_ne,gput_eq]
            try rfl
          · simp (disch:=omega) only [gput_lt,gput_ne,gput_eq]
            try rfl
          · have:=HO2.out
            rw [HST.out] at this
            exact this
        | cons y t' =>
          simp only [List.length_cons] at hpos hlt14 hw1 hrl hdr
          have hpos2:(0:Int) < (t'.length:Int)+1+1:=by omega
          have htl:(List.take ((t'.length+1) * 3) r).length=(t'.length+1) * 3:=by rw [List.length_take]; omega
          iterate 4 (all_goals try (first | with_reducible refine splitI (fun h=>?_) (fun h=>?_) | with_reducible refine splitBI (fun h=>?_) (fun h=>?_) | simp (config:={ maxSteps:=1000000 }) (disch:=first | assumption | omega | (simp; done) | fail) [Tryd.results10, *]))
          refine WC.mono (node_w _ _ _ _ _ _ _) ?_
          rintro _ rfl
          iterate 4 (all_goals try (first | with_reducible refine splitI (fun h=>?_) (fun h=>?_) | with_reducible refine splitBI (fun h=>?_) (fun h=>?_) | simp (config:={ maxSteps:=1000000 }) (disch:=first | assumption | omega | (simp; done) | fail) [Tryd.results10, *]))
          refine ih.out (14 - (i+1)) _ _ (by omega) ⟨i+1,n'+1+1+1+1+1+1,_,_,(.mk 2 0 [x]) :: (y :: t'),ts,n'+1+1+1+1+1,A2,_,tv,hlt1,hlt2,rfl,rfl,(hI.pop (t:=(y :: t')) (S:=n'+1) (B:=n'+1+1+1+1+1) (r0:=r0) (subs:=[x]) (by simp) (by omega) (by omega) (by omega) (by omega) (by omega) (fun b hb hb2=>?_) ?_ ?_ HREP.out (repL_one HX.out) rfl (by omega)),by simp [*],by simp [*],by simp [*],by simp [*],by simp,?_⟩
          · have hbA:b≠A1:=by
              by_cases h3:n+2≤b
              · exact hb2 h3
              · omega
            simp (disch:=omega) only [gput_lt,gput_ne]
          · simp (disch:=omega) only [gput_lt,gput_ne,gput_eq]
            try rfl
          · rw [← HTK.out]
            simp (disch:=omega) only [gput_lt,gput_ne,gput_eq]
            try rfl
          · have:=HO2.out
            rw [HST.out] at this
            exact this
    by_cases c3:op=3
    · subst c3
      rcases ns with _ | ⟨y,_ | ⟨x,t⟩⟩
      · have HST:Hide (stepM cd (nums.drop i).head? [] ts=(.mk 1 (q3:Int) [] :: [],ts)):=⟨by unfold stepM dfltM; rw [hq,hq3,hop]; simp [*]⟩
        clear hq3 hop
        rcases hI.rs with ⟨_,rfl⟩ | ⟨_,rfl,hA0,hA1,own,z,hA⟩ | ⟨r,hne,rfl,hA0,hA1,hA,hrl,hrep⟩
        rotate_right
        · exact absurd rfl hne
        all_goals
          clear hlN
          have HM:=Hide.mk htm3
          clear htm3
          iterate 3 (all_goals try (first | with_reducible refine splitI (fun h=>?_) (fun h=>?_) | with_reducible refine splitBI (fun h=>?_) (fun h=>?_) | simp (config:={ maxSteps:=1000000 }) (disch:=first | assumption | omega | (simp; done) | fail) [Tryd.results10, *]))
          rw [HM.out]
        · refine ih.out (14 - (i+1)) _ _ (by omega) ⟨i+1,n'+1+1,_,gk,_ :: [],ts,n'+1,A2,_,tv,hlt1,hlt2,rfl,rfl,hI.push (x:=(.mk 1 (q3:Int) [])) (r:=[]) (by omega) (fun b hb _=>?_) gput_eq rfl rfl rfl (fun q b=>⟨by omega,_,rfl,.inl ⟨rfl,.inl rfl⟩⟩),by simp [*],by simp [*],by simp,by simp [*],by simp,?_⟩
          · simp (disch:=omega) only [gput_lt]
          · have:=HO2.out
            rw [HST.out] at this
            exact this
        · refine ih.out (14 - (i+1)) _ _ (by omega) ⟨i+1,n'+1+1,_,gk,_ :: [],ts,n'+1,A2,_,tv,hlt1,hlt2,rfl,rfl,hI.push (x:=(.mk 1 (q3:Int) [])) (r:=[]) (by omega) (fun b hb _=>?_) gput_eq rfl rfl rfl (fun q b=>⟨by omega,_,rfl,.inl ⟨rfl,.inl rfl⟩⟩),by simp [*],by simp [*],by simp,by simp [*],by simp,?_⟩
          · simp (disch:=omega) only [gput_lt]
          · have:=HO2.out
            rw [HST.out] at this
            exact this
      · have HST:Hide (stepM cd (nums.drop i).head? [y] ts=(.mk 1 (q3:Int) [] :: [y],ts)):=⟨by unfold stepM dfltM; rw [hq,hq3,hop]; simp [*]⟩
        clear hq3 hop
        rcases hI.rs with ⟨h9,_⟩ | ⟨h9,_⟩ | ⟨r,hne,rfl,hA0,hA1,hA,hrl,hrep⟩
        · cases h9
        · cases h9
        · clear hlN
          have HM:=Hide.mk htm3
          clear htm3
          iterate 3 (all_goals try (first | with_reducible refine splitI (fun h=>?_) (fun h=>?_) | with_reducible refine splitBI (fun h=>?_) (fun h=>?_) | simp (config:={ maxSteps:=1000000 }) (disch:=first | assumption | omega | (simp; done) | fail) [Tryd.results10, *]))
          rw [HM.out]
          refine ih.out (14 - (i+1)) _ _ (by omega) ⟨i+1,n'+1+1,_,gk,_ :: [y],ts,n'+1,A2,_,tv,hlt1,hlt2,rfl,rfl,hI.push (x:=(.mk 1 (q3:Int) [])) (by omega) (fun b hb hb2=>?_) gput_eq hrl hrep rfl (fun q b=>⟨by omega,_,rfl,.inl ⟨rfl,.inl rfl⟩⟩),by simp [*],by simp [*],by simp,by simp [*],by simp,?_⟩
          · have hbA:b≠A1:=by
              by_cases h3:n+2≤b
              · exact hb2 h3
              · omega
            simp (disch:=omega) only [gput_lt,gput_ne]
          · have:=HO2.out
            rw [HST.out] at this
            exact this
      · obtain ⟨r,r0,cx,cy,rfl,hA0,hA1,hA,hrl,htk,hdr,hdr2,hrep0,hx,hy⟩:=hI.rs.last2
        have HST:Hide (stepM cd (nums.drop i).head? (y :: x :: t) ts=(.mk 3 0 [x,y] :: t,ts)):=⟨by unfold stepM; rw [hop]; simp⟩
        obtain ⟨op2,k2,sv2,rfl,h2c⟩:=repN_one hx
        obtain ⟨op3,k3,sv3,rfl,h3c⟩:=repN_one hy
        have h2a:allOne [.lit (.int .u8 op2),.lit (.int .i64 k2),sv2]=true:=by simp [h2c]
        have h3a:allOne [.lit (.int .u8 op3),.lit (.int .i64 k3),sv3]=true:=by simp [h3c]
        have hlt14:t.length < 13:=by simp at hl1 hl2; omega
        have hpos:(1:Int) < (t.length:Int)+1+1:=by omega
        have hz2:(t.length:Int)+1+1 - 2=(t.length:Int):=by omega
        have HTK:=Hide.mk htk
        have HREP:=Hide.mk hrep0
        have HX:=Hide.mk hx
        have HY:=Hide.mk hy
        clear hq3 hop htm3 hlN htk hrep0 hx hy
        cases t with
        | nil =>
          have hr3:r=[.lit (.int .u8 op2),.lit (.int .i64 k2),sv2,.lit (.int .u8 op3),.lit (.int .i64 k3),sv3]:=by
            have h7:=List.take_append_drop 3 r
            simp only [List.length_nil,Nat.zero_mul,List.drop_zero,Nat.zero_add,Nat.one_mul] at hdr hdr2
            rw [List.take_of_length_le (by rw [List.length_drop,hrl]; simp)] at hdr2
            rw [hdr,hdr2] at h7
            exact h7.symm
          subst hr3
          clear hdr hdr2 hz2
          iterate 4 (all_goals try (first | with_reducible refine splitI (fun h=>?_) (fun h=>?_) | with_reducible refine splitBI (fun h=>?_) (fun h=>?_) | simp (config:={ maxSteps:=1000000 }) (disch:=first | assumption | omega | (simp; done) | fail) [Tryd.results10, *]))
          refine WC.mono (node_w _ _ _ _ _ _ _) ?_
          rintro _ rfl
          iterate 4 (all_goals try (first | with_reducible refine splitI (fun h=>?_) (fun h=>?_) | with_reducible refine splitBI (fun h=>?_) (fun h=>?_) | simp (config:={ maxSteps:=1000000 }) (disch:=first | assumption | omega | (simp; done) | fail) [Tryd.results10, *]))
          refine ih.out (14 - (i+1)) _ _ (by omega) ⟨i+1,n'+1+1+1+1+1,_,_,(.mk 3 0 [x,y]) :: [],ts,n'+1+1+1+1,A2,_,tv,hlt1,hlt2,rfl,rfl,(hI.pop (t:=[]) (S:=n'+1) (B:=n'+1+1+1+1) (r0:=[]) (subs:=[x,y]) (by simp) (by omega) (by omega) (by omega) (by omega) (by omega) (fun b hb hb2=>?_) ?_ ?_ rfl (repL_append (l:=[x]) (m:=[y]) (repL_one HX.out) (repL_one HY.out)) rfl (by omega)),by simp [*],by simp [*],by simp [*],by simp [*],by simp,?_⟩
          · have hbA:b≠A1:=by
              by_cases h3:n+2≤b
              · exact hb2 h3
              · omega
            simp (disch:=omega) only [gput_lt,gput_ne]
          · simp (disch:=omega) only [gput_lt,gput_ne,gput_eq]
            try rfl
          · simp (disch:=omega) only [gput_lt,gput_ne,gput_eq]
            try rfl
          · have:=HO2.out
            rw [HST.out] at this
            exact this
        | cons z t' =>
          simp only [List.length_cons] at hpos hlt14 hz2 hrl hdr hdr2
          have hz3:((t'.length:Int)+1+1+1 - 2)=(t'.length:Int)+1:=by omega
          have hpos2:(1:Int) < (t'.length:Int)+1+1+1:=by omega
          have htn:((t'.length:Int)+1+1).toNat=t'.length+1+1:=by omega
          have htl:(List.take ((t'.length+1) * 3) r).length=(t'.length+1) * 3:=by rw [List.length_take]; omega
          iterate 4 (all_goals try (first | with_reducible refine splitI (fun h=>?_) (fun h=>?_) | with_reducible refine splitBI (fun h=>?_) (fun h=>?_) | simp (config:={ maxSteps:=1000000 }) (disch:=first | assumption | omega | (simp; done) | fail) [Tryd.results10, *]))
          refine WC.mono (node_w _ _ _ _ _ _ _) ?_
          rintro _ rfl
          iterate 4 (all_goals try (first | with_reducible refine splitI (fun h=>?_) (fun h=>?_) | with_reducible refine splitBI (fun h=>?_) (fun h=>?_) | simp (config:={ maxSteps:=1000000 }) (disch:=first | assumption | omega | (simp; done) | fail) [Tryd.results10, *]))
          refine ih.out (14 - (i+1)) _ _ (by omega) ⟨i+1,n'+1+1+1+1+1+1,_,_,(.mk 3 0 [x,y]) :: (z :: t'),ts,n'+1+1+1+1+1,A2,_,tv,hlt1,hlt2,rfl,rfl,(hI.pop (t:=(z :: t')) (S:=n'+1) (B:=n'+1+1+1+1+1) (r0:=r0) (subs:=[x,y]) (by simp) (by omega) (by omega) (by omega) (by omega) (by omega) (fun b hb hb2=>?_) ?_ ?_ HREP.out (repL_append (l:=[x]) (m:=[y]) (repL_one HX.out) (repL_one HY.out)) rfl (by omega)),by simp [*],by simp [*],by simp [*],by simp [*],by simp,?_⟩
          · have hbA:b≠A1:=by
              by_cases h3:n+2≤b
              · exact hb2 h3
              · omega
            simp (disch:=omega) only [gput_lt,gput_ne]
          · simp (disch:=omega) only [gput_lt,gput_ne,gput_eq]
            try rfl
          · rw [← HTK.out]
            simp (disch:=omega) only [gput_lt,gput_ne,gput_eq]
            try rfl
          · have:=HO2.out
            rw [HST.out] at this
            exact this
    by_cases c4:op=4
    · subst c4
      rcases ns with _ | ⟨y,_ | ⟨x,t⟩⟩
      · have HST:Hide (stepM cd (nums.drop i).head? [] ts=(.mk 1 (q3:Int) [] :: [],ts)):=⟨by unfold stepM dfltM; rw [hq,hq3,hop]; simp [*]⟩
        clear hq3 hop
        rcases hI.rs with ⟨_,rfl⟩ | ⟨_,rfl,hA0,hA1,own,z,hA⟩ | ⟨r,hne,rfl,hA0,hA1,hA,hrl,hrep⟩
        rotate_right
        · exact absurd rfl hne
        all_goals
          clear hlN
          have HM:=Hide.mk htm3
          clear htm3
          iterate 3 (all_goals try (first | with_reducible refine splitI (fun h=>?_) (fun h=>?_) | with_reducible refine splitBI (fun h=>?_) (fun h=>?_) | simp (config:={ maxSteps:=1000000 }) (disch:=first | assumption | omega | (simp; done) | fail) [Tryd.results10, *]))
          rw [HM.out]
        · refine ih.out (14 - (i+1)) _ _ (by omega) ⟨i+1,n'+1+1,_,gk,_ :: [],ts,n'+1,A2,_,tv,hlt1,hlt2,rfl,rfl,hI.push (x:=(.mk 1 (q3:Int) [])) (r:=[]) (by omega) (fun b hb _=>?_) gput_eq rfl rfl rfl (fun q b=>⟨by omega,_,rfl,.inl ⟨rfl,.inl rfl⟩⟩),by simp [*],by simp [*],by simp,by simp [*],by simp,?_⟩
          · simp (disch:=omega) only [gput_lt]
          · have:=HO2.out
            rw [HST.out] at this
            exact this
        · refine ih.out (14 - (i+1)) _ _ (by omega) ⟨i+1,n'+1+1,_,gk,_ :: [],ts,n'+1,A2,_,tv,hlt1,hlt2,rfl,rfl,hI.push (x:=(.mk 1 (q3:Int) [])) (r:=[]) (by omega) (fun b hb _=>?_) gput_eq rfl rfl rfl (fun q b=>⟨by omega,_,rfl,.inl ⟨rfl,.inl rfl⟩⟩),by simp [*],by simp [*],by simp,by simp [*],by simp,?_⟩
          · simp (disch:=omega) only [gput_lt]
          · have:=HO2.out
            rw [HST.out] at this
            exact this
      · have HST:Hide (stepM cd (nums.drop i).head? [y] ts=(.mk 1 (q3:Int) [] :: [y],ts)):=⟨by unfold stepM dfltM; rw [hq,hq3,hop]; simp [*]⟩
        clear hq3 hop
        rcases hI.rs with ⟨h9,_⟩ | ⟨h9,_⟩ | ⟨r,hne,rfl,hA0,hA1,hA,hrl,hrep⟩
        · cases h9
        · cases h9
        · clear hlN
          have HM:=Hide.mk htm3
          clear htm3
          iterate 3 (all_goals try (first | with_reducible refine splitI (fun h=>?_) (fun h=>?_) | with_reducible refine splitBI (fun h=>?_) (fun h=>?_) | simp (config:={ maxSteps:=1000000 }) (disch:=first | assumption | omega | (simp; done) | fail) [Tryd.results10, *]))
          rw [HM.out]
          refine ih.out (14 - (i+1)) _ _ (by omega) ⟨i+1,n'+1+1,_,gk,_ :: [y],ts,n'+1,A2,_,tv,hlt1,hlt2,rfl,rfl,hI.push (x:=(.mk 1 (q3:Int) [])) (by omega) (fun b hb hb2=>?_) gput_eq hrl hrep rfl (fun q b=>⟨by omega,_,rfl,.inl ⟨rfl,.inl rfl⟩⟩),by simp [*],by simp [*],by simp,by simp [*],by simp,?_⟩
          · have hbA:b≠A1:=by
              by_cases h3:n+2≤b
              · exact hb2 h3
              · omega
            simp (disch:=omega) only [gput_lt,gput_ne]
          · have:=HO2.out
            rw [HST.out] at this
            exact this
      · obtain ⟨r,r0,cx,cy,rfl,hA0,hA1,hA,hrl,htk,hdr,hdr2,hrep0,hx,hy⟩:=hI.rs.last2
        have HST:Hide (stepM cd (nums.drop i).head? (y :: x :: t) ts=(.mk 4 0 [x,y] :: t,ts)):=⟨by unfold stepM; rw [hop]; simp⟩
        obtain ⟨op2,k2,sv2,rfl,h2c⟩:=repN_one hx
        obtain ⟨op3,k3,sv3,rfl,h3c⟩:=repN_one hy
        have h2a:allOne [.lit (.int .u8 op2),.lit (.int .i64 k2),sv2]=true:=by simp [h2c]
        have h3a:allOne [.lit (.int .u8 op3),.lit (.int .i64 k3),sv3]=true:=by simp [h3c]
        have hlt14:t.length < 13:=by simp at hl1 hl2; omega
        have hpos:(1:Int) < (t.length:Int)+1+1:=by omega
        have hz2:(t.length:Int)+1+1 - 2=(t.length:Int):=by omega
        have HTK:=Hide.mk htk
        have HREP:=Hide.mk hrep0
        have HX:=Hide.mk hx
        have HY:=Hide.mk hy
        clear hq3 hop htm3 hlN htk hrep0 hx hy
        cases t with
        | nil =>
          have hr3:r=[.lit (.int .u8 op2),.lit (.int .i64 k2),sv2,.lit (.int .u8 op3),.lit (.int .i64 k3),sv3]:=by
            have h7:=List.take_append_drop 3 r
            simp only [List.length_nil,Nat.zero_mul,List.drop_zero,Nat.zero_add,Nat.one_mul] at hdr hdr2
            rw [List.take_of_length_le (by rw [List.length_drop,hrl]; simp)] at hdr2
            rw [hdr,hdr2] at h7
            exact h7.symm
          subst hr3
          clear hdr hdr2 hz2
          iterate 4 (all_goals try (first | with_reducible refine splitI (fun h=>?_) (fun h=>?_) | with_reducible refine splitBI (fun h=>?_) (fun h=>?_) | simp (config:={ maxSteps:=1000000 }) (disch:=first | assumption | omega | (simp; done) | fail) [Tryd.results10, *]))
          refine WC.mono (node_w _ _ _ _ _ _ _) ?_
          rintro _ rfl
          iterate 4 (all_goals try (first | with_reducible refine splitI (fun h=>?_) (fun h=>?_) | with_reducible refine splitBI (fun h=>?_) (fun h=>?_) | simp (config:={ maxSteps:=1000000 }) (disch:=first | assumption | omega | (simp; done) | fail) [Tryd.results10, *]))
          refine ih.out (14 - (i+1)) _ _ (by omega) ⟨i+1,n'+1+1+1+1+1,_,_,(.mk 4 0 [x,y]) :: [],ts,n'+1+1+1+1,A2,_,tv,hlt1,hlt2,rfl,rfl,(hI.pop (t:=[]) (S:=n'+1) (B:=n'+1+1+1+1) (r0:=[]) (subs:=[x,y]) (by simp) (by omega) (by omega) (by omega) (by omega) (by omega) (fun b hb hb2=>?_) ?_ ?_ rfl (repL_append (l:=[x]) (m:=[y]) (repL_one HX.out) (repL_one HY.out)) rfl (by omega)),by simp [*],by simp [*],by simp [*],by simp [*],by simp,?_⟩
          · have hbA:b≠A1:=by
              by_cases h3:n+2≤b
              · exact hb2 h3
              · omega
            simp (disch:=omega) only [gput_lt,gput_ne]
          · simp (disch:=omega) only [gput_lt,gput_ne,gput_eq]
            try rfl
          · simp (disch:=omega) only [gput_lt,gput_ne,gput_eq]
            try rfl
          · have:=HO2.out
            rw [HST.out] at this
            exact this
        | cons z t' =>
          simp only [List.length_cons] at hpos hlt14 hz2 hrl hdr hdr2
          have hz3:((t'.length:Int)+1+1+1 - 2)=(t'.length:Int)+1:=by omega
          have hpos2:(1:Int) < (t'.length:Int)+1+1+1:=by omega
          have htn:((t'.length:Int)+1+1).toNat=t'.length+1+1:=by omega
          have htl:(List.take ((t'.length+1) * 3) r).length=(t'.length+1) * 3:=by rw [List.length_take]; omega
          iterate 4 (all_goals try (first | with_reducible refine splitI (fun h=>?_) (fun h=>?_) | with_reducible refine splitBI (fun h=>?_) (fun h=>?_) | simp (config:={ maxSteps:=1000000 }) (disch:=first | assumption | omega | (simp; done) | fail) [Tryd.results10, *]))
          refine WC.mono (node_w _ _ _ _ _ _ _) ?_
          rintro _ rfl
          iterate 4 (all_goals try (first | with_reducible refine splitI (fun h=>?_) (fun h=>?_) | with_reducible refine splitBI (fun h=>?_) (fun h=>?_) | simp (config:={ maxSteps:=1000000 }) (disch:=first | assumption | omega | (simp; done) | fail) [Tryd.results10, *]))
          refine ih.out (14 - (i+1)) _ _ (by omega) ⟨i+1,n'+1+1+1+1+1+1,_,_,(.mk 4 0 [x,y]) :: (z :: t'),ts,n'+1+1+1+1+1,A2,_,tv,hlt1,hlt2,rfl,rfl,(hI.pop (t:=(z :: t')) (S:=n'+1) (B:=n'+1+1+1+1+1) (r0:=r0) (subs:=[x,y]) (by simp) (by omega) (by omega) (by omega) (by omega) (by omega) (fun b hb hb2=>?_) ?_ ?_ HREP.out (repL_append (l:=[x]) (m:=[y]) (repL_one HX.out) (repL_one HY.out)) rfl (by omega)),by simp [*],by simp [*],by simp [*],by simp [*],by simp,?_⟩
          · have hbA:b≠A1:=by
              by_cases h3:n+2≤b
              · exact hb2 h3
              · omega
            simp (disch:=omega) only [gput_lt,gput_ne]
          · simp (disch:=omega) only [gput_lt,gput_ne,gput_eq]
            try rfl
          · rw [← HTK.out]
            simp (disch:=omega) only [gput_lt,gput_ne,gput_eq]
            try rfl
          · have:=HO2.out
            rw [HST.out] at this
            exact this
    by_cases c5:op=5
    · subst c5
      rcases ns with _ | ⟨y,_ | ⟨x,t⟩⟩
      · have HST:Hide (stepM cd (nums.drop i).head? [] ts=(.mk 1 (q3:Int) [] :: [],ts)):=⟨by unfold stepM dfltM; rw [hq,hq3,hop]; simp [*]⟩
        clear hq3 hop
        rcases hI.rs with ⟨_,rfl⟩ | ⟨_,rfl,hA0,hA1,own,z,hA⟩ | ⟨r,hne,rfl,hA0,hA1,hA,hrl,hrep⟩
        rotate_right
        · exact absurd rfl hne
        all_goals
          clear hlN
          have HM:=Hide.mk htm3
          clear htm3
          iterate 3 (all_goals try (first | with_reducible refine splitI (fun h=>?_) (fun h=>?_) | with_reducible refine splitBI (fun h=>?_) (fun h=>?_) | simp (config:={ maxSteps:=1000000 }) (disch:=first | assumption | omega | (simp; done) | fail) [Tryd.results10, *]))
          rw [HM.out]
        · refine ih.out (14 - (i+1)) _ _ (by omega) ⟨i+1,n'+1+1,_,gk,_ :: [],ts,n'+1,A2,_,tv,hlt1,hlt2,rfl,rfl,hI.push (x:=(.mk 1 (q3:Int) [])) (r:=[]) (by omega) (fun b hb _=>?_) gput_eq rfl rfl rfl (fun q b=>⟨by omega,_,rfl,.inl ⟨rfl,.inl rfl⟩⟩),by simp [*],by simp [*],by simp,by simp [*],by simp,?_⟩
          · simp (disch:=omega) only [gput_lt]
          · have:=HO2.out
            rw [HST.out] at this
            exact this
        · refine ih.out (14 - (i+1)) _ _ (by omega) ⟨i+1,n'+1+1,_,gk,_ :: [],ts,n'+1,A2,_,tv,hlt1,hlt2,rfl,rfl,hI.push (x:=(.mk 1 (q3:Int) [])) (r:=[]) (by omega) (fun b hb _=>?_) gput_eq rfl rfl rfl (fun q b=>⟨by omega,_,rfl,.inl ⟨rfl,.inl rfl⟩⟩),by simp [*],by simp [*],by simp,by simp [*],by simp,?_⟩
          · simp (disch:=omega) only [gput_lt]
          · have:=HO2.out
            rw [HST.out] at this
            exact this
      · have HST:Hide (stepM cd (nums.drop i).head? [y] ts=(.mk 1 (q3:Int) [] :: [y],ts)):=⟨by unfold stepM dfltM; rw [hq,hq3,hop]; simp [*]⟩
        clear hq3 hop
        rcases hI.rs with ⟨h9,_⟩ | ⟨h9,_⟩ | ⟨r,hne,rfl,hA0,hA1,hA,hrl,hrep⟩
        · cases h9
        · cases h9
        · clear hlN
          have HM:=Hide.mk htm3
          clear htm3
          iterate 3 (all_goals try (first | with_reducible refine splitI (fun h=>?_) (fun h=>?_) | with_reducible refine splitBI (fun h=>?_) (fun h=>?_) | simp (config:={ maxSteps:=1000000 }) (disch:=first | assumption | omega | (simp; done) | fail) [Tryd.results10, *]))
          rw [HM.out]
          refine ih.out (14 - (i+1)) _ _ (by omega) ⟨i+1,n'+1+1,_,gk,_ :: [y],ts,n'+1,A2,_,tv,hlt1,hlt2,rfl,rfl,hI.push (x:=(.mk 1 (q3:Int) [])) (by omega) (fun b hb hb2=>?_) gput_eq hrl hrep rfl (fun q b=>⟨by omega,_,rfl,.inl ⟨rfl,.inl rfl⟩⟩),by simp [*],by simp [*],by simp,by simp [*],by simp,?_⟩
          · have hbA:b≠A1:=by
              by_cases h3:n+2≤b
              · exact hb2 h3
              · omega
            simp (disch:=omega) only [gput_lt,gput_ne]
          · have:=HO2.out
            rw [HST.out] at this
            exact this
      · obtain ⟨r,r0,cx,cy,rfl,hA0,hA1,hA,hrl,htk,hdr,hdr2,hrep0,hx,hy⟩:=hI.rs.last2
        have HST:Hide (stepM cd (nums.drop i).head? (y :: x :: t) ts=(.mk 5 0 [x,y] :: t,ts)):=⟨by unfold stepM; rw [hop]; simp⟩
        obtain ⟨op2,k2,sv2,rfl,h2c⟩:=repN_one hx
        obtain ⟨op3,k3,sv3,rfl,h3c⟩:=repN_one hy
        have h2a:allOne [.lit (.int .u8 op2),.lit (.int .i64 k2),sv2]=true:=by simp [h2c]
        have h3a:allOne [.lit (.int .u8 op3),.lit (.int .i64 k3),sv3]=true:=by simp [h3c]
        have hlt14:t.length < 13:=by simp at hl1 hl2; omega
        have hpos:(1:Int) < (t.length:Int)+1+1:=by omega
        have hz2:(t.length:Int)+1+1 - 2=(t.length:Int):=by omega
        have HTK:=Hide.mk htk
        have HREP:=Hide.mk hrep0
        have HX:=Hide.mk hx
        have HY:=Hide.mk hy
        clear hq3 hop htm3 hlN htk hrep0 hx hy
        cases t with
        | nil =>
          have hr3:r=[.lit (.int .u8 op2),.lit (.int .i64 k2),sv2,.lit (.int .u8 op3),.lit (.int .i64 k3),sv3]:=by
            have h7:=List.take_append_drop 3 r
            simp only [List.length_nil,Nat.zero_mul,List.drop_zero,Nat.zero_add,Nat.one_mul] at hdr hdr2
            rw [List.take_of_length_le (by rw [List.length_drop,hrl]; simp)] at hdr2
            rw [hdr,hdr2] at h7
            exact h7.symm
          subst hr3
          clear hdr hdr2 hz2
          iterate 4 (all_goals try (first | with_reducible refine splitI (fun h=>?_) (fun h=>?_) | with_reducible refine splitBI (fun h=>?_) (fun h=>?_) | simp (config:={ maxSteps:=1000000 }) (disch:=first | assumption | omega | (simp; done) | fail) [Tryd.results10, *]))
          refine WC.mono (node_w _ _ _ _ _ _ _) ?_
          rintro _ rfl
          iterate 4 (all_goals try (first | with_reducible refine splitI (fun h=>?_) (fun h=>?_) | with_reducible refine splitBI (fun h=>?_) (fun h=>?_) | simp (config:={ maxSteps:=1000000 }) (disch:=first | assumption | omega | (simp; done) | fail) [Tryd.results10, *]))
          refine ih.out (14 - (i+1)) _ _ (by omega) ⟨i+1,n'+1+1+1+1+1,_,_,(.mk 5 0 [x,y]) :: [],ts,n'+1+1+1+1,A2,_,tv,hlt1,hlt2,rfl,rfl,(hI.pop (t:=[]) (S:=n'+1) (B:=n'+1+1+1+1) (r0:=[]) (subs:=[x,y]) (by simp) (by omega) (by omega) (by omega) (by omega) (by omega) (fun b hb hb2=>?_) ?_ ?_ rfl (repL_append (l:=[x]) (m:=[y]) (repL_one HX.out) (repL_one HY.out)) rfl (by omega)),by simp [*],by simp [*],by simp [*],by simp [*],by simp,?_⟩
          · have hbA:b≠A1:=by
              by_cases h3:n+2≤b
              · exact hb2 h3
              · omega
            simp (disch:=omega) only [gput_lt,gput_ne]
          · simp (disch:=omega) only [gput_lt,gput_ne,gput_eq]
            try rfl
          · simp (disch:=omega) only [gput_lt,gput_ne,gput_eq]
            try rfl
          · have:=HO2.out
            rw [HST.out] at this
            exact this
        | cons z t' =>
          simp only [List.length_cons] at hpos hlt14 hz2 hrl hdr hdr2
          have hz3:((t'.length:Int)+1+1+1 - 2)=(t'.length:Int)+1:=by omega
          have hpos2:(1:Int) < (t'.length:Int)+1+1+1:=by omega
          have htn:((t'.length:Int)+1+1).toNat=t'.length+1+1:=by omega
          have htl:(List.take ((t'.length+1) * 3) r).length=(t'.length+1) * 3:=by rw [List.length_take]; omega
          iterate 4 (all_goals try (first | with_reducible refine splitI (fun h=>?_) (fun h=>?_) | with_reducible refine splitBI (fun h=>?_) (fun h=>?_) | simp (config:={ maxSteps:=1000000 }) (disch:=first | assumption | omega | (simp; done) | fail) [Tryd.results10, *]))
          refine WC.mono (node_w _ _ _ _ _ _ _) ?_
          rintro _ rfl
          iterate 4 (all_goals try (first | with_reducible refine splitI (fun h=>?_) (fun h=>?_) | with_reducible refine splitBI (fun h=>?_) (fun h=>?_) | simp (config:={ maxSteps:=1000000 }) (disch:=first | assumption | omega | (simp; done) | fail) [Tryd.results10, *]))
          refine ih.out (14 - (i+1)) _ _ (by omega) ⟨i+1,n'+1+1+1+1+1+1,_,_,(.mk 5 0 [x,y]) :: (z :: t'),ts,n'+1+1+1+1+1,A2,_,tv,hlt1,hlt2,rfl,rfl,(hI.pop (t:=(z :: t')) (S:=n'+1) (B:=n'+1+1+1+1+1) (r0:=r0) (subs:=[x,y]) (by simp) (by omega) (by omega) (by omega) (by omega) (by omega) (fun b hb hb2=>?_) ?_ ?_ HREP.out (repL_append (l:=[x]) (m:=[y]) (repL_one HX.out) (repL_one HY.out)) rfl (by omega)),by simp [*],by simp [*],by simp [*],by simp [*],by simp,?_⟩
          · have hbA:b≠A1:=by
              by_cases h3:n+2≤b
              · exact hb2 h3
              · omega
            simp (disch:=omega) only [gput_lt,gput_ne]
          · simp (disch:=omega) only [gput_lt,gput_ne,gput_eq]
            try rfl
          · rw [← HTK.out]
            simp (disch:=omega) only [gput_lt,gput_ne,gput_eq]
            try rfl
          · have:=HO2.out
            rw [HST.out] at this
            exact this
    by_cases c6:op=6
    · subst c6
      rcases ns with _ | ⟨y,_ | ⟨x,t⟩⟩
      · have HST:Hide (stepM cd (nums.drop i).head? [] ts=(.mk 1 (q3:Int) [] :: [],ts)):=⟨by unfold stepM dfltM; rw [hq,hq3,hop]; simp [*]⟩
        clear hq3 hop
        rcases hI.rs with ⟨_,rfl⟩ | ⟨_,rfl,hA0,hA1,own,z,hA⟩ | ⟨r,hne,rfl,hA0,hA1,hA,hrl,hrep⟩
        rotate_right
        · exact absurd rfl hne
        all_goals
          clear hlN
          have HM:=Hide.mk htm3
          clear htm3
          iterate 3 (all_goals try (first | with_reducible refine splitI (fun h=>?_) (fun h=>?_) | with_reducible refine splitBI (fun h=>?_) (fun h=>?_) | simp (config:={ maxSteps:=1000000 }) (disch:=first | assumption | omega | (simp; done) | fail) [Tryd.results10, *]))
          rw [HM.out]
        · refine ih.out (14 - (i+1)) _ _ (by omega) ⟨i+1,n'+1+1,_,gk,_ :: [],ts,n'+1,A2,_,tv,hlt1,hlt2,rfl,rfl,hI.push (x:=(.mk 1 (q3:Int) [])) (r:=[]) (by omega) (fun b hb _=>?_) gput_eq rfl rfl rfl (fun q b=>⟨by omega,_,rfl,.inl ⟨rfl,.inl rfl⟩⟩),by simp [*],by simp [*],by simp,by simp [*],by simp,?_⟩
          · simp (disch:=omega) only [gput_lt]
          · have:=HO2.out
            rw [HST.out] at this
            exact this
        · refine ih.out (14 - (i+1)) _ _ (by omega) ⟨i+1,n'+1+1,_,gk,_ :: [],ts,n'+1,A2,_,tv,hlt1,hlt2,rfl,rfl,hI.push (x:=(.mk 1 (q3:Int) [])) (r:=[]) (by omega) (fun b hb _=>?_) gput_eq rfl rfl rfl (fun q b=>⟨by omega,_,rfl,.inl ⟨rfl,.inl rfl⟩⟩),by simp [*],by simp [*],by simp,by simp [*],by simp,?_⟩
          · simp (disch:=omega) only [gput_lt]
          · have:=HO2.out
            rw [HST.out] at this
            exact this
      · have HST:Hide (stepM cd (nums.drop i).head? [y] ts=(.mk 1 (q3:Int) [] :: [y],ts)):=⟨by unfold stepM dfltM; rw [hq,hq3,hop]; simp [*]⟩
        clear hq3 hop
        rcases hI.rs with ⟨h9,_⟩ | ⟨h9,_⟩ | ⟨r,hne,rfl,hA0,hA1,hA,hrl,hrep⟩
        · cases h9
        · cases h9
        · clear hlN
          have HM:=Hide.mk htm3
          clear htm3
          iterate 3 (all_goals try (first | with_reducible refine splitI (fun h=>?_) (fun h=>?_) | with_reducible refine splitBI (fun h=>?_) (fun h=>?_) | simp (config:={ maxSteps:=1000000 }) (disch:=first | assumption | omega | (simp; done) | fail) [Tryd.results10, *]))
          rw [HM.out]
          refine ih.out (14 - (i+1)) _ _ (by omega) ⟨i+1,n'+1+1,_,gk,_ :: [y],ts,n'+1,A2,_,tv,hlt1,hlt2,rfl,rfl,hI.push (x:=(.mk 1 (q3:Int) [])) (by omega) (fun b hb hb2=>?_) gput_eq hrl hrep rfl (fun q b=>⟨by omega,_,rfl,.inl ⟨rfl,.inl rfl⟩⟩),by simp [*],by simp [*],by simp,by simp [*],by simp,?_⟩
          · have hbA:b≠A1:=by
              by_cases h3:n+2≤b
              · exact hb2 h3
              · omega
            simp (disch:=omega) only [gput_lt,gput_ne]
          · have:=HO2.out
            rw [HST.out] at this
            exact this
      · obtain ⟨r,r0,cx,cy,rfl,hA0,hA1,hA,hrl,htk,hdr,hdr2,hrep0,hx,hy⟩:=hI.rs.last2
        have HST:Hide (stepM cd (nums.drop i).head? (y :: x :: t) ts=(t,.mk 6 0 [x,y] :: ts)):=⟨by unfold stepM; rw [hop]; simp⟩
        obtain ⟨op2,k2,sv2,rfl,h2c⟩:=repN_one hx
        obtain ⟨op3,k3,sv3,rfl,h3c⟩:=repN_one hy
        have h2a:allOne [.lit (.int .u8 op2),.lit (.int .i64 k2),sv2]=true:=by simp [h2c]
        have h3a:allOne [.lit (.int .u8 op3),.lit (.int .i64 k3),sv3]=true:=by simp [h3c]
        have hlt14:t.length < 13:=by simp at hl1 hl2; omega
        have hpos:(1:Int) < (t.length:Int)+1+1:=by omega
        have hz2:(t.length:Int)+1+1 - 2=(t.length:Int):=by omega
        have HTK:=Hide.mk htk
        have HREP:=Hide.mk hrep0
        have HX:=Hide.mk hx
        have HY:=Hide.mk hy
        clear hq3 hop htm3 hlN hlT htk hrep0 hx hy
        have hne12:=hI.ne
        have hgA:∀ (q:Nat→Option Blk),gput q A2 none A1=q A1:=fun q=>gput_ne hne12
        cases t with
        | nil =>
          have hr3:r=[.lit (.int .u8 op2),.lit (.int .i64 k2),sv2,.lit (.int .u8 op3),.lit (.int .i64 k3),sv3]:=by
            have h7:=List.take_append_drop 3 r
            simp only [List.length_nil,Nat.zero_mul,List.drop_zero,Nat.zero_add,Nat.one_mul] at hdr hdr2
            rw [List.take_of_length_le (by rw [List.length_drop,hrl]; simp)] at hdr2
            rw [hdr,hdr2] at h7
            exact h7.symm
          subst hr3
          clear hdr hdr2 hz2
          rcases hI.rt with ⟨rfl,rfl⟩ | ⟨rfl,rfl,hB0,hB1,own,z9,hB⟩ | ⟨rt,hne,rfl,hB0,hB1,hB,hrlt,hrept⟩
          all_goals
            iterate 4 (all_goals try (first | with_reducible refine splitI (fun h=>?_) (fun h=>?_) | with_reducible refine splitBI (fun h=>?_) (fun h=>?_) | simp (config:={ maxSteps:=1000000 }) (disch:=first | assumption | omega | (simp; done) | fail) [Tryd.results10, *]))
            refine WC.mono (node_w _ _ _ _ _ _ _) ?_
            rintro _ rfl
            iterate 4 (all_goals try (first | with_reducible refine splitI (fun h=>?_) (fun h=>?_) | with_reducible refine splitBI (fun h=>?_) (fun h=>?_) | simp (config:={ maxSteps:=1000000 }) (disch:=first | assumption | omega | (simp; done) | fail) [Tryd.results10, *]))
          · refine ih.out (14 - (i+1)) _ _ (by omega) ⟨i+1,n'+1+1+1+1+1,_,_,[],(.mk 6 0 [x,y]) :: [],n'+1+1+1+1,n'+1+1+1,(.sl (n'+1+1+1+1) 0 0 0),_,hlt1,hlt2,rfl,rfl,hI.cmp (t:=[]) (S:=n') (B:=n'+1+1+1) (Z:=n'+1+1+1+1) (rt:=[]) (subs:=[x,y]) (by simp) (by omega) (by omega) (by omega) (by omega) (by omega) (by omega) (by omega) (by omega) (by omega) (fun b hb hb2=>?_) ?_ ?_ ?_ rfl (repL_append (l:=[x]) (m:=[y]) (repL_one HX.out) (repL_one HY.out)) rfl (by omega),by simp [*],by simp [*],by simp [*],by simp [*],by simp,?_⟩
            · have hbA:b≠A1:=by
                by_cases h3:n+2≤b
                · exact (hb2 h3).1
                · omega
              simp (disch:=omega) only [gput_lt,gput_ne]
            · exact .inr (.inl ⟨rfl,rfl,by omega,by omega,true,0,by simp (disch:=omega) only [gput_lt,gput_ne,gput_eq]⟩)
            · simp (disch:=omega) only [gput_lt,gput_ne,gput_eq]
              try rfl
            · simp (disch:=omega) only [gput_lt,gput_ne,gput_eq]
              try rfl
            · have:=HO2.out
              rw [HST.out] at this
              exact this
          · refine ih.out (14 - (i+1)) _ _ (by omega) ⟨i+1,n'+1+1+1+1+1,_,_,[],(.mk 6 0 [x,y]) :: [],n'+1+1+1+1,n'+1+1+1,(.sl (n'+1+1+1+1) 0 0 0),_,hlt1,hlt2,rfl,rfl,hI.cmp (t:=[]) (S:=n') (B:=n'+1+1+1) (Z:=n'+1+1+1+1) (rt:=[]) (subs:=[x,y]) (by simp) (by omega) (by omega) (by omega) (by omega) (by omega) (by omega) (by omega) (by omega) (by omega) (fun b hb hb2=>?_) ?_ ?_ ?_ rfl (repL_append (l:=[x]) (m:=[y]) (repL_one HX.out) (repL_one HY.out)) rfl (by omega),by simp [*],by simp [*],by simp [*],by simp [*],by simp,?_⟩
            · have hbA:b≠A1:=by
                by_cases h3:n+2≤b
                · exact (hb2 h3).1
                · omega
              simp (disch:=omega) only [gput_lt,gput_ne]
            · exact .inr (.inl ⟨rfl,rfl,by omega,by omega,true,0,by simp (disch:=omega) only [gput_lt,gput_ne,gput_eq]⟩)
            · simp (disch:=omega) only [gput_lt,gput_ne,gput_eq]
              try rfl
            · simp (disch:=omega) only [gput_lt,gput_ne,gput_eq]
              try rfl
            · have:=HO2.out
              rw [HST.out] at this
              exact this
          · refine ih.out (14 - (i+1)) _ _ (by omega) ⟨i+1,n'+1+1+1+1+1,_,_,[],(.mk 6 0 [x,y]) :: ts,n'+1+1+1+1,n'+1+1+1,(.sl (n'+1+1+1+1) 0 0 0),_,hlt1,hlt2,rfl,rfl,hI.cmp (t:=[]) (S:=n') (B:=n'+1+1+1) (Z:=n'+1+1+1+1) (rt:=rt) (subs:=[x,y]) (by simp) (by omega) (by omega) (by omega) (by omega) (by omega) (by omega) (by omega) (by omega) (by omega) (fun b hb hb2=>?_) ?_ ?_ ?_ hrept (repL_append (l:=[x]) (m:=[y]) (repL_one HX.out) (repL_one HY.out)) rfl (by omega),by simp [*],by simp [*],by simp [*],by simp [*],by simp,?_⟩
            · have hbA:b≠A1:=by
                by_cases h3:n+2≤b
                · exact (hb2 h3).1
                · omega
              have hbB:b≠A2:=by
                by_cases h3:n+2≤b
                · exact (hb2 h3).2
                · omega
              simp (disch:=omega) only [gput_lt,gput_ne]
            · exact .inr (.inl ⟨rfl,rfl,by omega,by omega,true,0,by simp (disch:=omega) only [gput_lt,gput_ne,gput_eq]⟩)
            · simp (disch:=omega) only [gput_lt,gput_ne,gput_eq]
              try rfl
            · simp (disch:=omega) only [gput_lt,gput_ne,gput_eq]
              try rfl
            · have:=HO2.out
              rw [HST.out] at this
              exact this
        | cons z t' =>
          simp only [List.length_cons] at hpos hlt14 hz2 hrl hdr hdr2
          have hz3:((t'.length:Int)+1+1+1 - 2)=(t'.length:Int)+1:=by omega
          have hpos2:(1:Int) < (t'.length:Int)+1+1+1:=by omega
          have htn:((t'.length:Int)+1+1).toNat=t'.length+1+1:=by omega
          have htl:(List.take ((t'.length+1) * 3) r).length=(t'.length+1) * 3:=by rw [List.length_take]; omega
          rcases hI.rt with ⟨rfl,rfl⟩ | ⟨rfl,rfl,hB0,hB1,own,z9,hB⟩ | ⟨rt,hne,rfl,hB0,hB1,hB,hrlt,hrept⟩
          all_goals
            iterate 4 (all_goals try (first | with_reducible refine splitI (fun h=>?_) (fun h=>?_) | with_reducible refine splitBI (fun h=>?_) (fun h=>?_) | simp (config:={ maxSteps:=1000000 }) (disch:=first | assumption | omega | (simp; done) | fail) [Tryd.results10, *]))
            refine WC.mono (node_w _ _ _ _ _ _ _) ?_
            rintro _ rfl
            iterate 4 (all_goals try (first | with_reducible refine splitI (fun h=>?_) (fun h=>?_) | with_reducible refine splitBI (fun h=>?_) (fun h=>?_) | simp (config:={ maxSteps:=1000000 }) (disch:=first | assumption | omega | (simp; done) | fail) [Tryd.results10, *]))
          · refine ih.out (14 - (i+1)) _ _ (by omega) ⟨i+1,n'+1+1+1+1+1+1,_,_,(z :: t'),(.mk 6 0 [x,y]) :: [],n'+1+1+1+1+1,n'+1+1+1,(.slq (n'+1+1+1+1+1) 0 (t'.length+1) 0),_,hlt1,hlt2,rfl,rfl,hI.cmp (t:=(z :: t')) (S:=n') (B:=n'+1+1+1) (Z:=n'+1+1+1+1+1) (rt:=[]) (subs:=[x,y]) (by simp) (by omega) (by omega) (by omega) (by omega) (by omega) (by omega) (by omega) (by omega) (by omega) (fun b hb hb2=>?_) ?_ ?_ ?_ rfl (repL_append (l:=[x]) (m:=[y]) (repL_one HX.out) (repL_one HY.out)) rfl (by omega),by simp [*],by simp [*],by simp [*],by simp [*],by simp,?_⟩
            · have hbA:b≠A1:=by
                by_cases h3:n+2≤b
                · exact (hb2 h3).1
                · omega
              simp (disch:=omega) only [gput_lt,gput_ne]
            · refine .inr (.inr ⟨r0,by simp,rfl,by omega,by omega,?_,?_,repL_ext (by omega) (fun a z ha hz=>by rw [gput_lt (by omega)]; exact hz) HREP.out⟩)
              · simp (disch:=omega) only [gput_lt,gput_ne,gput_eq]
                rw [← HTK.out]
                rfl
              · rw [← HTK.out,List.length_cons]
                exact htl
            · simp (disch:=omega) only [gput_lt,gput_ne,gput_eq]
              try rfl
            · simp (disch:=omega) only [gput_lt,gput_ne,gput_eq]
              try rfl
            · have:=HO2.out
              rw [HST.out] at this
              exact this
          · refine ih.out (14 - (i+1)) _ _ (by omega) ⟨i+1,n'+1+1+1+1+1+1,_,_,(z :: t'),(.mk 6 0 [x,y]) :: [],n'+1+1+1+1+1,n'+1+1+1,(.slq (n'+1+1+1+1+1) 0 (t'.length+1) 0),_,hlt1,hlt2,rfl,rfl,hI.cmp (t:=(z :: t')) (S:=n') (B:=n'+1+1+1) (Z:=n'+1+1+1+1+1) (rt:=[]) (subs:=[x,y]) (by simp) (by omega) (by omega) (by omega) (by omega) (by omega) (by omega) (by omega) (by omega) (by omega) (fun b hb hb2=>?_) ?_ ?_ ?_ rfl (repL_append (l:=[x]) (m:=[y]) (repL_one HX.out) (repL_one HY.out)) rfl (by omega),by simp [*],by simp [*],by simp [*],by simp [*],by simp,?_⟩
            · have hbA:b≠A1:=by
                by_cases h3:n+2≤b
                · exact (hb2 h3).1
                · omega
              simp (disch:=omega) only [gput_lt,gput_ne]
            · refine .inr (.inr ⟨r0,by simp,rfl,by omega,by omega,?_,?_,repL_ext (by omega) (fun a z ha hz=>by rw [gput_lt (by omega)]; exact hz) HREP.out⟩)
              · simp (disch:=omega) only [gput_lt,gput_ne,gput_eq]
                rw [← HTK.out]
                rfl
              · rw [← HTK.out,List.length_cons]
                exact htl
            · simp (disch:=omega) only [gput_lt,gput_ne,gput_eq]
              try rfl
            · simp (disch:=omega) only [gput_lt,gput_ne,gput_eq]
              try rfl
            · have:=HO2.out
              rw [HST.out] at this
              exact this
          · refine ih.out (14 - (i+1)) _ _ (by omega) ⟨i+1,n'+1+1+1+1+1+1,_,_,(z :: t'),(.mk 6 0 [x,y]) :: ts,n'+1+1+1+1+1,n'+1+1+1,(.slq (n'+1+1+1+1+1) 0 (t'.length+1) 0),_,hlt1,hlt2,rfl,rfl,hI.cmp (t:=(z :: t')) (S:=n') (B:=n'+1+1+1) (Z:=n'+1+1+1+1+1) (rt:=rt) (subs:=[x,y]) (by simp) (by omega) (by omega) (by omega) (by omega) (by omega) (by omega) (by omega) (by omega) (by omega) (fun b hb hb2=>?_) ?_ ?_ ?_ hrept (repL_append (l:=[x]) (m:=[y]) (repL_one HX.out) (repL_one HY.out)) rfl (by omega),by simp [*],by simp [*],by simp [*],by simp [*],by simp,?_⟩
            · have hbA:b≠A1:=by
                by_cases h3:n+2≤b
                · exact (hb2 h3).1
                · omega
              have hbB:b≠A2:=by
                by_cases h3:n+2≤b
                · exact (hb2 h3).2
                · omega
              simp (disch:=omega) only [gput_lt,gput_ne]
            · refine .inr (.inr ⟨r0,by simp,rfl,by omega,by omega,?_,?_,repL_ext (by omega) (fun a z ha hz=>by rw [gput_lt (by omega)]; exact hz) HREP.out⟩)
              · simp (disch:=omega) only [gput_lt,gput_ne,gput_eq]
                rw [← HTK.out]
                rfl
              · rw [← HTK.out,List.length_cons]
                exact htl
            · simp (disch:=omega) only [gput_lt,gput_ne,gput_eq]
              try rfl
            · simp (disch:=omega) only [gput_lt,gput_ne,gput_eq]
              try rfl
            · have:=HO2.out
              rw [HST.out] at this
              exact this
    by_cases c7:op=7
    · subst c7
      rcases ns with _ | ⟨y,_ | ⟨x,t⟩⟩
      · have HST:Hide (stepM cd (nums.drop i).head? [] ts=(.mk 1 (q3:Int) [] :: [],ts)):=⟨by unfold stepM dfltM; rw [hq,hq3,hop]; simp [*]⟩
        clear hq3 hop
        rcases hI.rs with ⟨_,rfl⟩ | ⟨_,rfl,hA0,hA1,own,z,hA⟩ | ⟨r,hne,rfl,hA0,hA1,hA,hrl,hrep⟩
        rotate_right
        · exact absurd rfl hne
        all_goals
          clear hlN
          have HM:=Hide.mk htm3
          clear htm3
          iterate 3 (all_goals try (first | with_reducible refine splitI (fun h=>?_) (fun h=>?_) | with_reducible refine splitBI (fun h=>?_) (fun h=>?_) | simp (config:={ maxSteps:=1000000 }) (disch:=first | assumption | omega | (simp; done) | fail) [Tryd.results10, *]))
          rw [HM.out]
        · refine ih.out (14 - (i+1)) _ _ (by omega) ⟨i+1,n'+1+1,_,gk,_ :: [],ts,n'+1,A2,_,tv,hlt1,hlt2,rfl,rfl,hI.push (x:=(.mk 1 (q3:Int) [])) (r:=[]) (by omega) (fun b hb _=>?_) gput_eq rfl rfl rfl (fun q b=>⟨by omega,_,rfl,.inl ⟨rfl,.inl rfl⟩⟩),by simp [*],by simp [*],by simp,by simp [*],by simp,?_⟩
          · simp (disch:=omega) only [gput_lt]
          · have:=HO2.out
            rw [HST.out] at this
            exact this
        · refine ih.out (14 - (i+1)) _ _ (by omega) ⟨i+1,n'+1+1,_,gk,_ :: [],ts,n'+1,A2,_,tv,hlt1,hlt2,rfl,rfl,hI.push (x:=(.mk 1 (q3:Int) [])) (r:=[]) (by omega) (fun b hb _=>?_) gput_eq rfl rfl rfl (fun q b=>⟨by omega,_,rfl,.inl ⟨rfl,.inl rfl⟩⟩),by simp [*],by simp [*],by simp,by simp [*],by simp,?_⟩
          · simp (disch:=omega) only [gput_lt]
          · have:=HO2.out
            rw [HST.out] at this
            exact this
      · have HST:Hide (stepM cd (nums.drop i).head? [y] ts=(.mk 1 (q3:Int) [] :: [y],ts)):=⟨by unfold stepM dfltM; rw [hq,hq3,hop]; simp [*]⟩
        clear hq3 hop
        rcases hI.rs with ⟨h9,_⟩ | ⟨h9,_⟩ | ⟨r,hne,rfl,hA0,hA1,hA,hrl,hrep⟩
        · cases h9
        · cases h9
        · clear hlN
          have HM:=Hide.mk htm3
          clear htm3
          iterate 3 (all_goals try (first | with_reducible refine splitI (fun h=>?_) (fun h=>?_) | with_reducible refine splitBI (fun h=>?_) (fun h=>?_) | simp (config:={ maxSteps:=1000000 }) (disch:=first | assumption | omega | (simp; done) | fail) [Tryd.results10, *]))
          rw [HM.out]
          refine ih.out (14 - (i+1)) _ _ (by omega) ⟨i+1,n'+1+1,_,gk,_ :: [y],ts,n'+1,A2,_,tv,hlt1,hlt2,rfl,rfl,hI.push (x:=(.mk 1 (q3:Int) [])) (by omega) (fun b hb hb2=>?_) gput_eq hrl hrep rfl (fun q b=>⟨by omega,_,rfl,.inl ⟨rfl,.inl rfl⟩⟩),by simp [*],by simp [*],by simp,by simp [*],by simp,?_⟩
          · have hbA:b≠A1:=by
              by_cases h3:n+2≤b
              · exact hb2 h3
              · omega
            simp (disch:=omega) only [gput_lt,gput_ne]
          · have:=HO2.out
            rw [HST.out] at this
            exact this
      · obtain ⟨r,r0,cx,cy,rfl,hA0,hA1,hA,hrl,htk,hdr,hdr2,hrep0,hx,hy⟩:=hI.rs.last2
        have HST:Hide (stepM cd (nums.drop i).head? (y :: x :: t) ts=(t,.mk 7 0 [x,y] :: ts)):=⟨by unfold stepM; rw [hop]; simp⟩
        obtain ⟨op2,k2,sv2,rfl,h2c⟩:=repN_one hx
        obtain ⟨op3,k3,sv3,rfl,h3c⟩:=repN_one hy
        have h2a:allOne [.lit (.int .u8 op2),.lit (.int .i64 k2),sv2]=true:=by simp [h2c]
        have h3a:allOne [.lit (.int .u8 op3),.lit (.int .i64 k3),sv3]=true:=by simp [h3c]
        have hlt14:t.length < 13:=by simp at hl1 hl2; omega
        have hpos:(1:Int) < (t.length:Int)+1+1:=by omega
        have hz2:(t.length:Int)+1+1 - 2=(t.length:Int):=by omega
        have HTK:=Hide.mk htk
        have HREP:=Hide.mk hrep0
        have HX:=Hide.mk hx
        have HY:=Hide.mk hy
        clear hq3 hop htm3 hlN hlT htk hrep0 hx hy
        have hne12:=hI.ne
        have hgA:∀ (q:Nat→Option Blk),gput q A2 none A1=q A1:=fun q=>gput_ne hne12
        cases t with
        | nil =>
          have hr3:r=[.lit (.int .u8 op2),.lit (.int .i64 k2),sv2,.lit (.int .u8 op3),.lit (.int .i64 k3),sv3]:=by
            have h7:=List.take_append_drop 3 r
            simp only [List.length_nil,Nat.zero_mul,List.drop_zero,Nat.zero_add,Nat.one_mul] at hdr hdr2
            rw [List.take_of_length_le (by rw [List.length_drop,hrl]; simp)] at hdr2
            rw [hdr,hdr2] at h7
            exact h7.symm
          subst hr3
          clear hdr hdr2 hz2
          rcases hI.rt with ⟨rfl,rfl⟩ | ⟨rfl,rfl,hB0,hB1,own,z9,hB⟩ | ⟨rt,hne,rfl,hB0,hB1,hB,hrlt,hrept⟩
          all_goals
            iterate 4 (all_goals try (first | with_reducible refine splitI (fun h=>?_) (fun h=>?_) | with_reducible refine splitBI (fun h=>?_) (fun h=>?_) | simp (config:={ maxSteps:=1000000 }) (disch:=first | assumption | omega | (simp; done) | fail) [Tryd.results10, *]))
            refine WC.mono (node_w _ _ _ _ _ _ _) ?_
            rintro _ rfl
            iterate 4 (all_goals try (first | with_reducible refine splitI (fun h=>?_) (fun h=>?_) | with_reducible refine splitBI (fun h=>?_) (fun h=>?_) | simp (config:={ maxSteps:=1000000 }) (disch:=first | assumption | omega | (simp; done) | fail) [Tryd.results10, *]))
          · refine ih.out (14 - (i+1)) _ _ (by omega) ⟨i+1,n'+1+1+1+1+1,_,_,[],(.mk 7 0 [x,y]) :: [],n'+1+1+1+1,n'+1+1+1,(.sl (n'+1+1+1+1) 0 0 0),_,hlt1,hlt2,rfl,rfl,hI.cmp (t:=[]) (S:=n') (B:=n'+1+1+1) (Z:=n'+1+1+1+1) (rt:=[]) (subs:=[x,y]) (by simp) (by omega) (by omega) (by omega) (by omega) (by omega) (by omega) (by omega) (by omega) (by omega) (fun b hb hb2=>?_) ?_ ?_ ?_ rfl (repL_append (l:=[x]) (m:=[y]) (repL_one HX.out) (repL_one HY.out)) rfl (by omega),by simp [*],by simp [*],by simp [*],by simp [*],by simp,?_⟩
            · have hbA:b≠A1:=by
                by_cases h3:n+2≤b
                · exact (hb2 h3).1
                · omega
              simp (disch:=omega) only [gput_lt,gput_ne]
            · exact .inr (.inl ⟨rfl,rfl,by omega,by omega,true,0,by simp (disch:=omega) only [gput_lt,gput_ne,gput_eq]⟩)
            · simp (disch:=omega) only [gput_lt,gput_ne,gput_eq]
              try rfl
            · simp (disch:=omega) only [gput_lt,gput_ne,gput_eq]
              try rfl
            · have:=HO2.out
              rw [HST.out] at this
              exact this
          · refine ih.out (14 - (i+1)) _ _ (by omega) ⟨i+1,n'+1+1+1+1+1,_,_,[],(.mk 7 0 [x,y]) :: [],n'+1+1+1+1,n'+1+1+1,(.sl (n'+1+1+1+1) 0 0 0),_,hlt1,hlt2,rfl,rfl,hI.cmp (t:=[]) (S:=n') (B:=n'+1+1+1) (Z:=n'+1+1+1+1) (rt:=[]) (subs:=[x,y]) (by simp) (by omega) (by omega) (by omega) (by omega) (by omega) (by omega) (by omega) (by omega) (by omega) (fun b hb hb2=>?_) ?_ ?_ ?_ rfl (repL_append (l:=[x]) (m:=[y]) (repL_one HX.out) (repL_one HY.out)) rfl (by omega),by simp [*],by simp [*],by simp [*],by simp [*],by simp,?_⟩
            · have hbA:b≠A1:=by
                by_cases h3:n+2≤b
                · exact (hb2 h3).1
                · omega
              simp (disch:=omega) only [gput_lt,gput_ne]
            · exact .inr (.inl ⟨rfl,rfl,by omega,by omega,true,0,by simp (disch:=omega) only [gput_lt,gput_ne,gput_eq]⟩)
            · simp (disch:=omega) only [gput_lt,gput_ne,gput_eq]
              try rfl
            · simp (disch:=omega) only [gput_lt,gput_ne,gput_eq]
              try rfl
            · have:=HO2.out
              rw [HST.out] at this
              exact this
          · refine ih.out (14 - (i+1)) _ _ (by omega) ⟨i+1,n'+1+1+1+1+1,_,_,[],(.mk 7 0 [x,y]) :: ts,n'+1+1+1+1,n'+1+1+1,(.sl (n'+1+1+1+1) 0 0 0),_,hlt1,hlt2,rfl,rfl,hI.cmp (t:=[]) (S:=n') (B:=n'+1+1+1) (Z:=n'+1+1+1+1) (rt:=rt) (subs:=[x,y]) (by simp) (by omega) (by omega) (by omega) (by omega) (by omega) (by omega) (by omega) (by omega) (by omega) (fun b hb hb2=>?_) ?_ ?_ ?_ hrept (repL_append (l:=[x]) (m:=[y]) (repL_one HX.out) (repL_one HY.out)) rfl (by omega),by simp [*],by simp [*],by simp [*],by simp [*],by simp,?_⟩
            · have hbA:b≠A1:=by
                by_cases h3:n+2≤b
                · exact (hb2 h3).1
                · omega
              have hbB:b≠A2:=by
                by_cases h3:n+2≤b
                · exact (hb2 h3).2
                · omega
              simp (disch:=omega) only [gput_lt,gput_ne]
            · exact .inr (.inl ⟨rfl,rfl,by omega,by omega,true,0,by simp (disch:=omega) only [gput_lt,gput_ne,gput_eq]⟩)
            · simp (disch:=omega) only [gput_lt,gput_ne,gput_eq]
              try rfl
            · simp (disch:=omega) only [gput_lt,gput_ne,gput_eq]
              try rfl
            · have:=HO2.out
              rw [HST.out] at this
              exact this
        | cons z t' =>
          simp only [List.length_cons] at hpos hlt14 hz2 hrl hdr hdr2
          have hz3:((t'.length:Int)+1+1+1 - 2)=(t'.length:Int)+1:=by omega
          have hpos2:(1:Int) < (t'.length:Int)+1+1+1:=by omega
          have htn:((t'.length:Int)+1+1).toNat=t'.length+1+1:=by omega
          have htl:(List.take ((t'.length+1) * 3) r).length=(t'.length+1) * 3:=by rw [List.length_take]; omega
          rcases hI.rt with ⟨rfl,rfl⟩ | ⟨rfl,rfl,hB0,hB1,own,z9,hB⟩ | ⟨rt,hne,rfl,hB0,hB1,hB,hrlt,hrept⟩
          all_goals
            iterate 4 (all_goals try (first | with_reducible refine splitI (fun h=>?_) (fun h=>?_) | with_reducible refine splitBI (fun h=>?_) (fun h=>?_) | simp (config:={ maxSteps:=1000000 }) (disch:=first | assumption | omega | (simp; done) | fail) [Tryd.results10, *]))
            refine WC.mono (node_w _ _ _ _ _ _ _) ?_
            rintro _ rfl
            iterate 4 (all_goals try (first | with_reducible refine splitI (fun h=>?_) (fun h=>?_) | with_reducible refine splitBI (fun h=>?_) (fun h=>?_) | simp (config:={ maxSteps:=1000000 }) (disch:=first | assumption | omega | (simp; done) | fail) [Tryd.results10, *]))
          · refine ih.out (14 - (i+1)) _ _ (by omega) ⟨i+1,n'+1+1+1+1+1+1,_,_,(z :: t'),(.mk 7 0 [x,y]) :: [],n'+1+1+1+1+1,n'+1+1+1,(.slq (n'+1+1+1+1+1) 0 (t'.length+1) 0),_,hlt1,hlt2,rfl,rfl,hI.cmp (t:=(z :: t')) (S:=n') (B:=n'+1+1+1) (Z:=n'+1+1+1+1+1) (rt:=[]) (subs:=[x,y]) (by simp) (by omega) (by omega) (by omega) (by omega) (by omega) (by omega) (by omega) (by omega) (by omega) (fun b hb hb2=>?_) ?_ ?_ ?_ rfl (repL_append (l:=[x]) (m:=[y]) (repL_one HX.out) (repL_one HY.out)) rfl (by omega),by simp [*],by simp [*],by simp [*],by simp [*],by simp,?_⟩
            · have hbA:b≠A1:=by
                by_cases h3:n+2≤b
                · exact (hb2 h3).1
                · omega
              simp (disch:=omega) only [gput_lt,gput_ne]
            · refine .inr (.inr ⟨r0,by simp,rfl,by omega,by omega,?_,?_,repL_ext (by omega) (fun a z ha hz=>by rw [gput_lt (by omega)]; exact hz) HREP.out⟩)
              · simp (disch:=omega) only [gput_lt,gput_ne,gput_eq]
                rw [← HTK.out]
                rfl
              · rw [← HTK.out,List.length_cons]
                exact htl
            · simp (disch:=omega) only [gput_lt,gput_ne,gput_eq]
              try rfl
            · simp (disch:=omega) only [gput_lt,gput_ne,gput_eq]
              try rfl
            · have:=HO2.out
              rw [HST.out] at this
              exact this
          · refine ih.out (14 - (i+1)) _ _ (by omega) ⟨i+1,n'+1+1+1+1+1+1,_,_,(z :: t'),(.mk 7 0 [x,y]) :: [],n'+1+1+1+1+1,n'+1+1+1,(.slq (n'+1+1+1+1+1) 0 (t'.length+1) 0),_,hlt1,hlt2,rfl,rfl,hI.cmp (t:=(z :: t')) (S:=n') (B:=n'+1+1+1) (Z:=n'+1+1+1+1+1) (rt:=[]) (subs:=[x,y]) (by simp) (by omega) (by omega) (by omega) (by omega) (by omega) (by omega) (by omega) (by omega) (by omega) (fun b hb hb2=>?_) ?_ ?_ ?_ rfl (repL_append (l:=[x]) (m:=[y]) (repL_one HX.out) (repL_one HY.out)) rfl (by omega),by simp [*],by simp [*],by simp [*],by simp [*],by simp,?_⟩
            · have hbA:b≠A1:=by
                by_cases h3:n+2≤b
                · exact (hb2 h3).1
                · omega
              simp (disch:=omega) only [gput_lt,gput_ne]
            · refine .inr (.inr ⟨r0,by simp,rfl,by omega,by omega,?_,?_,repL_ext (by omega) (fun a z ha hz=>by rw [gput_lt (by omega)]; exact hz) HREP.out⟩)
              · simp (disch:=omega) only [gput_lt,gput_ne,gput_eq]
                rw [← HTK.out]
                rfl
              · rw [← HTK.out,List.length_cons]
                exact htl
            · simp (disch:=omega) only [gput_lt,gput_ne,gput_eq]
              try rfl
            · simp (disch:=omega) only [gput_lt,gput_ne,gput_eq]
              try rfl
            · have:=HO2.out
              rw [HST.out] at this
              exact this
          · refine ih.out (14 - (i+1)) _ _ (by omega) ⟨i+1,n'+1+1+1+1+1+1,_,_,(z :: t'),(.mk 7 0 [x,y]) :: ts,n'+1+1+1+1+1,n'+1+1+1,(.slq (n'+1+1+1+1+1) 0 (t'.length+1) 0),_,hlt1,hlt2,rfl,rfl,hI.cmp (t:=(z :: t')) (S:=n') (B:=n'+1+1+1) (Z:=n'+1+1+1+1+1) (rt:=rt) (subs:=[x,y]) (by simp) (by omega) (by omega) (by omega) (by omega) (by omega) (by omega) (by omega) (by omega) (by omega) (fun b hb hb2=>?_) ?_ ?_ ?_ hrept (repL_append (l:=[x]) (m:=[y]) (repL_one HX.out) (repL_one HY.out)) rfl (by omega),by simp [*],by simp [*],by simp [*],by simp [*],by simp,?_⟩
            · have hbA:b≠A1:=by
                by_cases h3:n+2≤b
                · exact (hb2 h3).1
                · omega
              have hbB:b≠A2:=by
                by_cases h3:n+2≤b
                · exact (hb2 h3).2
                · omega
              simp (disch:=omega) only [gput_lt,gput_ne]
            · refine .inr (.inr ⟨r0,by simp,rfl,by omega,by omega,?_,?_,repL_ext (by omega) (fun a z ha hz=>by rw [gput_lt (by omega)]; exact hz) HREP.out⟩)
              · simp (disch:=omega) only [gput_lt,gput_ne,gput_eq]
                rw [← HTK.out]
                rfl
              · rw [← HTK.out,List.length_cons]
                exact htl
            · simp (disch:=omega) only [gput_lt,gput_ne,gput_eq]
              try rfl
            · simp (disch:=omega) only [gput_lt,gput_ne,gput_eq]
              try rfl
            · have:=HO2.out
              rw [HST.out] at this
              exact this
    by_cases c8:op=8
    · subst c8
      rcases ns with _ | ⟨y,_ | ⟨x,t⟩⟩
      · have HST:Hide (stepM cd (nums.drop i).head? [] ts=(.mk 1 (q3:Int) [] :: [],ts)):=⟨by unfold stepM dfltM; rw [hq,hq3,hop]; simp [*]⟩
        clear hq3 hop
        rcases hI.rs with ⟨_,rfl⟩ | ⟨_,rfl,hA0,hA1,own,z,hA⟩ | ⟨r,hne,rfl,hA0,hA1,hA,hrl,hrep⟩
        rotate_right
        · exact absurd rfl hne
        all_goals
          clear hlN
          have HM:=Hide.mk htm3
          clear htm3
          iterate 3 (all_goals try (first | with_reducible refine splitI (fun h=>?_) (fun h=>?_) | with_reducible refine splitBI (fun h=>?_) (fun h=>?_) | simp (config:={ maxSteps:=1000000 }) (disch:=first | assumption | omega | (simp; done) | fail) [Tryd.results10, *]))
          rw [HM.out]
        · refine ih.out (14 - (i+1)) _ _ (by omega) ⟨i+1,n'+1+1,_,gk,_ :: [],ts,n'+1,A2,_,tv,hlt1,hlt2,rfl,rfl,hI.push (x:=(.mk 1 (q3:Int) [])) (r:=[]) (by omega) (fun b hb _=>?_) gput_eq rfl rfl rfl (fun q b=>⟨by omega,_,rfl,.inl ⟨rfl,.inl rfl⟩⟩),by simp [*],by simp [*],by simp,by simp [*],by simp,?_⟩
          · simp (disch:=omega) only [gput_lt]
          · have:=HO2.out
            rw [HST.out] at this
            exact this
        · refine ih.out (14 - (i+1)) _ _ (by omega) ⟨i+1,n'+1+1,_,gk,_ :: [],ts,n'+1,A2,_,tv,hlt1,hlt2,rfl,rfl,hI.push (x:=(.mk 1 (q3:Int) [])) (r:=[]) (by omega) (fun b hb _=>?_) gput_eq rfl rfl rfl (fun q b=>⟨by omega,_,rfl,.inl ⟨rfl,.inl rfl⟩⟩),by simp [*],by simp [*],by simp,by simp [*],by simp,?_⟩
          · simp (disch:=omega) only [gput_lt]
          · have:=HO2.out
            rw [HST.out] at this
            exact this
      · have HST:Hide (stepM cd (nums.drop i).head? [y] ts=(.mk 1 (q3:Int) [] :: [y],ts)):=⟨by unfold stepM dfltM; rw [hq,hq3,hop]; simp [*]⟩
        clear hq3 hop
        rcases hI.rs with ⟨h9,_⟩ | ⟨h9,_⟩ | ⟨r,hne,rfl,hA0,hA1,hA,hrl,hrep⟩
        · cases h9
        · cases h9
        · clear hlN
          have HM:=Hide.mk htm3
          clear htm3
          iterate 3 (all_goals try (first | with_reducible refine splitI (fun h=>?_) (fun h=>?_) | with_reducible refine splitBI (fun h=>?_) (fun h=>?_) | simp (config:={ maxSteps:=1000000 }) (disch:=first | assumption | omega | (simp; done) | fail) [Tryd.results10, *]))
          rw [HM.out]
          refine ih.out (14 - (i+1)) _ _ (by omega) ⟨i+1,n'+1+1,_,gk,_ :: [y],ts,n'+1,A2,_,tv,hlt1,hlt2,rfl,rfl,hI.push (x:=(.mk 1 (q3:Int) [])) (by omega) (fun b hb hb2=>?_) gput_eq hrl hrep rfl (fun q b=>⟨by omega,_,rfl,.inl ⟨rfl,.inl rfl⟩⟩),by simp [*],by simp [*],by simp,by simp [*],by simp,?_⟩
          · have hbA:b≠A1:=by
              by_cases h3:n+2≤b
              · exact hb2 h3
              · omega
            simp (disch:=omega) only [gput_lt,gput_ne]
          · have:=HO2.out
            rw [HST.out] at this
            exact this
      · obtain ⟨r,r0,cx,cy,rfl,hA0,hA1,hA,hrl,htk,hdr,hdr2,hrep0,hx,hy⟩:=hI.rs.last2
        have HST:Hide (stepM cd (nums.drop i).head? (y :: x :: t) ts=(t,.mk 8 0 [x,y] :: ts)):=⟨by unfold stepM; rw [hop]; simp⟩
        obtain ⟨op2,k2,sv2,rfl,h2c⟩:=repN_one hx
        obtain ⟨op3,k3,sv3,rfl,h3c⟩:=repN_one hy
        have h2a:allOne [.lit (.int .u8 op2),.lit (.int .i64 k2),sv2]=true:=by simp [h2c]
        have h3a:allOne [.lit (.int .u8 op3),.lit (.int .i64 k3),sv3]=true:=by simp [h3c]
        have hlt14:t.length < 13:=by simp at hl1 hl2; omega
        have hpos:(1:Int) < (t.length:Int)+1+1:=by omega
        have hz2:(t.length:Int)+1+1 - 2=(t.length:Int):=by omega
        have HTK:=Hide.mk htk
        have HREP:=Hide.mk hrep0
        have HX:=Hide.mk hx
        have HY:=Hide.mk hy
        clear hq3 hop htm3 hlN hlT htk hrep0 hx hy
        have hne12:=hI.ne
        have hgA:∀ (q:Nat→Option Blk),gput q A2 none A1=q A1:=fun q=>gput_ne hne12
        cases t with
        | nil =>
          have hr3:r=[.lit (.int .u8 op2),.lit (.int .i64 k2),sv2,.lit (.int .u8 op3),.lit (.int .i64 k3),sv3]:=by
            have h7:=List.take_append_drop 3 r
            simp only [List.length_nil,Nat.zero_mul,List.drop_zero,Nat.zero_add,Nat.one_mul] at hdr hdr2
            rw [List.take_of_length_le (by rw [List.length_drop,hrl]; simp)] at hdr2
            rw [hdr,hdr2] at h7
            exact h7.symm
          subst hr3
          clear hdr hdr2 hz2
          rcases hI.rt with ⟨rfl,rfl⟩ | ⟨rfl,rfl,hB0,hB1,own,z9,hB⟩ | ⟨rt,hne,rfl,hB0,hB1,hB,hrlt,hrept⟩
          all_goals
            iterate 4 (all_goals try (first | with_reducible refine splitI (fun h=>?_) (fun h=>?_) | with_reducible refine splitBI (fun h=>?_) (fun h=>?_) | simp (config:={ maxSteps:=1000000 }) (disch:=first | assumption | omega | (simp; done) | fail) [Tryd.results10, *]))
            refine WC.mono (node_w _ _ _ _ _ _ _) ?_
            rintro _ rfl
            iterate 4 (all_goals try (first | with_reducible refine splitI (fun h=>?_) (fun h=>?_) | with_reducible refine splitBI (fun h=>?_) (fun h=>?_) | simp (config:={ maxSteps:=1000000 }) (disch:=first | assumption | omega | (simp; done) | fail) [Tryd.results10, *]))
          · refine ih.out (14 - (i+1)) _ _ (by omega) ⟨i+1,n'+1+1+1+1+1,_,_,[],(.mk 8 0 [x,y]) :: [],n'+1+1+1+1,n'+1+1+1,(.sl (n'+1+1+1+1) 0 0 0),_,hlt1,hlt2,rfl,rfl,hI.cmp (t:=[]) (S:=n') (B:=n'+1+1+1) (Z:=n'+1+1+1+1) (rt:=[]) (subs:=[x,y]) (by simp) (by omega) (by omega) (by omega) (by omega) (by omega) (by omega) (by omega) (by omega) (by omega) (fun b hb hb2=>?_) ?_ ?_ ?_ rfl (repL_append (l:=[x]) (m:=[y]) (repL_one HX.out) (repL_one HY.out)) rfl (by omega),by simp [*],by simp [*],by simp [*],by simp [*],by simp,?_⟩
            · have hbA:b≠A1:=by
                by_cases h3:n+2≤b
                · exact (hb2 h3).1
                · omega
              simp (disch:=omega) only [gput_lt,gput_ne]
            · exact .inr (.inl ⟨rfl,rfl,by omega,by omega,true,0,by simp (disch:=omega) only [gput_lt,gput_ne,gput_eq]⟩)
            · simp (disch:=omega) only [gput_lt,gput_ne,gput_eq]
              try rfl
            · simp (disch:=omega) only [gput_lt,gput_ne,gput_eq]
              try rfl
            · have:=HO2.out
              rw [HST.out] at this
              exact this
          · refine ih.out (14 - (i+1)) _ _ (by omega) ⟨i+1,n'+1+1+1+1+1,_,_,[],(.mk 8 0 [x,y]) :: [],n'+1+1+1+1,n'+1+1+1,(.sl (n'+1+1+1+1) 0 0 0),_,hlt1,hlt2,rfl,rfl,hI.cmp (t:=[]) (S:=n') (B:=n'+1+1+1) (Z:=n'+1+1+1+1) (rt:=[]) (subs:=[x,y]) (by simp) (by omega) (by omega) (by omega) (by omega) (by omega) (by omega) (by omega) (by omega) (by omega) (fun b hb hb2=>?_) ?_ ?_ ?_ rfl (repL_append (l:=[x]) (m:=[y]) (repL_one HX.out) (repL_one HY.out)) rfl (by omega),by simp [*],by simp [*],by simp [*],by simp [*],by simp,?_⟩
            · have hbA:b≠A1:=by
                by_cases h3:n+2≤b
                · exact (hb2 h3).1
                · omega
              simp (disch:=omega) only [gput_lt,gput_ne]
            · exact .inr (.inl ⟨rfl,rfl,by omega,by omega,true,0,by simp (disch:=omega) only [gput_lt,gput_ne,gput_eq]⟩)
            · simp (disch:=omega) only [gput_lt,gput_ne,gput_eq]
              try rfl
            · simp (disch:=omega) only [gput_lt,gput_ne,gput_eq]
              try rfl
            · have:=HO2.out
              rw [HST.out] at this
              exact this
          · refine ih.out (14 - (i+1)) _ _ (by omega) ⟨i+1,n'+1+1+1+1+1,_,_,[],(.mk 8 0 [x,y]) :: ts,n'+1+1+1+1,n'+1+1+1,(.sl (n'+1+1+1+1) 0 0 0),_,hlt1,hlt2,rfl,rfl,hI.cmp (t:=[]) (S:=n') (B:=n'+1+1+1) (Z:=n'+1+1+1+1) (rt:=rt) (subs:=[x,y]) (by simp) (by omega) (by omega) (by omega) (by omega) (by omega) (by omega) (by omega) (by omega) (by omega) (fun b hb hb2=>?_) ?_ ?_ ?_ hrept (repL_append (l:=[x]) (m:=[y]) (repL_one HX.out) (repL_one HY.out)) rfl (by omega),by simp [*],by simp [*],by simp [*],by simp [*],by simp,?_⟩
            · have hbA:b≠A1:=by
                by_cases h3:n+2≤b
                · exact (hb2 h3).1
                · omega
              have hbB:b≠A2:=by
                by_cases h3:n+2≤b
                · exact (hb2 h3).2
                · omega
              simp (disch:=omega) only [gput_lt,gput_ne]
            · exact .inr (.inl ⟨rfl,rfl,by omega,by omega,true,0,by simp (disch:=omega) only [gput_lt,gput_ne,gput_eq]⟩)
            · simp (disch:=omega) only [gput_lt,gput_ne,gput_eq]
              try rfl
            · simp (disch:=omega) only [gput_lt,gput_ne,gput_eq]
              try rfl
            · have:=HO2.out
              rw [HST.out] at this
              exact this
        | cons z t' =>
          simp only [List.length_cons] at hpos hlt14 hz2 hrl hdr hdr2
          have hz3:((t'.length:Int)+1+1+1 - 2)=(t'.length:Int)+1:=by omega
          have hpos2:(1:Int) < (t'.length:Int)+1+1+1:=by omega
          have htn:((t'.length:Int)+1+1).toNat=t'.length+1+1:=by omega
          have htl:(List.take ((t'.length+1) * 3) r).length=(t'.length+1) * 3:=by rw [List.length_take]; omega
          rcases hI.rt with ⟨rfl,rfl⟩ | ⟨rfl,rfl,hB0,hB1,own,z9,hB⟩ | ⟨rt,hne,rfl,hB0,hB1,hB,hrlt,hrept⟩
          all_goals
            iterate 4 (all_goals try (first | with_reducible refine splitI (fun h=>?_) (fun h=>?_) | with_reducible refine splitBI (fun h=>?_) (fun h=>?_) | simp (config:={ maxSteps:=1000000 }) (disch:=first | assumption | omega | (simp; done) | fail) [Tryd.results10, *]))
            refine WC.mono (node_w _ _ _ _ _ _ _) ?_
            rintro _ rfl
            iterate 4 (all_goals try (first | with_reducible refine splitI (fun h=>?_) (fun h=>?_) | with_reducible refine splitBI (fun h=>?_) (fun h=>?_) | simp (config:={ maxSteps:=1000000 }) (disch:=first | assumption | omega | (simp; done) | fail) [Tryd.results10, *]))
          · refine ih.out (14 - (i+1)) _ _ (by omega) ⟨i+1,n'+1+1+1+1+1+1,_,_,(z :: t'),(.mk 8 0 [x,y]) :: [],n'+1+1+1+1+1,n'+1+1+1,(.slq (n'+1+1+1+1+1) 0 (t'.length+1) 0),_,hlt1,hlt2,rfl,rfl,hI.cmp (t:=(z :: t')) (S:=n') (B:=n'+1+1+1) (Z:=n'+1+1+1+1+1) (rt:=[]) (subs:=[x,y]) (by simp) (by omega) (by omega) (by omega) (by omega) (by omega) (by omega) (by omega) (by omega) (by omega) (fun b hb hb2=>?_) ?_ ?_ ?_ rfl (repL_append (l:=[x]) (m:=[y]) (repL_one HX.out) (repL_one HY.out)) rfl (by omega),by simp [*],by simp [*],by simp [*],by simp [*],by simp,?_⟩
            · have hbA:b≠A1:=by
                by_cases h3:n+2≤b
                · exact (hb2 h3).1
                · omega
              simp (disch:=omega) only [gput_lt,gput_ne]
            · refine .inr (.inr ⟨r0,by simp,rfl,by omega,by omega,?_,?_,repL_ext (by omega) (fun a z ha hz=>by rw [gput_lt (by omega)]; exact hz) HREP.out⟩)
              · simp (disch:=omega) only [gput_lt,gput_ne,gput_eq]
                rw [← HTK.out]
                rfl
              · rw [← HTK.out,List.length_cons]
                exact htl
            · simp (disch:=omega) only [gput_lt,gput_ne,gput_eq]
              try rfl
            · simp (disch:=omega) only [gput_lt,gput_ne,gput_eq]
              try rfl
            · have:=HO2.out
              rw [HST.out] at this
              exact this
          · refine ih.out (14 - (i+1)) _ _ (by omega) ⟨i+1,n'+1+1+1+1+1+1,_,_,(z :: t'),(.mk 8 0 [x,y]) :: [],n'+1+1+1+1+1,n'+1+1+1,(.slq (n'+1+1+1+1+1) 0 (t'.length+1) 0),_,hlt1,hlt2,rfl,rfl,hI.cmp (t:=(z :: t')) (S:=n') (B:=n'+1+1+1) (Z:=n'+1+1+1+1+1) (rt:=[]) (subs:=[x,y]) (by simp) (by omega) (by omega) (by omega) (by omega) (by omega) (by omega) (by omega) (by omega) (by omega) (fun b hb hb2=>?_) ?_ ?_ ?_ rfl (repL_append (l:=[x]) (m:=[y]) (repL_one HX.out) (repL_one HY.out)) rfl (by omega),by simp [*],by simp [*],by simp [*],by simp [*],by simp,?_⟩
            · have hbA:b≠A1:=by
                by_cases h3:n+2≤b
                · exact (hb2 h3).1
                · omega
              simp (disch:=omega) only [gput_lt,gput_ne]
            · refine .inr (.inr ⟨r0,by simp,rfl,by omega,by omega,?_,?_,repL_ext (by omega) (fun a z ha hz=>by rw [gput_lt (by omega)]; exact hz) HREP.out⟩)
              · simp (disch:=omega) only [gput_lt,gput_ne,gput_eq]
                rw [← HTK.out]
                rfl
              · rw [← HTK.out,List.length_cons]
                exact htl
            · simp (disch:=omega) only [gput_lt,gput_ne,gput_eq]
              try rfl
            · simp (disch:=omega) only [gput_lt,gput_ne,gput_eq]
              try rfl
            · have:=HO2.out
              rw [HST.out] at this
              exact this
          · refine ih.out (14 - (i+1)) _ _ (by omega) ⟨i+1,n'+1+1+1+1+1+1,_,_,(z :: t'),(.mk 8 0 [x,y]) :: ts,n'+1+1+1+1+1,n'+1+1+1,(.slq (n'+1+1+1+1+1) 0 (t'.length+1) 0),_,hlt1,hlt2,rfl,rfl,hI.cmp (t:=(z :: t')) (S:=n') (B:=n'+1+1+1) (Z:=n'+1+1+1+1+1) (rt:=rt) (subs:=[x,y]) (by simp) (by omega) (by omega) (by omega) (by omega) (by omega) (by omega) (by omega) (by omega) (by omega) (fun b hb hb2=>?_) ?_ ?_ ?_ hrept (repL_append (l:=[x]) (m:=[y]) (repL_one HX.out) (repL_one HY.out)) rfl (by omega),by simp [*],by simp [*],by simp [*],by simp [*],by simp,?_⟩
            · have hbA:b≠A1:=by
                by_cases h3:n+2≤b
                · exact (hb2 h3).1
                · omega
              have hbB:b≠A2:=by
                by_cases h3:n+2≤b
                · exact (hb2 h3).2
                · omega
              simp (disch:=omega) only [gput_lt,gput_ne]
            · refine .inr (.inr ⟨r0,by simp,rfl,by omega,by omega,?_,?_,repL_ext (by omega) (fun a z ha hz=>by rw [gput_lt (by omega)]; exact hz) HREP.out⟩)
              · simp (disch:=omega) only [gput_lt,gput_ne,gput_eq]
                rw [← HTK.out]
                rfl
              · rw [← HTK.out,List.length_cons]
                exact htl
            · simp (disch:=omega) only [gput_lt,gput_ne,gput_eq]
              try rfl
            · simp (disch:=omega) only [gput_lt,gput_ne,gput_eq]
              try rfl
            · have:=HO2.out
              rw [HST.out] at this
              exact this
    by_cases c9:op=9
    · subst c9
      rcases ts with _ | ⟨x,t⟩
      · have HST:Hide (stepM cd (nums.drop i).head? ns []=(.mk 1 (q3:Int) [] :: ns,[])):=⟨by unfold stepM dfltM; rw [hq,hq3,hop]; simp [*]⟩
        clear hq3 hop
        rcases hI.rs with ⟨rfl,rfl⟩ | ⟨rfl,rfl,hA0,hA1,own,z,hA⟩ | ⟨r,hne,rfl,hA0,hA1,hA,hrl,hrep⟩
        all_goals
          clear hlN
          have HM:=Hide.mk htm3
          clear htm3
          iterate 3 (all_goals try (first | with_reducible refine splitI (fun h=>?_) (fun h=>?_) | with_reducible refine splitBI (fun h=>?_) (fun h=>?_) | simp (config:={ maxSteps:=1000000 }) (disch:=first | assumption | omega | (simp; done) | fail) [Tryd.results10, *]))
          rw [HM.out]
        · refine ih.out (14 - (i+1)) _ _ (by omega) ⟨i+1,n'+1+1,_,gk,_ :: [],[],n'+1,A2,_,tv,hlt1,hlt2,rfl,rfl,hI.push (x:=(.mk 1 (q3:Int) [])) (r:=[]) (by omega) (fun b hb _=>?_) gput_eq rfl rfl rfl (fun q b=>⟨by omega,_,rfl,.inl ⟨rfl,.inl rfl⟩⟩),by simp [*],by simp [*],by simp,by simp [*],by simp,?_⟩
          · simp (disch:=omega) only [gput_lt]
          · have:=HO2.out
            rw [HST.out] at this
            exact this
        · refine ih.out (14 - (i+1)) _ _ (by omega) ⟨i+1,n'+1+1,_,gk,_ :: [],[],n'+1,A2,_,tv,hlt1,hlt2,rfl,rfl,hI.push (x:=(.mk 1 (q3:Int) [])) (r:=[]) (by omega) (fun b hb _=>?_) gput_eq rfl rfl rfl (fun q b=>⟨by omega,_,rfl,.inl ⟨rfl,.inl rfl⟩⟩),by simp [*],by simp [*],by simp,by simp [*],by simp,?_⟩
          · simp (disch:=omega) only [gput_lt]
          · have:=HO2.out
            rw [HST.out] at this
            exact this
        · refine ih.out (14 - (i+1)) _ _ (by omega) ⟨i+1,n'+1+1,_,gk,_ :: ns,[],n'+1,A2,_,tv,hlt1,hlt2,rfl,rfl,hI.push (x:=(.mk 1 (q3:Int) [])) (by omega) (fun b hb hb2=>?_) gput_eq hrl hrep rfl (fun q b=>⟨by omega,_,rfl,.inl ⟨rfl,.inl rfl⟩⟩),by simp [*],by simp [*],by simp,by simp [*],by simp,?_⟩
          · have hbA:b≠A1:=by
              by_cases h3:n+2≤b
              · exact hb2 h3
              · omega
            simp (disch:=omega) only [gput_lt,gput_ne]
          · have:=HO2.out
            rw [HST.out] at this
            exact this
      · obtain ⟨r,r0,cx,rfl,hA0,hA1,hA,hrl,htk,hdr,hrep0,hx⟩:=hI.rt.last
        have HST:Hide (stepM cd (nums.drop i).head? ns (x :: t)=(ns,.mk 9 0 [x] :: t)):=⟨by unfold stepM; rw [hop]; simp⟩
        obtain ⟨op2,k2,sv2,rfl,h2c⟩:=repN_one hx
        have h2a:allOne [.lit (.int .u8 op2),.lit (.int .i64 k2),sv2]=true:=by simp [h2c]
        have hlt14:t.length < 14:=by simp at hl1 hl2; omega
        have hpos:(0:Int) < (t.length:Int)+1:=by omega
        have hw1:IntKind.i64.wrap ((t.length:Int)+1 - 1)=(t.length:Int):=by rw [show (t.length:Int)+1 - 1=t.length by omega]; exact wrap_i64 ⟨by omega,by omega⟩
        have HTK:=Hide.mk htk
        have HREP:=Hide.mk hrep0
        have HX:=Hide.mk hx
        clear hq3 hop htm3 hlT htk hrep0 hx
        cases t with
        | nil =>
          have hr3:r=[.lit (.int .u8 op2),.lit (.int .i64 k2),sv2]:=by
            rw [← hdr]
            simp only [List.length_nil,Nat.zero_mul,List.drop_zero]
            rw [List.take_of_length_le (by rw [hrl]; simp)]
          subst hr3
          clear hdr
          iterate 4 (all_goals try (first | with_reducible refine splitI (fun h=>?_) (fun h=>?_) | with_reducible refine splitBI (fun h=>?_) (fun h=>?_) | simp (config:={ maxSteps:=1000000 }) (disch:=first | assumption | omega | (simp; done) | fail) [Tryd.results10, *]))
          refine WC.mono (node_w _ _ _ _ _ _ _) ?_
          rintro _ rfl
          iterate 4 (all_goals try (first | with_reducible refine splitI (fun h=>?_) (fun h=>?_) | with_reducible refine splitBI (fun h=>?_) (fun h=>?_) | simp (config:={ maxSteps:=1000000 }) (disch:=first | assumption | omega | (simp; done) | fail) [Tryd.results10, *]))
          refine ih.out (14 - (i+1)) _ _ (by omega) ⟨i+1,n'+1+1+1+1+1,_,_,ns,(.mk 9 0 [x]) :: [],A1,n'+1+1+1+1,sv,_,hlt1,hlt2,rfl,rfl,(hI.swap.pop (t:=[]) (S:=n'+1) (B:=n'+1+1+1+1) (r0:=[]) (subs:=[x]) (by simp) (by omega) (by omega) (by omega) (by omega) (by omega) (fun b hb hb2=>?_) ?_ ?_ rfl (repL_one HX.out) rfl (by omega)).swap,by simp [*],by simp [*],by simp [*],by simp [*],by simp,?_⟩
          · have hbA:b≠A2:=by
              by_cases h3:n+2≤b
              · exact hb2 h3
              · omega
            simp (disch:=omega) only [gput_lt,gput_ne]
          · simp (disch:=omega) only [gput_lt,gput_ne,gput_eq]
            try rfl
          · simp (disch:=omega) only [gput_lt,gput_ne,gput_eq]
            try rfl
          · have:=HO2.out
            rw [HST.out] at this
            exact this
        | cons y t' =>
          simp only [List.length_cons] at hpos hlt14 hw1 hrl hdr
          have hpos2:(0:Int) < (t'.length:Int)+1+1:=by omega
          have htl:(List.take ((t'.length+1) * 3) r).length=(t'.length+1) * 3:=by rw [List.length_take]; omega
          iterate 4 (all_goals try (first | with_reducible refine splitI (fun h=>?_) (fun h=>?_) | with_reducible refine splitBI (fun h=>?_) (fun h=>?_) | simp (config:={ maxSteps:=1000000 }) (disch:=first | assumption | omega | (simp; done) | fail) [Tryd.results10, *]))
          refine WC.mono (node_w _ _ _ _ _ _ _) ?_
          rintro _ rfl
          iterate 4 (all_goals try (first | with_reducible refine splitI (fun h=>?_) (fun h=>?_) | with_reducible refine splitBI (fun h=>?_) (fun h=>?_) | simp (config:={ maxSteps:=1000000 }) (disch:=first | assumption | omega | (simp; done) | fail) [Tryd.results10, *]))
          refine ih.out (14 - (i+1)) _ _ (by omega) ⟨i+1,n'+1+1+1+1+1+1,_,_,ns,(.mk 9 0 [x]) :: (y :: t'),A1,n'+1+1+1+1+1,sv,_,hlt1,hlt2,rfl,rfl,(hI.swap.pop (t:=(y :: t')) (S:=n'+1) (B:=n'+1+1+1+1+1) (r0:=r0) (subs:=[x]) (by simp) (by omega) (by omega) (by omega) (by omega) (by omega) (fun b hb hb2=>?_) ?_ ?_ HREP.out (repL_one HX.out) rfl (by omega)).swap,by simp [*],by simp [*],by simp [*],by simp [*],by simp,?_⟩
          · have hbA:b≠A2:=by
              by_cases h3:n+2≤b
              · exact hb2 h3
              · omega
            simp (disch:=omega) only [gput_lt,gput_ne]
          · simp (disch:=omega) only [gput_lt,gput_ne,gput_eq]
            try rfl
          · rw [← HTK.out]
            simp (disch:=omega) only [gput_lt,gput_ne,gput_eq]
            try rfl
          · have:=HO2.out
            rw [HST.out] at this
            exact this
    by_cases c10:op=10
    · subst c10
      rcases ts with _ | ⟨y,_ | ⟨x,t⟩⟩
      · have HST:Hide (stepM cd (nums.drop i).head? ns []=(.mk 1 (q3:Int) [] :: ns,[])):=⟨by unfold stepM dfltM; rw [hq,hq3,hop]; simp [*]⟩
        clear hq3 hop
        rcases hI.rs with ⟨rfl,rfl⟩ | ⟨rfl,rfl,hA0,hA1,own,z,hA⟩ | ⟨r,hne,rfl,hA0,hA1,hA,hrl,hrep⟩
        all_goals
          clear hlN
          have HM:=Hide.mk htm3
          clear htm3
          iterate 3 (all_goals try (first | with_reducible refine splitI (fun h=>?_) (fun h=>?_) | with_reducible refine splitBI (fun h=>?_) (fun h=>?_) | simp (config:={ maxSteps:=1000000 }) (disch:=first | assumption | omega | (simp; done) | fail) [Tryd.results10, *]))
          rw [HM.out]
        · refine ih.out (14 - (i+1)) _ _ (by omega) ⟨i+1,n'+1+1,_,gk,_ :: [],[],n'+1,A2,_,tv,hlt1,hlt2,rfl,rfl,hI.push (x:=(.mk 1 (q3:Int) [])) (r:=[]) (by omega) (fun b hb _=>?_) gput_eq rfl rfl rfl (fun q b=>⟨by omega,_,rfl,.inl ⟨rfl,.inl rfl⟩⟩),by simp [*],by simp [*],by simp,by simp [*],by simp,?_⟩
          · simp (disch:=omega) only [gput_lt]
          · have:=HO2.out
            rw [HST.out] at this
            exact this
        · refine ih.out (14 - (i+1)) _ _ (by omega) ⟨i+1,n'+1+1,_,gk,_ :: [],[],n'+1,A2,_,tv,hlt1,hlt2,rfl,rfl,hI.push (x:=(.mk 1 (q3:Int) [])) (r:=[]) (by omega) (fun b hb _=>?_) gput_eq rfl rfl rfl (fun q b=>⟨by omega,_,rfl,.inl ⟨rfl,.inl rfl⟩⟩),by simp [*],by simp [*],by simp,by simp [*],by simp,?_⟩
          · simp (disch:=omega) only [gput_lt]
          · have:=HO2.out
            rw [HST.out] at this
            exact this
        · refine ih.out (14 - (i+1)) _ _ (by omega) ⟨i+1,n'+1+1,_,gk,_ :: ns,[],n'+1,A2,_,tv,hlt1,hlt2,rfl,rfl,hI.push (x:=(.mk 1 (q3:Int) [])) (by omega) (fun b hb hb2=>?_) gput_eq hrl hrep rfl (fun q b=>⟨by omega,_,rfl,.inl ⟨rfl,.inl rfl⟩⟩),by simp [*],by simp [*],by simp,by simp [*],by simp,?_⟩
          · have hbA:b≠A1:=by
              by_cases h3:n+2≤b
              · exact hb2 h3
              · omega
            simp (disch:=omega) only [gput_lt,gput_ne]
          · have:=HO2.out
            rw [HST.out] at this
            exact this
      · have HST:Hide (stepM cd (nums.drop i).head? ns [y]=(.mk 1 (q3:Int) [] :: ns,[y])):=⟨by unfold stepM dfltM; rw [hq,hq3,hop]; simp [*]⟩
        clear hq3 hop
        rcases hI.rs with ⟨rfl,rfl⟩ | ⟨rfl,rfl,hA0,hA1,own,z,hA⟩ | ⟨r,hne,rfl,hA0,hA1,hA,hrl,hrep⟩
        all_goals
          clear hlN
          have HM:=Hide.mk htm3
          clear htm3
          iterate 3 (all_goals try (first | with_reducible refine splitI (fun h=>?_) (fun h=>?_) | with_reducible refine splitBI (fun h=>?_) (fun h=>?_) | simp (config:={ maxSteps:=1000000 }) (disch:=first | assumption | omega | (simp; done) | fail) [Tryd.results10, *]))
          rw [HM.out]
        · refine ih.out (14 - (i+1)) _ _ (by omega) ⟨i+1,n'+1+1,_,gk,_ :: [],[y],n'+1,A2,_,tv,hlt1,hlt2,rfl,rfl,hI.push (x:=(.mk 1 (q3:Int) [])) (r:=[]) (by omega) (fun b hb _=>?_) gput_eq rfl rfl rfl (fun q b=>⟨by omega,_,rfl,.inl ⟨rfl,.inl rfl⟩⟩),by simp [*],by simp [*],by simp,by simp [*],by simp,?_⟩
          · simp (disch:=omega) only [gput_lt]
          · have:=HO2.out
            rw [HST.out] at this
            exact this
        · refine ih.out (14 - (i+1)) _ _ (by omega) ⟨i+1,n'+1+1,_,gk,_ :: [],[y],n'+1,A2,_,tv,hlt1,hlt2,rfl,rfl,hI.push (x:=(.mk 1 (q3:Int) [])) (r:=[]) (by omega) (fun b hb _=>?_) gput_eq rfl rfl rfl (fun q b=>⟨by omega,_,rfl,.inl ⟨rfl,.inl rfl⟩⟩),by simp [*],by simp [*],by simp,by simp [*],by simp,?_⟩
          · simp (disch:=omega) only [gput_lt]
          · have:=HO2.out
            rw [HST.out] at this
            exact this
        · refine ih.out (14 - (i+1)) _ _ (by omega) ⟨i+1,n'+1+1,_,gk,_ :: ns,[y],n'+1,A2,_,tv,hlt1,hlt2,rfl,rfl,hI.push (x:=(.mk 1 (q3:Int) [])) (by omega) (fun b hb hb2=>?_) gput_eq hrl hrep rfl (fun q b=>⟨by omega,_,rfl,.inl ⟨rfl,.inl rfl⟩⟩),by simp [*],by simp [*],by simp,by simp [*],by simp,?_⟩
          · have hbA:b≠A1:=by
              by_cases h3:n+2≤b
              · exact hb2 h3
              · omega
            simp (disch:=omega) only [gput_lt,gput_ne]
          · have:=HO2.out
            rw [HST.out] at this
            exact this
      · obtain ⟨r,r0,cx,cy,rfl,hA0,hA1,hA,hrl,htk,hdr,hdr2,hrep0,hx,hy⟩:=hI.rt.last2
        have HST:Hide (stepM cd (nums.drop i).head? ns (y :: x :: t)=(ns,.mk 10 0 [x,y] :: t)):=⟨by unfold stepM; rw [hop]; simp⟩
        obtain ⟨op2,k2,sv2,rfl,h2c⟩:=repN_one hx
        obtain ⟨op3,k3,sv3,rfl,h3c⟩:=repN_one hy
        have h2a:allOne [.lit (.int .u8 op2),.lit (.int .i64 k2),sv2]=true:=by simp [h2c]
        have h3a:allOne [.lit (.int .u8 op3),.lit (.int .i64 k3),sv3]=true:=by simp [h3c]
        have hlt14:t.length < 13:=by simp at hl1 hl2; omega
        have hpos:(1:Int) < (t.length:Int)+1+1:=by omega
        have hz2:(t.length:Int)+1+1 - 2=(t.length:Int):=by omega
        have HTK:=Hide.mk htk
        have HREP:=Hide.mk hrep0
        have HX:=Hide.mk hx
        have HY:=Hide.mk hy
        clear hq3 hop htm3 hlT htk hrep0 hx hy
        cases t with
        | nil =>
          have hr3:r=[.lit (.int .u8 op2),.lit (.int .i64 k2),sv2,.lit (.int .u8 op3),.lit (.int .i64 k3),sv3]:=by
            have h7:=List.take_append_drop 3 r
            simp only [List.length_nil,Nat.zero_mul,List.drop_zero,Nat.zero_add,Nat.one_mul] at hdr hdr2
            rw [List.take_of_length_le (by rw [List.length_drop,hrl]; simp)] at hdr2
            rw [hdr,hdr2] at h7
            exact h7.symm
          subst hr3
          clear hdr hdr2 hz2
          iterate 4 (all_goals try (first | with_reducible refine splitI (fun h=>?_) (fun h=>?_) | with_reducible refine splitBI (fun h=>?_) (fun h=>?_) | simp (config:={ maxSteps:=1000000 }) (disch:=first | assumption | omega | (simp; done) | fail) [Tryd.results10, *]))
          refine WC.mono (node_w _ _ _ _ _ _ _) ?_
          rintro _ rfl
          iterate 4 (all_goals try (first | with_reducible refine splitI (fun h=>?_) (fun h=>?_) | with_reducible refine splitBI (fun h=>?_) (fun h=>?_) | simp (config:={ maxSteps:=1000000 }) (disch:=first | assumption | omega | (simp; done) | fail) [Tryd.results10, *]))
          refine ih.out (14 - (i+1)) _ _ (by omega) ⟨i+1,n'+1+1+1+1+1,_,_,ns,(.mk 10 0 [x,y]) :: [],A1,n'+1+1+1+1,sv,_,hlt1,hlt2,rfl,rfl,(hI.swap.pop (t:=[]) (S:=n'+1) (B:=n'+1+1+1+1) (r0:=[]) (subs:=[x,y]) (by simp) (by omega) (by omega) (by omega) (by omega) (by omega) (fun b hb hb2=>?_) ?_ ?_ rfl (repL_append (l:=[x]) (m:=[y]) (repL_one HX.out) (repL_one HY.out)) rfl (by omega)).swap,by simp [*],by simp [*],by simp [*],by simp [*],by simp,?_⟩
          · have hbA:b≠A2:=by
              by_cases h3:n+2≤b
              · exact hb2 h3
              · omega
            simp (disch:=omega) only [gput_lt,gput_ne]
          · simp (disch:=omega) only [gput_lt,gput_ne,gput_eq]
            try rfl
          · simp (disch:=omega) only [gput_lt,gput_ne,gput_eq]
            try rfl
          · have:=HO2.out
            rw [HST.out] at this
            exact this
        | cons z t' =>
          simp only [List.length_cons] at hpos hlt14 hz2 hrl hdr hdr2
          have hz3:((t'.length:Int)+1+1+1 - 2)=(t'.length:Int)+1:=by omega
          have hpos2:(1:Int) < (t'.length:Int)+1+1+1:=by omega
          have htn:((t'.length:Int)+1+1).toNat=t'.length+1+1:=by omega
          have htl:(List.take ((t'.length+1) * 3) r).length=(t'.length+1) * 3:=by rw [List.length_take]; omega
          iterate 4 (all_goals try (first | with_reducible refine splitI (fun h=>?_) (fun h=>?_) | with_reducible refine splitBI (fun h=>?_) (fun h=>?_) | simp (config:={ maxSteps:=1000000 }) (disch:=first | assumption | omega | (simp; done) | fail) [Tryd.results10, *]))
          refine WC.mono (node_w _ _ _ _ _ _ _) ?_
          rintro _ rfl
          iterate 4 (all_goals try (first | with_reducible refine splitI (fun h=>?_) (fun h=>?_) | with_reducible refine splitBI (fun h=>?_) (fun h=>?_) | simp (config:={ maxSteps:=1000000 }) (disch:=first | assumption | omega | (simp; done) | fail) [Tryd.results10, *]))
          refine ih.out (14 - (i+1)) _ _ (by omega) ⟨i+1,n'+1+1+1+1+1+1,_,_,ns,(.mk 10 0 [x,y]) :: (z :: t'),A1,n'+1+1+1+1+1,sv,_,hlt1,hlt2,rfl,rfl,(hI.swap.pop (t:=(z :: t')) (S:=n'+1) (B:=n'+1+1+1+1+1) (r0:=r0) (subs:=[x,y]) (by simp) (by omega) (by omega) (by omega) (by omega) (by omega) (fun b hb hb2=>?_) ?_ ?_ HREP.out (repL_append (l:=[x]) (m:=[y]) (repL_one HX.out) (repL_one HY.out)) rfl (by omega)).swap,by simp [*],by simp [*],by simp [*],by simp [*],by simp,?_⟩
          · have hbA:b≠A2:=by
              by_cases h3:n+2≤b
              · exact hb2 h3
              · omega
            simp (disch:=omega) only [gput_lt,gput_ne]
          · simp (disch:=omega) only [gput_lt,gput_ne,gput_eq]
            try rfl
          · rw [← HTK.out]
            simp (disch:=omega) only [gput_lt,gput_ne,gput_eq]
            try rfl
          · have:=HO2.out
            rw [HST.out] at this
            exact this
    by_cases c11:op=11
    · subst c11
      rcases ts with _ | ⟨y,_ | ⟨x,t⟩⟩
      · have HST:Hide (stepM cd (nums.drop i).head? ns []=(.mk 1 (q3:Int) [] :: ns,[])):=⟨by unfold stepM dfltM; rw [hq,hq3,hop]; simp [*]⟩
        clear hq3 hop
        rcases hI.rs with ⟨rfl,rfl⟩ | ⟨rfl,rfl,hA0,hA1,own,z,hA⟩ | ⟨r,hne,rfl,hA0,hA1,hA,hrl,hrep⟩
        all_goals
          clear hlN
          have HM:=Hide.mk htm3
          clear htm3
          iterate 3 (all_goals try (first | with_reducible refine splitI (fun h=>?_) (fun h=>?_) | with_reducible refine splitBI (fun h=>?_) (fun h=>?_) | simp (config:={ maxSteps:=1000000 }) (disch:=first | assumption | omega | (simp; done) | fail) [Tryd.results10, *]))
          rw [HM.out]
        · refine ih.out (14 - (i+1)) _ _ (by omega) ⟨i+1,n'+1+1,_,gk,_ :: [],[],n'+1,A2,_,tv,hlt1,hlt2,rfl,rfl,hI.push (x:=(.mk 1 (q3:Int) [])) (r:=[]) (by omega) (fun b hb _=>?_) gput_eq rfl rfl rfl (fun q b=>⟨by omega,_,rfl,.inl ⟨rfl,.inl rfl⟩⟩),by simp [*],by simp [*],by simp,by simp [*],by simp,?_⟩
          · simp (disch:=omega) only [gput_lt]
          · have:=HO2.out
            rw [HST.out] at this
            exact this
        · refine ih.out (14 - (i+1)) _ _ (by omega) ⟨i+1,n'+1+1,_,gk,_ :: [],[],n'+1,A2,_,tv,hlt1,hlt2,rfl,rfl,hI.push (x:=(.mk 1 (q3:Int) [])) (r:=[]) (by omega) (fun b hb _=>?_) gput_eq rfl rfl rfl (fun q b=>⟨by omega,_,rfl,.inl ⟨rfl,.inl rfl⟩⟩),by simp [*],by simp [*],by simp,by simp [*],by simp,?_⟩
          · simp (disch:=omega) only [gput_lt]
          · have:=HO2.out
            rw [HST.out] at this
            exact this
        · refine ih.out (14 - (i+1)) _ _ (by omega) ⟨i+1,n'+1+1,_,gk,_ :: ns,[],n'+1,A2,_,tv,hlt1,hlt2,rfl,rfl,hI.push (x:=(.mk 1 (q3:Int) [])) (by omega) (fun b hb hb2=>?_) gput_eq hrl hrep rfl (fun q b=>⟨by omega,_,rfl,.inl ⟨rfl,.inl rfl⟩⟩),by simp [*],by simp [*],by simp,by simp [*],by simp,?_⟩
          · have hbA:b≠A1:=by
              by_cases h3:n+2≤b
              · exact hb2 h3
              · omega
            simp (disch:=omega) only [gput_lt,gput_ne]
          · have:=HO2.out
            rw [HST.out] at this
            exact this
      · have HST:Hide (stepM cd (nums.drop i).head? ns [y]=(.mk 1 (q3:Int) [] :: ns,[y])):=⟨by unfold stepM dfltM; rw [hq,hq3,hop]; simp [*]⟩
        clear hq3 hop
        rcases hI.rs with ⟨rfl,rfl⟩ | ⟨rfl,rfl,hA0,hA1,own,z,hA⟩ | ⟨r,hne,rfl,hA0,hA1,hA,hrl,hrep⟩
        all_goals
          clear hlN
          have HM:=Hide.mk htm3
          clear htm3
          iterate 3 (all_goals try (first | with_reducible refine splitI (fun h=>?_) (fun h=>?_) | with_reducible refine splitBI (fun h=>?_) (fun h=>?_) | simp (config:={ maxSteps:=1000000 }) (disch:=first | assumption | omega | (simp; done) | fail) [Tryd.results10, *]))
          rw [HM.out]
        · refine ih.out (14 - (i+1)) _ _ (by omega) ⟨i+1,n'+1+1,_,gk,_ :: [],[y],n'+1,A2,_,tv,hlt1,hlt2,rfl,rfl,hI.push (x:=(.mk 1 (q3:Int) [])) (r:=[]) (by omega) (fun b hb _=>?_) gput_eq rfl rfl rfl (fun q b=>⟨by omega,_,rfl,.inl ⟨rfl,.inl rfl⟩⟩),by simp [*],by simp [*],by simp,by simp [*],by simp,?_⟩
          · simp (disch:=omega) only [gput_lt]
          · have:=HO2.out
            rw [HST.out] at this
            exact this
        · refine ih.out (14 - (i+1)) _ _ (by omega) ⟨i+1,n'+1+1,_,gk,_ :: [],[y],n'+1,A2,_,tv,hlt1,hlt2,rfl,rfl,hI.push (x:=(.mk 1 (q3:Int) [])) (r:=[]) (by omega) (fun b hb _=>?_) gput_eq rfl rfl rfl (fun q b=>⟨by omega,_,rfl,.inl ⟨rfl,.inl rfl⟩⟩),by simp [*],by simp [*],by simp,by simp [*],by simp,?_⟩
          · simp (disch:=omega) only [gput_lt]
          · have:=HO2.out
            rw [HST.out] at this
            exact this
        · refine ih.out (14 - (i+1)) _ _ (by omega) ⟨i+1,n'+1+1,_,gk,_ :: ns,[y],n'+1,A2,_,tv,hlt1,hlt2,rfl,rfl,hI.push (x:=(.mk 1 (q3:Int) [])) (by omega) (fun b hb hb2=>?_) gput_eq hrl hrep rfl (fun q b=>⟨by omega,_,rfl,.inl ⟨rfl,.inl rfl⟩⟩),by simp [*],by simp [*],by simp,by simp [*],by simp,?_⟩
          · have hbA:b≠A1:=by
              by_cases h3:n+2≤b
              · exact hb2 h3
              · omega
            simp (disch:=omega) only [gput_lt,gput_ne]
          · have:=HO2.out
            rw [HST.out] at this
            exact this
      · obtain ⟨r,r0,cx,cy,rfl,hA0,hA1,hA,hrl,htk,hdr,hdr2,hrep0,hx,hy⟩:=hI.rt.last2
        have HST:Hide (stepM cd (nums.drop i).head? ns (y :: x :: t)=(ns,.mk 11 0 [x,y] :: t)):=⟨by unfold stepM; rw [hop]; simp⟩
        obtain ⟨op2,k2,sv2,rfl,h2c⟩:=repN_one hx
        obtain ⟨op3,k3,sv3,rfl,h3c⟩:=repN_one hy
        have h2a:allOne [.lit (.int .u8 op2),.lit (.int .i64 k2),sv2]=true:=by simp [h2c]
        have h3a:allOne [.lit (.int .u8 op3),.lit (.int .i64 k3),sv3]=true:=by simp [h3c]
        have hlt14:t.length < 13:=by simp at hl1 hl2; omega
        have hpos:(1:Int) < (t.length:Int)+1+1:=by omega
        have hz2:(t.length:Int)+1+1 - 2=(t.length:Int):=by omega
        have HTK:=Hide.mk htk
        have HREP:=Hide.mk hrep0
        have HX:=Hide.mk hx
        have HY:=Hide.mk hy
        clear hq3 hop htm3 hlT htk hrep0 hx hy
        cases t with
        | nil =>
          have hr3:r=[.lit (.int .u8 op2),.lit (.int .i64 k2),sv2,.lit (.int .u8 op3),.lit (.int .i64 k3),sv3]:=by
            have h7:=List.take_append_drop 3 r
            simp only [List.length_nil,Nat.zero_mul,List.drop_zero,Nat.zero_add,Nat.one_mul] at hdr hdr2
            rw [List.take_of_length_le (by rw [List.length_drop,hrl]; simp)] at hdr2
            rw [hdr,hdr2] at h7
            exact h7.symm
          subst hr3
          clear hdr hdr2 hz2
          iterate 4 (all_goals try (first | with_reducible refine splitI (fun h=>?_) (fun h=>?_) | with_reducible refine splitBI (fun h=>?_) (fun h=>?_) | simp (config:={ maxSteps:=1000000 }) (disch:=first | assumption | omega | (simp; done) | fail) [Tryd.results10, *]))
          refine WC.mono (node_w _ _ _ _ _ _ _) ?_
          rintro _ rfl
          iterate 4 (all_goals try (first | with_reducible refine splitI (fun h=>?_) (fun h=>?_) | with_reducible refine splitBI (fun h=>?_) (fun h=>?_) | simp (config:={ maxSteps:=1000000 }) (disch:=first | assumption | omega | (simp; done) | fail) [Tryd.results10, *]))
          refine ih.out (14 - (i+1)) _ _ (by omega) ⟨i+1,n'+1+1+1+1+1,_,_,ns,(.mk 11 0 [x,y]) :: [],A1,n'+1+1+1+1,sv,_,hlt1,hlt2,rfl,rfl,(hI.swap.pop (t:=[]) (S:=n'+1) (B:=n'+1+1+1+1) (r0:=[]) (subs:=[x,y]) (by simp) (by omega) (by omega) (by omega) (by omega) (by omega) (fun b hb hb2=>?_) ?_ ?_ rfl (repL_append (l:=[x]) (m:=[y]) (repL_one HX.out) (repL_one HY.out)) rfl (by omega)).swap,by simp [*],by simp [*],by simp [*],by simp [*],by simp,?_⟩
          · have hbA:b≠A2:=by
              by_cases h3:n+2≤b
              · exact hb2 h3
              · omega
            simp (disch:=omega) only [gput_lt,gput_ne]
          · simp (disch:=omega) only [gput_lt,gput_ne,gput_eq]
            try rfl
          · simp (disch:=omega) only [gput_lt,gput_ne,gput_eq]
            try rfl
          · have:=HO2.out
            rw [HST.out] at this
            exact this
        | cons z t' =>
          simp only [List.length_cons] at hpos hlt14 hz2 hrl hdr hdr2
          have hz3:((t'.length:Int)+1+1+1 - 2)=(t'.length:Int)+1:=by omega
          have hpos2:(1:Int) < (t'.length:Int)+1+1+1:=by omega
          have htn:((t'.length:Int)+1+1).toNat=t'.length+1+1:=by omega
          have htl:(List.take ((t'.length+1) * 3) r).length=(t'.length+1) * 3:=by rw [List.length_take]; omega
          iterate 4 (all_goals try (first | with_reducible refine splitI (fun h=>?_) (fun h=>?_) | with_reducible refine splitBI (fun h=>?_) (fun h=>?_) | simp (config:={ maxSteps:=1000000 }) (disch:=first | assumption | omega | (simp; done) | fail) [Tryd.results10, *]))
          refine WC.mono (node_w _ _ _ _ _ _ _) ?_
          rintro _ rfl
          iterate 4 (all_goals try (first | with_reducible refine splitI (fun h=>?_) (fun h=>?_) | with_reducible refine splitBI (fun h=>?_) (fun h=>?_) | simp (config:={ maxSteps:=1000000 }) (disch:=first | assumption | omega | (simp; done) | fail) [Tryd.results10, *]))
          refine ih.out (14 - (i+1)) _ _ (by omega) ⟨i+1,n'+1+1+1+1+1+1,_,_,ns,(.mk 11 0 [x,y]) :: (z :: t'),A1,n'+1+1+1+1+1,sv,_,hlt1,hlt2,rfl,rfl,(hI.swap.pop (t:=(z :: t')) (S:=n'+1) (B:=n'+1+1+1+1+1) (r0:=r0) (subs:=[x,y]) (by simp) (by omega) (by omega) (by omega) (by omega) (by omega) (fun b hb hb2=>?_) ?_ ?_ HREP.out (repL_append (l:=[x]) (m:=[y]) (repL_one HX.out) (repL_one HY.out)) rfl (by omega)).swap,by simp [*],by simp [*],by simp [*],by simp [*],by simp,?_⟩
          · have hbA:b≠A2:=by
              by_cases h3:n+2≤b
              · exact hb2 h3
              · omega
            simp (disch:=omega) only [gput_lt,gput_ne]
          · simp (disch:=omega) only [gput_lt,gput_ne,gput_eq]
            try rfl
          · rw [← HTK.out]
            simp (disch:=omega) only [gput_lt,gput_ne,gput_eq]
            try rfl
          · have:=HO2.out
            rw [HST.out] at this
            exact this
    exfalso; omega
  · have hexit:¬((i:Int) < (codes.length:Int))∨((i:Int) < (codes.length:Int)∧¬(i:Int) < 14):=by omega
    have hdrop:(codes.take 14).drop i=[]:=List.drop_eq_nil_of_le (by rw [List.length_take]; omega)
    have HOE:Hide (ofE (ns,ts)=ofM codes nums):=⟨by have:=HOF.out; rw [hdrop] at this; exact this⟩
    rcases ts with _ | ⟨t0,ts'⟩
    · rcases ns with _ | ⟨x,ns'⟩
      · have hR:=hI.r
        rcases hexit with h1 | ⟨h1,h2⟩
        all_goals
          iterate 6 (all_goals try (first | with_reducible refine splitI (fun h=>?_) (fun h=>?_) | with_reducible refine splitBI (fun h=>?_) (fun h=>?_) | simp (config:={ maxSteps:=1000000 }) (disch:=first | assumption | omega | (simp; done) | fail) [Tryd.results10, *]))
        all_goals
          refine ⟨_,_,_,⟨rfl,rfl,rfl⟩,by omega,fun b hb=>?_,?_⟩
          · rw [gput_lt (by omega)]; exact hI.old b hb
          · rw [← HOE.out]
            exact FreshN.leaf (op:=0) (by omega)
      · obtain ⟨r,r0,cx,rfl,hA0,hA1,hA,hrl,htk,hdr,hrep0,hx⟩:=hI.rs.last
        obtain ⟨op2,k2,sv2,rfl,h2c⟩:=repN_one hx
        have h2a:allOne [.lit (.int .u8 op2),.lit (.int .i64 k2),sv2]=true:=by simp [h2c]
        have hpos:(0:Int) < (ns'.length:Int)+1:=by omega
        have HX:=Hide.mk hx
        have hR:=hI.r
        have hlt14:ns'.length < 14:=by simp at hl1 hl2; omega
        clear htk hrep0 hx hlN
        rcases hexit with h1 | ⟨h1,h2⟩
        all_goals
          iterate 6 (all_goals try (first | with_reducible refine splitI (fun h=>?_) (fun h=>?_) | with_reducible refine splitBI (fun h=>?_) (fun h=>?_) | simp (config:={ maxSteps:=1000000 }) (disch:=first | assumption | omega | (simp; done) | fail) [Tryd.results10, *]))
        all_goals
          refine ⟨_,_,_,⟨rfl,rfl,rfl⟩,by omega,fun b hb=>?_,?_⟩
          · rw [gput_lt (by omega)]; exact hI.old b hb
          · rw [← HOE.out]
            exact ⟨gk,fun a z hz=>⟨by rw [gput_ne (by have:=(hI.kk a z hz).2.2.2.1; omega)]; exact (hI.kk a z hz).1,by have:=(hI.kk a z hz).2.2.2.1; omega,by have:=(hI.kk a z hz).2.2.2.2; omega⟩,HX.out⟩
    · obtain ⟨r,r0,cx,rfl,hA0,hA1,hA,hrl,htk,hdr,hrep0,hx⟩:=hI.rt.last
      obtain ⟨op2,k2,sv2,rfl,h2c⟩:=repN_one hx
      have h2a:allOne [.lit (.int .u8 op2),.lit (.int .i64 k2),sv2]=true:=by simp [h2c]
      have hpos:(0:Int) < (ts'.length:Int)+1:=by omega
      have HX:=Hide.mk hx
      have hR:=hI.r
      have hlt14:ts'.length < 14:=by simp at hl1 hl2; omega
      clear htk hrep0 hx hlT
      rcases hexit with h1 | ⟨h1,h2⟩
      all_goals
        iterate 6 (all_goals try (first | with_reducible refine splitI (fun h=>?_) (fun h=>?_) | with_reducible refine splitBI (fun h=>?_) (fun h=>?_) | simp (config:={ maxSteps:=1000000 }) (disch:=first | assumption | omega | (simp; done) | fail) [Tryd.results10, *]))
      all_goals
        refine ⟨_,_,_,⟨rfl,rfl,rfl⟩,by omega,fun b hb=>?_,?_⟩
        · rw [gput_lt (by omega)]; exact hI.old b hb
        · rw [← HOE.out]
          exact ⟨gk,fun a z hz=>⟨by rw [gput_ne (by have:=(hI.kk a z hz).2.2.2.1; omega)]; exact (hI.kk a z hz).1,by have:=(hI.kk a z hz).2.2.2.1; omega,by have:=(hI.kk a z hz).2.2.2.2; omega⟩,HX.out⟩
theorem of_w (codes:List Nat) (nums:List Int) (g:Nat→Option Blk) (n:Nat) (cv nv:AV) (hc:SliceA g n cv codes.length (u8Cells codes)) (hcb:∀ c∈codes,c < 256) (hnv:SliceA g n nv nums.length (i32Cells nums))
    (hnb:∀ c∈nums,-2147483648≤c∧c≤2147483647) (hl1:oneC cv=true) (hl2:oneC nv=true) :
    WC 6 Tryd.prog 10 [.agg [cv,nv]] ⟨.fn g,n⟩ fun r=>∃ cs g' n',r=.ret (.agg cs) ⟨.fn g',n'⟩∧n≤n'∧(∀ b,b < n→g' b=g b)∧repN g' n' (ofM codes nums) cs:=by
  refine WC.mono (of_w2 codes nums g n cv nv hc hcb hnv hnb hl1 hl2) ?_
  rintro r ⟨cs,g',n',h1,h2,h3,gk,h4,h5⟩
  exact ⟨cs,g',n',h1,h2,h3,repN_ext (Nat.le_refl _) (fun a z _ hz=>(h4 a z hz).1) h5⟩
end Go.Ai
end
