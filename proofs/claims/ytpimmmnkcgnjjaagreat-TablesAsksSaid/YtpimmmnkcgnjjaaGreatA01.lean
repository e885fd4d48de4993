/- Parts of an interpreter and of a proof. No condition. -/
import GoSem.Dispatch
import Derived.Calls
import Derived.Below
import Derived.Wp
import Derived.Laws.Sem
import Derived.Laws.Cells
import Derived.Laws.Entries
import Derived.Orders
set_option linter.all false
open Go.RowKit (Below)
namespace Go.Ai
abbrev Xp:=@Nat.mod_lt
abbrev e6y:=@List.length_pos_of_mem
abbrev Xg:=@List.length_singleton
abbrev e6t:=@List.getElem?_set_ne
abbrev e6p:=@List.getElem_of_mem
abbrev e6u:=@Nat.zero_add
abbrev e6d:=@Array.getElem?_eq_some_iff
abbrev e7f:=@List.flatMap_cons
abbrev e8k:=@List.getElem?_of_mem
abbrev e6e:=@List.mem_of_getElem?
abbrev e7l:=@Nat.le_succ_of_le
abbrev e8l:=@Nat.ble_eq
abbrev e7y:=@List.length_pos_iff
abbrev e7q:=@List.set_cons_zero
abbrev e6q:=@List.mem_filter
abbrev e8m:=@List.set_eq_take_append_cons_drop
abbrev e5y:=@List.mem_iff_getElem
abbrev e7r:=@List.drop_zero
abbrev e8z:=@List.range_succ
abbrev e9a:=@Bool.not_eq_true'
abbrev e9b:=@Bool.and_eq_false_iff
abbrev e7a:=@List.getElem?_eq_none
abbrev e6k:=@List.getElem_map
abbrev Xm:=@Nat.lt_of_lt_of_le
abbrev e7m:=@List.replicate_succ
abbrev Xb:=@List.mem_cons
abbrev e8n:=@Nat.mod_eq_of_lt
abbrev e9c:=@Nat.lt_trichotomy
abbrev e6n:=@Bool.false_and
abbrev e9d:=@Nat.mul_le_mul_right
abbrev e5x:=@Nat.mul_le_mul
abbrev e9e:=@List.map_map
abbrev e7n:=@Nat.add_assoc
abbrev e6o:=@List.mem_cons_of_mem
abbrev e8o:=@Bool.true_or
abbrev Xi:=@List.take_of_length_le
abbrev e8p:=@Int.lt_trichotomy
abbrev W7:=@List.all_eq_true
abbrev e8q:=@Nat.lt_succ_self
abbrev Xr:=@Nat.le_of_lt
abbrev e7s:=@Nat.lt_succ_of_lt
abbrev e7b:=@List.take_succ
abbrev e8r:=@List.flatten_cons
abbrev Xs:=@List.getElem?_append_left
abbrev e6h:=@Nat.sub_self
abbrev e7t:=@Bool.true_and
abbrev e8s:=@Option.map_some
abbrev e9f:=@List.mem_of_mem_drop
abbrev W6:=@List.getElem?_eq_getElem
abbrev Xh:=@List.mem_singleton
abbrev e6i:=@Int.toNat_natCast
abbrev Xk:=@List.length_cons
abbrev e7z:=@Array.getElem?_toList
abbrev Xc:=@List.mem_map
abbrev e6f:=@List.getElem_append_left
abbrev e7u:=@Int.ofNat_tmod
abbrev e8t:=@Bool.or_eq_true
abbrev e8u:=@List.getElem?_drop
abbrev e9g:=@List.length_range
abbrev e5z:=@Nat.min_eq_left
abbrev Wy:=@Nat.le_refl
abbrev e8a:=@List.mem_range
abbrev e7v:=@Bool.or_false
abbrev e8b:=@List.mem_or_eq_of_mem_set
abbrev e7g:=@List.drop_eq_nil_iff
abbrev W4:=@List.length_take
abbrev Wz:=@Nat.le_of_ble_eq_true
abbrev W5:=@Nat.le_succ
abbrev e9h:=@List.mem_cons_self
abbrev e8v:=@Bool.false_or
abbrev W9:=@List.mem_append
abbrev e6v:=@List.map_cons
abbrev W8:=@List.getElem?_eq_some_iff
abbrev W1:=@Bool.and_eq_true
abbrev e8c:=@Nat.succ_mul
abbrev e7h:=@Bool.and_false
abbrev e9i:=@List.flatMap_append
abbrev Xq:=@List.getElem?_append_right
abbrev Xd:=@List.drop_eq_getElem_cons
abbrev e9j:=@Bool.false_eq_true
abbrev e7c:=@List.getElem_append_right
abbrev e7o:=@List.map_congr_left
abbrev e6l:=@List.mem_of_mem_take
abbrev e6a:=@Option.map_eq_some_iff
abbrev e6j:=@List.length_eq_zero_iff
abbrev W2:=@List.getElem_mem
abbrev W0:=@List.length_append
abbrev e7d:=@List.take_append_drop
abbrev e8d:=@List.map_singleton
abbrev e9k:=@List.ext_getElem
abbrev e8e:=@List.all_cons
abbrev e6b:=@List.append_nil
abbrev e7w:=@List.length_reverse
abbrev e7e:=@List.drop_length
abbrev e6r:=@List.getElem?_map
abbrev e9l:=@Array.extract_size
abbrev e9m:=@List.reverse_append
abbrev e7p:=@List.getElem?_set_self
abbrev e8f:=@List.dropLast_concat_getLast
abbrev e9n:=@Nat.mul_comm
abbrev W3:=@Nat.zero_le
abbrev e6z:=@Nat.lt_or_ge
abbrev e9o:=@Option.bind_eq_some_iff
abbrev e6w:=@List.take_succ_eq_append_getElem
abbrev Xe:=@Nat.eq_of_beq_eq_true
abbrev Xj:=@Nat.mul_one
abbrev e8w:=@List.all_eq_false
abbrev e8x:=@List.drop_drop
abbrev Xl:=@List.length_map
abbrev e6x:=@List.mem_flatMap
abbrev e8y:=@List.cons_append
abbrev e7i:=@List.getElem_take
abbrev e8g:=@Nat.beq_refl
abbrev e6m:=@List.map_append
abbrev Xa:=@Nat.le_trans
abbrev Xn:=@List.take_length
abbrev e8h:=@Nat.le_add_right
abbrev Xf:=@List.length_set
abbrev e6g:=@Nat.add_mul
abbrev e6s:=@Nat.ble_eq_true_of_le
abbrev Xo:=@List.getD_eq_getElem?_getD
abbrev Xt:=@List.drop_eq_nil_of_le
abbrev e9p:=@Bool.or_true
abbrev e8i:=@List.ext_getElem?
abbrev e7j:=@List.getElem?_take
abbrev e7k:=@List.set_append_right
abbrev e6c:=@List.append_assoc
abbrev e7x:=@Bool.and_true
abbrev e8j:=@Nat.add_comm
inductive AV where
 | lit (v:Value)
 | ptr (a off:Nat)
 | sl (a off len cap:Nat)
 | slq (a off len d:Nat)
 | es
 | map (a:Nat)
 | func (fn:Fn) (first cap:List AV)
 | iface (t:TypeId) (v:AV)
 | agg (l:List AV)
 | tup (l:List AV)
 deriving Inhabited
inductive Dg where
 | d0|d1|d2|d3|d4|d5|d6|d7|d8|d9|d10|d11|d12|d13|d14|d15
structure N (α:Type) where
 mk::(c0 c1 c2 c3 c4 c5 c6 c7 c8 c9 c10 c11 c12 c13 c14 c15:α)
inductive Lf (α:Type) where
 | e
 | v (k:Nat) (x:α)
def gN0{α:Type}(x:N α):α:=x.c0
def gN1{α:Type}(x:N α):α:=x.c1
def gN2{α:Type}(x:N α):α:=x.c2
def gN3{α:Type}(x:N α):α:=x.c3
def gN4{α:Type}(x:N α):α:=x.c4
def gN5{α:Type}(x:N α):α:=x.c5
def gN6{α:Type}(x:N α):α:=x.c6
def gN7{α:Type}(x:N α):α:=x.c7
def gN8{α:Type}(x:N α):α:=x.c8
def gN9{α:Type}(x:N α):α:=x.c9
def b7r{α:Type}(x:N α):α:=x.c10
def b7s{α:Type}(x:N α):α:=x.c11
def b7t{α:Type}(x:N α):α:=x.c12
def b7u{α:Type}(x:N α):α:=x.c13
def b7v{α:Type}(x:N α):α:=x.c14
def b7w{α:Type}(x:N α):α:=x.c15
def sN0{α β:Type}(c0 c1 c2 c3 c4 c5 c6 c7 c8 c9 c10 c11 c12 c13 c14 c15 v:α)(K:N α->β):β:=K (.mk v c1 c2 c3 c4 c5 c6 c7 c8 c9 c10 c11 c12 c13 c14 c15)
def sN1{α β:Type}(c0 c1 c2 c3 c4 c5 c6 c7 c8 c9 c10 c11 c12 c13 c14 c15 v:α)(K:N α->β):β:=K (.mk c0 v c2 c3 c4 c5 c6 c7 c8 c9 c10 c11 c12 c13 c14 c15)
def sN2{α β:Type}(c0 c1 c2 c3 c4 c5 c6 c7 c8 c9 c10 c11 c12 c13 c14 c15 v:α)(K:N α->β):β:=K (.mk c0 c1 v c3 c4 c5 c6 c7 c8 c9 c10 c11 c12 c13 c14 c15)
def sN3{α β:Type}(c0 c1 c2 c3 c4 c5 c6 c7 c8 c9 c10 c11 c12 c13 c14 c15 v:α)(K:N α->β):β:=K (.mk c0 c1 c2 v c4 c5 c6 c7 c8 c9 c10 c11 c12 c13 c14 c15)
def sN4{α β:Type}(c0 c1 c2 c3 c4 c5 c6 c7 c8 c9 c10 c11 c12 c13 c14 c15 v:α)(K:N α->β):β:=K (.mk c0 c1 c2 c3 v c5 c6 c7 c8 c9 c10 c11 c12 c13 c14 c15)
def sN5{α β:Type}(c0 c1 c2 c3 c4 c5 c6 c7 c8 c9 c10 c11 c12 c13 c14 c15 v:α)(K:N α->β):β:=K (.mk c0 c1 c2 c3 c4 v c6 c7 c8 c9 c10 c11 c12 c13 c14 c15)
def sN6{α β:Type}(c0 c1 c2 c3 c4 c5 c6 c7 c8 c9 c10 c11 c12 c13 c14 c15 v:α)(K:N α->β):β:=K (.mk c0 c1 c2 c3 c4 c5 v c7 c8 c9 c10 c11 c12 c13 c14 c15)
def sN7{α β:Type}(c0 c1 c2 c3 c4 c5 c6 c7 c8 c9 c10 c11 c12 c13 c14 c15 v:α)(K:N α->β):β:=K (.mk c0 c1 c2 c3 c4 c5 c6 v c8 c9 c10 c11 c12 c13 c14 c15)
def sN8{α β:Type}(c0 c1 c2 c3 c4 c5 c6 c7 c8 c9 c10 c11 c12 c13 c14 c15 v:α)(K:N α->β):β:=K (.mk c0 c1 c2 c3 c4 c5 c6 c7 v c9 c10 c11 c12 c13 c14 c15)
def sN9{α β:Type}(c0 c1 c2 c3 c4 c5 c6 c7 c8 c9 c10 c11 c12 c13 c14 c15 v:α)(K:N α->β):β:=K (.mk c0 c1 c2 c3 c4 c5 c6 c7 c8 v c10 c11 c12 c13 c14 c15)
def b7x{α β:Type}(c0 c1 c2 c3 c4 c5 c6 c7 c8 c9 c10 c11 c12 c13 c14 c15 v:α)(K:N α->β):β:=K (.mk c0 c1 c2 c3 c4 c5 c6 c7 c8 c9 v c11 c12 c13 c14 c15)
def b7y{α β:Type}(c0 c1 c2 c3 c4 c5 c6 c7 c8 c9 c10 c11 c12 c13 c14 c15 v:α)(K:N α->β):β:=K (.mk c0 c1 c2 c3 c4 c5 c6 c7 c8 c9 c10 v c12 c13 c14 c15)
def b7z{α β:Type}(c0 c1 c2 c3 c4 c5 c6 c7 c8 c9 c10 c11 c12 c13 c14 c15 v:α)(K:N α->β):β:=K (.mk c0 c1 c2 c3 c4 c5 c6 c7 c8 c9 c10 c11 v c13 c14 c15)
def b8a{α β:Type}(c0 c1 c2 c3 c4 c5 c6 c7 c8 c9 c10 c11 c12 c13 c14 c15 v:α)(K:N α->β):β:=K (.mk c0 c1 c2 c3 c4 c5 c6 c7 c8 c9 c10 c11 c12 v c14 c15)
def b8b{α β:Type}(c0 c1 c2 c3 c4 c5 c6 c7 c8 c9 c10 c11 c12 c13 c14 c15 v:α)(K:N α->β):β:=K (.mk c0 c1 c2 c3 c4 c5 c6 c7 c8 c9 c10 c11 c12 c13 v c15)
def b8c{α β:Type}(c0 c1 c2 c3 c4 c5 c6 c7 c8 c9 c10 c11 c12 c13 c14 c15 v:α)(K:N α->β):β:=K (.mk c0 c1 c2 c3 c4 c5 c6 c7 c8 c9 c10 c11 c12 c13 c14 v)
noncomputable def gN{α:Type}:Dg->N α->α:=Dg.rec (motive:=λ_=>N α->α) gN0 gN1 gN2 gN3 gN4 gN5 gN6 gN7 gN8 gN9 b7r b7s b7t b7u b7v b7w
noncomputable def sF{α β:Type}:Dg->(α->α->α->α->α->α->α->α->α->α->α->α->α->α->α->α->α->(N α->β)->β):=
 Dg.rec (motive:=λ_=>α->α->α->α->α->α->α->α->α->α->α->α->α->α->α->α->α->(N α->β)->β) sN0 sN1 sN2 sN3 sN4 sN5 sN6 sN7 sN8 sN9 b7x b7y b7z b8a b8b b8c
noncomputable def sN{α β:Type}(d:Dg)(x:N α)(v:α)(K:N α->β):β:=N.rec (motive:=λ_=>α->(N α->β)->β) (sF d) x v K
def nN{α:Type}(x:α):N α:=.mk x x x x x x x x x x x x x x x x
def dig(n:Nat):Dg:=match n with
 | 0=>.d0
 | 1=>.d1
 | 2=>.d2
 | 3=>.d3
 | 4=>.d4
 | 5=>.d5
 | 6=>.d6
 | 7=>.d7
 | 8=>.d8
 | 9=>.d9
 | 10=>.d10
 | 11=>.d11
 | 12=>.d12
 | 13=>.d13
 | 14=>.d14
 | _=>.d15
def d0(k:Nat):Dg:=dig (Nat.mod k 16)
def d1(k:Nat):Dg:=dig (Nat.mod (Nat.div k 16) 16)
def d2(k:Nat):Dg:=dig (Nat.mod (Nat.div k 256) 16)
def d3(k:Nat):Dg:=dig (Nat.mod (Nat.div k 4096) 16)
noncomputable def M9{α:Type}(k:Nat)(x:Lf α):Option α:=
 Lf.rec (motive:=λ_=>Option α) none (λj x=>Bool.rec (motive:=λ_=>Option α) none (some x) (Nat.beq j k)) x
abbrev T2(α:Type):=N (N (Lf α))
abbrev T3(α:Type):=N (T2 α)
abbrev T4(α:Type):=N (T3 α)
def e2{α:Type}:T2 α:=nN (nN .e)
def e3{α:Type}:T3 α:=nN e2
def e4{α:Type}:T4 α:=nN e3
noncomputable def Cq{α:Type}(t:T2 α)(k:Nat):Option α:=M9 k (gN (d1 k) (gN (d0 k) t))
noncomputable def Ia{α:Type}(t:T3 α)(k:Nat):Option α:=M9 k (gN (d2 k) (gN (d1 k) (gN (d0 k) t)))
noncomputable def E2{α:Type}(t:T4 α)(k:Nat):Option α:=M9 k (gN (d3 k) (gN (d2 k) (gN (d1 k) (gN (d0 k) t))))
noncomputable def Sq{α β:Type}(t:T2 α)(k:Nat)(x:Lf α)(K:T2 α->β):β:=
 sN (d1 k) (gN (d0 k) t) x λa=>sN (d0 k) t a K
noncomputable def Wf{α β:Type}(t:T3 α)(k:Nat)(x:Lf α)(K:T3 α->β):β:=
 sN (d2 k) (gN (d1 k) (gN (d0 k) t)) x λa=>sN (d1 k) (gN (d0 k) t) a λa=>sN (d0 k) t a K
noncomputable def P3{α β:Type}(t:T4 α)(k:Nat)(x:Lf α)(K:T4 α->β):β:=
 sN (d3 k) (gN (d2 k) (gN (d1 k) (gN (d0 k) t))) x λa=>sN (d2 k) (gN (d1 k) (gN (d0 k) t)) a λa=>sN (d1 k) (gN (d0 k) t) a λa=>sN (d0 k) t a K
inductive Blk where
 | cells (l:List AV) (own:Bool) (z:Nat)
 | map (es:List (AV×AV×Nat)) (clock:Nat)
 | siter (s:ByteArray) (pos:Nat)
 | typ (T:TypeId) (l:List AV) (ex:Bool)
inductive Cu where
 | tr (t:T4 Blk)
 | fn (g:Nat->Option Blk)
structure Mem where
 t:Cu
 next:Nat
def Ak (g:Nat->Option Blk) (a:Nat) (x:Option Blk) : Nat->Option Blk:=fun j=>if j=a then x else g j
noncomputable def Ff{β:Type}(n:Nat)(K:Nat->β):β:=Nat.rec (K 0) (λm _=>K (Nat.succ m)) n
noncomputable def Na{β:Type}(n:Int)(K:Int->β):β:=Int.rec (λm=>Ff m λm=>K (.ofNat m)) (λm=>Ff m λm=>K (.negSucc m)) n
noncomputable def b8d (t:Cu) (a:Nat) : Option Blk:=Cu.rec (motive:=fun _=>Nat->Option Blk) E2 (fun g a=>g a) t a
noncomputable def Mem.get (H:Mem) (a:Nat) : Option Blk:=Mem.rec (motive:=fun _=>Nat->Option Blk) (fun t _ a=>b8d t a) H a
noncomputable def Wg{β:Type}(t:T4 Blk)(a:Nat)(b:Blk)(K:Cu->β):β:=P3 t a (.v a b) λt=>K (.tr t)
noncomputable def Wh {β:Type} (g:Nat->Option Blk) (a:Nat) (b:Blk) (K:Cu->β) : β:=K (.fn (Ak g a (some b)))
noncomputable def a6e{β:Type}(t:T4 Blk)(a:Nat)(K:Cu->β):β:=P3 t a .e λt=>K (.tr t)
noncomputable def a6f {β:Type} (g:Nat->Option Blk) (a:Nat) (K:Cu->β) : β:=K (.fn (Ak g a none))
noncomputable def Sr{β:Type}(t:Cu)(a:Nat)(b:Blk)(K:Cu->β):β:=Cu.rec (motive:=λ_=>Nat->Blk->(Cu->β)->β) Wg Wh t a b K
noncomputable def a6g{β:Type}(t:Cu)(a:Nat)(K:Cu->β):β:=Cu.rec (motive:=λ_=>Nat->(Cu->β)->β) a6e a6f t a K
noncomputable def a6h{β:Type}(t:Cu)(n:Nat)(b:Blk)(K:Mem->β):β:=Sr t n b λt=>Ff (Nat.succ n) λn=>K ⟨t,n⟩
noncomputable def a6i{β:Type}(t:Cu)(n a:Nat)(b:Blk)(K:Mem->β):β:=Sr t a b λt=>K ⟨t,n⟩
noncomputable def a6j{β:Type}(t:Cu)(n a:Nat)(K:Mem->β):β:=a6g t a λt=>K ⟨t,n⟩
noncomputable def Mem.newK{β:Type}(H:Mem)(b:Blk)(K:Mem->β):β:=Mem.rec (motive:=λ_=>Blk->(Mem->β)->β) a6h H b K
noncomputable def Mem.setK{β:Type}(H:Mem)(a:Nat)(b:Blk)(K:Mem->β):β:=Mem.rec (motive:=λ_=>Nat->Blk->(Mem->β)->β) a6i H a b K
noncomputable def Mem.delK{β:Type}(H:Mem)(a:Nat)(K:Mem->β):β:=Mem.rec (motive:=λ_=>Nat->(Mem->β)->β) a6j H a K
def Ar{α:Type}(P:Program):Sem α->Option α
 | .pure a=>some a
 | .program k=>Ar P (k P)
 | .mark _ k=>Ar P k
 | .choose q k=>if q.forced then Ar P (k 0) else none
 | _=>none
def cellsOf:AV->List AV
 | .lit (.agg cs)=>cs.toList.map .lit
 | .agg l=>l
 | v=>[v]
def asAggL:AV->Option (List AV)
 | .lit (.agg cs)=>some (cs.toList.map .lit)
 | .agg l=>some l
 | _=>none
def litAll:List AV->Option (List Value)
 | []=>some []
 | .lit v::l=>match litAll l with|some vs=>some (v::vs)|none=>none
 | _::_=>none
def Bw(P:Program)(t:TypeId):Option (Bool×Nat):=
 match P.underlying t,P.info? t with
 | some d,some i=>some (match d with|.struct _|.array _ _=>true|_=>false,i.size)
 | _,_=>none
noncomputable def nth{α:Type}(l:List α)(i:Nat):Option α:=
 List.rec (motive:=λ_=>Nat->Option α) (λ_=>none) (λx _ ih i=>Nat.rec (motive:=λ_=>Option α) (some x) (λj _=>ih j) i) l i
noncomputable def Wi{α β:Type}(z:β)(n:Nat)(l:List α)(K:List α->β):β:=
 Nat.rec (motive:=λ_=>List α->(List α->β)->β) (λ_ K=>K [])
  (λ_ ih l K=>List.rec (motive:=λ_=>β) z (λx l _=>ih l λr=>K (x::r)) l) n l K
noncomputable def Wj{α β:Type}(z:β)(n:Nat)(l:List α)(K:List α->β):β:=
 Nat.rec (motive:=λ_=>List α->(List α->β)->β) (λl K=>K l)
  (λ_ ih l K=>List.rec (motive:=λ_=>β) z (λ_ l _=>ih l K) l) n l K
noncomputable def La{α β:Type}(l:List α)(n off:Nat)(z:β)(K:List α->β):β:=Wj z off l λl=>Wi z n l K
noncomputable def Ss{α β:Type}(a b:List α)(K:List α->β):β:=
 List.rec (motive:=λ_=>(List α->β)->β) (λK=>K b) (λx _ ih K=>ih λr=>K (x::r)) a K
noncomputable def Su{α β:Type}(z:β)(new l:List α)(K:List α->β):β:=
 List.rec (motive:=λ_=>List α->(List α->β)->β) (λl K=>K l)
  (λx _ ih l K=>List.rec (motive:=λ_=>β) z (λ_ l _=>ih l λr=>K (x::r)) l) new l K
noncomputable def Lb{α β:Type}(z:β)(l:List α)(off:Nat)(new:List α)(K:List α->β):β:=
 Nat.rec (motive:=λ_=>List α->(List α->β)->β) (λl K=>Su z new l K)
  (λ_ ih l K=>List.rec (motive:=λ_=>β) z (λx l _=>ih l λr=>K (x::r)) l) off l K
noncomputable def len{α:Type}(l:List α):Nat:=List.rec (motive:=λ_=>Nat->Nat) (λn=>n) (λ_ _ ih n=>Ff (Nat.succ n) ih) l 0
def toLit:AV->Option Value
 | .lit v=>some v
 | .agg l=>match litAll l with|some vs=>some (.agg vs.toArray)|none=>none
 | .tup l=>match litAll l with|some vs=>some (.tuple vs.toArray)|none=>none
 | .iface t (.lit v)=>some (.iface t v)
 | .func f a b=>match litAll a,litAll b with|some x,some y=>some (.func f x.toArray y.toArray)|_,_=>none
 | _=>none
inductive R where
 | val (v:AV) (H:Mem)
 | skip (H:Mem)
 | enter (f:FuncId) (args:List AV) (H:Mem)
 | dfr (fn:Fn) (cap args:List AV) (H:Mem)
 | recover
 | panic (v:AV) (H:Mem)
 | bad
noncomputable def ofOpt(H:Mem):Option AV->R
 | some v=>.val v H
 | none=>.bad
def oneC:AV->Bool
 | .lit (.agg _)=>false
 | .lit (.tuple _)=>false
 | .agg _=>false
 | .tup _=>false
 | _=>true
def allOne:List AV->Bool
 | []=>true
 | v::l=>match oneC v with|true=>allOne l|false=>false
abbrev Ev:=Operand->Option AV
noncomputable def Bj(ev:Ev):List Operand->Option (List AV)
 | []=>some []
 | x::l=>match ev x with
  | some v=>match Bj ev l with|some vs=>some (v::vs)|none=>none
  | none=>none
noncomputable def A7(P:Program)(ev:Ev)(o:Oper):Option AV:=
 let ρ:Operand->Value:=λx=>match ev x with|some v=>(match toLit v with|some u=>u|none=>undef)|none=>undef
 if o.op.operands.toList.all λx=>match ev x with|some v=>(match toLit v with|some _=>true|none=>false)|none=>false then
  match Ar P (execOp ρ o) with
  | some (.value v)=>some (.lit v)
  | _=>none
 else none
noncomputable def J7(place:Nat->Option (Nat×Nat))(cells:List AV):List (Nat×AV)->Option (List AV)
 | []=>some cells
 | (i,v)::rest=>match place i with
  | some (off,size)=>match Nat.beq (len (cellsOf v)) size with
   | true=>Lb none cells off (cellsOf v) λcells=>J7 place cells rest
   | false=>none
  | none=>none
noncomputable def Cb(P:Program)(t:TypeId):Option (List AV):=
 match P.info? t with
 | some i=>match i.zero with
  | some z=>some (z.cells.toList.map .lit)
  | none=>none
 | none=>none
noncomputable def rep(l:List AV):Nat->List AV
 | 0=>[]
 | n+1=>l++rep l n
noncomputable def Dq(H:Mem)(l:List AV)(own:Bool)(v:AV):R:=H.newK (.cells l own 0) λH=>.val v H
noncomputable def C1(ev:Ev):List (Nat×Operand)->Option (List (Nat×AV))
 | []=>some []
 | (i,x)::l=>match ev x with
  | some v=>match C1 ev l with|some vs=>some ((i,v)::vs)|none=>none
  | none=>none
noncomputable def a6k(P:Program)(fs:List Field):Option (List (Nat×Nat)):=fs.mapM λf=>(P.info? f.type).map λi=>(f.offset,i.size)
noncomputable def Nb(l:Option (List AV)):Option AV:=match l with|some l=>some (.agg l)|none=>none
noncomputable def build(P:Program)(t:TypeId)(parts:List (Nat×AV)):Option AV:=
 match Cb P t,P.underlying t with
 | some zero,some (.struct fields)=>match a6k P fields.toList with
  | some pl=>Nb (J7 (nth pl) zero parts)
  | none=>none
 | some zero,some (.array _ elem)=>match P.info? elem with
  | some j=>Nb (J7 (λi=>some (i*j.size,j.size)) zero parts)
  | none=>none
 | _,_=>none
noncomputable def A5(k:Option (Bool×Nat))(b:Option Blk)(off:Nat):Option AV:=
 match b,k with
 | some (.cells l _ _),some (true,size)=>La l size off none λl=>some (.agg l)
 | some (.cells l _ _),some (false,_)=>nth l off
 | _,_=>none
noncomputable def load(P:Program)(H:Mem)(t:TypeId)(p:AV):Option AV:=
 match p with
 | .ptr a off=>A5 (Bw P t) (H.get a) off
 | .lit (.pointer (some ⟨g,off,none⟩))=>match Nat.blt g P.globals.size with
  | true=>A5 (Bw P t) (H.get g) off
  | false=>none
 | _=>none
noncomputable def store(P:Program)(H:Mem)(t:TypeId)(p v:AV):Option Mem:=
 match p with
 | .ptr a off=>match H.get a,Bw P t with
  | some (.cells l true z),some (_,size)=>match Nat.beq (len (cellsOf v)) size&&allOne (cellsOf v) with
   | true=>Lb none l off (cellsOf v) λl=>H.setK a (.cells l true z) some
   | false=>none
  | _,_=>none
 | _=>none
noncomputable def Ft(P:Program)(t:TypeId):Option (TypeId×Nat×Nat):=
 match P.underlying t with
 | some (.slice e)=>match P.info? e with
  | some i=>match i.zero with
   | some z=>match Nat.beq z.cells.size i.size with|true=>some (e,i.size,i.bytes)|false=>none
   | none=>none
  | none=>none
 | _=>none
noncomputable def natOf:AV->Option Nat
 | .lit (.int _ (.ofNat n))=>some n
 | _=>none
noncomputable def I3(v:Option AV)(d:Nat):Option Nat:=
 match v with
 | some v=>natOf v
 | none=>some d
noncomputable def Oi(hi mx:Option AV):Bool:=match mx,hi with|some _,none=>false|_,_=>true
noncomputable def Dh(lo hi mx:Option AV)(n c:Nat):Option (Nat×Nat×Nat):=
 match I3 lo 0,I3 hi n,I3 mx c,Oi hi mx with
 | some l,some h,some m,true=>match Nat.ble l h&&Nat.ble h m&&Nat.ble m c with|true=>some (l,h,m)|false=>none
 | _,_,_,_=>none
noncomputable def I4(size a off:Nat)(q:Option (Nat×Nat×Nat)):Option AV:=
 match q with
 | some (l,h,m)=>match Nat.beq m l with
  | true=>some (.sl a off 0 0)
  | false=>Ff (off+l*size) λx=>Ff (h-l) λy=>Ff (m-l) λz=>some (.sl a x y z)
 | none=>none
noncomputable def Sv(size a off n d:Nat)(q:Option (Nat×Nat×Nat)):Option AV:=
 match q with
 | some (l,h,_)=>match Nat.blt l n with
  | true=>Ff (off+l*size) λx=>Ff (h-l) λy=>Ff (d+l) λz=>some (.slq a x y z)
  | false=>some .es
 | none=>none
noncomputable def I5(size:Nat)(lo hi mx:Option AV):AV->Option AV
 | .sl a off n c=>I4 size a off (Dh lo hi mx n c)
 | .slq a off n d=>match mx with
  | none=>Sv size a off n d (Dh lo hi none n n)
  | some m=>I4 size a off (Dh lo hi (some m) n n)
 | .es=>match Dh lo hi mx 0 0 with|some _=>some .es|none=>none
 | _=>none
noncomputable def Sw(P:Program)(t:TypeId)(x:AV)(lo hi mx:Option AV):Option AV:=
 match P.underlying t with
 | some (.slice e)=>match P.info? e with
  | some i=>I5 i.size lo hi mx x
  | none=>none
 | some (.pointer arr)=>match P.underlying arr,x with
  | some (.array n e),.ptr a off=>match P.info? e with
   | some i=>I4 i.size a off (Dh lo hi mx n n)
   | none=>none
  | _,_=>none
 | some (.array n e)=>match P.info? e,x with
  | some i,.ptr a off=>I4 i.size a off (Dh lo hi mx n n)
  | _,_=>none
 | _=>none
noncomputable def fieldAddr(P:Program)(s:TypeId)(x:AV)(f:Nat):Option AV:=
 match P.underlying s,x with
 | some (.struct fields),.ptr a off=>match fields[f]? with
  | some fd=>match P.info? fd.type with
   | some i=>match Nat.beq i.size 0 with|true=>none|false=>Ff (off+fd.offset) λq=>some (.ptr a q)
   | none=>none
  | none=>none
 | _,_=>none
noncomputable def Sx(P:Program)(t:TypeId)(cs:List AV)(off:Nat):Option AV:=
 match Bw P t with
 | some (true,size)=>match Nat.ble (off+size) cs.length with|true=>some (.agg ((cs.drop off).take size))|false=>none
 | some (false,_)=>cs[off]?
 | none=>none
noncomputable def field(P:Program)(t:TypeId)(x:AV)(f:Nat):Option AV:=
 match P.underlying t,asAggL x with
 | some (.struct fields),some cs=>match fields[f]? with
  | some fd=>Sx P fd.type cs fd.offset
  | none=>none
 | _,_=>none
noncomputable def indexAddr(P:Program)(t:TypeId)(x i:AV):Option AV:=
 match P.underlying t,x,natOf i with
 | some (.slice e),.sl a off len _,some k=>match P.info? e with|some j=>(match Nat.blt k len with|true=>Ff (off+k*j.size) λq=>some (.ptr a q)|false=>none)|none=>none
 | some (.slice e),.slq a off len _,some k=>match P.info? e with|some j=>(match Nat.blt k len with|true=>Ff (off+k*j.size) λq=>some (.ptr a q)|false=>none)|none=>none
 | some (.array n e),.ptr a off,some k=>match P.info? e with|some j=>(match Nat.blt k n with|true=>Ff (off+k*j.size) λq=>some (.ptr a q)|false=>none)|none=>none
 | _,_,_=>none
noncomputable def index(P:Program)(t:TypeId)(x i:AV):Option AV:=
 match P.underlying t,asAggL x,natOf i with
 | some (.array n e),some cs,some k=>match P.info? e with|some j=>if k<n then Sx P e cs (k*j.size) else none|none=>none
 | _,_,_=>none
noncomputable def nilKind:AV->Option (Nat×Bool)
 | .ptr _ _=>some (1,false)
 | .lit (.pointer none)=>some (1,true)
 | .sl _ _ _ _=>some (2,false)
 | .slq _ _ _ _=>some (2,false)
 | .es=>some (2,false)
 | .lit (.slice none _ _)=>some (2,true)
 | .map _=>some (3,false)
 | .lit (.map none)=>some (3,true)
 | .func _ _ _=>some (4,false)
 | .lit .nilFunc=>some (4,true)
 | .iface _ _=>some (5,false)
 | .lit .nilIface=>some (5,true)
 | _=>none
noncomputable def descKind:Option TypeDesc->Nat
 | some (.pointer _)=>1
 | some (.slice _)=>2
 | some (.map _ _)=>3
 | some (.func _ _ _)=>4
 | some (.interface _)=>5
 | _=>0
noncomputable def Wk(d:Option TypeDesc)(a b:AV):Bool:=
 match nilKind a,nilKind b with
 | some (k,true),some (l,false)=>Nat.beq k l&&Nat.beq k (descKind d)
 | some (k,false),some (l,true)=>Nat.beq k l&&Nat.beq k (descKind d)
 | _,_=>false
noncomputable def lenOf:AV->Option Nat
 | .sl _ _ n _|.slq _ _ n _=>some n
 | .es=>some 0
 | .lit (.slice none n _)=>some n
 | .lit (.string s)=>some s.size
 | _=>none
noncomputable def Cv(H:Mem)(size n:Nat):AV->Option (List AV)
 | .sl a off _ _|.slq a off _ _=>match H.get a with|some (.cells l _ _)=>La l (n*size) off none some|_=>none
 | .es=>if n=0 then some [] else none
 | .lit (.slice none _ _)=>some []
 | .lit (.string s)=>some ((s.extract 0 n).data.toList.map λb=>.lit (.int .u8 b.toNat))
 | _=>none
noncomputable def small(need cap bytes:Nat):Bool:=decide (need<=1048576)&&decide (cap<=1048576)&&decide (bytes<=1048576)
noncomputable def Ib(H:Mem)(l:List AV)(n size:Nat):Option (AV×Mem):=H.newK (.cells l true size) λH'=>some (.slq H.next 0 n 0,H')
noncomputable def J8(H:Mem)(a:Nat)(l:List AV)(z off:Nat)(new:List AV)(v:AV):Option (AV×Mem):=
 match allOne new with
 | true=>Lb none l off new λl=>H.setK a (.cells l true z) λH=>some (v,H)
 | false=>none
noncomputable def Sy(H:Mem)(size bytes n:Nat)(new:List AV):Option (AV×Mem):=match small n 0 bytes with|true=>Ib H new n size|false=>none
noncomputable def P4(H:Mem)(size bytes n:Nat)(new:List AV)(a off k cap:Nat):Option (AV×Mem):=
 match Nat.ble (k+n) cap with
 | true=>match H.get a with
  | some (.cells l true z)=>J8 H a l z (off+k*size) new (.sl a off (k+n) cap)
  | _=>none
 | false=>match H.get a,small (k+n) cap bytes with
  | some (.cells l _ _),true=>La l (k*size) off none λold=>Ss old new λl=>Ib H l (k+n) size
  | _,_=>none
noncomputable def Sz(H:Mem)(size bytes n:Nat)(new:List AV)(a off k d:Nat):Option (AV×Mem):=
 match H.get a with
 | some (.cells l true z)=>match Nat.beq z size&&Nat.beq off (d*size),Nat.ble (off+(k+n)*size) (len l),Nat.beq (off+k*size) (len l)&&small (k+n) 0 bytes&&allOne new with
  | true,true,_=>J8 H a l z (off+k*size) new (.slq a off (k+n) d)
  | true,false,true=>La l (k*size) off none λold=>Ss old new λl=>H.delK a λH=>Ib H l (k+n) size
  | _,_,_=>none
 | _=>none
noncomputable def Ed (H:Mem) (size bytes n:Nat) (s:AV) (new:List AV) : Option (AV×Mem) :=
 match Nat.beq (len new) (n*size) with
 | true=>match s with
  | .lit (.slice none 0 0)=>Sy H size bytes n new
  | .sl a off k cap=>P4 H size bytes n new a off k cap
  | .slq a off k d=>Sz H size bytes n new a off k d
  | _=>none
 | false=>none
noncomputable def isSlice:AV->Bool
 | .sl _ _ _ _|.slq _ _ _ _|.lit (.slice none 0 0)=>true
 | _=>false
noncomputable def En(H:Mem)(size bytes:Nat)(s x:AV):Option (AV×Mem):=
 match lenOf x with
 | some 0=>match isSlice s with|true=>some (s,H)|false=>none
 | some n=>match Nat.beq size 0,Cv H size n x with
  | false,some new=>Ed H size bytes n s new
  | _,_=>none
 | none=>none
noncomputable def S0(P:Program)(xType:Option TypeId):Bool:=
 match xType with
 | some t=>match P.underlying t with|some (.slice _)|some .string=>true|_=>false
 | none=>false
noncomputable def Wl(P:Program)(xType:Option TypeId):Bool:=
 match xType with
 | some t=>match P.underlying t with|some (.int _)=>true|_=>false
 | none=>false
noncomputable def Wm(P:Program)(H:Mem)(e:TypeId)(size bytes:Nat)(s x:AV):Option (AV×Mem):=
 match natOf x with
 | some 0=>match isSlice s with|true=>some (s,H)|false=>none
 | some n=>match Nat.beq size 0,Nat.ble n 1048576&&Nat.ble bytes 1048576,Cb P e with
  | false,true,some z=>Ed H size bytes n s (rep z n)
  | _,_,_=>none
 | none=>none
noncomputable def append(P:Program)(H:Mem)(sType:TypeId)(xType:Option TypeId)(s x:AV):Option (AV×Mem):=
 match Ft P sType,S0 P xType with
 | some (_,size,bytes),true=>En H size bytes s x
 | some (e,size,bytes),false=>match Wl P xType with|true=>Wm P H e size bytes s x|false=>none
 | _,_=>none
noncomputable def a6l(H:Mem)(d:AV)(m:Nat)(l:List AV):Option (AV×Mem):=
 match d with
 | .sl a off _ _|.slq a off _ _=>match H.get a with
  | some (.cells c true z)=>J8 H a c z off l (.lit (goInt m))
  | _=>none
 | _=>none
noncomputable def copy(P:Program)(H:Mem)(dType:TypeId)(d s:AV):Option (AV×Mem):=
 match Ft P dType,lenOf s,lenOf d with
 | some (_,size,_),some n,some k =>
  match Nat.min n k with
  | 0=>match isSlice d with|true=>some (.lit (goInt 0),H)|false=>none
  | m=>match Nat.beq size 0,Cv H size m s with
   | false,some l=>a6l H d m l
   | _,_=>none
 | _,_,_=>none
noncomputable def bytesOf:List AV->Option (List UInt8)
 | []=>some []
 | .lit (.int .u8 n)::l=>match bytesOf l with|some r=>some (UInt8.ofNat n.toNat::r)|none=>none
 | _::_=>none
noncomputable def convert(P:Program)(H:Mem)(src dst:TypeId)(x:AV):Option (AV×Mem):=
 match P.underlying src,P.underlying dst,x with
 | some .string,some (.slice e),.lit (.string s)=>match P.underlying e with
  | some (.int .u8)=>if s.size<=1048576 then Ib H (s.data.toList.map λb=>.lit (.int .u8 b.toNat)) s.size 1 else none
  | _=>none
 | some (.slice _),some .string,.lit (.string _)=>none
 | some (.slice e),some .string,x=>match P.underlying e with
  | some (.int .u8)=>match lenOf x with
   | some n=>match Cv H 1 n x with
    | some l=>match bytesOf l with|some b=>some (.lit (.string ⟨b.toArray⟩),H)|none=>none
    | none=>none
   | none=>none
  | _=>none
 | _,_,_=>none
noncomputable def Lc(P:Program)(keyType:TypeId)(k:Value)(es:List (AV×AV×Nat)):Option (Option Nat):=
 match litAll (es.map (·.1)) with
 | some ks=>match Ar P (Instr.findKey keyType k (ks.map λq=>⟨q,undef,0⟩)) with
  | some (some (i,_))=>some (some i)
  | some none=>some none
  | none=>none
 | none=>none
noncomputable def a6m(ok:Bool)(v:AV)(b:Bool):AV:=match ok with|true=>.tup [v,.lit (.bool b)]|false=>v
noncomputable def P5(P:Program)(t:TypeId):Option Value:=
 match P.info? t with
 | some i=>i.zero
 | none=>none
noncomputable def S1(P:Program)(elem:TypeId)(es:List (AV×AV×Nat))(ok:Bool)(i:Option Nat):Option AV:=
 match i with
 | some i=>match nth es i with
  | some (_,v,_)=>some (a6m ok v true)
  | none=>none
 | none=>match P5 P elem with
  | some z=>some (a6m ok (.lit z) false)
  | none=>none
noncomputable def lookup(P:Program)(H:Mem)(t:TypeId)(m k:AV)(ok:Bool):Option AV:=
 match P.underlying t,m,toLit k with
 | some (.map key elem),.map a,some k=>match H.get a with
  | some (.map es _)=>match Ar P (Instr.checkKey es.isEmpty 10000 key k),Lc P key k es with
   | some _,some i=>S1 P elem es ok i
   | _,_=>none
  | _=>none
 | _,_,_=>none
noncomputable def Oj(x:AV×AV):List (AV×AV×Nat)->Nat->List (AV×AV×Nat)
 | [],_=>[]
 | (_,_,b)::r,0=>(x.1,x.2,b)::r
 | e::r,i+1=>e::Oj x r i
noncomputable def S2(es:List (AV×AV×Nat))(clock:Nat)(k:Value)(v:AV)(i:Option Nat):Option Blk:=
 match i with
 | some i=>match nth es i with
  | some (.lit old,_,_)=>match Instr.sameBits 10000 old k with
   | true=>some (.map (Oj (.lit k,v) es i) clock)
   | false=>none
  | _=>none
 | none=>some (.map (es++[(.lit k,v,clock)]) (clock+1))
noncomputable def mapUpdate(P:Program)(H:Mem)(t:TypeId)(m k v:AV):Option Mem:=
 match P.underlying t,m,toLit k with
 | some (.map key _),.map a,some k=>match H.get a with
  | some (.map es clock)=>match Ar P (Instr.checkKey false 10000 key k),Lc P key k es with
   | some _,some i=>match S2 es clock k v i with
    | some b=>H.setK a b some
    | none=>none
   | _,_=>none
  | _=>none
 | _,_,_=>none
noncomputable def typeAssert(P:Program)(x:AV)(asserted:TypeId)(ok:Bool):Option AV:=
 match P.underlying asserted,x with
 | some (.interface want),.iface t _=>match P.info? t with
  | some i=>match Instr.missingMethod want i.methods with
   | none=>some (if ok then .tup [x,.lit (.bool true)] else x)
   | some _=>if ok then (match P.info? asserted with|some j=>(match j.zero with|some z=>some (.tup [.lit z,.lit (.bool false)])|none=>none)|none=>none) else none
  | none=>none
 | some _,.iface t v =>
  if t=asserted then some (if ok then .tup [v,.lit (.bool true)] else v)
  else if ok then (match P.info? asserted with|some j=>(match j.zero with|some z=>some (.tup [.lit z,.lit (.bool false)])|none=>none)|none=>none) else none
 | _,_=>none
noncomputable def Ao(P:Program)(f:FuncId):Bool:=
 match P.funcs[f]? with
 | some fn=>fn.body.isSome&&!(fn.name == "runtime.NumGoroutine")
 | none=>false
noncomputable def ifaceOf:AV->Option (TypeId×AV)
 | .iface t v=>some (t,v)
 | .lit (.iface t v)=>some (t,.lit v)
 | _=>none
noncomputable def P6(d:Option TypeDesc):Option Bool:=match d with
 | some (.pointer _)=>some true
 | some _=>some false
 | none=>none
noncomputable def a6n(d:Option Bool)(m:Method):Option FuncId:=
 match m.path.isEmpty,m.func with
 | true,some (f,pr)=>match d,pr with
  | some true,true=>some f
  | some false,false=>some f
  | _,_=>none
 | _,_=>none
noncomputable def Wn(P:Program)(t:TypeId)(name:String):Option FuncId:=
 match P.info? t with
 | some i=>match i.methods.find? (·.name==name) with
  | some m=>a6n (P6 (P.underlying t)) m
  | none=>none
 | none=>none
noncomputable def I6(P:Program)(H:Mem)(f:FuncId)(args:List AV):R:=if Ao P f then .enter f args H else .bad
noncomputable def P7(P:Program)(H:Mem)(c:Call)(args:List AV):R:=
 match args,c.argTypes[0]? with
 | [s,x],some st=>match append P H st c.argTypes[1]? s x with|some (v,H)=>.val v H|none=>.bad
 | _,_=>.bad
noncomputable def Wo(P:Program)(H:Mem)(c:Call)(args:List AV):R:=
 match args,c.argTypes[0]? with
 | [d,s],some dt=>match copy P H dt d s with|some (v,H)=>.val v H|none=>.bad
 | _,_=>.bad
noncomputable def S3(P:Program)(H:Mem)(el:TypeId)(d:AV):Option (AV×Mem):=
 match d,Cb P el with
 | .sl a off (n+1) _,some z|.slq a off (n+1) _,some z=>match H.get a with
  | some (.cells c true k)=>J8 H a c k off (rep z (n+1)) (.lit (.tuple #[]))
  | _=>none
 | _,_=>none
noncomputable def S4(P:Program)(H:Mem)(c:Call)(args:List AV):R:=
 match args,c.argTypes[0]? with
 | [d],some dt=>match Ft P dt with
  | some (el,_,_)=>match S3 P H el d with|some (v,H)=>.val v H|none=>.bad
  | none=>.bad
 | _,_=>.bad
noncomputable def Ic(P:Program)(H:Mem)(c:Call)(args:List AV):R:=
 match args,(c.argTypes[0]?).bind P.underlying with
 | [.sl _ _ n _],some (.slice _)=>.val (.lit (goInt n)) H
 | [.slq _ _ n _],some (.slice _)=>.val (.lit (goInt n)) H
 | [.es],some (.slice _)=>.val (.lit (goInt 0)) H
 | [.map a],some (.map _ _)=>match H.get a with|some (.map es _)=>.val (.lit (goInt es.length)) H|_=>.bad
 | [.lit (.string s)],some .string=>.val (.lit (goInt s.size)) H
 | _,_=>.bad
noncomputable def J9(P:Program)(H:Mem)(ev:Ev)(o:Oper)(c:Call)(args:List AV):R:=
 match Ic P H c args with
 | .bad=>ofOpt H (A7 P ev o)
 | r=>r
noncomputable def Ld(P:Program)(H:Mem)(ev:Ev)(o:Oper)(c:Call)(args:List AV):R:=
 match A7 P ev o with
 | some v=>.val v H
 | none=>match args,(c.argTypes[0]?).bind P.underlying with
  | [.sl _ _ _ n],some (.slice _)=>.val (.lit (goInt n)) H
  | _,_=>.bad
noncomputable def Fg(P:Program)(H:Mem)(ev:Ev)(o:Oper)(c:Call)(args:List AV)(b:Builtin):R:=
 match b with
 | .append=>P7 P H c args
 | .copy=>Wo P H c args
 | .clear=>S4 P H c args
 | .len=>J9 P H ev o c args
 | .cap=>Ld P H ev o c args
 | .recover=>.recover
 | _=>ofOpt H (A7 P ev o)
noncomputable def S5(P:Program)(H:Mem)(ev:Ev)(args:List AV)(recv:Operand)(name:String):R:=
 match ev recv with
 | some r=>match ifaceOf r with
  | some (t,v)=>match Wn P t name with
   | some f=>I6 P H f (v::args)
   | none=>.bad
  | none=>.bad
 | none=>.bad
noncomputable def Le(P:Program)(H:Mem)(args:List AV)(f:Option AV):R:=
 match f with
 | some (.lit (.func (.func f) first cap))=>I6 P H f (first.toList.map .lit++args++cap.toList.map .lit)
 | some (.func (.func f) first cap)=>I6 P H f (first++args++cap)
 | _=>.bad
noncomputable def Br(P:Program)(H:Mem)(ev:Ev)(o:Oper)(c:Call):R:=
 match Bj ev c.args.toList with
 | none=>.bad
 | some args=>match c.callee with
  | .builtin b=>Fg P H ev o c args b
  | .invoke recv name=>S5 P H ev args recv name
  | .value f=>Le P H args (ev f)
noncomputable def Ol(H:Mem)(ev:Ev)(c:Call):R:=
 match Bj ev c.args.toList,c.callee with
 | some args,.value f=>match ev f with
  | some (.func fn first cap)=>.dfr fn cap (first++args) H
  | some (.lit (.func fn first cap))=>.dfr fn (cap.toList.map .lit) (first.toList.map .lit++args) H
  | _=>.bad
 | _,_=>.bad
noncomputable def a6o(n:Int):Bool:=match n with|.ofNat m=>Nat.ble m 9223372036854775807|.negSucc m=>Nat.ble m 9223372036854775807
noncomputable def Nc (k:IntKind) (n:Int) : Option AV:=match k with
 | .i64=>match a6o n with|true=>some (.lit (.int .i64 n))|false=>none
 | .u8=>match n with|.ofNat m=>(match Nat.ble m 255 with|true=>some (.lit (.int .u8 (.ofNat m)))|false=>none)|_=>none
 | _=>none
noncomputable def iEq:Int->Int->Bool
 | .ofNat a,.ofNat b=>Nat.beq a b
 | .negSucc a,.negSucc b=>Nat.beq a b
 | _,_=>false
noncomputable def iLt:Int->Int->Bool
 | .ofNat a,.ofNat b=>Nat.blt a b
 | .negSucc _,.ofNat _=>true
 | .ofNat _,.negSucc _=>false
 | .negSucc a,.negSucc b=>Nat.blt b a
noncomputable def kEq:IntKind->IntKind->Bool
 | .i64,.i64=>true
 | .u8,.u8=>true
 | _,_=>false
noncomputable def bv(b:Bool):Option AV:=match b with|true=>some (.lit (.bool true))|false=>some (.lit (.bool false))
noncomputable def Cm(op:BinOp)(x y:AV):Option AV:=
 match x,y with
 | .lit (.int k a),.lit (.int k' b)=>match kEq k k' with
  | true=>match op with
   | .add=>Na (Int.add a b) (Nc k)
   | .sub=>Na (Int.sub a b) (Nc k)
   | .mul=>Na (Int.mul a b) (Nc k)
   | .eql=>bv (iEq a b)
   | .neq=>bv (!iEq a b)
   | .lss=>bv (iLt a b)
   | .leq=>bv (!iLt b a)
   | .gtr=>bv (iLt b a)
   | .geq=>bv (!iLt a b)
   | _=>none
  | false=>none
 | _,_=>none
noncomputable def Wr(a:Option AV)(b:Unit->Option AV):Option AV:=match a with|some v=>some v|none=>b ()
noncomputable def G1(H:Mem)(c a b:Option AV):R:=
 match c with
 | some (.lit (.bool true))=>ofOpt H a
 | some (.lit (.bool false))=>ofOpt H b
 | _=>.bad
noncomputable def I7(P:Program)(H:Mem)(t:TypeId):R:=
 match Cb P t with|some l=>Dq H l true (.ptr H.next 0)|none=>.bad
noncomputable def Hg(H:Mem)(x:Option AV):R:=
 match x with|some v=>Dq H (cellsOf v) true (.ptr H.next 0)|none=>.bad
noncomputable def Hi(P:Program)(H:Mem)(t:TypeId)(ps:Option (List (Nat×AV))):R:=
 match ps with
 | some ps=>ofOpt H (build P t ps)
 | none=>.bad
noncomputable def Eo(P:Program)(e:TypeId)(n:Nat):Option (List AV):=match Nat.beq n 0 with|true=>some []|false=>Cb P e
noncomputable def Fu(P:Program)(H:Mem)(t:TypeId)(len:Nat)(ps:Option (List (Nat×AV))):R:=
 match Ft P t,ps with
 | some (e,size,_),some ps =>
  match Nat.ble (len*size) 1048576,Eo P e (len*size) with
  | true,some z=>match J7 (λi=>some (i*size,size)) (rep z len) ps with
   | some l=>Dq H l true (.sl H.next 0 len len)
   | none=>.bad
  | _,_=>.bad
 | _,_=>.bad
noncomputable def Fv(P:Program)(H:Mem)(t:TypeId)(a:Option AV):R:=
 match a with|some p=>ofOpt H (load P H t p)|none=>.bad
noncomputable def Ie(P:Program)(H:Mem)(t:TypeId)(a x:Option AV):R:=
 match a,x with
 | some p,some v=>match store P H t p v with|some H=>.skip H|none=>.bad
 | _,_=>.bad
noncomputable def I8(P:Program)(H:Mem)(ev:Ev)(o:Oper)(x:Option AV):R:=
 match x with
 | some (.ptr a off)=>.val (.ptr a off) H
 | some (.func (.func f) x y)=>.val (.func (.func f) x y) H
 | some (.iface t v)=>.val (.iface t v) H
 | _=>ofOpt H (A7 P ev o)
noncomputable def Om(P:Program)(H:Mem)(op:BinOp)(t:TypeId)(x y:Option AV):R:=
 match x,y with
 | some a,some b=>match op,Wk (P.underlying t) a b with
  | .eql,true=>.val (.lit (.bool false)) H
  | .neq,true=>.val (.lit (.bool true)) H
  | _,_=>.bad
 | _,_=>.bad
noncomputable def P8(op:BinOp)(x y:Option AV):Option AV:=
 match x,y with
 | some a,some b=>Cm op a b
 | _,_=>none
noncomputable def Bh(P:Program)(H:Mem)(ev:Ev)(o:Oper)(op:BinOp)(t:TypeId)(x y:Option AV):R:=
 match P8 op x y with
 | some v=>.val v H
 | none=>match A7 P ev o with
  | some v=>.val v H
  | none=>Om P H op t x y
noncomputable def Ep(P:Program)(H:Mem)(ev:Ev)(o:Oper)(src dst:TypeId)(x:Option AV):R:=
 match A7 P ev o with
 | some v=>.val v H
 | none=>match x with
  | some v=>match convert P H src dst v with|some (v,H)=>.val v H|none=>.bad
  | none=>.bad
noncomputable def Ka(P:Program)(H:Mem)(t:TypeId)(x:Option AV):R:=
 match P.underlying t,x with
 | some (.interface _),_=>.bad
 | some _,some v=>.val (.iface t v) H
 | _,_=>.bad
noncomputable def Ig(H:Mem)(fn:Fn)(a b:Option (List AV)):R:=
 match a,b with
 | some a,some b=>.val (.func fn a b) H
 | _,_=>.bad
noncomputable def Hj(P:Program)(H:Mem)(ev:Ev)(t:TypeId)(r:Option Operand):R:=
 match r with
 | none=>H.newK (.map [] 0) (λH2=>.val (.map H.next) H2)
 | some x=>match P.underlying t,ev x with
  | some (.map _ _),some (.lit (.int _ _))=>H.newK (.map [] 0) (λH2=>.val (.map H.next) H2)
  | _,_=>.bad
noncomputable def Er(P:Program)(H:Mem)(t:TypeId)(l c:Option AV):R:=
 match Ft P t,l.bind natOf,c.bind natOf with
 | some (e,size,bytes),some l,some c =>
  match Nat.ble l c&&Nat.ble c 1048576&&Nat.ble bytes 1048576,Eo P e (c*size) with
  | true,some z=>Dq H (rep z c) true (.sl H.next 0 l c)
  | _,_=>.bad
 | _,_,_=>.bad
noncomputable def E3(ev:Ev)(y:Option Operand):Option (Option AV):=
 match y with|none=>some none|some y=>match ev y with|some v=>some (some v)|none=>none
noncomputable def Gc(P:Program)(H:Mem)(ev:Ev)(t:TypeId)(x:Option AV)(lo hi mx:Option Operand):R:=
 match x with
 | some v=>match E3 ev lo,E3 ev hi,E3 ev mx with
  | some lo,some hi,some mx=>ofOpt H (Sw P t v lo hi mx)
  | _,_,_=>.bad
 | none=>.bad
noncomputable def Da(P:Program)(H:Mem)(ev:Ev)(o:Oper)(t:TypeId)(x:Option AV)(lo hi mx:Option Operand):R:=
 match A7 P ev o with
 | some v=>.val v H
 | none=>Gc P H ev t x lo hi mx
noncomputable def Gd(P:Program)(H:Mem)(ev:Ev)(o:Oper)(r:Option AV):R:=
 match r with
 | some v=>.val v H
 | none=>ofOpt H (A7 P ev o)
noncomputable def G2(P:Program)(H:Mem)(ev:Ev)(o:Oper)(s:TypeId)(x:Option AV)(f:Nat):R:=
 match x with|some v=>Gd P H ev o (fieldAddr P s v f)|none=>.bad
noncomputable def Kb(P:Program)(H:Mem)(t:TypeId)(x:Option AV)(f:Nat):R:=
 match x with|some v=>ofOpt H (field P t v f)|none=>.bad
noncomputable def Dy(P:Program)(H:Mem)(ev:Ev)(o:Oper)(t:TypeId)(x i:Option AV):R:=
 match x,i with|some v,some k=>Gd P H ev o (indexAddr P t v k)|_,_=>.bad
noncomputable def I9(P:Program)(H:Mem)(ev:Ev)(o:Oper)(t:TypeId)(x i:Option AV):R:=
 match x,i with
 | some v,some k=>match index P t v k with
  | some v=>.val v H
  | none=>ofOpt H (A7 P ev o)
 | _,_=>.bad
noncomputable def Hk(P:Program)(H:Mem)(ev:Ev)(o:Oper)(t:TypeId)(m k:Option AV)(ok:Bool):R:=
 match m,k with
 | some m,some k=>ofOpt H (Wr (A7 P ev o) λ_=>lookup P H t m k ok)
 | _,_=>.bad
noncomputable def G3(P:Program)(H:Mem)(t:TypeId)(m k x:Option AV):R:=
 match m,k,x with
 | some m,some k,some v=>match mapUpdate P H t m k v with|some H=>.skip H|none=>.bad
 | _,_,_=>.bad
noncomputable def P9(P:Program)(H:Mem)(t:TypeId)(x:Option AV):R:=
 match P.underlying t,x with
 | some .string,some (.lit (.string s))=>H.newK (.siter s 0) (λH2=>.val (.ptr H.next 0) H2)
 | _,_=>.bad
noncomputable def a6p(H:Mem)(a:Nat)(s:ByteArray)(pos:Nat)(q:Nat×Nat):R:=
 H.setK a (.siter s (pos+q.2)) (λH=>.val (.tup [.lit (.bool true),.lit (goInt pos),.lit (.int .i32 q.1)]) H)
noncomputable def Qa(H:Mem)(it:Option AV):R:=
 match it with
 | some (.ptr a 0)=>match H.get a with
  | some (.siter s pos) =>
   match Nat.blt pos s.size with
   | true=>a6p H a s pos (Utf8.decode s pos)
   | false=>.val (.tup [.lit (.bool false)]) H
  | _=>.bad
 | _=>.bad
noncomputable def Ja(P:Program)(H:Mem)(ev:Ev)(o:Oper)(x:Option AV)(asserted:TypeId)(ok:Bool):R:=
 match A7 P ev o with
 | some v=>.val v H
 | none=>match x with|some v=>ofOpt H (typeAssert P v asserted ok)|none=>.bad
noncomputable def Ih(H:Mem)(t:Option AV)(i:Nat):R:=
 match t with
 | some (.tup l)=>ofOpt H l[i]?
 | some (.lit (.tuple vs))=>match vs[i]? with|some v=>.val (.lit v) H|none=>.bad
 | _=>.bad
noncomputable def Qb(H:Mem)(x:Option AV):R:=
 match x with
 | some (.iface t v)=>.panic (.iface t v) H
 | some (.lit (.iface t v))=>.panic (.lit (.iface t v)) H
 | _=>.bad
noncomputable def Es(H:Mem)(x:Option AV):R:=
 match x with|some v=>.val v H|none=>.bad
abbrev Hd:=Program->Mem->Ev->Oper->R
noncomputable def a6q(x:Operand):Hd:=λ_ H ev _=>Es H (ev x)
noncomputable def b8e(c a b:Operand):Hd:=λ_ H ev _=>G1 H (ev c) (ev a) (ev b)
noncomputable def b8f(t:TypeId):Hd:=λP H _ _=>I7 P H t
noncomputable def b8g(_:TypeId)(x:Operand):Hd:=λ_ H ev _=>Hg H (ev x)
noncomputable def b8h(t:TypeId)(parts:Array (Nat×Operand)):Hd:=λP H ev _=>Hi P H t (C1 ev parts.toList)
noncomputable def b8i(t:TypeId)(len:Nat)(parts:Array (Nat×Operand)):Hd:=λP H ev _=>Fu P H t len (C1 ev parts.toList)
noncomputable def a6r(t:TypeId)(m k x:Operand):Hd:=λP H ev _=>G3 P H t (ev m) (ev k) (ev x)
noncomputable def b8j(t:TypeId)(a:Operand):Hd:=λP H ev _=>Fv P H t (ev a)
noncomputable def b8k(t:TypeId)(a x:Operand):Hd:=λP H ev _=>Ie P H t (ev a) (ev x)
noncomputable def hN(_:Nat):Hd:=λ_ _ _ _=>.bad
noncomputable def b8l(x:Operand):Hd:=λP H ev o=>I8 P H ev o (ev x)
noncomputable def b8m(op:BinOp)(t:TypeId)(x y:Operand)(_:TypeId):Hd:=λP H ev o=>Bh P H ev o op t (ev x) (ev y)
noncomputable def hUn(_:UnOp)(_:TypeId)(_:Operand):Hd:=λP H ev o=>ofOpt H (A7 P ev o)
noncomputable def b8n(src dst:TypeId)(x:Operand):Hd:=λP H ev o=>Ep P H ev o src dst (ev x)
noncomputable def hTX(_:TypeId)(_:Operand):Hd:=λ_ _ _ _=>.bad
noncomputable def b8o(t:TypeId)(x:Operand):Hd:=λP H ev _=>Ka P H t (ev x)
noncomputable def b8p(fn:Fn)(first captured:Array Operand):Hd:=λ_ H ev _=>Ig H fn (Bj ev first.toList) (Bj ev captured.toList)
noncomputable def b8q(t:TypeId)(r:Option Operand):Hd:=λP H ev _=>Hj P H ev t r
noncomputable def b8r(t:TypeId)(l c:Operand):Hd:=λP H ev _=>Er P H t (ev l) (ev c)
noncomputable def b8s(t:TypeId)(x:Operand)(lo hi mx:Option Operand):Hd:=λP H ev o=>Da P H ev o t (ev x) lo hi mx
noncomputable def b8t(s:TypeId)(x:Operand)(f:Nat):Hd:=λP H ev o=>G2 P H ev o s (ev x) f
noncomputable def b8u(t:TypeId)(x:Operand)(f:Nat):Hd:=λP H ev _=>Kb P H t (ev x) f
noncomputable def b8v(t:TypeId)(x i:Operand):Hd:=λP H ev o=>Dy P H ev o t (ev x) (ev i)
noncomputable def b8w(t:TypeId)(x i:Operand):Hd:=λP H ev o=>I9 P H ev o t (ev x) (ev i)
noncomputable def b8x(t:TypeId)(m k:Operand)(ok:Bool):Hd:=λP H ev o=>Hk P H ev o t (ev m) (ev k) ok
noncomputable def b8y(_:TypeId)(_ _:Operand):Hd:=λ_ _ _ _=>.bad
noncomputable def b8z(_:TypeId)(_ _ _:Operand):Hd:=λ_ _ _ _=>.bad
noncomputable def b9a(t:TypeId)(x:Operand):Hd:=λP H ev _=>P9 P H t (ev x)
noncomputable def b9b(it:Operand)(b:Bool):Hd:=λ_ H ev _=>match b with|true=>Qa H (ev it)|false=>.bad
noncomputable def hX(_:Operand):Hd:=λ_ _ _ _=>.bad
noncomputable def hXX(_ _:Operand):Hd:=λ_ _ _ _=>.bad
noncomputable def b9c(x:Operand)(_ asserted:TypeId)(ok:Bool):Hd:=λP H ev o=>Ja P H ev o (ev x) asserted ok
noncomputable def b9d(t:Operand)(i:Nat):Hd:=λ_ H ev _=>Ih H (ev t) i
noncomputable def b9e(c:Call):Hd:=λP H ev o=>Br P H ev o c
noncomputable def hC(_:Call):Hd:=λ_ _ _ _=>.bad
noncomputable def b9f(c:Call):Hd:=λ_ H ev _=>Ol H ev c
noncomputable def b9g(x:Operand):Hd:=λ_ H ev _=>Qb H (ev x)
noncomputable def b9h(_:TypeId)(_:Operand)(_:Bool):Hd:=λ_ _ _ _=>.bad
noncomputable def b9i(_:Array SelectCase)(_:Bool):Hd:=λ_ _ _ _=>.bad
noncomputable def handler:Op->Hd:=Op.rec (motive:=λ_=>Hd)
 a6q a6q b8e b8f b8g b8h b8i a6r b8j b8k hN hN b8l b8m hUn b8n hTX b8o b8p b8q hTX b8r b8s b8t b8u b8v b8w b8x a6r b8y b8z b9a b9b hX b9c b9d b9e hC b9f b9g hXX b9h b9i
noncomputable def opV(P:Program)(H:Mem)(ev:Ev)(o:Oper):R:=handler o.op P H ev o
def freeOp:Op->Bool
 | .move _|.assign _|.pick _ _ _|.build _ _|.nilCheck _|.binOp _ _ _ _ _|.unOp _ _ _|.makeInterface _ _|.makeFunc _ _ _
 | .slice _ _ _ _ _|.fieldAddr _ _ _|.field _ _ _|.indexAddr _ _ _|.index _ _ _|.typeAssert _ _ _ _|.extract _ _=>true
 | _=>false
def eqV:Nat->Value->Value->Bool
 | _,.bool a,.bool b=>a==b
 | _,.int j a,.int k b=>decide (j=k)&&decide (a=b)
 | _,.string a,.string b=>decide (a=b)
 | _,.pointer a,.pointer b=>decide (a=b)
 | _,.slice a n c,.slice b m d=>decide (a=b)&&decide (n=m)&&decide (c=d)
 | _,.map a,.map b=>decide (a=b)
 | _,.nilFunc,.nilFunc=>true
 | _,.nilIface,.nilIface=>true
 | n+1,.iface t v,.iface u x=>decide (t=u)&&eqV n v x
 | _,.func f ⟨[]⟩ ⟨[]⟩,.func g ⟨[]⟩ ⟨[]⟩=>decide (f=g)
 | _,_,_=>false
def Ws(acc:List Nat)(o:Oper):Nat:=
 o.after.toList.foldl (λs e=>match Region.binds .any e with|true=>s ||| 2 ^ e.on ||| acc.getD e.on 0|false=>s) 0
def ancs:List Nat->List Oper->List Nat
 | acc,[]=>acc
 | acc,o::l=>ancs (acc++[Ws acc o]) l
def A3(tab:List Nat)(i j:Nat):Bool:=(tab.getD i 0).testBit j
mutual
def eqAV:AV->AV->Bool
 | .lit a,.lit b=>eqV 4 a b
 | .ptr a i,.ptr b j=>decide (a=b)&&decide (i=j)
 | .sl a i n c,.sl b j m d=>decide (a=b)&&decide (i=j)&&decide (n=m)&&decide (c=d)
 | .slq a i n c,.slq b j m d=>decide (a=b)&&decide (i=j)&&decide (n=m)&&decide (c=d)
 | .es,.es=>true
 | .map a,.map b=>decide (a=b)
 | .func f x y,.func g u v=>decide (f=g)&&eqAVs x u&&eqAVs y v
 | .iface t x,.iface u y=>decide (t=u)&&eqAV x y
 | .agg l,.agg m=>eqAVs l m
 | .tup l,.tup m=>eqAVs l m
 | _,_=>false
def eqAVs:List AV->List AV->Bool
 | [],[]=>true
 | x::l,y::m=>eqAV x y&&eqAVs l m
 | _,_=>false
end
inductive Cls where
 | free|read|gen|alloc|chain|no
def cls(op:Op):Cls:=
 match freeOp op with
 | true=>.free
 | false=>match op with
  | .load _ _|.lookup _ _ _ _=>.read
  | .convert _ _ _=>.gen
  | .alloc _|.box _ _|.buildSlice _ _ _|.makeSlice _ _ _|.makeMap _ _=>.alloc
  | .store _ _ _|.mapUpdate _ _ _ _|.insert _ _ _ _=>.chain
  | .call c=>match c.callee with
   | .builtin .append|.builtin .copy|.builtin .clear=>.chain
   | .builtin .len|.builtin .cap=>.read
   | .builtin .recover=>.no
   | .builtin _=>.gen
   | _=>.chain
  | _=>.no
def Cw(op:Op):Bool:=match cls op with|.chain=>true|_=>false
def G4(t:Nat):List Oper->Nat->Option Nat
 | [],_=>none
 | o::l,i=>match (match o.dst with|some d=>Nat.beq d t|none=>false) with
  | true=>some i
  | false=>G4 t l (i+1)
def chainOf:List Oper->Nat->List Nat
 | [],_=>[]
 | o::l,i=>match Cw o.op with|true=>i::chainOf l (i+1)|false=>chainOf l (i+1)
def Ii(tab:List Nat):List Nat->Bool
 | i::j::l=>A3 tab j i&&Ii tab (j::l)
 | _=>true
def Et(tab:List Nat)(i:Nat):List Nat->Nat
 | []=>0
 | c::cs=>match A3 tab i c with|true=>Et tab i cs+1|false=>Et tab i cs
def E4(tab:List Nat)(cs:List Nat)(k:Nat):List Oper->Nat->List Nat
 | [],_=>[]
 | o::l,i=>match !Cw o.op&&Nat.beq (Et tab i cs) k with
  | true=>i::E4 tab cs k l (i+1)
  | false=>E4 tab cs k l (i+1)
def Kc(ops:List Oper)(o:Oper)(i:Nat):Bool:=
 (match o.dst with|some d=>(match G4 d ops 0 with|some j=>Nat.beq i j|none=>false)|none=>true) &&
 (match cls o.op with|.no=>false|_=>true) &&
 o.after.toList.all (λe=>match Region.binds .any e with|true=>Nat.blt e.on i|false=>true) &&
 (match o.guard with|some g=>(match ops[g.1]? with|some p=>p.dst.isSome|none=>false)|none=>true)
def fit(ops:List Oper):List Oper->Nat->Bool
 | [],_=>true
 | o::l,i=>Kc ops o i&&fit ops l (i+1)
def On(ops:List Oper):Bool:=Nat.ble ops.length 256&&Ii (ancs [] ops) (chainOf ops 0)&&fit ops ops 0
abbrev Dfr:=Fn×List AV×List AV
inductive Fr where
 | s (t:T2 AV) (ds:List Dfr)
 | g (t:T3 AV) (ds:List Dfr)
 | f (g:Nat->Option AV) (ds:List Dfr)
def Fh(g:Nat->Option AV)(d:Nat)(v:AV):Nat->Option AV:=λt=>if t=d then some v else g t
noncomputable def fgS(t:T2 AV)(_:List Dfr)(k:Nat):Option AV:=Cq t k
noncomputable def fgG(t:T3 AV)(_:List Dfr)(k:Nat):Option AV:=Ia t k
noncomputable def fpS{β:Type}(t:T2 AV)(ds:List Dfr)(d:Tmp)(v:AV)(K:Fr->β):β:=Sq t d (.v d v) λt=>K (.s t ds)
noncomputable def fpG{β:Type}(t:T3 AV)(ds:List Dfr)(d:Tmp)(v:AV)(K:Fr->β):β:=Wf t d (.v d v) λt=>K (.g t ds)
noncomputable def fgF(g:Nat->Option AV)(_:List Dfr)(k:Nat):Option AV:=g k
noncomputable def fpF{β:Type}(g:Nat->Option AV)(ds:List Dfr)(d:Tmp)(v:AV)(K:Fr->β):β:=K (.f (Fh g d v) ds)
noncomputable def Fr.get(fr:Fr)(t:Nat):Option AV:=Fr.rec (motive:=λ_=>Nat->Option AV) fgS fgG fgF fr t
noncomputable def Fr.set{β:Type}(fr:Fr)(d:Tmp)(v:AV)(K:Fr->β):β:=Fr.rec (motive:=λ_=>Tmp->AV->(Fr->β)->β) fpS fpG fpF fr d v K
noncomputable def Fr.defer(fr:Fr)(x:Dfr):Fr:=Fr.rec (motive:=λ_=>Fr) (λt ds=>.s t (x::ds)) (λt ds=>.g t (x::ds)) (λt ds=>.f t (x::ds)) fr
noncomputable def Fr.defers(fr:Fr):List Dfr:=Fr.rec (motive:=λ_=>List Dfr) (λ_ ds=>ds) (λ_ ds=>ds) (λ_ ds=>ds) fr
noncomputable def evT(t:Tmp)(fr:Fr):Option AV:=fr.get t
noncomputable def evC(v:Value)(_:Fr):Option AV:=some (.lit v)
noncomputable def evG(g:Nat)(_:Fr):Option AV:=some (.lit (.pointer (some ⟨g,0,none⟩)))
noncomputable def evF(f:FuncId)(_:Fr):Option AV:=some (.lit (.func (.func f) #[] #[]))
noncomputable def Fr.ev(fr:Fr)(x:Operand):Option AV:=Operand.rec (motive:=λ_=>Fr->Option AV) evT evC evG evF x fr
noncomputable def b9j{β:Type}(fr:Fr)(_:AV)(K:Fr->β):β:=K fr
noncomputable def b9k{β:Type}(d:Tmp)(fr:Fr)(v:AV)(K:Fr->β):β:=fr.set d v K
noncomputable def Fr.putK{β:Type}(fr:Fr)(d:Option Tmp)(v:AV)(K:Fr->β):β:=
 Option.rec (motive:=λ_=>Fr->AV->(Fr->β)->β) b9j b9k d fr v K
inductive Out where
 | norm (fr:Fr) (H:Mem)
 | exit (id:Nat) (fr:Fr) (H:Mem)
 | ret (fr:Fr) (H:Mem)
 | panic (v:AV) (fr:Fr) (H:Mem)
 | bad
inductive A1 where
 | ret (v:AV) (H:Mem)
 | panic (v:AV) (H:Mem)
 | bad
noncomputable def Wt(ops:Array Oper)(fr:Fr)(j:Nat):Option Bool:=
 match ops[j]? with
 | some o=>match o.dst with
  | some d=>match fr.get d with
   | some (.lit (.bool b))=>some b
   | _=>none
  | none=>none
 | none=>none
noncomputable def Lh(ops:Array Oper)(fr:Fr)(g:Nat×Bool):Option Bool:=
 match Wt ops fr g.1 with
 | some b=>match b,g.2 with
  | true,true=>some true
  | false,false=>some true
  | _,_=>some false
 | none=>match ops[g.1]? with
  | some p=>match p.dst with
   | some d=>match fr.get d with
    | some (.lit (.tuple _))=>some false
    | _=>none
   | none=>none
  | none=>none
abbrev CallF:=FuncId->List AV->Mem->A1
abbrev LoopF:=Code->Fr->Mem->Out
abbrev AfterF:=CallF->Oper->Fr->(Fr->Mem->Out)->Out
noncomputable def b9l(v:AV)(H:Mem):AfterF:=λ_ o fr k=>fr.putK o.dst v λfr=>k fr H
noncomputable def b9m(H:Mem):AfterF:=λ_ o fr k=>fr.putK o.dst (.lit undef) λfr=>k fr H
noncomputable def b9n(f:FuncId)(args:List AV)(H:Mem):AfterF:=λcallf o fr k =>
 match callf f args H with
 | .ret v H=>fr.putK o.dst v λfr=>k fr H
 | .panic v H=>.panic v fr H
 | .bad=>.bad
noncomputable def b9o(fn:Fn)(cap args:List AV)(H:Mem):AfterF:=λ_ o fr k=>Fr.putK (fr.defer (fn,cap,args)) o.dst (.lit undef) λfr=>k fr H
noncomputable def aBad:AfterF:=λ_ _ _ _=>.bad
noncomputable def b9p(v:AV)(H:Mem):AfterF:=λ_ _ fr _=>.panic v fr H
noncomputable def after(callf:CallF)(o:Oper)(fr:Fr)(k:Fr->Mem->Out)(r:R):Out:=
 R.rec (motive:=λ_=>AfterF) b9l b9m b9n b9o aBad b9p aBad r callf o fr k
noncomputable def Qc(P:Program)(callf:CallF)(ops:Array Oper)(o:Oper)(fr:Fr)(H:Mem)(k:Fr->Mem->Out)(g:Nat×Bool):Out:=
 match Lh ops fr g with
 | some true=>after callf o fr k (opV P H fr.ev o)
 | some false=>fr.putK o.dst (.lit undef) λfr=>k fr H
 | none=>.bad
abbrev OneF:=Program->CallF->Array Oper->Oper->Fr->Mem->(Fr->Mem->Out)->Out
noncomputable def oneN:OneF:=λP callf _ o fr H k=>after callf o fr k (opV P H fr.ev o)
noncomputable def b9q(g:Nat×Bool):OneF:=λP callf ops o fr H k=>Qc P callf ops o fr H k g
noncomputable def Li(P:Program)(callf:CallF)(ops:Array Oper)(o:Oper)(fr:Fr)(H:Mem)(k:Fr->Mem->Out):Out:=
 Option.rec (motive:=λ_=>OneF) oneN b9q o.guard P callf ops o fr H k
abbrev SeqF:=Program->CallF->Array Oper->Fr->Mem->Out
noncomputable def seqN:SeqF:=λ_ _ _ fr H=>.norm fr H
noncomputable def b9r(o:Oper)(_:List Oper)(ih:SeqF):SeqF:=λP callf ops fr H=>Li P callf ops o fr H (ih P callf ops)
noncomputable def Oq(P:Program)(callf:CallF)(ops:Array Oper)(l:List Oper)(fr:Fr)(H:Mem):Out:=
 List.rec (motive:=λ_=>SeqF) seqN b9r l P callf ops fr H
noncomputable def Lj(r:Out)(k:Fr->Mem->Out):Out:=match r with
 | .norm fr H=>k fr H
 | r=>r
noncomputable def Qd(c:Option AV)(a b:Fr->Mem->Out)(fr:Fr)(H:Mem):Out:=match c with
 | some (.lit (.bool true))=>a fr H
 | some (.lit (.bool false))=>b fr H
 | _=>.bad
noncomputable def Qe(id:Nat)(r:Out):Out:=match r with
 | .exit id' fr H=>(match Nat.beq id' id with|true=>.norm fr H|false=>.exit id' fr H)
 | r=>r
abbrev XF:=Program->CallF->LoopF->Fr->Mem->Out
noncomputable def xSkip:XF:=λ_ _ _ fr H=>.norm fr H
noncomputable def Wu(ops:Array Oper)(tab:List Nat)(fr:Fr)(res:T2 AV)(i t:Nat):Option AV:=
 match G4 t ops.toList 0 with
 | none=>fr.get t
 | some j=>match A3 tab i j with
  | true=>Cq res j
  | false=>match A3 tab j i||Nat.beq i j with
   | true=>fr.get t
   | false=>none
noncomputable def env(ops:Array Oper)(tab:List Nat)(fr:Fr)(res:T2 AV)(i:Nat):Ev:=λx=>match x with
 | .tmp t=>Wu ops tab fr res i t
 | .const v=>some (.lit v)
 | .global g=>some (.lit (.pointer (some ⟨g,0,none⟩)))
 | .func f=>some (.lit (.func (.func f) #[] #[]))
noncomputable def a6s(tab:List Nat)(res:T2 AV)(i:Nat)(g:Nat×Bool):Option Bool:=
 match A3 tab i g.1,Cq res g.1 with
 | true,some (.lit (.bool b))=>(match b,g.2 with|true,true=>some true|false,false=>some true|_,_=>some false)
 | true,some (.lit (.tuple _))=>some false
 | _,_=>none
noncomputable def Ot(tab:List Nat)(res:T2 AV)(i:Nat)(o:Oper):Option Bool:=match o.guard with|none=>some true|some g=>a6s tab res i g
noncomputable def quiet(P:Program)(H:Mem)(ev:Ev)(o:Oper):Option AV:=
 match cls o.op with
 | .gen=>A7 P ev o
 | _=>match opV P H ev o with|.val v _=>some v|_=>none
abbrev Als:=List (Nat×Nat×Blk)
noncomputable def a6t(t:T2 AV)(k:Nat):Bool:=Lf.rec (motive:=λ_=>Bool) true (λ_ _=>false) (gN (d1 k) (gN (d0 k) t))
noncomputable def Jb(res:T2 AV)(i:Nat)(v:AV)(K:T2 AV->Out):Out:=match a6t res i with|true=>Sq res i (.v i v) K|false=>.bad
abbrev StF:=T2 AV->Mem->List Nat->Als->Out
noncomputable def Wv(P:Program)(ops:Array Oper)(tab:List Nat)(fr:Fr)(i:Nat)(res:T2 AV)(H:Mem)(held:List Nat)(als:Als)(K:StF):Out:=
 match ops[i]? with
 | none=>.bad
 | some o=>match Ot tab res i o with
  | some false=>Jb res i (.lit undef) λres=>K res H held als
  | some true=>match cls o.op with
   | .alloc=>match opV P H (env ops tab fr res i) o with
    | .val v H'=>match H'.get H.next with
     | some b=>Jb res i v λres=>K res H' held ((i,H.next,b)::als)
     | none=>.bad
    | _=>.bad
   | .read=>match quiet P H (env ops tab fr res i) o with
    | some v=>Jb res i v λres=>K res H (i::held) als
    | none=>.bad
   | _=>match quiet P H (env ops tab fr res i) o with
    | some v=>Jb res i v λres=>K res H held als
    | none=>.bad
  | none=>.bad
noncomputable def Qf(P:Program)(ops:Array Oper)(tab:List Nat)(fr:Fr):List Nat->T2 AV->Mem->List Nat->Als->StF->Out
 | [],res,H,held,als,K=>K res H held als
 | i::l,res,H,held,als,K=>Wv P ops tab fr i res H held als λres H held als=>Qf P ops tab fr l res H held als K
noncomputable def eqBlk:Blk->Blk->Bool
 | .cells l own z,.cells m own' z'=>eqAVs l m&&(own==own')&&Nat.beq z z'
 | .map [] c,.map [] c'=>Nat.beq c c'
 | _,_=>false
noncomputable def Nd(P:Program)(ops:Array Oper)(tab:List Nat)(fr:Fr)(res:T2 AV)(H:Mem):List Nat->Bool
 | []=>true
 | i::l=>match ops[i]?,Cq res i with
  | some o,some v=>match quiet P H (env ops tab fr res i) o with
   | some v'=>match eqAV v' v with|true=>Nd P ops tab fr res H l|false=>false
   | none=>false
  | _,_=>false
noncomputable def Nf(H:Mem):Als->Bool
 | []=>true
 | (_,a,b)::l=>match H.get a with
  | some b'=>match eqBlk b' b with|true=>Nf H l|false=>false
  | none=>false
noncomputable def Hl(tab:List Nat)(c:Nat):List Nat->List Nat
 | []=>[]
 | i::l=>match A3 tab c i with|true=>Hl tab c l|false=>i::Hl tab c l
noncomputable def Gf(tab:List Nat)(c:Nat):Als->Als
 | []=>[]
 | x::l=>match A3 tab c x.1 with|true=>Gf tab c l|false=>x::Gf tab c l
noncomputable def Fr.clear(fr:Fr):Fr:=Fr.rec (motive:=λ_=>Fr) (λ_ ds=>.s e2 ds) (λ_ ds=>.s e2 ds) (λ_ ds=>.s e2 ds) fr
noncomputable def fin(res:T2 AV)(H:Mem):List Oper->Nat->Fr->Out
 | [],_,fr=>.norm fr H
 | o::l,i,fr=>match Cq res i with
  | some v=>fr.putK o.dst v λfr=>fin res H l (i+1) fr
  | none=>.bad
noncomputable def act(P:Program)(callf:CallF)(ops:Array Oper)(tab:List Nat)(fr:Fr)(c:Nat)(res:T2 AV)(H:Mem)(K:T2 AV->Mem->Out):Out:=
 match ops[c]? with
 | none=>.bad
 | some o=>match Ot tab res c o with
  | some false=>Jb res c (.lit undef) λres=>K res H
  | some true=>match opV P H (env ops tab fr res c) o with
   | .val v H'=>Jb res c v λres=>K res H'
   | .skip H'=>Jb res c (.lit undef) λres=>K res H'
   | .enter f args H'=>match callf f args H' with
    | .ret v H''=>Jb res c v λres=>K res H''
    | .panic v H''=>.panic v fr.clear H''
    | .bad=>.bad
   | _=>.bad
  | none=>.bad
noncomputable def Qg(P:Program)(callf:CallF)(ops:Array Oper)(tab:List Nat)(fr:Fr)(all:List Nat):Nat->List Nat->T2 AV->Mem->List Nat->Als->Out
 | k,cs,res,H,held,als=>match cs with
  | []=>Qf P ops tab fr (E4 tab all k ops.toList 0) res H held als λres H held als =>
   match Nd P ops tab fr res H held&&Nf H als with
   | true=>fin res H ops.toList 0 fr
   | false=>.bad
  | c::cs=>Qf P ops tab fr (E4 tab all k ops.toList 0) res H held als λres H held als =>
   match Nd P ops tab fr res H held&&Nf H als with
   | true=>act P callf ops tab fr c res H λres H=>Qg P callf ops tab fr all (k+1) cs res H (Hl tab c held) (Gf tab c als)
   | false=>.bad
noncomputable def drawn(P:Program)(callf:CallF)(ops:Array Oper)(fr:Fr)(H:Mem):Out:=
 match On ops.toList&&Tables.follows P.toTables .mixedOrders with
 | true=>Qg P callf ops (ancs [] ops.toList) fr (chainOf ops.toList 0) 0 (chainOf ops.toList 0) e2 H [] []
 | false=>.bad
noncomputable def b9s(_:Nat)(ops:Array Oper)(draw:Bool):XF:=λP callf _ fr H=>match draw with
 | false=>Oq P callf ops ops.toList fr H
 | true=>drawn P callf ops fr H
noncomputable def a6u(_ _:Code)(a b:XF):XF:=λP callf loopf fr H=>Lj (a P callf loopf fr H) (b P callf loopf)
noncomputable def a6v(c:Operand)(_ _:Code)(a b:XF):XF:=λP callf loopf fr H=>Qd (fr.ev c) (a P callf loopf) (b P callf loopf) fr H
noncomputable def a6w(id:Nat)(_:Code)(a:XF):XF:=λP callf loopf fr H=>Qe id (a P callf loopf fr H)
noncomputable def a6x(b:Code)(a:XF):XF:=λP callf loopf fr H=>Lj (a P callf loopf fr H) (loopf (.loop b))
noncomputable def a6y(_:Operand)(_:Array Tmp)(_ _:Code)(_ _:XF):XF:=λ_ _ _ _ _=>.bad
noncomputable def a6z(id:Nat):XF:=λ_ _ _ fr H=>.exit id fr H
noncomputable def a7a(_:Code)(_:XF):XF:=λ_ _ _ _ _=>.bad
noncomputable def a7b(_:Nat):XF:=λ_ _ _ fr H=>.norm fr H
noncomputable def a7c(_:Nat):XF:=λ_ _ _ _ _=>.bad
noncomputable def xRet:XF:=λ_ _ _ fr H=>.ret fr H
noncomputable def a7d(_:String):XF:=λ_ _ _ _ _=>.bad
noncomputable def execC:Code->XF:=Code.rec (motive:=λ_=>XF) xSkip b9s a6u a6v a6w a6x a6y a6z a7a a7b a7c xRet a7d
noncomputable def C2(P:Program)(callf:CallF)(loopf:LoopF)(c:Code)(fr:Fr)(H:Mem):Out:=execC c P callf loopf fr H
inductive Mode where
 | returning
 | panicking (v:AV)
 | recovered (v:AV)
inductive Kd where
 | norm (fr:Fr) (u:Mode) (H:Mem)
 | ret (fr:Fr) (u:Mode) (H:Mem)
 | bad
noncomputable def Ww(callf:CallF)(o:Oper)(fr:Fr)(u:Mode)(k:Fr->Mode->Mem->Kd)(H:Mem)(r:R):Kd:=
 match r with
 | .val v H=>fr.putK o.dst v λfr=>k fr u H
 | .skip H=>fr.putK o.dst (.lit undef) λfr=>k fr u H
 | .enter f args H=>match callf f args H with
  | .ret v H=>fr.putK o.dst v λfr=>k fr u H
  | _=>.bad
 | .recover=>match u with
  | .panicking v=>fr.putK o.dst v λfr=>k fr (.recovered v) H
  | _=>fr.putK o.dst (.lit .nilIface) λfr=>k fr u H
 | _=>.bad
noncomputable def Ng(P:Program)(callf:CallF)(ops:Array Oper):List Oper->Fr->Mode->Mem->Kd
 | [],fr,u,H=>.norm fr u H
 | o::l,fr,u,H=>match (match o.guard with|none=>some true|some g=>Lh ops fr g) with
  | some true=>Ww callf o fr u (Ng P callf ops l) H (opV P H fr.ev o)
  | some false=>fr.putK o.dst (.lit undef) λfr=>Ng P callf ops l fr u H
  | none=>.bad
noncomputable def S6(u:Mode)(r:Out):Kd:=match r with
 | .norm fr H=>.norm fr u H
 | .ret fr H=>.ret fr u H
 | _=>.bad
noncomputable def G5(P:Program)(callf:CallF)(loopf:LoopF):Code->Fr->Mode->Mem->Kd
 | .seq a b,fr,u,H=>match G5 P callf loopf a fr u H with
  | .norm fr u H=>G5 P callf loopf b fr u H
  | r=>r
 | .cond c a b,fr,u,H=>match fr.ev c with
  | some (.lit (.bool true))=>G5 P callf loopf a fr u H
  | some (.lit (.bool false))=>G5 P callf loopf b fr u H
  | _=>.bad
 | .region id ops true,fr,u,H=>S6 u (C2 P callf loopf (.region id ops true) fr H)
 | .region _ ops false,fr,u,H=>Ng P callf ops ops.toList fr u H
 | c,fr,u,H=>S6 u (C2 P callf loopf c fr H)
noncomputable def Qh{β:Type}(l:List AV)(fr:Fr)(K:Fr->β):β:=
 List.rec (motive:=λ_=>Fr->Nat->β) (λfr _=>K fr) (λv _ ih fr i=>fr.set i v λfr=>ih fr (Nat.succ i)) l fr 0
noncomputable def Jc(P:Program)(fr:Fr)(H:Mem):ResultVar->Option AV
 | .tmp t=>fr.get t
 | .cell a t=>match fr.get a with
  | some p=>load P H t p
  | none=>none
noncomputable def Ke(P:Program)(fr:Fr)(H:Mem):List ResultVar->Option (List AV)
 | []=>some []
 | r::l=>match Jc P fr H r with
  | some v=>match Ke P fr H l with|some vs=>some (v::vs)|none=>none
  | none=>none
noncomputable def Fi(P:Program)(fn:Func)(fr:Fr)(H:Mem):Option AV:=
 match Ke P fr H fn.results.toList with
 | some [v]=>some v
 | some vs=>some (.tup vs)
 | none=>none
noncomputable def Cx(n:Nat):Fr:=match Nat.ble n 256 with|true=>.s e2 []|false=>.g e3 []
def Cn(n:Nat)(o:Oper):Bool:=match o.dst with|some t=>Nat.blt t n|none=>true
def Az(n:Nat):Code->Bool
 | .region _ ops _=>ops.toList.all (Cn n)
 | .seq a b=>Az n a&&Az n b
 | .cond _ a b=>Az n a&&Az n b
 | .block _ b=>Az n b
 | .loop b=>Az n b
 | .scope b=>Az n b
 | _=>true
noncomputable def b9t(P:Program)(g:Func)(k:Mode->Mem->A1)(r:Kd):A1:=
 match r with
 | .norm fr u H=>match fr.defers,Fi P g fr H,u with
  | [],some _,.recovered _=>k .returning H
  | [],some _,.returning=>k .returning H
  | [],some _,.panicking v=>k (.panicking v) H
  | _,_,_=>.bad
 | .ret fr u H=>match fr.defers,Fi P g fr H,u with
  | [],some _,.recovered _=>k .returning H
  | [],some _,.returning=>k .returning H
  | [],some _,.panicking v=>k (.panicking v) H
  | _,_,_=>.bad
 | .bad=>.bad
noncomputable def a7e(P:Program)(callf:CallF)(loopf:LoopF)(f:FuncId)(args:List AV)(u:Mode)(H:Mem)(k:Mode->Mem->A1):A1:=
 match P.funcs[f]? with
 | some g=>match g.body,Ao P f with
  | some c,true=>match Az g.ntmps c,Nat.ble (len args) g.ntmps with
   | true,true=>b9t P g k (Qh args (Cx g.ntmps) λfr=>G5 P callf loopf c fr u H)
   | _,_=>.bad
  | _,_=>.bad
 | none=>.bad
noncomputable def C3(P:Program)(callf:CallF)(loopf:LoopF)(fn:Func)(fr:Fr):List Dfr->Mode->Mem->A1
 | [],.returning,H=>match Fi P fn fr H with
  | some v=>.ret v H
  | none=>.bad
 | [],.panicking v,H=>.panic v H
 | [],.recovered _,_=>.bad
 | (.func f,cap,args)::ds,u,H=>a7e P callf loopf f (args++cap) u H (C3 P callf loopf fn fr ds)
 | _::_,_,_=>.bad
noncomputable def a7f(P:Program)(callf:CallF)(loopf:LoopF)(fn:Func)(r:Out):A1:=match r with
 | .norm fr H=>C3 P callf loopf fn fr fr.defers .returning H
 | .ret fr H=>C3 P callf loopf fn fr fr.defers .returning H
 | .panic v fr H=>C3 P callf loopf fn fr fr.defers (.panicking v) H
 | _=>.bad
noncomputable def b9u(P:Program)(callf:CallF)(loopf:LoopF)(fn:Func)(c:Code)(args:List AV)(H:Mem):A1:=
 match Az fn.ntmps c,Nat.ble (len args) fn.ntmps with
 | true,true=>a7f P callf loopf fn (Qh args (Cx fn.ntmps) λfr=>C2 P callf loopf c fr H)
 | _,_=>.bad
noncomputable def enter(P:Program)(callf:CallF)(loopf:LoopF)(f:FuncId)(args:List AV)(H:Mem):A1:=
 match P.funcs[f]? with
 | some fn=>match fn.body with
  | some c=>b9u P callf loopf fn c args H
  | none=>.bad
 | none=>.bad
noncomputable def b9v(P:Program)(n:Nat):CallF×LoopF:=
 Nat.rec (motive:=λ_=>CallF×LoopF) (λ_ _ _=>.bad,λ_ _ _=>.bad) (λ_ ih=>(enter P ih.1 ih.2,C2 P ih.1 ih.2)) n
noncomputable def call(P:Program)(n:Nat):CallF:=(b9v P n).1
noncomputable def uN{α:Type}(d:Dg)(x:N α)(v:α):N α:=sN d x v id
theorem Wx{h A:Type}(d:Dg)(x:N h)(v:h)(K:N h->A):sN d x v K=K (uN d x v):=by
 cases x;cases d<;>rfl
theorem Fj{h:Type}(d:Dg)(x:N h)(v:h):gN d (uN d x v)=v:=by
 cases x;cases d<;>rfl
theorem Fk{D:Type}(d A:Dg)(x:N D)(v:D)(h:A≠d):gN A (uN d x v)=gN A x:=by
 cases x;cases d<;>cases A<;>first|rfl|exact absurd rfl h
theorem Dg.em(d h:Dg):h=d\/h≠d:=Classical.em _
abbrev X5:=@Dg.em
theorem Ou{A:Type}(k j:Nat)(x y:A)(h:M9 k (.v j x)=some y):j=k/\x=y:=by
 have D:Bool.rec (motive:=λ_=>Option A) none (some x) (Nat.beq j k)=some y:=h
 cases Q:Nat.beq j k with
 | true=>simp_all
 | false=>simp_all
noncomputable def u2{α:Type}(t:T2 α)(k:Nat)(x:Lf α):T2 α:=uN (d0 k) t (uN (d1 k) (gN (d0 k) t) x)
theorem Nh{h A:Type}(t:T2 h)(k:Nat)(x:Lf h)(K:T2 h->A):Sq t k x K=K (u2 t k x):=by
 grind[u2,Sq,Wx]
noncomputable def u3{α:Type}(t:T3 α)(k:Nat)(x:Lf α):T3 α:=uN (d0 k) t (uN (d1 k) (gN (d0 k) t) (uN (d2 k) (gN (d1 k) (gN (d0 k) t)) x))
theorem Ow{h A:Type}(t:T3 h)(k:Nat)(x:Lf h)(K:T3 h->A):Wf t k x K=K (u3 t k x):=by
 grind[u3,Wf,Wx]
noncomputable def u4{α:Type}(t:T4 α)(k:Nat)(x:Lf α):T4 α:=
 uN (d0 k) t (uN (d1 k) (gN (d0 k) t) (uN (d2 k) (gN (d1 k) (gN (d0 k) t)) (uN (d3 k) (gN (d2 k) (gN (d1 k) (gN (d0 k) t))) x)))
theorem S7{h A:Type}(t:T4 h)(k:Nat)(x:Lf h)(K:T4 h->A):P3 t k x K=K (u4 t k x):=by
 grind[u4,P3,Wx]
theorem at2{D:Type}(t:T2 D)(k j:Nat)(x:Lf D):
  gN (d1 j) (gN (d0 j) (u2 t k x))=x\/gN (d1 j) (gN (d0 j) (u2 t k x))=gN (d1 j) (gN (d0 j) t):=by
 unfold u2;rcases X5 (d0 k) (d0 j) with h|h
 .rw[h,Fj];rcases X5 (d1 k) (d1 j) with A|A
  .rw[A,Fj];grind
  .rw[Fk _ _ _ _ A];grind
 .rw[Fk _ _ _ _ h];grind
theorem a0a{h:Type}(t:T2 h)(k:Nat)(x:Lf h):gN (d1 k) (gN (d0 k) (u2 t k x))=x:=by
 grind[u2,Fj]
theorem at3{Q:Type}(t:T3 Q)(k j:Nat)(x:Lf Q):
  gN (d2 j) (gN (d1 j) (gN (d0 j) (u3 t k x)))=x\/gN (d2 j) (gN (d1 j) (gN (d0 j) (u3 t k x)))=gN (d2 j) (gN (d1 j) (gN (d0 j) t)):=by
 unfold u3;rcases X5 (d0 k) (d0 j) with h|h
 .rw[h,Fj];rcases X5 (d1 k) (d1 j) with A|A
  .rw[A,Fj];rcases X5 (d2 k) (d2 j) with D|D
   .rw[D,Fj];grind
   .rw[Fk _ _ _ _ D];grind
  .rw[Fk _ _ _ _ A];grind
 .rw[Fk _ _ _ _ h];grind
theorem a7g{h:Type}(t:T3 h)(k:Nat)(x:Lf h):gN (d2 k) (gN (d1 k) (gN (d0 k) (u3 t k x)))=x:=by
 grind[u3,Fj]
theorem at4{U:Type}(t:T4 U)(k j:Nat)(x:Lf U):
  gN (d3 j) (gN (d2 j) (gN (d1 j) (gN (d0 j) (u4 t k x))))=x\/gN (d3 j) (gN (d2 j) (gN (d1 j) (gN (d0 j) (u4 t k x))))=gN (d3 j) (gN (d2 j) (gN (d1 j) (gN (d0 j) t))):=by
 unfold u4;rcases X5 (d0 k) (d0 j) with h|h
 .rw[h,Fj];rcases X5 (d1 k) (d1 j) with A|A
  .rw[A,Fj];rcases X5 (d2 k) (d2 j) with D|D
   .rw[D,Fj];rcases X5 (d3 k) (d3 j) with Q|Q
    .rw[Q,Fj];grind
    .rw[Fk _ _ _ _ Q];grind
   .rw[Fk _ _ _ _ D];grind
  .rw[Fk _ _ _ _ A];grind
 .rw[Fk _ _ _ _ h];grind
theorem a0b{h:Type}(t:T4 h)(k:Nat)(x:Lf h):gN (d3 k) (gN (d2 k) (gN (d1 k) (gN (d0 k) (u4 t k x))))=x:=by
 grind[u4,Fj]
theorem b9w{A:Type}(t:T2 A)(k j:Nat)(v y:A)(h:Cq (u2 t k (.v k v)) j=some y):(j=k/\y=v)\/(j≠k/\Cq t j=some y):=by
 by_cases D:j=k
 .subst D;unfold Cq at h;rw[a0a] at h;exact .inl ⟨rfl,(Ou _ _ _ _ h).2.symm⟩
 grind[Ou,at2,Cq]
theorem b9x{A:Type}(t:T3 A)(k j:Nat)(v y:A)(h:Ia (u3 t k (.v k v)) j=some y):(j=k/\y=v)\/(j≠k/\Ia t j=some y):=by
 by_cases D:j=k
 .subst D;unfold Ia at h;rw[a7g] at h;exact .inl ⟨rfl,(Ou _ _ _ _ h).2.symm⟩
 grind[Ou,at3,Ia]
theorem a0c{A:Type}(t:T4 A)(k j:Nat)(v y:A)(h:E2 (u4 t k (.v k v)) j=some y):(j=k/\y=v)\/(j≠k/\E2 t j=some y):=by
 by_cases D:j=k
 .subst D;unfold E2 at h;rw[a0b] at h;exact .inl ⟨rfl,(Ou _ _ _ _ h).2.symm⟩
 grind[Ou,at4,E2]
theorem b9y{A:Type}(t:T4 A)(k j:Nat)(y:A)(h:E2 (u4 t k .e) j=some y):j≠k/\E2 t j=some y:=by
 by_cases D:j=k
 .subst D;unfold E2 at h;rw[a0b] at h;cases h
 .refine⟨D,?_⟩;unfold E2 at h |-;rcases at4 t k j (.e:Lf A) with e|e
  .rw[e] at h;cases h
  grind
theorem Kf{h:Type}(d:Dg)(x:h):gN d (nN x)=x:=by cases d<;>rfl
theorem a7h{h:Type}(k:Nat):Cq (e2:T2 h) k=none:=by unfold Cq e2;rw[Kf,Kf];rfl
theorem b9z{h:Type}(k:Nat):Ia (e3:T3 h) k=none:=by unfold Ia e3 e2;rw[Kf,Kf,Kf];rfl
theorem S8{h:Type}(k:Nat):E2 (e4:T4 h) k=none:=by unfold E2 e4 e3 e2;rw[Kf,Kf,Kf,Kf];rfl
theorem Ee{h:Type}(n:Nat)(K:Nat->h):Ff n K=K n:=by cases n<;>rfl
theorem a7i{h:Type}(n:Int)(K:Int->h):Na n K=K n:=by cases n<;>simp[Na,Ee]
noncomputable def Cu.upd(t:Cu)(a:Nat)(b:Blk):Cu:=match t with|.tr t=>.tr (u4 t a (.v a b))|.fn g=>.fn (Ak g a (some b))
noncomputable def Cu.rm(t:Cu)(a:Nat):Cu:=match t with|.tr t=>.tr (u4 t a .e)|.fn g=>.fn (Ak g a none)
noncomputable def Mem.upd(H:Mem)(a:Nat)(b:Blk):Mem:=⟨H.t.upd a b,H.next⟩
noncomputable def Mem.rm(H:Mem)(a:Nat):Mem:=⟨H.t.rm a,H.next⟩
noncomputable def Mem.add(H:Mem)(b:Blk):Mem:=⟨H.t.upd H.next b,H.next+1⟩
theorem Mem.newK_eq{h:Type}(H:Mem)(b:Blk)(K:Mem->h):H.newK b K=K (H.add b):=by
 obtain⟨t,n⟩:=H;cases t<;>simp[Mem.newK,a6h,Sr,Wg,Wh,S7,Ee,Mem.add,Cu.upd]
abbrev X1:=@Mem.newK_eq
theorem Mem.setK_eq{h:Type}(H:Mem)(a:Nat)(b:Blk)(K:Mem->h):H.setK a b K=K (H.upd a b):=by
 obtain⟨t,n⟩:=H;cases t<;>simp[Mem.setK,a6i,Sr,Wg,Wh,S7,Mem.upd,Cu.upd]
abbrev Yd:=@Mem.setK_eq
theorem Mem.delK_eq{h:Type}(H:Mem)(a:Nat)(K:Mem->h):H.delK a K=K (H.rm a):=by
 obtain⟨t,n⟩:=H;cases t<;>simp[Mem.delK,a6j,a6g,a6e,a6f,S7,Mem.rm,Cu.rm]
theorem a0d {g:Nat->Option Blk} {a j:Nat} {b y:Blk} (h:Ak g a (some b) j=some y) : (j=a/\y=b)\/(j≠a/\g j=some y):=by
 unfold Ak at h;grind
theorem c0a {g:Nat->Option Blk} {a j:Nat} {y:Blk} (h:Ak g a none j=some y) : j≠a/\g j=some y:=by
 simp_all[Ak]
theorem Mem.get_upd{H:Mem}{a j:Nat}{b y:Blk}(h:(H.upd a b).get j=some y):(j=a/\y=b)\/(j≠a/\H.get j=some y):=by
 obtain⟨t,n⟩:=H
 cases t with
 | tr t=>exact a0c _ _ _ _ _ h
 | fn g=>exact a0d h
abbrev Yf:=@Mem.get_upd
theorem Mem.get_rm{H:Mem}{a j:Nat}{y:Blk}(h:(H.rm a).get j=some y):j≠a/\H.get j=some y:=by
 obtain⟨t,n⟩:=H
 cases t with
 | tr t=>exact b9y _ _ _ _ h
 | fn g=>exact c0a h
abbrev Ys:=@Mem.get_rm
theorem Mem.get_add{H:Mem}{j:Nat}{b y:Blk}(h:(H.add b).get j=some y):(j=H.next/\y=b)\/(j≠H.next/\H.get j=some y):=by
 obtain⟨t,n⟩:=H
 cases t with
 | tr t=>exact a0c _ _ _ _ _ h
 | fn g=>exact a0d h
abbrev X7:=@Mem.get_add
noncomputable def Fr.upd(fr:Fr)(d:Tmp)(v:AV):Fr:=fr.set d v id
theorem Fr.set_eq{h:Type}(fr:Fr)(d:Tmp)(v:AV)(K:Fr->h):fr.set d v K=K (fr.upd d v):=by
 cases fr<;>simp[Fr.set,Fr.upd,fpS,fpG,fpF,Nh,Ow]
theorem Fr.get_upd{fr:Fr}{d j:Tmp}{v y:AV}(h:(fr.upd d v).get j=some y):(j=d/\y=v)\/(j≠d/\fr.get j=some y):=by
 cases fr with
 | s t ds=>simp_all[fgS,Fr.get,Nh,fpS,Fr.set,Fr.upd,b9w]
 | g t ds=>simp_all[fgG,Fr.get,Ow,fpG,Fr.set,Fr.upd,b9x]
 | f g ds =>
  have A:Fh g d v j=some y:=h;unfold Fh at A;by_cases e:j=d
  .grind
  .rw[if_neg e] at A;exact .inr ⟨e,A⟩
abbrev Yl:=@Fr.get_upd
theorem Fr.defers_upd(fr:Fr)(d:Tmp)(v:AV):(fr.upd d v).defers=fr.defers:=by
 cases fr<;>simp[Fr.upd,Fr.set,fpS,fpG,fpF,Nh,Ow,Fr.defers]
abbrev Yt:=@Fr.defers_upd
theorem Fr.get_defer(fr:Fr)(x:Dfr)(j:Tmp):(fr.defer x).get j=fr.get j:=by cases fr<;>rfl
abbrev Yo:=@Fr.get_defer
theorem Fr.defers_defer(fr:Fr)(x:Dfr):(fr.defer x).defers=x::fr.defers:=by cases fr<;>rfl
abbrev Y9:=@Fr.defers_defer
noncomputable def Fr.put(fr:Fr)(d:Option Tmp)(v:AV):Fr:=match d with|some d=>fr.upd d v|none=>fr
theorem Fr.putK_eq{h:Type}(fr:Fr)(d:Option Tmp)(v:AV)(K:Fr->h):fr.putK d v K=K (fr.put d v):=by
 cases d with
 | none=>rfl
 | some d=>exact Fr.set_eq fr d v K
abbrev X8:=@Fr.putK_eq
theorem a7j(n j:Nat):(Cx n).get j=none:=by
 unfold Cx;split
 .exact a7h j
 .exact b9z j
theorem a7k(n:Nat):(Cx n).defers=[]:=by unfold Cx;split<;>rfl
theorem Lk{h:Type}(l:List h)(i:Nat):nth l i=l[i]?:=by
 induction l generalizing i with
 | nil=>rfl
 | cons x l A=>cases i with
  | zero=>rfl
  | succ i=>grind[nth]
theorem Di{A:Type}(l:List A):len l=l.length:=by
 have:∀n,List.rec (motive:=λ_=>Nat->Nat) (λn=>n) (λ_ _ h n=>Ff (Nat.succ n) h) l n=n+l.length:=by
  induction l with
  | nil=>grind
  | cons x l h=>grind[Ee]
 grind[len]
theorem c0b{h A:Type}(z:A)(n:Nat)(l:List h)(K:List h->A):Wi z n l K=if n<=l.length then K (l.take n) else z:=by
 induction n generalizing l K with
 | zero=>rfl
 | succ n D=>cases l with
  | nil=>rfl
  | cons x l =>
   simp_all[Wi]
theorem c0c{h A:Type}(z:A)(n:Nat)(l:List h)(K:List h->A):Wj z n l K=if n<=l.length then K (l.drop n) else z:=by
 induction n generalizing l K with
 | zero=>rfl
 | succ n D=>cases l with
  | nil=>rfl
  | cons x l =>
   simp_all[Wj]
theorem Jd{h A:Type}(l:List h)(n off:Nat)(z:A)(K:List h->A):La l n off z K=if off+n<=l.length then K ((l.drop off).take n) else z:=by
 (simp_all[La,c0c,c0b];grind)
theorem Qi{h A:Type}(a b:List h)(K:List h->A):Ss a b K=K (a++b):=by
 induction a generalizing K with
 | nil=>rfl
 | cons x a D =>
  simp_all[Ss]
theorem c0d{h A:Type}(z:A)(new l:List h)(K:List h->A):Su z new l K=if new.length<=l.length then K (new++l.drop new.length) else z:=by
 induction new generalizing l K with
 | nil=>rfl
 | cons x new D=>cases l with
  | nil=>rfl
  | cons y l =>
   simp_all[Su]
theorem Ll{h A:Type}(z:A)(l:List h)(off:Nat)(new:List h)(K:List h->A):
  Lb z l off new K=if off+new.length<=l.length then K (l.take off++new++l.drop (off+new.length)) else z:=by
 induction off generalizing l K with
 | zero =>
  have:Lb z l 0 new K=Su z new l K:=rfl;grind[c0d]
 | succ off D=>cases l with
  | nil=>simp[Lb]
  | cons x l =>
   (simp_all[Lb];grind)
abbrev Rn:=Nat->Option (Nat×Nat×Nat)
mutual
def VR(ρ:Rn):AV->Value->Prop
 | .lit v,u=>u=v
 | .ptr a off,u=>∃b o k,ρ a=some (b,o,k)/\u=.pointer (some ⟨b,o+off,none⟩)
 | .sl a off n c,u=>∃b o k,ρ a=some (b,o,k)/\n<=c/\u=.slice (some ⟨b,o+off,none⟩) n c
 | .slq a off n d,u=>∃b o k,ρ a=some (b,o,k)/\d+n<=k/\u=.slice (some ⟨b,o+off,none⟩) n (k-d)
 | .es,u=>∃ad c,u=.slice (some ad) 0 c
 | .map a,u=>∃b o k,ρ a=some (b,o,k)/\u=.map (some b)
 | .func fn f c,u=>∃f' c',u=.func fn f' c'/\VRs ρ f f'.toList/\VRs ρ c c'.toList
 | .iface t v,u=>∃u',u=.iface t u'/\VR ρ v u'
 | .agg l,u=>∃cs,u=.agg cs/\VRs ρ l cs.toList
 | .tup l,u=>∃cs,u=.tuple cs/\VRs ρ l cs.toList
def VRs (ρ:Rn):List AV->List Value->Prop
 | [],us=>us=[]
 | v::l,us=>∃u us',us=u::us'/\VR ρ v u/\VRs ρ l us'
end
def Sub(ρ ρ' : Rn):Prop:=∀a x,ρ a=some x->ρ' a=some x
theorem Sub.refl(ρ:Rn):Sub ρ ρ:=λ_ _ h=>h
abbrev Yu:=@Sub.refl
theorem Sub.trans{a b c:Rn}(h:Sub a b)(k:Sub b c):Sub a c:=λx y e=>k x y (h x y e)
mutual
theorem VR.mono {ρ ρ' : Rn} (h:Sub ρ ρ') : ∀ {v:AV} {u:Value},VR ρ v u->VR ρ' v u
 | .lit _,_,r=>r
 | .ptr _ _,_,⟨b,o,k,e,r⟩=>⟨b,o,k,h _ _ e,r⟩
 | .sl _ _ _ _,_,⟨b,o,k,e,r⟩=>⟨b,o,k,h _ _ e,r⟩
 | .slq _ _ _ _,_,⟨b,o,k,e,r⟩=>⟨b,o,k,h _ _ e,r⟩
 | .es,_,r=>r
 | .map _,_,⟨b,o,k,e,r⟩=>⟨b,o,k,h _ _ e,r⟩
 | .func _ _ _,_,⟨f',c',e,r,q⟩=>⟨f',c',e,VRs.mono h r,VRs.mono h q⟩
 | .iface _ _,_,⟨u',e,r⟩=>⟨u',e,VR.mono h r⟩
 | .agg _,_,⟨cs,e,r⟩=>⟨cs,e,VRs.mono h r⟩
 | .tup _,_,⟨cs,e,r⟩=>⟨cs,e,VRs.mono h r⟩
theorem VRs.mono {ρ ρ' : Rn} (h:Sub ρ ρ') : ∀ {l:List AV} {us:List Value},VRs ρ l us->VRs ρ' l us
 | [],_,r=>r
 | _ :: _,_,⟨u,us',e,r,q⟩=>⟨u,us',e,VR.mono h r,VRs.mono h q⟩
end
theorem VRs.nil{ρ:Rn}:VRs ρ [] []:=rfl
theorem VRs.cons{ρ:Rn}{v:AV}{l:List AV}{u:Value}{us:List Value}(h:VR ρ v u)(k:VRs ρ l us):VRs ρ (v::l) (u::us):=⟨u,us,rfl,h,k⟩
theorem VRs.length{ρ:Rn}:∀{l:List AV}{us:List Value},VRs ρ l us->us.length=l.length
 | [],_,h=>by cases h;rfl
 | _::l,_,⟨u,A,e,_,q⟩=>by subst e;simp[VRs.length q]
theorem VRs.get{ρ:Rn}:∀{l:List AV}{us:List Value}(i:Nat){v:AV},VRs ρ l us->l[i]?=some v->∃u,us[i]?=some u/\VR ρ v u
 | x::l,_,i,v,⟨u,Q,e,r,q⟩,h=>by
  subst e
  cases i with
  | zero=>grind
  | succ i=>simp at h;obtain⟨w,A,D⟩:=VRs.get i q h;exact⟨w,by simpa using A,D⟩
theorem VRs.append{ρ:Rn}:∀{l D:List AV}{us A:List Value},VRs ρ l us->VRs ρ D A->VRs ρ (l++D) (us++A)
 | [],_,_,_,h,k=>by cases h;exact k
 | _::_,_,_,_,⟨u,A,e,r,q⟩,k=>by subst e;exact⟨u,A++_,rfl,r,VRs.append q k⟩
theorem VRs.take{ρ:Rn}:∀{l:List AV}{us:List Value}(n:Nat),VRs ρ l us->VRs ρ (l.take n) (us.take n)
 | [],_,n,h=>by grind[VRs]
 | _::_,_,0,_=>by rfl
 | _::_,_,n+1,⟨u,A,e,r,q⟩=>by subst e;exact⟨u,A.take n,by simp,r,VRs.take n q⟩
theorem VRs.drop{ρ:Rn}:∀{l:List AV}{us:List Value}(n:Nat),VRs ρ l us->VRs ρ (l.drop n) (us.drop n)
 | [],_,n,h=>by grind[VRs]
 | _::_,_,0,h=>by grind
 | _::_,_,n+1,⟨u,A,e,r,q⟩=>by subst e;simpa using VRs.drop n q
theorem VRs.lits {ρ:Rn} : ∀ (us:List Value),VRs ρ (us.map .lit) us
 | []=>rfl
 | u :: us=>⟨u,us,rfl,rfl,VRs.lits us⟩
abbrev Yb:=@VRs.lits
theorem VRs.of_get {ρ:Rn} : ∀ {l:List AV} {us:List Value},us.length=l.length->(∀ (i:Nat) (v:AV),l[i]?=some v->∃ u,us[i]?=some u/\VR ρ v u)->VRs ρ l us
 | [],[],_,_=>rfl
 | [],_ :: _,h,_=>by grind
 | _ :: _,[],h,_=>by grind
 | v :: l,u :: us,h,k=>by
  refine⟨u,us,rfl,?_,VRs.of_get (by grind) fun i v' hi=>?_⟩
  ·obtain⟨w,hw,hv⟩:=k 0 v rfl;grind
  ·simpa using k (i+1) v' (by grind)
abbrev Yw:=@VRs.of_get
theorem Qj{ρ:Rn}:∀{l:List AV}{vs:List Value}{us:List Value},litAll l=some vs->VRs ρ l us->us=vs
 | [],vs,us,h,k=>by cases h;exact k
 | v::l,vs,us,h,⟨u,D,e,r,q⟩=>by
  subst e
  cases v with
  | lit x =>
   simp only[litAll] at h;split at h
   .rename_i ws A;cases h;cases r;rw[Qj A q]
   grind
  | _=>simp[litAll] at h
theorem VR.cells{ρ:Rn}{v:AV}{u:Value}(h:VR ρ v u):VRs ρ (cellsOf v) u.cells.toList:=by
 cases v with
 | lit x =>
  cases h;cases u<;>first|exact⟨_,_,rfl,rfl,rfl⟩|exact Yb _
 | agg l=>obtain⟨cs,e,r⟩:=h;subst e;exact r
 | ptr a off=>obtain⟨b,o,k,e,r⟩:=h;subst r;exact⟨_,_,rfl,⟨b,o,k,e,rfl⟩,rfl⟩
 | sl a off n c=>obtain⟨b,o,k,e,e2,r⟩:=h;subst r;exact⟨_,_,rfl,⟨b,o,k,e,e2,rfl⟩,rfl⟩
 | slq a off n c=>obtain⟨b,o,k,e,e2,r⟩:=h;subst r;exact⟨_,_,rfl,⟨b,o,k,e,e2,rfl⟩,rfl⟩
 | es=>obtain⟨b,o,e⟩:=h;subst e;exact⟨_,_,rfl,⟨b,o,rfl⟩,rfl⟩
 | map a=>obtain⟨b,o,k,e,r⟩:=h;subst r;exact⟨_,_,rfl,⟨b,o,k,e,rfl⟩,rfl⟩
 | func fn f c=>obtain⟨A,D,e,r,q⟩:=h;subst e;exact⟨_,_,rfl,⟨A,D,rfl,r,q⟩,rfl⟩
 | iface t w=>obtain⟨u',e,r⟩:=h;subst e;exact⟨_,_,rfl,⟨u',rfl,r⟩,rfl⟩
 | tup l=>obtain⟨cs,e,r⟩:=h;subst e;exact⟨_,_,rfl,⟨cs,rfl,r⟩,rfl⟩
theorem a0e{ρ:Rn}{v:AV}{u:Value}(h:VR ρ v u)(k:oneC v=true):u.oneCell=true:=by
 cases v with
 | lit x=>cases h;cases u<;>first|rfl|cases k
 | agg l=>cases k
 | ptr a off=>obtain⟨b,o,k,e,r⟩:=h;subst r;rfl
 | sl a off n c=>obtain⟨b,o,k,e,e2,r⟩:=h;subst r;rfl
 | slq a off n c=>obtain⟨b,o,k,e,e2,r⟩:=h;subst r;rfl
 | es=>obtain⟨b,o,e⟩:=h;subst e;rfl
 | map a=>obtain⟨b,o,k,e,r⟩:=h;subst r;rfl
 | func fn f c=>obtain⟨A,D,e,r,q⟩:=h;subst e;rfl
 | iface t w=>obtain⟨u',e,r⟩:=h;subst e;rfl
 | tup l=>cases k
def ER(ρ:Rn):List (AV×AV×Nat)->List MapEntry->Prop
 | [],es=>es=[]
 | (k,v,b)::l,es=>∃e es',es=e::es'/\VR ρ k e.key/\VR ρ v e.val/\e.born=b/\ER ρ l es'
theorem ER.mono{ρ A:Rn}(h:Sub ρ A):∀{l:List (AV×AV×Nat)} {es:List MapEntry},ER ρ l es->ER A l es
 | [],_,r=>r
 | _::_,_,⟨e,D,q,r,s,t,z⟩=>⟨e,D,q,r.mono h,s.mono h,t,ER.mono h z⟩
def BR(B:Nat)(ρ:Rn):Blk->Nat->Nat->Nat->World->Prop
 | .cells l own z,b,o,k,w=>∃c e fz,w.heap[b]?=some (.cells c e fz)/\(∀(i:Nat)(v:AV),l[i]?=some v->∃u,c[o+i]?=some u/\VR ρ v u) /\
   (own=true->B<=b/\(∀j,j<c.size->¬(fz.1<=j/\j<fz.2))/\o+k*z<=c.size/\(z=0\/l.length<=k*z))
 | .map es clock,b,_,_,w=>∃es',w.heap[b]?=some (.map es' clock)/\ER ρ es es'.toList/\B<=b
 | .siter s pos,b,o,_,w=>w.heap[b]?=some (.stringIter s pos)/\B<=b/\o=0
 | .typ T l ex,b,o,k,w=>o=0/\B<=b/\∃c,w.heap[b]?=some (.cells c T (0,0))/\(∀(i:Nat)(v:AV),l[i]?=some v->∃u,c[i]?=some u/\VR ρ v u)/\(ex=true->c.size=l.length)/\(ex=false->c.size=k/\l.length<=k)
def Blk.own:Blk->Bool
 | .cells _ own _=>own
 | _=>true
theorem BR.lt{B:Nat}{ρ:Rn}{x:Blk}{b o k:Nat}{w:World}(h:BR B ρ x b o k w):b<w.heap.size:=by
 cases x with
 | cells l own z=>obtain⟨c,e,D,A,_⟩:=h;grind
 | map es Q=>obtain⟨U,A,_⟩:=h;grind
 | siter s Z=>exact(e6d.1 h.1).1
 | typ T l ex=>obtain⟨_,_,c,A,_⟩:=h;grind
theorem BR.mono{B:Nat}{ρ a0:Rn}{x:Blk}{b o k:Nat}{w w': World}(h:BR B ρ x b o k w)(Q:Sub ρ a0)(D:w'.heap[b]?=w.heap[b]?):BR B a0 x b o k w':=by
 cases x with
 | cells l own z =>
  obtain⟨c,e,fz,A,U,ho⟩:=h;exact⟨c,e,fz,D.trans A,λi v hi=>let ⟨u,Z,hv⟩:=U i v hi;⟨u,Z,hv.mono Q⟩,ho⟩
 | map es a2=>obtain⟨a1,A,he,hB⟩:=h;exact⟨a1,D.trans A,he.mono Q,hB⟩
 | siter s a3=>exact⟨D.trans h.1,h.2⟩
 | typ T l ex =>
  obtain⟨h0,hB,c,A,U,h1,h2⟩:=h;exact⟨h0,hB,c,D.trans A,λi v hi=>let ⟨u,Z,hv⟩:=U i v hi;⟨u,Z,hv.mono Q⟩,h1,h2⟩
theorem BR.above{B:Nat}{ρ:Rn}{x:Blk}{b o k:Nat}{w:World}(h:BR B ρ x b o k w)(A:x.own=true):B<=b:=by
 cases x with
 | cells l own z=>obtain⟨c,e,Q,D,U,hh⟩:=h;exact(hh A).1
 | map es Z=>obtain⟨a0,D,he,hB⟩:=h;grind
 | siter s a1=>exact h.2.1
 | typ T l ex=>exact h.2.1
structure Sim (B G:Nat) (ρ:Rn) (H:Mem) (w:World):Prop where
 blk:∀a x,H.get a=some x->ρ a=none\/∃b o k,ρ a=some (b,o,k)/\BR B ρ x b o k w
 inj:∀a a' x x' b o k o' k',H.get a=some x->H.get a'=some x'->a≠a'->x.own=true->ρ a=some (b,o,k)->ρ a'=some (b,o',k')->False
 fresh:∀a,H.next<=a->ρ a=none
 glob:∀a x,a<G->H.get a=some x->ρ a=some (a,0,0)
 names:G<=H.next
 base:B<=w.heap.size
def isMk:Obj->Bool
 | .loop _=>true
 | .deferred _=>true
 | _=>false
def KD(w w' : World):Prop:=(∀(k:Nat)(o:Obj),w.heap[k]?=some o->isMk o=true->w'.heap[k]?=some o)/\w.drawn<=w'.drawn
theorem KD.refl(w:World):KD w w:=⟨λ_ _ h _=>h,Wy _⟩
theorem KD.trans{a b c:World}(h:KD a b)(k:KD b c):KD a c:=⟨λi o hi A=>k.1 i o (h.1 i o hi A) A,Xa h.2 k.2⟩
theorem KD.heap{w w': World}(h:w'.heap=w.heap)(A:w.drawn<=w'.drawn:=by first|exact Wy _|exact W5 _|assumption|omega):KD w w':=⟨λ_ _ D _=>by grind,A⟩
theorem KD.push{w w': World}{A:Obj}(h:w'.heap=w.heap.push A)(D:w.drawn<=w'.drawn:=by first|exact Wy _|exact W5 _|assumption|omega):KD w w':=⟨λk o Q _=>by
 grind,D⟩
theorem KD.turn{w w': World}{b:Nat}{x:Obj}(D:w.heap[b]?=some x)(hx:isMk x=false)(h:∀j,j≠b->w'.heap[j]?=w.heap[j]?)(A:w.drawn<=w'.drawn:=by first|exact Wy _|exact W5 _|assumption|omega):KD w w':=⟨λk o Q U=>by
 grind,A⟩
abbrev Y0:=@KD.turn
structure Ext (B n:Nat) (ρ:Rn) (w:World) (ρ' : Rn) (w' : World):Prop where
 same:∀a,a<n->ρ' a=ρ a
 keeps:KD w w'
 below:Below B w w'
theorem Ext.refl(B n:Nat)(ρ:Rn)(w:World):Ext B n ρ w ρ w:=⟨λ_ _=>rfl,KD.refl w,Below.refl B w⟩
abbrev Ya:=@Ext.refl
theorem Ext.trans{B n n': Nat}{ρ A D:Rn}{w w' Q:World}(h:Ext B n ρ w A w')(k:Ext B n' A w' D Q)(Z:n<=n'):Ext B n ρ w D Q:=
 ⟨λa U=>(k.same a (Xm U Z)).trans (h.same a U),h.keeps.trans k.keeps,h.below.trans k.below⟩
theorem Ext.sub {B G:Nat} {ρ ρ' : Rn} {H:Mem} {w0 w w' : World} (h:Ext B H.next ρ w ρ' w') (s:Sim B G ρ H w0) : Sub ρ ρ':=by
 intro a x hx
 rw[h.same a ?_];· grind
 rcases Nat.lt_or_ge a H.next with k|k
 ·exact k
 ·rw[s.fresh a k] at hx;grind
section
def upd(ρ:Rn)(n:Nat)(x:Nat×Nat×Nat):Rn:=λa=>if a=n then some x else ρ a
theorem Dr(ρ:Rn)(n:Nat)(x:Nat×Nat×Nat):upd ρ n x n=some x:=by simp[upd]
theorem Dj(ρ:Rn){n a:Nat}(x:Nat×Nat×Nat)(h:a≠n):upd ρ n x a=ρ a:=by grind[upd]
theorem Je{ρ:Rn}{n:Nat}{x:Nat×Nat×Nat}(h:ρ n=none):Sub ρ (upd ρ n x):=by
 intro a y hy;grind[Dj]
variable {B G:Nat}{ρ:Rn}{H:Mem}{w w' : World}
theorem Sim.at(s:Sim B G ρ H w){a:Nat}{x:Blk}{b o k:Nat}(h:H.get a=some x)(A:ρ a=some (b,o,k)):BR B ρ x b o k w:=by
 rcases s.blk a x h with D|⟨Q,U,Z,a0,hb⟩
 all_goals grind
theorem Sim.none(s:Sim B G ρ H w):ρ H.next=none:=s.fresh _ (Wy _)
theorem Sim.lt_next(s:Sim B G ρ H w){a:Nat}{x:Nat×Nat×Nat}(h:ρ a=some x):a<H.next:=by
 rcases e6z a H.next with k|k
 .exact k
 .rw[s.fresh a k] at h;cases h
theorem Sim.heap(s:Sim B G ρ H w)(h:w'.heap=w.heap):Sim B G ρ H w' :=
 {blk:=λa x hx=>(s.blk a x hx).imp id λ⟨b,o,k,A,D⟩=>⟨b,o,k,A,D.mono (Yu _) (by rw[h])⟩
  inj:=s.inj,fresh:=s.fresh,glob:=s.glob,names:=s.names,base:=by rw[h];exact s.base }
theorem Sim.other(s:Sim B G ρ H w)(A:w.heap.size<=w'.heap.size)(hh:∀a x b o k,H.get a=some x->ρ a=some (b,o,k)->w'.heap[b]?=w.heap[b]?):Sim B G ρ H w' :=
 {blk:=λa x hx=>(s.blk a x hx).imp id λ⟨b,o,k,h,D⟩=>⟨b,o,k,h,D.mono (Yu _) (hh a x b o k hx h)⟩
  inj:=s.inj,fresh:=s.fresh,glob:=s.glob,names:=s.names,base:=Xa s.base A }
theorem Sim.rm(s:Sim B G ρ H w)(a:Nat):Sim B G ρ (H.rm a) w:=
 {blk:=λj x hx=>s.blk j x (Ys hx).2
  inj:=λj D x Q b o k U Z h h' a0 ho hr a1=>s.inj j D x Q b o k U Z (Ys h).2 (Ys h').2 a0 ho hr a1
  fresh:=λj A=>s.fresh j A
  glob:=λj x A hx=>s.glob j x A (Ys hx).2
  names:=s.names,base:=s.base }
theorem Sim.add(s:Sim B G ρ H w){x:Blk}{b o k:Nat}(a2:w.heap.size<=w'.heap.size)
  (hh:∀a x A U Z,H.get a=some x->ρ a=some (A,U,Z)->A≠b/\w'.heap[A]?=w.heap[A]?)
  (hx:BR B (upd ρ H.next (b,o,k)) x b o k w'):Sim B G (upd ρ H.next (b,o,k)) (H.add x) w':=by
 have a3:=Je (x:=(b,o,k)) s.none;refine⟨?_,?_,?_,?_,?_,Xa s.base a2⟩
 .intro a y hy;rcases X7 hy with⟨rfl,rfl⟩|⟨Q,hy⟩
  .grind[Dr]
  .rw[Dj _ _ Q];rcases s.blk a y hy with hn|⟨A,U,Z,D,hb⟩
   .grind
   .exact .inr ⟨A,U,Z,D,hb.mono a3 (hh a y A U Z hy D).2⟩
 .intro a a' y y' b1 o1 k1 o2 k2 h h' Q ho D a0;rcases X7 h with⟨e1,e2⟩|⟨a4,g⟩
  .rcases X7 h' with⟨e3,e4⟩|⟨a1,g'⟩
   .grind
   .rw[e1,Dr] at D;cases D;rw[Dj _ _ a1] at a0;grind
  .rw[Dj _ _ a4] at D;rcases X7 h' with⟨e3,e4⟩|⟨a1,g'⟩
   .rw[e3,Dr] at a0;grind
   .rw[Dj _ _ a1] at a0;exact s.inj a a' y y' b1 o1 k1 o2 k2 g g' Q ho D a0
 .intro a ha;have h1:H.next+1<=a:=ha;rw[Dj _ _ (by omega)];exact s.fresh a (by omega)
 .intro a y ha hy;have a5:=s.names;rcases X7 hy with⟨rfl,rfl⟩|⟨Q,hy⟩
  .omega
  .rw[Dj _ _ Q];exact s.glob a y ha hy
 .exact e7l s.names
theorem Sim.set(s:Sim B G ρ H w){a:Nat}{x y:Blk}{b o k:Nat}(U:H.get a=some x)(hr:ρ a=some (b,o,k))(a0:x.own=true)(a6:y.own=true)
  (a4:w.heap.size<=w'.heap.size) (hh:∀A,A≠b->A < w.heap.size->w'.heap[A]?=w.heap[A]?) (hy:BR B ρ y b o k w'):Sim B G ρ (H.upd a y) w':=by
 refine⟨?_,?_,λj Z=>s.fresh j Z,?_,s.names,Xa s.base a4⟩
 .intro j z D;rcases Yf D with⟨rfl,rfl⟩|⟨Q,D⟩
  .grind
  .rcases s.blk j z D with hn|⟨A,o',k',a3,hb⟩
   .grind
   .refine .inr ⟨A,o',k',a3,hb.mono (Yu _) (hh A ?_ hb.lt)⟩;rintro rfl;exact s.inj a j x z A o k o' k' U D (Ne.symm Q) a0 hr a3
 .intro j j' z z' b1 o1 k1 o2 k2 h h' Q ho a1 a2;rcases Yf h with⟨e1,e2⟩|⟨a7,g⟩
  .rcases Yf h' with⟨e3,e4⟩|⟨a5,g'⟩
   .grind
   .subst e1;exact s.inj j j' x z' b1 o1 k1 o2 k2 U g' Q a0 a1 a2
  .rcases Yf h' with⟨e3,e4⟩|⟨a5,g'⟩
   .subst e3;exact s.inj j' j x z b1 o2 k2 o1 k1 U g (Ne.symm Q) a0 a2 a1
   .exact s.inj j j' z z' b1 o1 k1 o2 k2 g g' Q ho a1 a2
 .intro j z Z D;rcases Yf D with⟨rfl,rfl⟩|⟨Q,D⟩
  .exact s.glob j x Z U
  .exact s.glob j z Z D
theorem Sim.alloc(s:Sim B G ρ H w)(x:Blk)(h:Obj)(k:Nat)(w' : World)(D:w'.heap=w.heap.push h)
  (hx:BR B (upd ρ H.next (w.heap.size,0,k)) x w.heap.size 0 k w'):Sim B G (upd ρ H.next (w.heap.size,0,k)) (H.add x) w':=by
 refine s.add (by grind) ?_ hx;intro a y Q U Z hy A;have a0:=(s.at hy A).lt;grind
theorem a7l(w w' : World)(h:Obj)(A:w'.heap=w.heap.push h):w'.heap[w.heap.size]?=some h:=by grind
theorem Ext.alloc(ρ:Rn)(n:Nat)(x:Nat×Nat×Nat)(w w' : World)(h:Obj)(A:w'.heap=w.heap.push h)(D:w'.os=w.os)(Q:w'.tape=w.tape)(U:w'.output=w.output)
  (Z:B<=w.heap.size) (hd:w.drawn<=w'.drawn:=by first|exact Wy _|exact W5 _|assumption|omega):Ext B n ρ w (upd ρ n x) w' :=
 ⟨λa ha=>Dj _ _ (by omega),KD.push A,D,Q,U,by grind,λk hk=>by grind⟩
abbrev Ym:=@Ext.alloc
end
section
variable {B G:Nat}{ρ:Rn}{H:Mem}{w:World}{P:Program}
variable {t:TypeId}{b off o k:Nat}{u:Value}{i:TypeInfo}{n:Int}
theorem Fw(b x n:Nat):Addr.add ⟨b,x,none⟩ n=⟨b,x+n,none⟩:=by
 grind[Addr.add]
theorem a0f(v:Value):v.oneCell'=v.oneCell:=by cases v<;>rfl
theorem Qk{c:Array Value}{e:TypeId}{A:Nat×Nat}(h:w.heap[b]?=some (.cells c e A))(D:c[off]?=some u):w.cell? ⟨b,off,none⟩=some u:=by
 grind[World.cell?]
theorem a0g{c:Array Value}{e:TypeId}{A:Nat×Nat}(h:w.heap[b]?=some (.cells c e A))(D:¬(A.1<=off/\off<A.2)):w.frozen? ⟨b,off,none⟩=false:=by
 grind[World.frozen?]
theorem Gg(h:P.info? t=some i)(w:World):(typeInfo t).run P w=.ok i w:=by
 simp[typeInfo,h]
theorem Cr(h:P.info? t=some i)(w:World):(sizeOf t).run P w=.ok i.size w:=by
 simp[sizeOf,Gg h]
theorem A0{d:TypeDesc}(h:P.underlying t=some d)(w:World):(underlying t).run P w=.ok d w:=run_underlying h w
theorem E6{z:Value}(h:P.info? t=some i)(A:i.zero=some z)(w:World):(zeroValue t).run P w=.ok z w:=by
 simp_all[Gg,zeroValue]
theorem Ql{b:Bool}{n:Nat}(h:Bw P t=some (b,n))(w:World):(isAgg t).run P w=.ok b w/\(sizeOf t).run P w=.ok n w:=by
 unfold Bw at h;split at h
 .rename_i d i A hi;cases h
  (split<;>simp_all[Cr,A0,isAgg])
 grind
theorem BR.sub{l:List AV}{own:Bool}{z n:Nat}(h:BR B ρ (.cells l own z) b o k w)(U:off+n<=l.length):
  ∃us:List Value,us.length=n/\VRs ρ ((l.drop off).take n) us/\∀j v,us[j]?=some v->w.cell? ⟨b,o+off+j,none⟩=some v:=by
 obtain⟨c,e,Z,hb,A,_⟩:=h;have D:((c.toList.drop (o+off)).take n).length=n:=by
  rw[W4,List.length_drop];rcases Nat.eq_zero_or_pos n with Q|Q
  .omega
  .obtain⟨u,hu,_⟩:=A (off+n-1) (l[off+n-1]'(by omega)) (by grind);grind
 refine⟨(c.toList.drop (o+off)).take n,D,Yw ?_ ?_,?_⟩
 .grind
 .grind
 grind[Qk]
theorem S9{x:Nat}(us:List Value)(h:∀j v,us[j]?=some v->w.cell? ⟨b,x+j,none⟩=some v):(loadCells ⟨b,x,none⟩ us.length).run P w=.ok us.toArray w:=
 run_loadCells_list w ⟨b,x,none⟩ us λj v A=>by grind[Fw]
theorem a7m{x:Blk}{v:AV}(h:A5 (Bw P t) (some x) off=some v)(D:BR B ρ x b o k w):
  ∃r,(Instr.loadAt t (.pointer (some ⟨b,o+off,none⟩))).run P w=.ok r w/\VR ρ v r:=by
 unfold A5 at h;split at h
 .rename_i l own z size hx A;cases hx;obtain⟨Q,U⟩:=Ql A w;rw[Jd] at h;split at h
  .rename_i Z;cases h;obtain⟨us,a0,a2,a3⟩:=D.sub Z;subst a0;refine⟨.agg us.toArray,?_,⟨_,rfl,by grind⟩⟩;simp_all[S9,loadVar,Instr.sureAddr,Instr.loadAt]
  grind
 .rename_i l own z size hx A;cases hx;obtain⟨Q,U⟩:=Ql A w;rw[Lk] at h;obtain⟨c,e,fz,a1,hc,_⟩:=D;obtain⟨u,hu,hv⟩:=hc _ _ h;refine⟨u,?_,hv⟩;simp[Instr.loadAt,Instr.sureAddr,loadVar,Q,Qk a1 hu]
 grind
theorem a7n{p v:AV}(s:Sim B G ρ H w)(hG:G=P.globals.size)(h:load P H t p=some v)(D:VR ρ p u):
  ∃r,(Instr.loadAt t u).run P w=.ok r w/\VR ρ v r:=by
 unfold load at h;split at h
 .rename_i a off;obtain⟨b,o,k,A,rfl⟩:=D
  cases hx:H.get a with
  | none=>grind[A5]
  | some x=>rw[hx] at h;exact a7m h (s.at hx A)
 .rename_i g off;cases D;split at h
  .rename_i Q
   cases hx:H.get g with
   | none=>grind[A5]
   | some x =>
    rw[hx] at h;have U:g+1<=P.globals.size:=by grind[Nat.ble_eq,Nat.blt]
    have A:=s.glob g x (by grind) hx;simpa using a7m h (s.at hx A)
  grind
 grind
theorem a0h(b x:Nat)(e:TypeId)(h:Nat×Nat):∀(vs:List Value)(i:Nat)(c:Array Value)(w:World),w.heap[b]?=some (.cells c e h) ->
  (∀j,j<c.size->¬(h.1<=j/\j<h.2))->x+i+vs.length<=c.size->(∀v∈vs,v.oneCell=true) ->
  ∃w' A,(storeCells ⟨b,x,none⟩ vs i).run P w=.ok () w'/\w'.heap[b]?=some (.cells A e h)/\A.size=c.size /\
   (∀j,A[j]?=if x+i<=j/\j<x+i+vs.length then vs[j-(x+i)]? else c[j]?) /\
   (∀D,D≠b->w'.heap[D]?=w.heap[D]?)/\(w'.heap.size=w.heap.size/\w'.drawn=w.drawn)/\w'.os=w.os/\w'.tape=w.tape/\w'.output=w.output
 | [],i,c,w,Q,U,Z,ho=>⟨w,c,rfl,Q,rfl,λj=>by grind,λ_ _=>rfl,⟨rfl,rfl⟩,rfl,rfl,rfl⟩
 | v::vs,i,c,w,Q,U,Z,ho=>by
  simp only[Xk] at Z;have a1:x+i<c.size:=by omega
  have a5:w.cell? ⟨b,x+i,none⟩=some c[x+i]:=Qk Q (by grind);have a6:w.frozen? ⟨b,x+i,none⟩=false:=a0g Q (U _ a1);have h1:(w.setCell ⟨b,x+i,none⟩ v).heap[b]?=some (.cells (c.setIfInBounds (x+i) v) e h):=by
   grind[World.setCell]
  obtain⟨w',A,hr,a2,a7,a3,a4,hs,h2,h3,h4⟩:=a0h b x e h vs (i+1) (c.setIfInBounds (x+i) v) (w.setCell ⟨b,x+i,none⟩ v) h1 (by grind) (by grind) (λu hu=>ho u (by grind));refine⟨w',A,?_,a2,by grind,?_,?_,?_,h2,h3,h4⟩
  .simp_all[storeCells,Fw,a0f,run_store]
  .intro j;rw[a3 j];grind
  .intro D a0;rw[a4 D a0];simp[World.setCell,Array.getElem?_modify,Ne.symm a0]
  simp_all
theorem a7o{a:Nat}{l new:List AV}{z:Nat}{vs:List Value}(s:Sim B G ρ H w)(A:H.get a=some (.cells l true z))(D:ρ a=some (b,o,k))
  (a6:off+new.length<=l.length) (Q:VRs ρ new vs) (ho:∀v∈vs,v.oneCell=true) :
  ∃w',(storeCells ⟨b,o+off,none⟩ vs).run P w=.ok () w'/\Ext B H.next ρ w ρ w'/\Sim B G ρ (H.upd a (.cells (l.take off++new++l.drop (off+new.length)) true z)) w':=by
 have a0:=s.at A D;obtain⟨c,e,U,Z,hc,a1⟩:=a0;obtain⟨hB,hf,hk,hz⟩:=a1 rfl;have a7:=Q.length;have a8:o+off+vs.length<=c.size:=by
  rcases Nat.eq_zero_or_pos l.length with h0|h0
  ·
   grind
  .obtain⟨u,hu,_⟩:=hc (l.length-1) (l[l.length-1]'(by omega)) (by grind);grind
 obtain⟨w',c',a2,a3,a9,a4,h,b0,h2,h3,h4⟩:=a0h (P:=P) b (o+off) e U vs 0 c w Z hf (by omega) ho;refine⟨w',a2,⟨λ_ _=>rfl,Y0 Z rfl (λq hq=>h q hq),h2,h3,h4,by omega,λq hq=>h q (by omega)⟩,?_⟩;refine s.set A D rfl rfl (by omega) (λb' a5 _=>h b' a5) ⟨c',e,U,a3,?_,λ_=>⟨hB,by grind,by grind,?_⟩⟩
 rotate_left
 .grind
 intro i v hi;rw[a4];by_cases h1:i<off
 .grind
 .by_cases h2:i<off+new.length
  .rw[if_pos (by omega)];rw[e6c,Xq (by grind),Xs (by grind)] at hi;have e1:min off l.length=off:=by omega
   simp only[W4,e1] at hi;obtain⟨u,hu,b1⟩:=Q.get _ hi;grind
  grind
def RS(B G:Nat)(P:Program)(ρ:Rn)(H:Mem)(w:World)(r:R)(m:Sem Next):Prop:=
 match r with
 | .val v H'=>∃ρ' u w',m.run P w=.ok (.value u) w'/\Ext B H.next ρ w ρ' w'/\Sim B G ρ' H' w'/\VR ρ' v u/\H.next<=H'.next
 | .skip H'=>∃ρ' w',m.run P w=.ok .skip w'/\Ext B H.next ρ w ρ' w'/\Sim B G ρ' H' w'/\H.next<=H'.next
 | .enter f args H'=>∃us:Array Value,m.run P w=.ok (.enter f us) w/\VRs ρ args us.toList/\H'=H
 | .dfr fn cap args H'=>∃cs as:Array Value,m.run P w=.ok (.defer { target:=.fn fn cs,args:=as }) w/\VRs ρ cap cs.toList/\VRs ρ args as.toList/\H'=H
 | .panic v H'=>∃u,m.run P w=.halt (.panic u) w/\VR ρ v u/\H'=H
 | .recover=>m.run P w=.ok .recover w
 | .bad=>True
abbrev EvR(ρ:Rn)(ev:Ev)(e:Operand->Value):Prop:=∀x v,ev x=some v->VR ρ v (e x)
theorem RS.quiet{v:AV}{m:Sem Next}(s:Sim B G ρ H w)(h:m.run P w=.ok (.value u) w)(A:VR ρ v u):RS B G P ρ H w (.val v H) m:=
 ⟨ρ,u,w,h,Ya _ _ _ _,s,A,Wy _⟩
abbrev X2:=@RS.quiet
theorem RS.ofOpt{r:Option AV}{m:Sem Next}(s:Sim B G ρ H w)(h:∀v,r=some v->∃u,m.run P w=.ok (.value u) w/\VR ρ v u):RS B G P ρ H w (ofOpt H r) m:=by
 cases r with
 | none=>trivial
 | some v=>obtain⟨u,A,D⟩:=h v rfl;exact X2 s A D
abbrev Ye:=@RS.ofOpt
theorem Qm{D:Type}:∀{m:Sem D}{a:D},Ar P m=some a->∀w,m.run P w=.ok a w:=by
 intro m
 induction m with
 | pure b=>simp[Ar]
 | program k A=>intro a h w;simp only[Ar] at h;exact A _ h w
 | mark m k A=>assumption
 | choose q k A =>
  simp_all[Ar,Sem.run]
 | _=>grind[Ar]
theorem a0i{v:AV}{x:Value}(h:toLit v=some x)(A:VR ρ v u):u=x:=by
 cases v with
 | lit y=>cases h;exact A
 | agg l =>
  obtain⟨cs,e,r⟩:=A;simp only[toLit] at h;split at h
  .rename_i vs D;cases h;subst e;rw[<- Qj D r]
  grind
 | tup l =>
  obtain⟨cs,e,r⟩:=A;simp only[toLit] at h;split at h
  .rename_i vs D;cases h;subst e;rw[<- Qj D r]
  grind
 | iface t y =>
  obtain⟨u',e,r⟩:=A
  cases y with
  | lit z=>cases h;cases r;exact e
  | _=>cases h
 | func fn f c =>
  obtain⟨Z,c',e,r,q⟩:=A;simp only[toLit] at h;split at h
  .rename_i x1 x2 Q U;cases h;subst e;rw[<- Qj Q r,<- Qj U q]
  grind
 | _=>cases h
theorem Lm{ev:Ev}{e:Operand->Value}{o:Oper}{v:AV}(A:∀cs b,o.op≠.select cs b)(he:EvR ρ ev e)(h:A7 P ev o=some v):
  ∃u,(execOp e o).run P w=.ok (.value u) w/\VR ρ v u:=by
 unfold A7 at h;dsimp only at h;split at h
 .rename_i D;split at h
  .rename_i u Q;cases h;refine⟨u,?_,rfl⟩;grind[execOp_congr,Qm,a0i]
  grind
 grind
section one
variable {ev:Ev}{e:Operand→Value}{o:Oper} (s:Sim B G ρ H w) (hG:G=P.globals.size) (he:EvR ρ ev e)
include s he
variable {x:Operand}{t:TypeId}
theorem a7p(h:execOp e o=pure (.value (e x))):RS B G P ρ H w (Es H (ev x)) (execOp e o):=by
 unfold Es;split
 .simp_all[X2]
 .trivial
theorem c0e{c a b:Operand}(h:o.op=.pick c a b):RS B G P ρ H w (G1 H (ev c) (ev a) (ev b)) (execOp e o):=by
 unfold G1;split
 .rename_i A;have:=he _ _ A;simp_all[Ye,VR,asBool,execOp]
 .rename_i A;have:=he _ _ A;simp_all[Ye,VR,asBool,execOp]
 .trivial
omit he in
theorem Ta{l:List AV}{cells:Array Value}{elem:TypeId}{m:Sem Next}{v:AV}{u:Value}(z k:Nat)(hk:k*z<=cells.size)(hz:z=0\/l.length<=k*z)(hc:VRs ρ l cells.toList)
  (hrun:m.run P w=.ok (.value u) { w with heap:=w.heap.push (.cells cells elem) }) (hv:VR (upd ρ H.next (w.heap.size,0,k)) v u) :
  RS B G P ρ H w (.val v (H.add (.cells l true z))) m:=by
 refine⟨upd ρ H.next (w.heap.size,0,k),u,_,hrun,Ym ρ _ _ w _ _ rfl rfl rfl rfl s.base,?_,hv,W5 _⟩;refine s.alloc _ _ k _ rfl ⟨cells,elem,(0,0),by simp,?_,λ_=>⟨s.base,by simp,by grind,hz⟩⟩;intro i v hi;obtain⟨u,hu,hv⟩:=hc.get i hi;exact⟨u,by grind,hv.mono (Je s.none)⟩
theorem c0f(h:o.op=.box t x):RS B G P ρ H w (Hg H (ev x)) (execOp e o):=by
 unfold Hg;split
 .rename_i v A;unfold Dq;rw[X1];refine Ta s (cells:=(e x).cells) (elem:=t) 0 0 (by simp) (.inl rfl) (he _ _ A).cells (u:=.pointer (some ⟨w.heap.size,0,none⟩)) ?_ ⟨_,_,_,Dr _ _ _,rfl⟩;simp[execOp,h,Instr.box,newVar,newRow]
 .trivial
omit he in
theorem c0g{t:TypeId}(h:o.op=.alloc t):RS B G P ρ H w (I7 P H t) (execOp e o):=by
 unfold I7;split
 .rename_i l A;unfold Cb at A;split at A
  .rename_i i hi;split at A
   .rename_i D Q;cases A;unfold Dq;rw[X1];refine Ta s (cells:=D.cells) (elem:=t) 0 0 (by simp) (.inl rfl) (Yb _) (u:=.pointer (some ⟨w.heap.size,0,none⟩)) ?_ ⟨_,_,_,Dr _ _ _,rfl⟩;simp_all[E6,newRow,newVar,Instr.alloc,execOp]
   grind
  grind
 .trivial
include hG in
theorem c0h{t:TypeId}{x:Operand}(h:o.op=.load t x):RS B G P ρ H w (Fv P H t (ev x)) (execOp e o):=by
 unfold Fv;split
 .rename_i p A;refine Ye s λv D=>?_;obtain⟨r,Q,U⟩:=a7n s hG D (he _ _ A);simp_all[execOp]
 .trivial
omit s he in
theorem allOne_VRs:∀{l:List AV}{us:List Value},VRs ρ l us->allOne l=true->∀v∈us,v.oneCell=true
 | [],_,h,_=>by cases h;simp
 | v::l,_,⟨u,D,e,r,q⟩,h=>by
  subst e;simp only[allOne] at h;split at h
  .rename_i A;intro x hx;rcases Xb.1 hx with rfl|hx
   .exact a0e r A
   .exact allOne_VRs q h x hx
  grind
theorem c0i{a:Operand}(h:o.op=.store t a x):RS B G P ρ H w (Ie P H t (ev a) (ev x)) (execOp e o):=by
 unfold Ie;split
 .rename_i p v U Z;split
  .rename_i H' A;unfold store at A;split at A
   .rename_i n off;split at A
    .rename_i l z bl size hb ht;split at A
     .rename_i D;rw[Ll] at A;split at A
      .rename_i a0;rw[Yd] at A;cases A;simp only[W1] at D;have a1:len (cellsOf v)=size:=Xe D.1;rw[Di] at a1;obtain⟨b,q,k,hr,hu⟩:=he _ _ U;have Q:=(he _ _ Z).cells;obtain⟨w',a2,a3,a4⟩:=a7o (P:=P) s hb hr a0 Q (allOne_VRs Q D.2);refine⟨ρ,w',?_,a3,a4,Wy _⟩;have a5:(e x).cells.size=size:=by have:=Q.length;grind
       simp[execOp,h,Instr.storeAt,Instr.sureAddr,hu,storeVar,(Ql ht _).2,a5,a2]
      grind
     grind
    grind
   grind
  .trivial
 .trivial
theorem Ni(h:∀cs b,o.op≠.select cs b):RS B G P ρ H w (ofOpt H (A7 P ev o)) (execOp e o):=
 Ye s λ_ A=>Lm h he A
theorem c0j(h:o.op=.nilCheck x):RS B G P ρ H w (I8 P H ev o (ev x)) (execOp e o):=by
 unfold I8;split
 .rename_i a off A;obtain⟨b,q,k,U,D⟩:=he _ _ A;exact X2 s (u:=e x) (by simp_all[execOp]) ⟨b,q,k,U,D⟩
 .rename_i f l r A;obtain⟨Z,c',D,Q,h2⟩:=he _ _ A;exact X2 s (u:=e x) (by simp_all[execOp]) ⟨Z,c',D,Q,h2⟩
 .rename_i t v A;obtain⟨u',D,Q⟩:=he _ _ A;exact X2 s (u:=e x) (by simp_all[execOp]) ⟨u',D,Q⟩
 grind[Ni]
theorem c0k(h:o.op=.makeInterface t x):RS B G P ρ H w (Ka P H t (ev x)) (execOp e o):=by
 unfold Ka;split
 .trivial
 .rename_i d v Q A D;refine X2 s (u:=.iface t (e x)) ?_ ⟨_,rfl,he _ _ D⟩;cases d<;>first|(simp[execOp,h,Instr.makeInterface,A0 A];done)|grind
 .trivial
omit s in
theorem evals_VRs:∀{l:List Operand}{vs:List AV},Bj ev l=some vs->VRs ρ vs (l.map e)
 | [],_,h=>by cases h;rfl
 | x::l,vs,h=>by
  simp only[Bj] at h;split at h
  .rename_i v A;split at h
   .rename_i ws D;cases h;exact⟨_,_,rfl,he _ _ A,evals_VRs D⟩
   grind
  grind
theorem c0l{fn:Fn}{a c:Array Operand}(h:o.op=.makeFunc fn a c):RS B G P ρ H w (Ig H fn (Bj ev a.toList) (Bj ev c.toList)) (execOp e o):=by
 unfold Ig;split
 .rename_i x y hx hy;refine X2 s (u:=.func fn (a.map e) (c.map e)) (by simp[execOp,h,Instr.makeFunc]) ⟨_,_,rfl,?_,?_⟩
  .simpa using evals_VRs he hx
  .simpa using evals_VRs he hy
 .trivial
theorem c0m{i:Nat}(h:o.op=.extract x i):RS B G P ρ H w (Ih H (ev x) i) (execOp e o):=by
 unfold Ih;split
 .rename_i l A;obtain⟨cs,D,Q⟩:=he _ _ A;refine Ye s λv A=>?_;obtain⟨u,U,Z⟩:=Q.get i A;simp_all[Instr.extract,execOp]
 .rename_i vs A;have D:=he _ _ A;simp only[VR] at D;split
  .rename_i v U;exact X2 s (u:=v) (by simp_all[Instr.extract,execOp]) rfl
  .trivial
 .trivial
omit s in
theorem c0n{x:Operand}(h:o.op=.panic x):RS B G P ρ H w (Qb H (ev x)) (execOp e o):=by
 unfold Qb;split
 .rename_i t v A;obtain⟨u',D,Q⟩:=he _ _ A;exact⟨e x,by simp_all[Instr.panic,execOp],⟨u',D,Q⟩,rfl⟩
 .rename_i t v A;have D:=he _ _ A;simp only[VR] at D;exact⟨e x,by simp_all[Instr.panic,execOp],by grind,rfl⟩
 .trivial
end one
section one
variable {ev:Ev}{e:Operand→Value}{o:Oper} (s:Sim B G ρ H w) (he:EvR ρ ev e)
variable {t:TypeId}{x:Operand}
theorem Kg{v:AV}{n:Nat}{u:Value}(h:natOf v=some n)(A:VR ρ v u):∃k,u=.int k n:=by
 unfold natOf at h;split at h
 .cases h;cases A;grind
 grind
theorem a7q{r:Option AV}(s:Sim B G ρ H w)(he:EvR ρ ev e)(A:∀cs b,o.op≠.select cs b)(h:∀v,r=some v->∃u,(execOp e o).run P w=.ok (.value u) w/\VR ρ v u):
  RS B G P ρ H w (Gd P H ev o r) (execOp e o):=by
 unfold Gd;split
 .rename_i v;obtain⟨u,D,Q⟩:=h v rfl;grind[RS.quiet]
 grind[Ni]
include s he
theorem c0o{f:Nat}(h:o.op=.fieldAddr t x f):RS B G P ρ H w (G2 P H ev o t (ev x) f) (execOp e o):=by
 unfold G2;split
 .rename_i v D;refine a7q s he (by grind) λr A=>?_;unfold fieldAddr at A;split at A
  .rename_i Z a off hd;obtain⟨b,q,k,Q,hu⟩:=he _ _ D;split at A
   .rename_i U hf;split at A
    .rename_i i hi;split at A
     .grind
     .rename_i hz;rw[Ee] at A;cases A;have a0:i.size≠0:=by intro h0;simp_all
      refine⟨.pointer (some ⟨b,q+off+U.offset,none⟩),?_,⟨b,q,k,Q,by grind⟩⟩;simp_all[Fw,Cr,fieldPlace,Instr.sureAddr,A0,Instr.fieldAt,execOp]
    grind
   grind
  grind
 .trivial
theorem c0p{i:Operand}(h:o.op=.indexAddr t x i):RS B G P ρ H w (Dy P H ev o t (ev x) (ev i)) (execOp e o):=by
 unfold Dy;split
 .rename_i v k hv hk;refine a7q s he (by grind) λr A=>?_;unfold indexAddr at A;split at A
  .rename_i el a off n c j D Q;obtain⟨ki,hi⟩:=Kg Q (he _ _ hk);obtain⟨b,q,U,Z,a4,hu⟩:=he _ _ hv;split at A
   .rename_i a0 a1;split at A
    .rename_i a3;rw[Ee] at A;cases A;have a2:j<n:=by simp_all
     refine⟨.pointer (some ⟨b,q+off+j*a0.size,none⟩),?_,⟨b,q,U,Z,by grind⟩⟩;simp[execOp,h,Instr.indexAt,hi,asIntOf,A0 D,hu,a2,Cr a1,Fw]
    grind
   grind
  .rename_i el a off n c j D Q;obtain⟨ki,hi⟩:=Kg Q (he _ _ hk);obtain⟨b,q,U,Z,a4,hu⟩:=he _ _ hv;split at A
   .rename_i a0 a1;split at A
    .rename_i a3;rw[Ee] at A;cases A;have a2:j<n:=by simp_all
     refine⟨.pointer (some ⟨b,q+off+j*a0.size,none⟩),?_,⟨b,q,U,Z,by grind⟩⟩;simp[execOp,h,Instr.indexAt,hi,asIntOf,A0 D,hu,a2,Cr a1,Fw]
    grind
   grind
  .rename_i n el a off j D Q;obtain⟨ki,hi⟩:=Kg Q (he _ _ hk);obtain⟨b,q,U,Z,hu⟩:=he _ _ hv;split at A
   .rename_i a0 a1;split at A
    .rename_i a3;rw[Ee] at A;cases A;have a2:j<n:=by simp_all
     refine⟨.pointer (some ⟨b,q+off+j*a0.size,none⟩),?_,⟨b,q,U,Z,by grind⟩⟩;simp[execOp,h,Instr.indexAt,hi,asIntOf,A0 D,hu,Instr.sureAddr,a2,Cr a1,Fw]
    grind
   grind
  grind
 .trivial
omit s he in
theorem a7r{v:AV}{l:List AV}{u:Value}(h:asAggL v=some l)(A:VR ρ v u):∃cs,u=.agg cs/\VRs ρ l cs.toList:=by
 unfold asAggL at h;split at h
 .cases h;cases A;exact⟨_,rfl,Yb _⟩
 .cases h;exact A
 grind
omit s he in
theorem a7s{t:TypeId}{l:List AV}{cs:Array Value}{off:Nat}{v:AV}(h:Sx P t l off=some v)(D:VRs ρ l cs.toList)(w:World):
  ∃u,(part t cs off).run P w=.ok u w/\VR ρ v u:=by
 unfold Sx at h;split at h
 .rename_i size A;obtain⟨Q,U⟩:=Ql A w;split at h
  .cases h;refine⟨.agg (cs.extract off (off+size)),by simp_all[part],⟨_,rfl,?_⟩⟩;simp_all[VRs.drop,VRs.take]
  grind
 .rename_i size A;obtain⟨Q,U⟩:=Ql A w;obtain⟨u,Z,hv⟩:=D.get _ h;simp_all[part]
 grind
theorem c0q{f:Nat}(h:o.op=.field t x f):RS B G P ρ H w (Kb P H t (ev x) f) (execOp e o):=by
 unfold Kb;split
 .rename_i v D;refine Ye s λr A=>?_;unfold field at A;split at A
  .rename_i Z l hd Q;obtain⟨cs,hu,U⟩:=a7r Q (he _ _ D);split at A
   .rename_i fd hf;obtain⟨u,h1,h2⟩:=a7s A U w;simp_all[asAgg,A0,Instr.field,execOp]
   grind
  grind
 .trivial
theorem c0r{i:Operand}(h:o.op=.index t x i):RS B G P ρ H w (I9 P H ev o t (ev x) (ev i)) (execOp e o):=by
 unfold I9;split
 .rename_i v k D Q;split
  .rename_i r A;unfold index at A;split at A
   .rename_i n el l j hd U Z;obtain⟨ki,hi⟩:=Kg Z (he _ _ Q);obtain⟨cs,hu,a0⟩:=a7r U (he _ _ D);split at A
    .rename_i a1 a2;split at A
     .rename_i a3;obtain⟨u,h1,h2⟩:=a7s A a0 w;simp_all[Cr,A0,asIntOf,Instr.index,execOp,X2]
     grind
    grind
   grind
  .refine Ye s λr A=>?_;obtain⟨u,h1,h2⟩:=Lm (P:=P) (w:=w) (by grind) he A;grind
 .trivial
theorem c0s{xt:TypeId}{D:Bool}(h:o.op=.typeAssert x xt t D):RS B G P ρ H w (Ja P H ev o (ev x) t D) (execOp e o):=by
 unfold Ja;split
 .rename_i r A;obtain⟨u,Q,h2⟩:=Lm (P:=P) (w:=w) (by grind) he A;grind[RS.quiet]
 .split
  .rename_i v hv;refine Ye s λr A=>?_;unfold typeAssert at A;split at A
   .rename_i a2 ty y Z;obtain⟨u',U,Q⟩:=he _ _ hv;split at A
    .rename_i a3 a4;split at A
     .rename_i hm;cases A;cases D
      ·(simp_all[Gg,A0,Instr.typeAssert,execOp];grind)
      .exact⟨.tuple #[e x,.bool true],by simp_all[Gg,A0,Instr.typeAssert,execOp],⟨_,rfl,_,_,rfl,⟨u',U,Q⟩,_,_,rfl,rfl,rfl⟩⟩
     .rename_i m hm;cases D
      .grind
      .simp only[if_true] at A;split at A
       .rename_i j hj;split at A
        .rename_i zv hz;cases A;exact⟨.tuple #[zv,.bool false],by simp_all[E6,Gg,A0,Instr.typeAssert,execOp],⟨_,rfl,_,_,rfl,rfl,_,_,rfl,rfl,rfl⟩⟩
        grind
       grind
    grind
   .rename_i d ty y a5 Z;obtain⟨u',U,Q⟩:=he _ _ hv;have a6:∀ms,d≠.interface ms:=λms hm=>by grind
    split at A
    .rename_i a0;cases A;subst a0;cases D
     .refine⟨u',?_,Q⟩;cases d<;>first|(simp[execOp,h,Instr.typeAssert,A0 Z,U];done)|grind
     .refine⟨.tuple #[u',.bool true],?_,⟨_,rfl,_,_,rfl,Q,_,_,rfl,rfl,rfl⟩⟩;cases d<;>first|(simp[execOp,h,Instr.typeAssert,A0 Z,U];done)|grind
    .rename_i a0;cases D
     .grind
     .simp only[if_true] at A;have a1:¬(ty=t):=a0;split at A
      .rename_i j hj;split at A
       .rename_i zv hz;cases A;refine⟨.tuple #[zv,.bool false],?_,⟨_,rfl,_,_,rfl,rfl,_,_,rfl,rfl,rfl⟩⟩;cases d<;>first|(simp[execOp,h,Instr.typeAssert,A0 Z,U,a1,E6 hj hz];done)|grind
       grind
      grind
   grind
  .trivial
end one
theorem a0j(a b:Int):iEq a b=(a==b):=by
 cases a<;>cases b<;>refine Bool.eq_iff_iff.2 ?_<;>simp[iEq]<;>omega
theorem Qn(a b:Int):iLt a b=decide (a<b):=by
 cases a<;>cases b<;>refine Bool.eq_iff_iff.2 ?_<;>simp only[iLt,Nat.blt,e8l,decide_eq_true_eq]<;>first|omega|grind
theorem a7t(a b:Int):decide (a<=b) = !decide (b<a):=by
 grind
theorem c0t(h:a6o n=true):-9223372036854775808<=n/\n<=9223372036854775807:=by
 cases n with
 | ofNat m=>have:m<=9223372036854775807:=Wz h;grind
 | negSucc m=>have:m<=9223372036854775807:=Wz h;grind
theorem Nj(h:-9223372036854775808<=n/\n<=9223372036854775807):IntKind.i64.wrap n=n:=by
 (simp_all[IntKind.signed,IntKind.bits,IntKind.wrap];grind)
theorem c0u{m:Nat}(h:m<=255):IntKind.u8.wrap (Int.ofNat m)=Int.ofNat m:=by
 (simp_all[IntKind.signed,IntKind.bits,IntKind.wrap];grind)
theorem a7u{k:IntKind}{v:AV}(h:Nc k n=some v):v=.lit (.int k (k.wrap n)):=by
 unfold Nc at h;split at h
 .grind[c0t,Nj]
 .split at h
  all_goals grind[Nat.le_of_ble_eq_true,c0u]
 grind
theorem Nk(b:Bool):bv b=some (.lit (.bool b)):=by cases b<;>rfl
theorem c0v{k A:IntKind}(h:kEq k A=true):k=A:=by
 (simp_all[kEq];grind)
theorem c0w{A:BinOp}{x y v:AV}{u': Value}(t:TypeId)(h:Cm A x y=some v)(hx:VR ρ x u)(hy:VR ρ y u'):
  ∃r,(binOp A t u u').run P w=.ok r w/\VR ρ v r/\∃k D a b,u=.int k a/\u'=.int D b:=by
 unfold Cm at h;split at h
 .rename_i k a D b;cases hx;cases hy;split at h
  .rename_i hk;have:=c0v hk;subst this;have ar:∀n,Na n (Nc k)=some v->(binOp A t (.int k a) (.int k b)).run P w=.ok (.int k (k.wrap n)) w ->
     ∃r,(binOp A t (.int k a) (.int k b)).run P w=.ok r w/\VR ρ v r/\∃U D Z b',Value.int k a=.int U Z/\Value.int k b=.int D b':=λn hn hr=>by
    rw[a7i] at hn;exact⟨_,hr,(a7u hn) ▸ rfl,_,_,_,_,rfl,rfl⟩
   have Q:∀c,bv c=some v->(binOp A t (.int k a) (.int k b)).run P w=.ok (.bool c) w ->
     ∃r,(binOp A t (.int k a) (.int k b)).run P w=.ok r w/\VR ρ v r/\∃U D Z b',Value.int k a=.int U Z/\Value.int k b=.int D b':=λc hc hr=>by
    rw[Nk] at hc;cases hc;exact⟨_,hr,rfl,_,_,_,_,rfl,rfl⟩
   cases A
   case add=>simp_all[Op.intArith,binOp]
   case sub=>(simp_all[Op.intArith,binOp];grind)
   case mul=>simp_all[Op.intArith,binOp]
   case eql=>exact Q _ h (by simp[binOp,Op.intCmp,a0j])
   case neq=>exact Q _ h (by simp[binOp,Op.intCmp,a0j];rfl)
   case lss=>exact Q _ h (by simp[binOp,Op.intCmp,Qn])
   case leq=>exact Q _ h (by simp[a7t,Qn,Op.intCmp,binOp])
   case gtr=>exact Q _ h (by simp[binOp,Op.intCmp,Qn])
   case geq=>exact Q _ h (by simp[a7t,Qn,Op.intCmp,binOp])
   all_goals cases h
  grind
 grind
section one
variable {ev:Ev}{e:Operand→Value}{o:Oper} (s:Sim B G ρ H w) (he:EvR ρ ev e)
variable {k:Nat}{x y:Operand}{u:Value}
theorem a7v{h:BinOp}{t:TypeId}{a b:Value}(A:¬(a=.nilIface/\b=.nilIface))(D:∀c d,¬(a=.agg c/\b=.agg d))(w:World):(eqGuard h t x y a b).run P w=.ok () w:=by
  cases h<;>first
    | rfl
    | (simp only[eqGuard,Bool.not_true,e9j,if_false]
       simp_all)
theorem a7w{l:Nat}{d:Option TypeDesc}(h:(Nat.beq k l&&Nat.beq k (descKind d))=true):k=l/\k=descKind d:=by
 (simp_all;grind)
inductive NK:Nat->Bool->Value->Prop
 | p1 (a):NK 1 false (.pointer (some a))
 | n1:NK 1 true (.pointer none)
 | p2 (a n c):NK 2 false (.slice (some a) n c)
 | n2 (n c):NK 2 true (.slice none n c)
 | p3 (r):NK 3 false (.map (some r))
 | n3:NK 3 true (.map none)
 | p4 (f a b):NK 4 false (.func f a b)
 | n4:NK 4 true .nilFunc
 | p5 (t v):NK 5 false (.iface t v)
 | n5:NK 5 true .nilIface
theorem Tb{a:AV}{b:Bool}(h:nilKind a=some (k,b))(A:VR ρ a u):NK k b u:=by
 unfold nilKind at h;split at h<;>cases h
 .obtain⟨_,_,_,_,rfl⟩:=A;exact .p1 _
 .cases A;exact .n1
 .obtain⟨_,_,_,_,_,rfl⟩:=A;exact .p2 _ _ _
 .obtain⟨_,_,_,_,_,rfl⟩:=A;exact .p2 _ _ _
 .obtain⟨_,_,rfl⟩:=A;exact .p2 _ _ _
 .cases A;exact .n2 _ _
 .obtain⟨_,_,_,_,rfl⟩:=A;exact .p3 _
 .cases A;exact .n3
 .obtain⟨_,_,rfl,_⟩:=A;exact .p4 _ _ _
 .cases A;exact .n4
 .obtain⟨_,rfl,_⟩:=A;exact .p5 _ _
 .cases A;exact .n5
theorem c0x{d:Option TypeDesc}(h:k=descKind d)(A:k≠0):∃t,d=some t/\(match k,t with|1,.pointer _=>True|2,.slice _=>True|3,.map _ _=>True|4,.func _ _ _=>True|5,.interface _=>True|_,_=>False):=by
 subst h;unfold descKind at A |-;grind
theorem c0y{t:TypeId}{u': Value}{b:Bool}(n:Nat)(A:k=descKind (P.underlying t))(h:NK k b u)(D:NK k (!b) u')(w:World):
  (Op.equalIn (n+1) t u u').run P w=.ok false w:=by
 have Q:k≠0:=by cases h<;>simp
 obtain⟨d,U,Z⟩:=c0x A Q;have hu:=A0 U w;cases h<;>cases D<;>cases d<;>first
  | exact Z.elim
  | simp[Op.equalIn,hu]
theorem a7x{t:TypeId}{u': Value}{b:Bool}(D:k=descKind (P.underlying t))(h:NK k b u)(A:NK k (!b) u')(w:World):
  (Op.equal t u u').run P w=.ok false w/\¬(u=.nilIface/\u'=.nilIface)/\(∀c d,¬(u=.agg c/\u'=.agg d)) /\
   (binOp .eql t u u'=do pure (.bool (<- Op.equal t u u')))/\(binOp .neq t u u'=do pure (.bool (!(<- Op.equal t u u')))):=by
 have he:(Op.equal t u u').run P w=.ok false w:=c0y 9999 D h A w;refine⟨he,?_⟩;clear he;cases h<;>cases A<;>exact⟨by simp,by simp,rfl,rfl⟩
include s he
theorem c0z{Z:BinOp}{t ty:TypeId}(h:o.op=.binOp Z t x y ty):RS B G P ρ H w (Om P H Z t (ev x) (ev y)) (execOp e o):=by
 unfold Om;split
 .rename_i a b ha hb;have key:Wk (P.underlying t) a b=true->(Op.equal t (e x) (e y)).run P w=.ok false w/\¬(e x=.nilIface/\e y=.nilIface)/\(∀c d,¬(e x=.agg c/\e y=.agg d)) /\
   (binOp .eql t (e x) (e y)=do pure (.bool (<- Op.equal t (e x) (e y))))/\(binOp .neq t (e x) (e y)=do pure (.bool (!(<- Op.equal t (e x) (e y))))):=by
   intro A;unfold Wk at A;split at A
   .rename_i k l D Q;obtain⟨rfl,U⟩:=a7w A;exact a7x U (Tb D (he _ _ ha)) (Tb Q (he _ _ hb)) w
   .rename_i k l D Q;obtain⟨rfl,U⟩:=a7w A;exact a7x U (Tb D (he _ _ ha)) (Tb Q (he _ _ hb)) w
   grind
  split
  .rename_i A;obtain⟨D,Q,h3,h4,h5⟩:=key A;exact X2 s (u:=.bool false) (by simp_all[a7v,execOp]) rfl
  .rename_i A;obtain⟨D,Q,h3,h4,h5⟩:=key A;exact X2 s (u:=.bool true) (by simp_all[a7v,execOp]) rfl
  .trivial
 .trivial
theorem c1a{D:BinOp}{t ty:TypeId}(h:o.op=.binOp D t x y ty):RS B G P ρ H w (Bh P H ev o D t (ev x) (ev y)) (execOp e o):=by
 unfold Bh;split
 .rename_i v A;unfold P8 at A;split at A
  .rename_i a b U Z;obtain⟨r,Q,a0,k,k',n,m,hu,a1⟩:=c0w (P:=P) (w:=w) t A (he _ _ U) (he _ _ Z);simp_all[X2,eqGuard,execOp]
  grind
 .split
  .rename_i r Q;obtain⟨u,h1,h2⟩:=Lm (P:=P) (w:=w) (by grind) he Q;grind[RS.quiet]
  .exact c0z s he h
end one
end
end Go.Ai
