/- Parts of an interpreter and of a proof. No condition. -/
import GoSem.Dispatch
import Derived.Calls
import Derived.Below
import Derived.Wp
import Derived.Laws.Sem
import Derived.Laws.Cells
import Derived.Laws.Entries
import Derived.Orders
set_option linter.all false
open Go.RowKit (Below)
namespace Go.Ai
abbrev e6r:=@Nat.mod_lt
abbrev e7k:=@List.length_pos_of_mem
abbrev Xj:=@List.length_singleton
abbrev e6k:=@List.getElem?_set_ne
abbrev e6l:=@List.getElem_of_mem
abbrev e6s:=@Nat.zero_add
abbrev e5y:=@Array.getElem?_eq_some_iff
abbrev e7i:=@List.flatMap_cons
abbrev e8t:=@List.getElem?_of_mem
abbrev e5w:=@List.mem_of_getElem?
abbrev e7l:=@Nat.le_succ_of_le
abbrev e8f:=@Nat.ble_eq
abbrev e7t:=@List.length_pos_iff
abbrev e8g:=@List.set_cons_zero
abbrev e6t:=@List.mem_filter
abbrev e6a:=@List.mem_iff_getElem
abbrev e7u:=@List.drop_zero
abbrev e8h:=@Bool.not_eq_true'
abbrev e8u:=@Bool.and_eq_false_iff
abbrev e7a:=@List.getElem?_eq_none
abbrev e6e:=@List.getElem_map
abbrev Xg:=@Nat.lt_of_lt_of_le
abbrev e7m:=@List.replicate_succ
abbrev Xb:=@List.mem_cons
abbrev e8i:=@Nat.mod_eq_of_lt
abbrev e6g:=@Bool.false_and
abbrev e7v:=@Nat.mul_le_mul_right
abbrev e6m:=@Nat.mul_le_mul
abbrev e8v:=@List.map_map
abbrev e7w:=@Nat.add_assoc
abbrev e6h:=@List.mem_cons_of_mem
abbrev Xn:=@List.take_of_length_le
abbrev e8j:=@List.length_drop
abbrev W7:=@List.all_eq_true
abbrev e8w:=@Nat.lt_succ_self
abbrev Xp:=@Nat.le_of_lt
abbrev e7n:=@Nat.lt_succ_of_lt
abbrev e6w:=@List.take_succ
abbrev e8k:=@List.flatten_cons
abbrev e5v:=@List.getElem?_append_left
abbrev e6n:=@Nat.sub_self
abbrev e7o:=@Bool.true_and
abbrev e8l:=@Option.map_some
abbrev W5:=@List.getElem?_eq_getElem
abbrev e8x:=@List.length_replicate
abbrev Xf:=@List.mem_singleton
abbrev e7b:=@Int.toNat_natCast
abbrev Xi:=@List.length_cons
abbrev e7x:=@Array.getElem?_toList
abbrev Xc:=@List.mem_map
abbrev e6b:=@List.getElem_append_left
abbrev e8m:=@Bool.or_eq_true
abbrev e8n:=@List.length_range
abbrev e6i:=@Nat.min_eq_left
abbrev Wy:=@Nat.le_refl
abbrev e6u:=@List.mem_range
abbrev e7y:=@Bool.or_false
abbrev e7z:=@List.mem_or_eq_of_mem_set
abbrev e7c:=@List.drop_eq_nil_iff
abbrev Xa:=@List.length_take
abbrev Wz:=@Nat.le_of_ble_eq_true
abbrev W4:=@Nat.le_succ
abbrev e8y:=@List.mem_cons_self
abbrev W9:=@List.mem_append
abbrev e6o:=@List.map_cons
abbrev W8:=@List.getElem?_eq_some_iff
abbrev W0:=@Bool.and_eq_true
abbrev e8o:=@Nat.succ_mul
abbrev e7d:=@Bool.and_false
abbrev Xm:=@List.getElem?_append_right
abbrev Xh:=@List.drop_eq_getElem_cons
abbrev e8z:=@Bool.false_eq_true
abbrev e9a:=@Option.isSome_some
abbrev e7e:=@List.getElem_append_right
abbrev e7j:=@List.map_congr_left
abbrev e6p:=@List.mem_of_mem_take
abbrev Xq:=@Option.map_eq_some_iff
abbrev e6x:=@List.length_eq_zero_iff
abbrev W2:=@List.getElem_mem
abbrev W1:=@List.length_append
abbrev e7f:=@List.take_append_drop
abbrev e9b:=@List.ext_getElem
abbrev e8a:=@List.all_cons
abbrev e5x:=@List.append_nil
abbrev e7p:=@List.length_reverse
abbrev e9c:=@List.drop_length
abbrev e6j:=@List.getElem?_map
abbrev e9d:=@Array.extract_size
abbrev e9e:=@List.reverse_append
abbrev e7g:=@List.getElem?_set_self
abbrev e8b:=@List.dropLast_concat_getLast
abbrev e9f:=@Nat.mul_comm
abbrev W3:=@Nat.zero_le
abbrev e6y:=@Nat.lt_or_ge
abbrev e9g:=@List.mem_replicate
abbrev e9h:=@Option.getD_some
abbrev e7h:=@List.take_succ_eq_append_getElem
abbrev Xd:=@Nat.eq_of_beq_eq_true
abbrev e9i:=@List.any_eq_true
abbrev Xk:=@Nat.mul_one
abbrev e8p:=@List.all_eq_false
abbrev e8q:=@List.drop_drop
abbrev e6c:=@List.length_map
abbrev e6v:=@List.mem_flatMap
abbrev e8r:=@List.cons_append
abbrev e7q:=@List.getElem_take
abbrev e8c:=@Nat.beq_refl
abbrev e6z:=@List.map_append
abbrev W6:=@Nat.le_trans
abbrev Xl:=@List.take_length
abbrev e8s:=@Nat.le_add_right
abbrev Xe:=@List.length_set
abbrev e6d:=@Nat.add_mul
abbrev e6q:=@Nat.ble_eq_true_of_le
abbrev Xo:=@List.getD_eq_getElem?_getD
abbrev e6f:=@List.drop_eq_nil_of_le
abbrev e9j:=@Bool.or_true
abbrev e8d:=@List.ext_getElem?
abbrev e7r:=@List.getElem?_take
abbrev e8e:=@List.set_append_right
abbrev e5z:=@List.append_assoc
abbrev e7s:=@Bool.and_true
abbrev e9k:=@Nat.add_comm
inductive AV where
 | lit (v:Value)
 | ptr (a off:Nat)
 | sl (a off len cap:Nat)
 | slq (a off len d:Nat)
 | es
 | map (a:Nat)
 | func (fn:Fn) (first cap:List AV)
 | iface (t:TypeId) (v:AV)
 | agg (l:List AV)
 | tup (l:List AV)
 deriving Inhabited
inductive Dg where
 | d0|d1|d2|d3|d4|d5|d6|d7|d8|d9|d10|d11|d12|d13|d14|d15
structure N (α:Type) where
 mk::(c0 c1 c2 c3 c4 c5 c6 c7 c8 c9 c10 c11 c12 c13 c14 c15:α)
inductive Lf (α:Type) where
 | e
 | v (k:Nat) (x:α)
def gN0{α:Type}(x:N α):α:=x.c0
def gN1{α:Type}(x:N α):α:=x.c1
def gN2{α:Type}(x:N α):α:=x.c2
def gN3{α:Type}(x:N α):α:=x.c3
def gN4{α:Type}(x:N α):α:=x.c4
def gN5{α:Type}(x:N α):α:=x.c5
def gN6{α:Type}(x:N α):α:=x.c6
def gN7{α:Type}(x:N α):α:=x.c7
def gN8{α:Type}(x:N α):α:=x.c8
def gN9{α:Type}(x:N α):α:=x.c9
def b7s{α:Type}(x:N α):α:=x.c10
def b7t{α:Type}(x:N α):α:=x.c11
def b7u{α:Type}(x:N α):α:=x.c12
def b7v{α:Type}(x:N α):α:=x.c13
def b7w{α:Type}(x:N α):α:=x.c14
def b7x{α:Type}(x:N α):α:=x.c15
def sN0{α β:Type}(c0 c1 c2 c3 c4 c5 c6 c7 c8 c9 c10 c11 c12 c13 c14 c15 v:α)(K:N α->β):β:=K (.mk v c1 c2 c3 c4 c5 c6 c7 c8 c9 c10 c11 c12 c13 c14 c15)
def sN1{α β:Type}(c0 c1 c2 c3 c4 c5 c6 c7 c8 c9 c10 c11 c12 c13 c14 c15 v:α)(K:N α->β):β:=K (.mk c0 v c2 c3 c4 c5 c6 c7 c8 c9 c10 c11 c12 c13 c14 c15)
def sN2{α β:Type}(c0 c1 c2 c3 c4 c5 c6 c7 c8 c9 c10 c11 c12 c13 c14 c15 v:α)(K:N α->β):β:=K (.mk c0 c1 v c3 c4 c5 c6 c7 c8 c9 c10 c11 c12 c13 c14 c15)
def sN3{α β:Type}(c0 c1 c2 c3 c4 c5 c6 c7 c8 c9 c10 c11 c12 c13 c14 c15 v:α)(K:N α->β):β:=K (.mk c0 c1 c2 v c4 c5 c6 c7 c8 c9 c10 c11 c12 c13 c14 c15)
def sN4{α β:Type}(c0 c1 c2 c3 c4 c5 c6 c7 c8 c9 c10 c11 c12 c13 c14 c15 v:α)(K:N α->β):β:=K (.mk c0 c1 c2 c3 v c5 c6 c7 c8 c9 c10 c11 c12 c13 c14 c15)
def sN5{α β:Type}(c0 c1 c2 c3 c4 c5 c6 c7 c8 c9 c10 c11 c12 c13 c14 c15 v:α)(K:N α->β):β:=K (.mk c0 c1 c2 c3 c4 v c6 c7 c8 c9 c10 c11 c12 c13 c14 c15)
def sN6{α β:Type}(c0 c1 c2 c3 c4 c5 c6 c7 c8 c9 c10 c11 c12 c13 c14 c15 v:α)(K:N α->β):β:=K (.mk c0 c1 c2 c3 c4 c5 v c7 c8 c9 c10 c11 c12 c13 c14 c15)
def sN7{α β:Type}(c0 c1 c2 c3 c4 c5 c6 c7 c8 c9 c10 c11 c12 c13 c14 c15 v:α)(K:N α->β):β:=K (.mk c0 c1 c2 c3 c4 c5 c6 v c8 c9 c10 c11 c12 c13 c14 c15)
def sN8{α β:Type}(c0 c1 c2 c3 c4 c5 c6 c7 c8 c9 c10 c11 c12 c13 c14 c15 v:α)(K:N α->β):β:=K (.mk c0 c1 c2 c3 c4 c5 c6 c7 v c9 c10 c11 c12 c13 c14 c15)
def sN9{α β:Type}(c0 c1 c2 c3 c4 c5 c6 c7 c8 c9 c10 c11 c12 c13 c14 c15 v:α)(K:N α->β):β:=K (.mk c0 c1 c2 c3 c4 c5 c6 c7 c8 v c10 c11 c12 c13 c14 c15)
def b7y{α β:Type}(c0 c1 c2 c3 c4 c5 c6 c7 c8 c9 c10 c11 c12 c13 c14 c15 v:α)(K:N α->β):β:=K (.mk c0 c1 c2 c3 c4 c5 c6 c7 c8 c9 v c11 c12 c13 c14 c15)
def b7z{α β:Type}(c0 c1 c2 c3 c4 c5 c6 c7 c8 c9 c10 c11 c12 c13 c14 c15 v:α)(K:N α->β):β:=K (.mk c0 c1 c2 c3 c4 c5 c6 c7 c8 c9 c10 v c12 c13 c14 c15)
def b8a{α β:Type}(c0 c1 c2 c3 c4 c5 c6 c7 c8 c9 c10 c11 c12 c13 c14 c15 v:α)(K:N α->β):β:=K (.mk c0 c1 c2 c3 c4 c5 c6 c7 c8 c9 c10 c11 v c13 c14 c15)
def b8b{α β:Type}(c0 c1 c2 c3 c4 c5 c6 c7 c8 c9 c10 c11 c12 c13 c14 c15 v:α)(K:N α->β):β:=K (.mk c0 c1 c2 c3 c4 c5 c6 c7 c8 c9 c10 c11 c12 v c14 c15)
def b8c{α β:Type}(c0 c1 c2 c3 c4 c5 c6 c7 c8 c9 c10 c11 c12 c13 c14 c15 v:α)(K:N α->β):β:=K (.mk c0 c1 c2 c3 c4 c5 c6 c7 c8 c9 c10 c11 c12 c13 v c15)
def b8d{α β:Type}(c0 c1 c2 c3 c4 c5 c6 c7 c8 c9 c10 c11 c12 c13 c14 c15 v:α)(K:N α->β):β:=K (.mk c0 c1 c2 c3 c4 c5 c6 c7 c8 c9 c10 c11 c12 c13 c14 v)
noncomputable def gN{α:Type}:Dg->N α->α:=Dg.rec (motive:=λ_=>N α->α) gN0 gN1 gN2 gN3 gN4 gN5 gN6 gN7 gN8 gN9 b7s b7t b7u b7v b7w b7x
noncomputable def sF{α β:Type}:Dg->(α->α->α->α->α->α->α->α->α->α->α->α->α->α->α->α->α->(N α->β)->β):=
 Dg.rec (motive:=λ_=>α->α->α->α->α->α->α->α->α->α->α->α->α->α->α->α->α->(N α->β)->β) sN0 sN1 sN2 sN3 sN4 sN5 sN6 sN7 sN8 sN9 b7y b7z b8a b8b b8c b8d
noncomputable def sN{α β:Type}(d:Dg)(x:N α)(v:α)(K:N α->β):β:=N.rec (motive:=λ_=>α->(N α->β)->β) (sF d) x v K
def nN{α:Type}(x:α):N α:=.mk x x x x x x x x x x x x x x x x
def dig(n:Nat):Dg:=match n with
 | 0=>.d0
 | 1=>.d1
 | 2=>.d2
 | 3=>.d3
 | 4=>.d4
 | 5=>.d5
 | 6=>.d6
 | 7=>.d7
 | 8=>.d8
 | 9=>.d9
 | 10=>.d10
 | 11=>.d11
 | 12=>.d12
 | 13=>.d13
 | 14=>.d14
 | _=>.d15
def d0(k:Nat):Dg:=dig (Nat.mod k 16)
def d1(k:Nat):Dg:=dig (Nat.mod (Nat.div k 16) 16)
def d2(k:Nat):Dg:=dig (Nat.mod (Nat.div k 256) 16)
def d3(k:Nat):Dg:=dig (Nat.mod (Nat.div k 4096) 16)
noncomputable def Mz{α:Type}(k:Nat)(x:Lf α):Option α:=
 Lf.rec (motive:=λ_=>Option α) none (λj x=>Bool.rec (motive:=λ_=>Option α) none (some x) (Nat.beq j k)) x
abbrev T2(α:Type):=N (N (Lf α))
abbrev T3(α:Type):=N (T2 α)
abbrev T4(α:Type):=N (T3 α)
def e2{α:Type}:T2 α:=nN (nN .e)
def e3{α:Type}:T3 α:=nN e2
def e4{α:Type}:T4 α:=nN e3
noncomputable def B9{α:Type}(t:T2 α)(k:Nat):Option α:=Mz k (gN (d1 k) (gN (d0 k) t))
noncomputable def H7{α:Type}(t:T3 α)(k:Nat):Option α:=Mz k (gN (d2 k) (gN (d1 k) (gN (d0 k) t)))
noncomputable def Ep{α:Type}(t:T4 α)(k:Nat):Option α:=Mz k (gN (d3 k) (gN (d2 k) (gN (d1 k) (gN (d0 k) t))))
noncomputable def S0{α β:Type}(t:T2 α)(k:Nat)(x:Lf α)(K:T2 α->β):β:=
 sN (d1 k) (gN (d0 k) t) x λa=>sN (d0 k) t a K
noncomputable def Wm{α β:Type}(t:T3 α)(k:Nat)(x:Lf α)(K:T3 α->β):β:=
 sN (d2 k) (gN (d1 k) (gN (d0 k) t)) x λa=>sN (d1 k) (gN (d0 k) t) a λa=>sN (d0 k) t a K
noncomputable def P4{α β:Type}(t:T4 α)(k:Nat)(x:Lf α)(K:T4 α->β):β:=
 sN (d3 k) (gN (d2 k) (gN (d1 k) (gN (d0 k) t))) x λa=>sN (d2 k) (gN (d1 k) (gN (d0 k) t)) a λa=>sN (d1 k) (gN (d0 k) t) a λa=>sN (d0 k) t a K
inductive Blk where
 | cells (l:List AV) (own:Bool) (z:Nat)
 | map (es:List (AV×AV×Nat)) (clock:Nat)
 | siter (s:ByteArray) (pos:Nat)
 | typ (T:TypeId) (l:List AV) (ex:Bool)
inductive Cg where
 | tr (t:T4 Blk)
 | fn (g:Nat->Option Blk)
structure Mem where
 t:Cg
 next:Nat
def Ak (g:Nat->Option Blk) (a:Nat) (x:Option Blk) : Nat->Option Blk:=fun j=>if j=a then x else g j
noncomputable def E6{β:Type}(n:Nat)(K:Nat->β):β:=Nat.rec (K 0) (λm _=>K (Nat.succ m)) n
noncomputable def M0{β:Type}(n:Int)(K:Int->β):β:=Int.rec (λm=>E6 m λm=>K (.ofNat m)) (λm=>E6 m λm=>K (.negSucc m)) n
noncomputable def b8e (t:Cg) (a:Nat) : Option Blk:=Cg.rec (motive:=fun _=>Nat->Option Blk) Ep (fun g a=>g a) t a
noncomputable def Mem.get (H:Mem) (a:Nat) : Option Blk:=Mem.rec (motive:=fun _=>Nat->Option Blk) (fun t _ a=>b8e t a) H a
noncomputable def Wn{β:Type}(t:T4 Blk)(a:Nat)(b:Blk)(K:Cg->β):β:=P4 t a (.v a b) λt=>K (.tr t)
noncomputable def Wo {β:Type} (g:Nat->Option Blk) (a:Nat) (b:Blk) (K:Cg->β) : β:=K (.fn (Ak g a (some b)))
noncomputable def a6h{β:Type}(t:T4 Blk)(a:Nat)(K:Cg->β):β:=P4 t a .e λt=>K (.tr t)
noncomputable def a6i {β:Type} (g:Nat->Option Blk) (a:Nat) (K:Cg->β) : β:=K (.fn (Ak g a none))
noncomputable def S1{β:Type}(t:Cg)(a:Nat)(b:Blk)(K:Cg->β):β:=Cg.rec (motive:=λ_=>Nat->Blk->(Cg->β)->β) Wn Wo t a b K
noncomputable def a6j{β:Type}(t:Cg)(a:Nat)(K:Cg->β):β:=Cg.rec (motive:=λ_=>Nat->(Cg->β)->β) a6h a6i t a K
noncomputable def a6k{β:Type}(t:Cg)(n:Nat)(b:Blk)(K:Mem->β):β:=S1 t n b λt=>E6 (Nat.succ n) λn=>K ⟨t,n⟩
noncomputable def a6l{β:Type}(t:Cg)(n a:Nat)(b:Blk)(K:Mem->β):β:=S1 t a b λt=>K ⟨t,n⟩
noncomputable def a6m{β:Type}(t:Cg)(n a:Nat)(K:Mem->β):β:=a6j t a λt=>K ⟨t,n⟩
noncomputable def Mem.newK{β:Type}(H:Mem)(b:Blk)(K:Mem->β):β:=Mem.rec (motive:=λ_=>Blk->(Mem->β)->β) a6k H b K
noncomputable def Mem.setK{β:Type}(H:Mem)(a:Nat)(b:Blk)(K:Mem->β):β:=Mem.rec (motive:=λ_=>Nat->Blk->(Mem->β)->β) a6l H a b K
noncomputable def Mem.delK{β:Type}(H:Mem)(a:Nat)(K:Mem->β):β:=Mem.rec (motive:=λ_=>Nat->(Mem->β)->β) a6m H a K
def Ap{α:Type}(P:Program):Sem α->Option α
 | .pure a=>some a
 | .program k=>Ap P (k P)
 | .mark _ k=>Ap P k
 | .choose q k=>if q.forced then Ap P (k 0) else none
 | _=>none
def cellsOf:AV->List AV
 | .lit (.agg cs)=>cs.toList.map .lit
 | .agg l=>l
 | v=>[v]
def asAggL:AV->Option (List AV)
 | .lit (.agg cs)=>some (cs.toList.map .lit)
 | .agg l=>some l
 | _=>none
def litAll:List AV->Option (List Value)
 | []=>some []
 | .lit v::l=>match litAll l with|some vs=>some (v::vs)|none=>none
 | _::_=>none
def Ch(P:Program)(t:TypeId):Option (Bool×Nat):=
 match P.underlying t,P.info? t with
 | some d,some i=>some (match d with|.struct _|.array _ _=>true|_=>false,i.size)
 | _,_=>none
noncomputable def nth{α:Type}(l:List α)(i:Nat):Option α:=
 List.rec (motive:=λ_=>Nat->Option α) (λ_=>none) (λx _ ih i=>Nat.rec (motive:=λ_=>Option α) (some x) (λj _=>ih j) i) l i
noncomputable def Wr{α β:Type}(z:β)(n:Nat)(l:List α)(K:List α->β):β:=
 Nat.rec (motive:=λ_=>List α->(List α->β)->β) (λ_ K=>K [])
  (λ_ ih l K=>List.rec (motive:=λ_=>β) z (λx l _=>ih l λr=>K (x::r)) l) n l K
noncomputable def Ws{α β:Type}(z:β)(n:Nat)(l:List α)(K:List α->β):β:=
 Nat.rec (motive:=λ_=>List α->(List α->β)->β) (λl K=>K l)
  (λ_ ih l K=>List.rec (motive:=λ_=>β) z (λ_ l _=>ih l K) l) n l K
noncomputable def K5{α β:Type}(l:List α)(n off:Nat)(z:β)(K:List α->β):β:=Ws z off l λl=>Wr z n l K
noncomputable def S2{α β:Type}(a b:List α)(K:List α->β):β:=
 List.rec (motive:=λ_=>(List α->β)->β) (λK=>K b) (λx _ ih K=>ih λr=>K (x::r)) a K
noncomputable def overK{α β:Type}(z:β)(new l:List α)(K:List α->β):β:=
 List.rec (motive:=λ_=>List α->(List α->β)->β) (λl K=>K l)
  (λx _ ih l K=>List.rec (motive:=λ_=>β) z (λ_ l _=>ih l λr=>K (x::r)) l) new l K
noncomputable def K6{α β:Type}(z:β)(l:List α)(off:Nat)(new:List α)(K:List α->β):β:=
 Nat.rec (motive:=λ_=>List α->(List α->β)->β) (λl K=>overK z new l K)
  (λ_ ih l K=>List.rec (motive:=λ_=>β) z (λx l _=>ih l λr=>K (x::r)) l) off l K
noncomputable def len{α:Type}(l:List α):Nat:=List.rec (motive:=λ_=>Nat->Nat) (λn=>n) (λ_ _ ih n=>E6 (Nat.succ n) ih) l 0
def toLit:AV->Option Value
 | .lit v=>some v
 | .agg l=>match litAll l with|some vs=>some (.agg vs.toArray)|none=>none
 | .tup l=>match litAll l with|some vs=>some (.tuple vs.toArray)|none=>none
 | .iface t (.lit v)=>some (.iface t v)
 | .func f a b=>match litAll a,litAll b with|some x,some y=>some (.func f x.toArray y.toArray)|_,_=>none
 | _=>none
inductive R where
 | val (v:AV) (H:Mem)
 | skip (H:Mem)
 | enter (f:FuncId) (args:List AV) (H:Mem)
 | dfr (fn:Fn) (cap args:List AV) (H:Mem)
 | recover
 | panic (v:AV) (H:Mem)
 | bad
noncomputable def ofOpt(H:Mem):Option AV->R
 | some v=>.val v H
 | none=>.bad
def oneC:AV->Bool
 | .lit (.agg _)=>false
 | .lit (.tuple _)=>false
 | .agg _=>false
 | .tup _=>false
 | _=>true
def allOne:List AV->Bool
 | []=>true
 | v::l=>match oneC v with|true=>allOne l|false=>false
abbrev Ev:=Operand->Option AV
noncomputable def Be(ev:Ev):List Operand->Option (List AV)
 | []=>some []
 | x::l=>match ev x with
  | some v=>match Be ev l with|some vs=>some (v::vs)|none=>none
  | none=>none
noncomputable def A3(P:Program)(ev:Ev)(o:Oper):Option AV:=
 let ρ:Operand->Value:=λx=>match ev x with|some v=>(match toLit v with|some u=>u|none=>undef)|none=>undef
 if o.op.operands.toList.all λx=>match ev x with|some v=>(match toLit v with|some _=>true|none=>false)|none=>false then
  match Ap P (execOp ρ o) with
  | some (.value v)=>some (.lit v)
  | _=>none
 else none
noncomputable def J6(place:Nat->Option (Nat×Nat))(cells:List AV):List (Nat×AV)->Option (List AV)
 | []=>some cells
 | (i,v)::rest=>match place i with
  | some (off,size)=>match Nat.beq (len (cellsOf v)) size with
   | true=>K6 none cells off (cellsOf v) λcells=>J6 place cells rest
   | false=>none
  | none=>none
noncomputable def Br(P:Program)(t:TypeId):Option (List AV):=
 match P.info? t with
 | some i=>match i.zero with
  | some z=>some (z.cells.toList.map .lit)
  | none=>none
 | none=>none
noncomputable def rep(l:List AV):Nat->List AV
 | 0=>[]
 | n+1=>l++rep l n
noncomputable def C9(H:Mem)(l:List AV)(own:Bool)(v:AV):R:=H.newK (.cells l own 0) λH=>.val v H
noncomputable def Cm(ev:Ev):List (Nat×Operand)->Option (List (Nat×AV))
 | []=>some []
 | (i,x)::l=>match ev x with
  | some v=>match Cm ev l with|some vs=>some ((i,v)::vs)|none=>none
  | none=>none
noncomputable def a6n(P:Program)(fs:List Field):Option (List (Nat×Nat)):=fs.mapM λf=>(P.info? f.type).map λi=>(f.offset,i.size)
noncomputable def M3(l:Option (List AV)):Option AV:=match l with|some l=>some (.agg l)|none=>none
noncomputable def build(P:Program)(t:TypeId)(parts:List (Nat×AV)):Option AV:=
 match Br P t,P.underlying t with
 | some zero,some (.struct fields)=>match a6n P fields.toList with
  | some pl=>M3 (J6 (nth pl) zero parts)
  | none=>none
 | some zero,some (.array _ elem)=>match P.info? elem with
  | some j=>M3 (J6 (λi=>some (i*j.size,j.size)) zero parts)
  | none=>none
 | _,_=>none
noncomputable def Bf(k:Option (Bool×Nat))(b:Option Blk)(off:Nat):Option AV:=
 match b,k with
 | some (.cells l _ _),some (true,size)=>K5 l size off none λl=>some (.agg l)
 | some (.cells l _ _),some (false,_)=>nth l off
 | _,_=>none
noncomputable def load(P:Program)(H:Mem)(t:TypeId)(p:AV):Option AV:=
 match p with
 | .ptr a off=>Bf (Ch P t) (H.get a) off
 | .lit (.pointer (some ⟨g,off,none⟩))=>match Nat.blt g P.globals.size with
  | true=>Bf (Ch P t) (H.get g) off
  | false=>none
 | _=>none
noncomputable def store(P:Program)(H:Mem)(t:TypeId)(p v:AV):Option Mem:=
 match p with
 | .ptr a off=>match H.get a,Ch P t with
  | some (.cells l true z),some (_,size)=>match Nat.beq (len (cellsOf v)) size&&allOne (cellsOf v) with
   | true=>K6 none l off (cellsOf v) λl=>H.setK a (.cells l true z) some
   | false=>none
  | _,_=>none
 | _=>none
noncomputable def Fp(P:Program)(t:TypeId):Option (TypeId×Nat×Nat):=
 match P.underlying t with
 | some (.slice e)=>match P.info? e with
  | some i=>match i.zero with
   | some z=>match Nat.beq z.cells.size i.size with|true=>some (e,i.size,i.bytes)|false=>none
   | none=>none
  | none=>none
 | _=>none
noncomputable def natOf:AV->Option Nat
 | .lit (.int _ (.ofNat n))=>some n
 | _=>none
noncomputable def Iz(v:Option AV)(d:Nat):Option Nat:=
 match v with
 | some v=>natOf v
 | none=>some d
noncomputable def Oe(hi mx:Option AV):Bool:=match mx,hi with|some _,none=>false|_,_=>true
noncomputable def C2(lo hi mx:Option AV)(n c:Nat):Option (Nat×Nat×Nat):=
 match Iz lo 0,Iz hi n,Iz mx c,Oe hi mx with
 | some l,some h,some m,true=>match Nat.ble l h&&Nat.ble h m&&Nat.ble m c with|true=>some (l,h,m)|false=>none
 | _,_,_,_=>none
noncomputable def I0(size a off:Nat)(q:Option (Nat×Nat×Nat)):Option AV:=
 match q with
 | some (l,h,m)=>match Nat.beq m l with
  | true=>some (.sl a off 0 0)
  | false=>E6 (off+l*size) λx=>E6 (h-l) λy=>E6 (m-l) λz=>some (.sl a x y z)
 | none=>none
noncomputable def S3(size a off n d:Nat)(q:Option (Nat×Nat×Nat)):Option AV:=
 match q with
 | some (l,h,_)=>match Nat.blt l n with
  | true=>E6 (off+l*size) λx=>E6 (h-l) λy=>E6 (d+l) λz=>some (.slq a x y z)
  | false=>some .es
 | none=>none
noncomputable def I1(size:Nat)(lo hi mx:Option AV):AV->Option AV
 | .sl a off n c=>I0 size a off (C2 lo hi mx n c)
 | .slq a off n d=>match mx with
  | none=>S3 size a off n d (C2 lo hi none n n)
  | some m=>I0 size a off (C2 lo hi (some m) n n)
 | .es=>match C2 lo hi mx 0 0 with|some _=>some .es|none=>none
 | _=>none
noncomputable def S4(P:Program)(t:TypeId)(x:AV)(lo hi mx:Option AV):Option AV:=
 match P.underlying t with
 | some (.slice e)=>match P.info? e with
  | some i=>I1 i.size lo hi mx x
  | none=>none
 | some (.pointer arr)=>match P.underlying arr,x with
  | some (.array n e),.ptr a off=>match P.info? e with
   | some i=>I0 i.size a off (C2 lo hi mx n n)
   | none=>none
  | _,_=>none
 | some (.array n e)=>match P.info? e,x with
  | some i,.ptr a off=>I0 i.size a off (C2 lo hi mx n n)
  | _,_=>none
 | _=>none
noncomputable def fieldAddr(P:Program)(s:TypeId)(x:AV)(f:Nat):Option AV:=
 match P.underlying s,x with
 | some (.struct fields),.ptr a off=>match fields[f]? with
  | some fd=>match P.info? fd.type with
   | some i=>match Nat.beq i.size 0 with|true=>none|false=>E6 (off+fd.offset) λq=>some (.ptr a q)
   | none=>none
  | none=>none
 | _,_=>none
noncomputable def S5(P:Program)(t:TypeId)(cs:List AV)(off:Nat):Option AV:=
 match Ch P t with
 | some (true,size)=>match Nat.ble (off+size) cs.length with|true=>some (.agg ((cs.drop off).take size))|false=>none
 | some (false,_)=>cs[off]?
 | none=>none
noncomputable def field(P:Program)(t:TypeId)(x:AV)(f:Nat):Option AV:=
 match P.underlying t,asAggL x with
 | some (.struct fields),some cs=>match fields[f]? with
  | some fd=>S5 P fd.type cs fd.offset
  | none=>none
 | _,_=>none
noncomputable def indexAddr(P:Program)(t:TypeId)(x i:AV):Option AV:=
 match P.underlying t,x,natOf i with
 | some (.slice e),.sl a off len _,some k=>match P.info? e with|some j=>(match Nat.blt k len with|true=>E6 (off+k*j.size) λq=>some (.ptr a q)|false=>none)|none=>none
 | some (.slice e),.slq a off len _,some k=>match P.info? e with|some j=>(match Nat.blt k len with|true=>E6 (off+k*j.size) λq=>some (.ptr a q)|false=>none)|none=>none
 | some (.array n e),.ptr a off,some k=>match P.info? e with|some j=>(match Nat.blt k n with|true=>E6 (off+k*j.size) λq=>some (.ptr a q)|false=>none)|none=>none
 | _,_,_=>none
noncomputable def index(P:Program)(t:TypeId)(x i:AV):Option AV:=
 match P.underlying t,asAggL x,natOf i with
 | some (.array n e),some cs,some k=>match P.info? e with|some j=>if k<n then S5 P e cs (k*j.size) else none|none=>none
 | _,_,_=>none
noncomputable def nilKind:AV->Option (Nat×Bool)
 | .ptr _ _=>some (1,false)
 | .lit (.pointer none)=>some (1,true)
 | .sl _ _ _ _=>some (2,false)
 | .slq _ _ _ _=>some (2,false)
 | .es=>some (2,false)
 | .lit (.slice none _ _)=>some (2,true)
 | .map _=>some (3,false)
 | .lit (.map none)=>some (3,true)
 | .func _ _ _=>some (4,false)
 | .lit .nilFunc=>some (4,true)
 | .iface _ _=>some (5,false)
 | .lit .nilIface=>some (5,true)
 | _=>none
noncomputable def descKind:Option TypeDesc->Nat
 | some (.pointer _)=>1
 | some (.slice _)=>2
 | some (.map _ _)=>3
 | some (.func _ _ _)=>4
 | some (.interface _)=>5
 | _=>0
noncomputable def Wt(d:Option TypeDesc)(a b:AV):Bool:=
 match nilKind a,nilKind b with
 | some (k,true),some (l,false)=>Nat.beq k l&&Nat.beq k (descKind d)
 | some (k,false),some (l,true)=>Nat.beq k l&&Nat.beq k (descKind d)
 | _,_=>false
noncomputable def lenOf:AV->Option Nat
 | .sl _ _ n _|.slq _ _ n _=>some n
 | .es=>some 0
 | .lit (.slice none n _)=>some n
 | .lit (.string s)=>some s.size
 | _=>none
noncomputable def Ci(H:Mem)(size n:Nat):AV->Option (List AV)
 | .sl a off _ _|.slq a off _ _=>match H.get a with|some (.cells l _ _)=>K5 l (n*size) off none some|_=>none
 | .es=>if n=0 then some [] else none
 | .lit (.slice none _ _)=>some []
 | .lit (.string s)=>some ((s.extract 0 n).data.toList.map λb=>.lit (.int .u8 b.toNat))
 | _=>none
noncomputable def small(need cap bytes:Nat):Bool:=decide (need<=1048576)&&decide (cap<=1048576)&&decide (bytes<=1048576)
noncomputable def H8(H:Mem)(l:List AV)(n size:Nat):Option (AV×Mem):=H.newK (.cells l true size) λH'=>some (.slq H.next 0 n 0,H')
noncomputable def J7(H:Mem)(a:Nat)(l:List AV)(z off:Nat)(new:List AV)(v:AV):Option (AV×Mem):=
 match allOne new with
 | true=>K6 none l off new λl=>H.setK a (.cells l true z) λH=>some (v,H)
 | false=>none
noncomputable def S6(H:Mem)(size bytes n:Nat)(new:List AV):Option (AV×Mem):=match small n 0 bytes with|true=>H8 H new n size|false=>none
noncomputable def P5(H:Mem)(size bytes n:Nat)(new:List AV)(a off k cap:Nat):Option (AV×Mem):=
 match Nat.ble (k+n) cap with
 | true=>match H.get a with
  | some (.cells l true z)=>J7 H a l z (off+k*size) new (.sl a off (k+n) cap)
  | _=>none
 | false=>match H.get a,small (k+n) cap bytes with
  | some (.cells l _ _),true=>K5 l (k*size) off none λold=>S2 old new λl=>H8 H l (k+n) size
  | _,_=>none
noncomputable def S7(H:Mem)(size bytes n:Nat)(new:List AV)(a off k d:Nat):Option (AV×Mem):=
 match H.get a with
 | some (.cells l true z)=>match Nat.beq z size&&Nat.beq off (d*size),Nat.ble (off+(k+n)*size) (len l),Nat.beq (off+k*size) (len l)&&small (k+n) 0 bytes&&allOne new with
  | true,true,_=>J7 H a l z (off+k*size) new (.slq a off (k+n) d)
  | true,false,true=>K5 l (k*size) off none λold=>S2 old new λl=>H.delK a λH=>H8 H l (k+n) size
  | _,_,_=>none
 | _=>none
noncomputable def Dx (H:Mem) (size bytes n:Nat) (s:AV) (new:List AV) : Option (AV×Mem) :=
 match Nat.beq (len new) (n*size) with
 | true=>match s with
  | .lit (.slice none 0 0)=>S6 H size bytes n new
  | .sl a off k cap=>P5 H size bytes n new a off k cap
  | .slq a off k d=>S7 H size bytes n new a off k d
  | _=>none
 | false=>none
noncomputable def isSlice:AV->Bool
 | .sl _ _ _ _|.slq _ _ _ _|.lit (.slice none 0 0)=>true
 | _=>false
noncomputable def D9(H:Mem)(size bytes:Nat)(s x:AV):Option (AV×Mem):=
 match lenOf x with
 | some 0=>match isSlice s with|true=>some (s,H)|false=>none
 | some n=>match Nat.beq size 0,Ci H size n x with
  | false,some new=>Dx H size bytes n s new
  | _,_=>none
 | none=>none
noncomputable def S8(P:Program)(xType:Option TypeId):Bool:=
 match xType with
 | some t=>match P.underlying t with|some (.slice _)|some .string=>true|_=>false
 | none=>false
noncomputable def Wu(P:Program)(xType:Option TypeId):Bool:=
 match xType with
 | some t=>match P.underlying t with|some (.int _)=>true|_=>false
 | none=>false
noncomputable def Wv(P:Program)(H:Mem)(e:TypeId)(size bytes:Nat)(s x:AV):Option (AV×Mem):=
 match natOf x with
 | some 0=>match isSlice s with|true=>some (s,H)|false=>none
 | some n=>match Nat.beq size 0,Nat.ble n 1048576&&Nat.ble bytes 1048576,Br P e with
  | false,true,some z=>Dx H size bytes n s (rep z n)
  | _,_,_=>none
 | none=>none
noncomputable def append(P:Program)(H:Mem)(sType:TypeId)(xType:Option TypeId)(s x:AV):Option (AV×Mem):=
 match Fp P sType,S8 P xType with
 | some (_,size,bytes),true=>D9 H size bytes s x
 | some (e,size,bytes),false=>match Wu P xType with|true=>Wv P H e size bytes s x|false=>none
 | _,_=>none
noncomputable def a6o(H:Mem)(d:AV)(m:Nat)(l:List AV):Option (AV×Mem):=
 match d with
 | .sl a off _ _|.slq a off _ _=>match H.get a with
  | some (.cells c true z)=>J7 H a c z off l (.lit (goInt m))
  | _=>none
 | _=>none
noncomputable def copy(P:Program)(H:Mem)(dType:TypeId)(d s:AV):Option (AV×Mem):=
 match Fp P dType,lenOf s,lenOf d with
 | some (_,size,_),some n,some k =>
  match Nat.min n k with
  | 0=>match isSlice d with|true=>some (.lit (goInt 0),H)|false=>none
  | m=>match Nat.beq size 0,Ci H size m s with
   | false,some l=>a6o H d m l
   | _,_=>none
 | _,_,_=>none
noncomputable def bytesOf:List AV->Option (List UInt8)
 | []=>some []
 | .lit (.int .u8 n)::l=>match bytesOf l with|some r=>some (UInt8.ofNat n.toNat::r)|none=>none
 | _::_=>none
noncomputable def convert(P:Program)(H:Mem)(src dst:TypeId)(x:AV):Option (AV×Mem):=
 match P.underlying src,P.underlying dst,x with
 | some .string,some (.slice e),.lit (.string s)=>match P.underlying e with
  | some (.int .u8)=>if s.size<=1048576 then H8 H (s.data.toList.map λb=>.lit (.int .u8 b.toNat)) s.size 1 else none
  | _=>none
 | some (.slice _),some .string,.lit (.string _)=>none
 | some (.slice e),some .string,x=>match P.underlying e with
  | some (.int .u8)=>match lenOf x with
   | some n=>match Ci H 1 n x with
    | some l=>match bytesOf l with|some b=>some (.lit (.string ⟨b.toArray⟩),H)|none=>none
    | none=>none
   | none=>none
  | _=>none
 | _,_,_=>none
noncomputable def K7(P:Program)(keyType:TypeId)(k:Value)(es:List (AV×AV×Nat)):Option (Option Nat):=
 match litAll (es.map (·.1)) with
 | some ks=>match Ap P (Instr.findKey keyType k (ks.map λq=>⟨q,undef,0⟩)) with
  | some (some (i,_))=>some (some i)
  | some none=>some none
  | none=>none
 | none=>none
noncomputable def Ww(ok:Bool)(v:AV)(b:Bool):AV:=match ok with|true=>.tup [v,.lit (.bool b)]|false=>v
noncomputable def K8(P:Program)(t:TypeId):Option Value:=
 match P.info? t with
 | some i=>i.zero
 | none=>none
noncomputable def P6(P:Program)(elem:TypeId)(es:List (AV×AV×Nat))(ok:Bool)(i:Option Nat):Option AV:=
 match i with
 | some i=>match nth es i with
  | some (_,v,_)=>some (Ww ok v true)
  | none=>none
 | none=>match K8 P elem with
  | some z=>some (Ww ok (.lit z) false)
  | none=>none
noncomputable def lookup(P:Program)(H:Mem)(t:TypeId)(m k:AV)(ok:Bool):Option AV:=
 match P.underlying t,m,toLit k with
 | some (.map key elem),.map a,some k=>match H.get a with
  | some (.map es _)=>match Ap P (Instr.checkKey es.isEmpty 10000 key k),K7 P key k es with
   | some _,some i=>P6 P elem es ok i
   | _,_=>none
  | _=>none
 | _,_,_=>none
noncomputable def Of(x:AV×AV):List (AV×AV×Nat)->Nat->List (AV×AV×Nat)
 | [],_=>[]
 | (_,_,b)::r,0=>(x.1,x.2,b)::r
 | e::r,i+1=>e::Of x r i
noncomputable def P7(es:List (AV×AV×Nat))(clock:Nat)(k:Value)(v:AV)(i:Option Nat):Option Blk:=
 match i with
 | some i=>match nth es i with
  | some (.lit old,_,_)=>match Instr.sameBits 10000 old k with
   | true=>some (.map (Of (.lit k,v) es i) clock)
   | false=>none
  | _=>none
 | none=>some (.map (es++[(.lit k,v,clock)]) (clock+1))
noncomputable def mapUpdate(P:Program)(H:Mem)(t:TypeId)(m k v:AV):Option Mem:=
 match P.underlying t,m,toLit k with
 | some (.map key _),.map a,some k=>match H.get a with
  | some (.map es clock)=>match Ap P (Instr.checkKey false 10000 key k),K7 P key k es with
   | some _,some i=>match P7 es clock k v i with
    | some b=>H.setK a b some
    | none=>none
   | _,_=>none
  | _=>none
 | _,_,_=>none
noncomputable def typeAssert(P:Program)(x:AV)(asserted:TypeId)(ok:Bool):Option AV:=
 match P.underlying asserted,x with
 | some (.interface want),.iface t _=>match P.info? t with
  | some i=>match Instr.missingMethod want i.methods with
   | none=>some (if ok then .tup [x,.lit (.bool true)] else x)
   | some _=>if ok then (match P.info? asserted with|some j=>(match j.zero with|some z=>some (.tup [.lit z,.lit (.bool false)])|none=>none)|none=>none) else none
  | none=>none
 | some _,.iface t v =>
  if t=asserted then some (if ok then .tup [v,.lit (.bool true)] else v)
  else if ok then (match P.info? asserted with|some j=>(match j.zero with|some z=>some (.tup [.lit z,.lit (.bool false)])|none=>none)|none=>none) else none
 | _,_=>none
noncomputable def Ao(P:Program)(f:FuncId):Bool:=
 match P.funcs[f]? with
 | some fn=>fn.body.isSome&&!(fn.name == "runtime.NumGoroutine")
 | none=>false
noncomputable def ifaceOf:AV->Option (TypeId×AV)
 | .iface t v=>some (t,v)
 | .lit (.iface t v)=>some (t,.lit v)
 | _=>none
noncomputable def P8(d:Option TypeDesc):Option Bool:=match d with
 | some (.pointer _)=>some true
 | some _=>some false
 | none=>none
noncomputable def a6p(d:Option Bool)(m:Method):Option FuncId:=
 match m.path.isEmpty,m.func with
 | true,some (f,pr)=>match d,pr with
  | some true,true=>some f
  | some false,false=>some f
  | _,_=>none
 | _,_=>none
noncomputable def Wx(P:Program)(t:TypeId)(name:String):Option FuncId:=
 match P.info? t with
 | some i=>match i.methods.find? (·.name==name) with
  | some m=>a6p (P8 (P.underlying t)) m
  | none=>none
 | none=>none
noncomputable def I3(P:Program)(H:Mem)(f:FuncId)(args:List AV):R:=if Ao P f then .enter f args H else .bad
noncomputable def P9(P:Program)(H:Mem)(c:Call)(args:List AV):R:=
 match args,c.argTypes[0]? with
 | [s,x],some st=>match append P H st c.argTypes[1]? s x with|some (v,H)=>.val v H|none=>.bad
 | _,_=>.bad
noncomputable def a0a(P:Program)(H:Mem)(c:Call)(args:List AV):R:=
 match args,c.argTypes[0]? with
 | [d,s],some dt=>match copy P H dt d s with|some (v,H)=>.val v H|none=>.bad
 | _,_=>.bad
noncomputable def S9(P:Program)(H:Mem)(el:TypeId)(d:AV):Option (AV×Mem):=
 match d,Br P el with
 | .sl a off (n+1) _,some z|.slq a off (n+1) _,some z=>match H.get a with
  | some (.cells c true k)=>J7 H a c k off (rep z (n+1)) (.lit (.tuple #[]))
  | _=>none
 | _,_=>none
noncomputable def Ta(P:Program)(H:Mem)(c:Call)(args:List AV):R:=
 match args,c.argTypes[0]? with
 | [d],some dt=>match Fp P dt with
  | some (el,_,_)=>match S9 P H el d with|some (v,H)=>.val v H|none=>.bad
  | none=>.bad
 | _,_=>.bad
noncomputable def G9(P:Program)(H:Mem)(c:Call)(args:List AV):R:=
 match args,(c.argTypes[0]?).bind P.underlying with
 | [.sl _ _ n _],some (.slice _)=>.val (.lit (goInt n)) H
 | [.slq _ _ n _],some (.slice _)=>.val (.lit (goInt n)) H
 | [.es],some (.slice _)=>.val (.lit (goInt 0)) H
 | [.map a],some (.map _ _)=>match H.get a with|some (.map es _)=>.val (.lit (goInt es.length)) H|_=>.bad
 | [.lit (.string s)],some .string=>.val (.lit (goInt s.size)) H
 | _,_=>.bad
noncomputable def H9(P:Program)(H:Mem)(ev:Ev)(o:Oper)(c:Call)(args:List AV):R:=
 match G9 P H c args with
 | .bad=>ofOpt H (A3 P ev o)
 | r=>r
noncomputable def K9(P:Program)(H:Mem)(ev:Ev)(o:Oper)(c:Call)(args:List AV):R:=
 match A3 P ev o with
 | some v=>.val v H
 | none=>match args,(c.argTypes[0]?).bind P.underlying with
  | [.sl _ _ _ n],some (.slice _)=>.val (.lit (goInt n)) H
  | _,_=>.bad
noncomputable def E7(P:Program)(H:Mem)(ev:Ev)(o:Oper)(c:Call)(args:List AV)(b:Builtin):R:=
 match b with
 | .append=>P9 P H c args
 | .copy=>a0a P H c args
 | .clear=>Ta P H c args
 | .len=>H9 P H ev o c args
 | .cap=>K9 P H ev o c args
 | .recover=>.recover
 | _=>ofOpt H (A3 P ev o)
noncomputable def Tb(P:Program)(H:Mem)(ev:Ev)(args:List AV)(recv:Operand)(name:String):R:=
 match ev recv with
 | some r=>match ifaceOf r with
  | some (t,v)=>match Wx P t name with
   | some f=>I3 P H f (v::args)
   | none=>.bad
  | none=>.bad
 | none=>.bad
noncomputable def La(P:Program)(H:Mem)(args:List AV)(f:Option AV):R:=
 match f with
 | some (.lit (.func (.func f) first cap))=>I3 P H f (first.toList.map .lit++args++cap.toList.map .lit)
 | some (.func (.func f) first cap)=>I3 P H f (first++args++cap)
 | _=>.bad
noncomputable def Bj(P:Program)(H:Mem)(ev:Ev)(o:Oper)(c:Call):R:=
 match Be ev c.args.toList with
 | none=>.bad
 | some args=>match c.callee with
  | .builtin b=>E7 P H ev o c args b
  | .invoke recv name=>Tb P H ev args recv name
  | .value f=>La P H args (ev f)
noncomputable def Og(H:Mem)(ev:Ev)(c:Call):R:=
 match Be ev c.args.toList,c.callee with
 | some args,.value f=>match ev f with
  | some (.func fn first cap)=>.dfr fn cap (first++args) H
  | some (.lit (.func fn first cap))=>.dfr fn (cap.toList.map .lit) (first.toList.map .lit++args) H
  | _=>.bad
 | _,_=>.bad
noncomputable def a6q(n:Int):Bool:=match n with|.ofNat m=>Nat.ble m 9223372036854775807|.negSucc m=>Nat.ble m 9223372036854775807
noncomputable def M4 (k:IntKind) (n:Int) : Option AV:=match k with
 | .i64=>match a6q n with|true=>some (.lit (.int .i64 n))|false=>none
 | .u8=>match n with|.ofNat m=>(match Nat.ble m 255 with|true=>some (.lit (.int .u8 (.ofNat m)))|false=>none)|_=>none
 | _=>none
noncomputable def iEq:Int->Int->Bool
 | .ofNat a,.ofNat b=>Nat.beq a b
 | .negSucc a,.negSucc b=>Nat.beq a b
 | _,_=>false
noncomputable def iLt:Int->Int->Bool
 | .ofNat a,.ofNat b=>Nat.blt a b
 | .negSucc _,.ofNat _=>true
 | .ofNat _,.negSucc _=>false
 | .negSucc a,.negSucc b=>Nat.blt b a
noncomputable def kEq:IntKind->IntKind->Bool
 | .i64,.i64=>true
 | .u8,.u8=>true
 | _,_=>false
noncomputable def bv(b:Bool):Option AV:=match b with|true=>some (.lit (.bool true))|false=>some (.lit (.bool false))
noncomputable def B4(op:BinOp)(x y:AV):Option AV:=
 match x,y with
 | .lit (.int k a),.lit (.int k' b)=>match kEq k k' with
  | true=>match op with
   | .add=>M0 (Int.add a b) (M4 k)
   | .sub=>M0 (Int.sub a b) (M4 k)
   | .mul=>M0 (Int.mul a b) (M4 k)
   | .eql=>bv (iEq a b)
   | .neq=>bv (!iEq a b)
   | .lss=>bv (iLt a b)
   | .leq=>bv (!iLt b a)
   | .gtr=>bv (iLt b a)
   | .geq=>bv (!iLt a b)
   | _=>none
  | false=>none
 | _,_=>none
noncomputable def Qa(a:Option AV)(b:Unit->Option AV):Option AV:=match a with|some v=>some v|none=>b ()
noncomputable def Gx(H:Mem)(c a b:Option AV):R:=
 match c with
 | some (.lit (.bool true))=>ofOpt H a
 | some (.lit (.bool false))=>ofOpt H b
 | _=>.bad
noncomputable def I4(P:Program)(H:Mem)(t:TypeId):R:=
 match Br P t with|some l=>C9 H l true (.ptr H.next 0)|none=>.bad
noncomputable def Ha(H:Mem)(x:Option AV):R:=
 match x with|some v=>C9 H (cellsOf v) true (.ptr H.next 0)|none=>.bad
noncomputable def Hb(P:Program)(H:Mem)(t:TypeId)(ps:Option (List (Nat×AV))):R:=
 match ps with
 | some ps=>ofOpt H (build P t ps)
 | none=>.bad
noncomputable def Ea(P:Program)(e:TypeId)(n:Nat):Option (List AV):=match Nat.beq n 0 with|true=>some []|false=>Br P e
noncomputable def Fq(P:Program)(H:Mem)(t:TypeId)(len:Nat)(ps:Option (List (Nat×AV))):R:=
 match Fp P t,ps with
 | some (e,size,_),some ps =>
  match Nat.ble (len*size) 1048576,Ea P e (len*size) with
  | true,some z=>match J6 (λi=>some (i*size,size)) (rep z len) ps with
   | some l=>C9 H l true (.sl H.next 0 len len)
   | none=>.bad
  | _,_=>.bad
 | _,_=>.bad
noncomputable def Fs(P:Program)(H:Mem)(t:TypeId)(a:Option AV):R:=
 match a with|some p=>ofOpt H (load P H t p)|none=>.bad
noncomputable def Ia(P:Program)(H:Mem)(t:TypeId)(a x:Option AV):R:=
 match a,x with
 | some p,some v=>match store P H t p v with|some H=>.skip H|none=>.bad
 | _,_=>.bad
noncomputable def I5(P:Program)(H:Mem)(ev:Ev)(o:Oper)(x:Option AV):R:=
 match x with
 | some (.ptr a off)=>.val (.ptr a off) H
 | some (.func (.func f) x y)=>.val (.func (.func f) x y) H
 | some (.iface t v)=>.val (.iface t v) H
 | _=>ofOpt H (A3 P ev o)
noncomputable def Oh(P:Program)(H:Mem)(op:BinOp)(t:TypeId)(x y:Option AV):R:=
 match x,y with
 | some a,some b=>match op,Wt (P.underlying t) a b with
  | .eql,true=>.val (.lit (.bool false)) H
  | .neq,true=>.val (.lit (.bool true)) H
  | _,_=>.bad
 | _,_=>.bad
noncomputable def Qb(op:BinOp)(x y:Option AV):Option AV:=
 match x,y with
 | some a,some b=>B4 op a b
 | _,_=>none
noncomputable def Bc(P:Program)(H:Mem)(ev:Ev)(o:Oper)(op:BinOp)(t:TypeId)(x y:Option AV):R:=
 match Qb op x y with
 | some v=>.val v H
 | none=>match A3 P ev o with
  | some v=>.val v H
  | none=>Oh P H op t x y
noncomputable def Eb(P:Program)(H:Mem)(ev:Ev)(o:Oper)(src dst:TypeId)(x:Option AV):R:=
 match A3 P ev o with
 | some v=>.val v H
 | none=>match x with
  | some v=>match convert P H src dst v with|some (v,H)=>.val v H|none=>.bad
  | none=>.bad
noncomputable def J8(P:Program)(H:Mem)(t:TypeId)(x:Option AV):R:=
 match P.underlying t,x with
 | some (.interface _),_=>.bad
 | some _,some v=>.val (.iface t v) H
 | _,_=>.bad
noncomputable def Ib(H:Mem)(fn:Fn)(a b:Option (List AV)):R:=
 match a,b with
 | some a,some b=>.val (.func fn a b) H
 | _,_=>.bad
noncomputable def Gf(P:Program)(H:Mem)(ev:Ev)(t:TypeId)(r:Option Operand):R:=
 match r with
 | none=>H.newK (.map [] 0) (λH2=>.val (.map H.next) H2)
 | some x=>match P.underlying t,ev x with
  | some (.map _ _),some (.lit (.int _ _))=>H.newK (.map [] 0) (λH2=>.val (.map H.next) H2)
  | _,_=>.bad
noncomputable def Ec(P:Program)(H:Mem)(t:TypeId)(l c:Option AV):R:=
 match Fp P t,l.bind natOf,c.bind natOf with
 | some (e,size,bytes),some l,some c =>
  match Nat.ble l c&&Nat.ble c 1048576&&Nat.ble bytes 1048576,Ea P e (c*size) with
  | true,some z=>C9 H (rep z c) true (.sl H.next 0 l c)
  | _,_=>.bad
 | _,_,_=>.bad
noncomputable def Er(ev:Ev)(y:Option Operand):Option (Option AV):=
 match y with|none=>some none|some y=>match ev y with|some v=>some (some v)|none=>none
noncomputable def Gg(P:Program)(H:Mem)(ev:Ev)(t:TypeId)(x:Option AV)(lo hi mx:Option Operand):R:=
 match x with
 | some v=>match Er ev lo,Er ev hi,Er ev mx with
  | some lo,some hi,some mx=>ofOpt H (S4 P t v lo hi mx)
  | _,_,_=>.bad
 | none=>.bad
noncomputable def Cw(P:Program)(H:Mem)(ev:Ev)(o:Oper)(t:TypeId)(x:Option AV)(lo hi mx:Option Operand):R:=
 match A3 P ev o with
 | some v=>.val v H
 | none=>Gg P H ev t x lo hi mx
noncomputable def Gh(P:Program)(H:Mem)(ev:Ev)(o:Oper)(r:Option AV):R:=
 match r with
 | some v=>.val v H
 | none=>ofOpt H (A3 P ev o)
noncomputable def Gy(P:Program)(H:Mem)(ev:Ev)(o:Oper)(s:TypeId)(x:Option AV)(f:Nat):R:=
 match x with|some v=>Gh P H ev o (fieldAddr P s v f)|none=>.bad
noncomputable def J9(P:Program)(H:Mem)(t:TypeId)(x:Option AV)(f:Nat):R:=
 match x with|some v=>ofOpt H (field P t v f)|none=>.bad
noncomputable def Di(P:Program)(H:Mem)(ev:Ev)(o:Oper)(t:TypeId)(x i:Option AV):R:=
 match x,i with|some v,some k=>Gh P H ev o (indexAddr P t v k)|_,_=>.bad
noncomputable def I6(P:Program)(H:Mem)(ev:Ev)(o:Oper)(t:TypeId)(x i:Option AV):R:=
 match x,i with
 | some v,some k=>match index P t v k with
  | some v=>.val v H
  | none=>ofOpt H (A3 P ev o)
 | _,_=>.bad
noncomputable def E8(P:Program)(H:Mem)(ev:Ev)(o:Oper)(t:TypeId)(m k:Option AV)(ok:Bool):R:=
 match m,k with
 | some m,some k=>ofOpt H (Qa (A3 P ev o) λ_=>lookup P H t m k ok)
 | _,_=>.bad
noncomputable def Ft(P:Program)(H:Mem)(t:TypeId)(m k x:Option AV):R:=
 match m,k,x with
 | some m,some k,some v=>match mapUpdate P H t m k v with|some H=>.skip H|none=>.bad
 | _,_,_=>.bad
noncomputable def Qc(P:Program)(H:Mem)(t:TypeId)(x:Option AV):R:=
 match P.underlying t,x with
 | some .string,some (.lit (.string s))=>H.newK (.siter s 0) (λH2=>.val (.ptr H.next 0) H2)
 | _,_=>.bad
noncomputable def a6r(H:Mem)(a:Nat)(s:ByteArray)(pos:Nat)(q:Nat×Nat):R:=
 H.setK a (.siter s (pos+q.2)) (λH=>.val (.tup [.lit (.bool true),.lit (goInt pos),.lit (.int .i32 q.1)]) H)
noncomputable def Qd(H:Mem)(it:Option AV):R:=
 match it with
 | some (.ptr a 0)=>match H.get a with
  | some (.siter s pos) =>
   match Nat.blt pos s.size with
   | true=>a6r H a s pos (Utf8.decode s pos)
   | false=>.val (.tup [.lit (.bool false)]) H
  | _=>.bad
 | _=>.bad
noncomputable def I7(P:Program)(H:Mem)(ev:Ev)(o:Oper)(x:Option AV)(asserted:TypeId)(ok:Bool):R:=
 match A3 P ev o with
 | some v=>.val v H
 | none=>match x with|some v=>ofOpt H (typeAssert P v asserted ok)|none=>.bad
noncomputable def Ic(H:Mem)(t:Option AV)(i:Nat):R:=
 match t with
 | some (.tup l)=>ofOpt H l[i]?
 | some (.lit (.tuple vs))=>match vs[i]? with|some v=>.val (.lit v) H|none=>.bad
 | _=>.bad
noncomputable def Qe(H:Mem)(x:Option AV):R:=
 match x with
 | some (.iface t v)=>.panic (.iface t v) H
 | some (.lit (.iface t v))=>.panic (.lit (.iface t v)) H
 | _=>.bad
noncomputable def Ed(H:Mem)(x:Option AV):R:=
 match x with|some v=>.val v H|none=>.bad
abbrev Hd:=Program->Mem->Ev->Oper->R
noncomputable def a6s(x:Operand):Hd:=λ_ H ev _=>Ed H (ev x)
noncomputable def b8f(c a b:Operand):Hd:=λ_ H ev _=>Gx H (ev c) (ev a) (ev b)
noncomputable def b8g(t:TypeId):Hd:=λP H _ _=>I4 P H t
noncomputable def b8h(_:TypeId)(x:Operand):Hd:=λ_ H ev _=>Ha H (ev x)
noncomputable def b8i(t:TypeId)(parts:Array (Nat×Operand)):Hd:=λP H ev _=>Hb P H t (Cm ev parts.toList)
noncomputable def b8j(t:TypeId)(len:Nat)(parts:Array (Nat×Operand)):Hd:=λP H ev _=>Fq P H t len (Cm ev parts.toList)
noncomputable def a6t(t:TypeId)(m k x:Operand):Hd:=λP H ev _=>Ft P H t (ev m) (ev k) (ev x)
noncomputable def b8k(t:TypeId)(a:Operand):Hd:=λP H ev _=>Fs P H t (ev a)
noncomputable def b8l(t:TypeId)(a x:Operand):Hd:=λP H ev _=>Ia P H t (ev a) (ev x)
noncomputable def hN(_:Nat):Hd:=λ_ _ _ _=>.bad
noncomputable def b8m(x:Operand):Hd:=λP H ev o=>I5 P H ev o (ev x)
noncomputable def b8n(op:BinOp)(t:TypeId)(x y:Operand)(_:TypeId):Hd:=λP H ev o=>Bc P H ev o op t (ev x) (ev y)
noncomputable def hUn(_:UnOp)(_:TypeId)(_:Operand):Hd:=λP H ev o=>ofOpt H (A3 P ev o)
noncomputable def b8o(src dst:TypeId)(x:Operand):Hd:=λP H ev o=>Eb P H ev o src dst (ev x)
noncomputable def hTX(_:TypeId)(_:Operand):Hd:=λ_ _ _ _=>.bad
noncomputable def b8p(t:TypeId)(x:Operand):Hd:=λP H ev _=>J8 P H t (ev x)
noncomputable def b8q(fn:Fn)(first captured:Array Operand):Hd:=λ_ H ev _=>Ib H fn (Be ev first.toList) (Be ev captured.toList)
noncomputable def b8r(t:TypeId)(r:Option Operand):Hd:=λP H ev _=>Gf P H ev t r
noncomputable def b8s(t:TypeId)(l c:Operand):Hd:=λP H ev _=>Ec P H t (ev l) (ev c)
noncomputable def b8t(t:TypeId)(x:Operand)(lo hi mx:Option Operand):Hd:=λP H ev o=>Cw P H ev o t (ev x) lo hi mx
noncomputable def b8u(s:TypeId)(x:Operand)(f:Nat):Hd:=λP H ev o=>Gy P H ev o s (ev x) f
noncomputable def b8v(t:TypeId)(x:Operand)(f:Nat):Hd:=λP H ev _=>J9 P H t (ev x) f
noncomputable def b8w(t:TypeId)(x i:Operand):Hd:=λP H ev o=>Di P H ev o t (ev x) (ev i)
noncomputable def b8x(t:TypeId)(x i:Operand):Hd:=λP H ev o=>I6 P H ev o t (ev x) (ev i)
noncomputable def b8y(t:TypeId)(m k:Operand)(ok:Bool):Hd:=λP H ev o=>E8 P H ev o t (ev m) (ev k) ok
noncomputable def b8z(_:TypeId)(_ _:Operand):Hd:=λ_ _ _ _=>.bad
noncomputable def b9a(_:TypeId)(_ _ _:Operand):Hd:=λ_ _ _ _=>.bad
noncomputable def b9b(t:TypeId)(x:Operand):Hd:=λP H ev _=>Qc P H t (ev x)
noncomputable def b9c(it:Operand)(b:Bool):Hd:=λ_ H ev _=>match b with|true=>Qd H (ev it)|false=>.bad
noncomputable def hX(_:Operand):Hd:=λ_ _ _ _=>.bad
noncomputable def hXX(_ _:Operand):Hd:=λ_ _ _ _=>.bad
noncomputable def b9d(x:Operand)(_ asserted:TypeId)(ok:Bool):Hd:=λP H ev o=>I7 P H ev o (ev x) asserted ok
noncomputable def b9e(t:Operand)(i:Nat):Hd:=λ_ H ev _=>Ic H (ev t) i
noncomputable def b9f(c:Call):Hd:=λP H ev o=>Bj P H ev o c
noncomputable def hC(_:Call):Hd:=λ_ _ _ _=>.bad
noncomputable def b9g(c:Call):Hd:=λ_ H ev _=>Og H ev c
noncomputable def b9h(x:Operand):Hd:=λ_ H ev _=>Qe H (ev x)
noncomputable def b9i(_:TypeId)(_:Operand)(_:Bool):Hd:=λ_ _ _ _=>.bad
noncomputable def b9j(_:Array SelectCase)(_:Bool):Hd:=λ_ _ _ _=>.bad
noncomputable def handler:Op->Hd:=Op.rec (motive:=λ_=>Hd)
 a6s a6s b8f b8g b8h b8i b8j a6t b8k b8l hN hN b8m b8n hUn b8o hTX b8p b8q b8r hTX b8s b8t b8u b8v b8w b8x b8y a6t b8z b9a b9b b9c hX b9d b9e b9f hC b9g b9h hXX b9i b9j
noncomputable def opV(P:Program)(H:Mem)(ev:Ev)(o:Oper):R:=handler o.op P H ev o
def freeOp:Op->Bool
 | .move _|.assign _|.pick _ _ _|.build _ _|.nilCheck _|.binOp _ _ _ _ _|.unOp _ _ _|.makeInterface _ _|.makeFunc _ _ _
 | .slice _ _ _ _ _|.fieldAddr _ _ _|.field _ _ _|.indexAddr _ _ _|.index _ _ _|.typeAssert _ _ _ _|.extract _ _=>true
 | _=>false
def eqV:Nat->Value->Value->Bool
 | _,.bool a,.bool b=>a==b
 | _,.int j a,.int k b=>decide (j=k)&&decide (a=b)
 | _,.string a,.string b=>decide (a=b)
 | _,.pointer a,.pointer b=>decide (a=b)
 | _,.slice a n c,.slice b m d=>decide (a=b)&&decide (n=m)&&decide (c=d)
 | _,.map a,.map b=>decide (a=b)
 | _,.nilFunc,.nilFunc=>true
 | _,.nilIface,.nilIface=>true
 | n+1,.iface t v,.iface u x=>decide (t=u)&&eqV n v x
 | _,.func f ⟨[]⟩ ⟨[]⟩,.func g ⟨[]⟩ ⟨[]⟩=>decide (f=g)
 | _,_,_=>false
def a0b(acc:List Nat)(o:Oper):Nat:=
 o.after.toList.foldl (λs e=>match Region.binds .any e with|true=>s ||| 2 ^ e.on ||| acc.getD e.on 0|false=>s) 0
def ancs:List Nat->List Oper->List Nat
 | acc,[]=>acc
 | acc,o::l=>ancs (acc++[a0b acc o]) l
def A1(tab:List Nat)(i j:Nat):Bool:=(tab.getD i 0).testBit j
mutual
def eqAV:AV->AV->Bool
 | .lit a,.lit b=>eqV 4 a b
 | .ptr a i,.ptr b j=>decide (a=b)&&decide (i=j)
 | .sl a i n c,.sl b j m d=>decide (a=b)&&decide (i=j)&&decide (n=m)&&decide (c=d)
 | .slq a i n c,.slq b j m d=>decide (a=b)&&decide (i=j)&&decide (n=m)&&decide (c=d)
 | .es,.es=>true
 | .map a,.map b=>decide (a=b)
 | .func f x y,.func g u v=>decide (f=g)&&eqAVs x u&&eqAVs y v
 | .iface t x,.iface u y=>decide (t=u)&&eqAV x y
 | .agg l,.agg m=>eqAVs l m
 | .tup l,.tup m=>eqAVs l m
 | _,_=>false
def eqAVs:List AV->List AV->Bool
 | [],[]=>true
 | x::l,y::m=>eqAV x y&&eqAVs l m
 | _,_=>false
end
inductive Cls where
 | free|read|gen|alloc|chain|no
def cls(op:Op):Cls:=
 match freeOp op with
 | true=>.free
 | false=>match op with
  | .load _ _|.lookup _ _ _ _=>.read
  | .convert _ _ _=>.gen
  | .alloc _|.box _ _|.buildSlice _ _ _|.makeSlice _ _ _|.makeMap _ _=>.alloc
  | .store _ _ _|.mapUpdate _ _ _ _|.insert _ _ _ _=>.chain
  | .call c=>match c.callee with
   | .builtin .append|.builtin .copy|.builtin .clear=>.chain
   | .builtin .len|.builtin .cap=>.read
   | .builtin .recover=>.no
   | .builtin _=>.gen
   | _=>.chain
  | _=>.no
def Cj(op:Op):Bool:=match cls op with|.chain=>true|_=>false
def Gz(t:Nat):List Oper->Nat->Option Nat
 | [],_=>none
 | o::l,i=>match (match o.dst with|some d=>Nat.beq d t|none=>false) with
  | true=>some i
  | false=>Gz t l (i+1)
def chainOf:List Oper->Nat->List Nat
 | [],_=>[]
 | o::l,i=>match Cj o.op with|true=>i::chainOf l (i+1)|false=>chainOf l (i+1)
def Ie(tab:List Nat):List Nat->Bool
 | i::j::l=>A1 tab j i&&Ie tab (j::l)
 | _=>true
def Ee(tab:List Nat)(i:Nat):List Nat->Nat
 | []=>0
 | c::cs=>match A1 tab i c with|true=>Ee tab i cs+1|false=>Ee tab i cs
def Es(tab:List Nat)(cs:List Nat)(k:Nat):List Oper->Nat->List Nat
 | [],_=>[]
 | o::l,i=>match !Cj o.op&&Nat.beq (Ee tab i cs) k with
  | true=>i::Es tab cs k l (i+1)
  | false=>Es tab cs k l (i+1)
def Ka(ops:List Oper)(o:Oper)(i:Nat):Bool:=
 (match o.dst with|some d=>(match Gz d ops 0 with|some j=>Nat.beq i j|none=>false)|none=>true) &&
 (match cls o.op with|.no=>false|_=>true) &&
 o.after.toList.all (λe=>match Region.binds .any e with|true=>Nat.blt e.on i|false=>true) &&
 (match o.guard with|some g=>(match ops[g.1]? with|some p=>p.dst.isSome|none=>false)|none=>true)
def fit(ops:List Oper):List Oper->Nat->Bool
 | [],_=>true
 | o::l,i=>Ka ops o i&&fit ops l (i+1)
def Oi(ops:List Oper):Bool:=Nat.ble ops.length 256&&Ie (ancs [] ops) (chainOf ops 0)&&fit ops ops 0
abbrev Dfr:=Fn×List AV×List AV
inductive Fr where
 | s (t:T2 AV) (ds:List Dfr)
 | g (t:T3 AV) (ds:List Dfr)
 | f (g:Nat->Option AV) (ds:List Dfr)
def E9(g:Nat->Option AV)(d:Nat)(v:AV):Nat->Option AV:=λt=>if t=d then some v else g t
noncomputable def fgS(t:T2 AV)(_:List Dfr)(k:Nat):Option AV:=B9 t k
noncomputable def fgG(t:T3 AV)(_:List Dfr)(k:Nat):Option AV:=H7 t k
noncomputable def fpS{β:Type}(t:T2 AV)(ds:List Dfr)(d:Tmp)(v:AV)(K:Fr->β):β:=S0 t d (.v d v) λt=>K (.s t ds)
noncomputable def fpG{β:Type}(t:T3 AV)(ds:List Dfr)(d:Tmp)(v:AV)(K:Fr->β):β:=Wm t d (.v d v) λt=>K (.g t ds)
noncomputable def fgF(g:Nat->Option AV)(_:List Dfr)(k:Nat):Option AV:=g k
noncomputable def fpF{β:Type}(g:Nat->Option AV)(ds:List Dfr)(d:Tmp)(v:AV)(K:Fr->β):β:=K (.f (E9 g d v) ds)
noncomputable def Fr.get(fr:Fr)(t:Nat):Option AV:=Fr.rec (motive:=λ_=>Nat->Option AV) fgS fgG fgF fr t
noncomputable def Fr.set{β:Type}(fr:Fr)(d:Tmp)(v:AV)(K:Fr->β):β:=Fr.rec (motive:=λ_=>Tmp->AV->(Fr->β)->β) fpS fpG fpF fr d v K
noncomputable def Fr.defer(fr:Fr)(x:Dfr):Fr:=Fr.rec (motive:=λ_=>Fr) (λt ds=>.s t (x::ds)) (λt ds=>.g t (x::ds)) (λt ds=>.f t (x::ds)) fr
noncomputable def Fr.defers(fr:Fr):List Dfr:=Fr.rec (motive:=λ_=>List Dfr) (λ_ ds=>ds) (λ_ ds=>ds) (λ_ ds=>ds) fr
noncomputable def evT(t:Tmp)(fr:Fr):Option AV:=fr.get t
noncomputable def evC(v:Value)(_:Fr):Option AV:=some (.lit v)
noncomputable def evG(g:Nat)(_:Fr):Option AV:=some (.lit (.pointer (some ⟨g,0,none⟩)))
noncomputable def evF(f:FuncId)(_:Fr):Option AV:=some (.lit (.func (.func f) #[] #[]))
noncomputable def Fr.ev(fr:Fr)(x:Operand):Option AV:=Operand.rec (motive:=λ_=>Fr->Option AV) evT evC evG evF x fr
noncomputable def b9k{β:Type}(fr:Fr)(_:AV)(K:Fr->β):β:=K fr
noncomputable def b9l{β:Type}(d:Tmp)(fr:Fr)(v:AV)(K:Fr->β):β:=fr.set d v K
noncomputable def Fr.putK{β:Type}(fr:Fr)(d:Option Tmp)(v:AV)(K:Fr->β):β:=
 Option.rec (motive:=λ_=>Fr->AV->(Fr->β)->β) b9k b9l d fr v K
inductive Out where
 | norm (fr:Fr) (H:Mem)
 | exit (id:Nat) (fr:Fr) (H:Mem)
 | ret (fr:Fr) (H:Mem)
 | panic (v:AV) (fr:Fr) (H:Mem)
 | bad
inductive Ay where
 | ret (v:AV) (H:Mem)
 | panic (v:AV) (H:Mem)
 | bad
noncomputable def a0c(ops:Array Oper)(fr:Fr)(j:Nat):Option Bool:=
 match ops[j]? with
 | some o=>match o.dst with
  | some d=>match fr.get d with
   | some (.lit (.bool b))=>some b
   | _=>none
  | none=>none
 | none=>none
noncomputable def Lb(ops:Array Oper)(fr:Fr)(g:Nat×Bool):Option Bool:=
 match a0c ops fr g.1 with
 | some b=>match b,g.2 with
  | true,true=>some true
  | false,false=>some true
  | _,_=>some false
 | none=>match ops[g.1]? with
  | some p=>match p.dst with
   | some d=>match fr.get d with
    | some (.lit (.tuple _))=>some false
    | _=>none
   | none=>none
  | none=>none
abbrev CallF:=FuncId->List AV->Mem->Ay
abbrev LoopF:=Code->Fr->Mem->Out
abbrev AfterF:=CallF->Oper->Fr->(Fr->Mem->Out)->Out
noncomputable def b9m(v:AV)(H:Mem):AfterF:=λ_ o fr k=>fr.putK o.dst v λfr=>k fr H
noncomputable def b9n(H:Mem):AfterF:=λ_ o fr k=>fr.putK o.dst (.lit undef) λfr=>k fr H
noncomputable def b9o(f:FuncId)(args:List AV)(H:Mem):AfterF:=λcallf o fr k =>
 match callf f args H with
 | .ret v H=>fr.putK o.dst v λfr=>k fr H
 | .panic v H=>.panic v fr H
 | .bad=>.bad
noncomputable def b9p(fn:Fn)(cap args:List AV)(H:Mem):AfterF:=λ_ o fr k=>Fr.putK (fr.defer (fn,cap,args)) o.dst (.lit undef) λfr=>k fr H
noncomputable def aBad:AfterF:=λ_ _ _ _=>.bad
noncomputable def b9q(v:AV)(H:Mem):AfterF:=λ_ _ fr _=>.panic v fr H
noncomputable def after(callf:CallF)(o:Oper)(fr:Fr)(k:Fr->Mem->Out)(r:R):Out:=
 R.rec (motive:=λ_=>AfterF) b9m b9n b9o b9p aBad b9q aBad r callf o fr k
noncomputable def Qf(P:Program)(callf:CallF)(ops:Array Oper)(o:Oper)(fr:Fr)(H:Mem)(k:Fr->Mem->Out)(g:Nat×Bool):Out:=
 match Lb ops fr g with
 | some true=>after callf o fr k (opV P H fr.ev o)
 | some false=>fr.putK o.dst (.lit undef) λfr=>k fr H
 | none=>.bad
abbrev OneF:=Program->CallF->Array Oper->Oper->Fr->Mem->(Fr->Mem->Out)->Out
noncomputable def oneN:OneF:=λP callf _ o fr H k=>after callf o fr k (opV P H fr.ev o)
noncomputable def b9r(g:Nat×Bool):OneF:=λP callf ops o fr H k=>Qf P callf ops o fr H k g
noncomputable def Lc(P:Program)(callf:CallF)(ops:Array Oper)(o:Oper)(fr:Fr)(H:Mem)(k:Fr->Mem->Out):Out:=
 Option.rec (motive:=λ_=>OneF) oneN b9r o.guard P callf ops o fr H k
abbrev SeqF:=Program->CallF->Array Oper->Fr->Mem->Out
noncomputable def seqN:SeqF:=λ_ _ _ fr H=>.norm fr H
noncomputable def b9s(o:Oper)(_:List Oper)(ih:SeqF):SeqF:=λP callf ops fr H=>Lc P callf ops o fr H (ih P callf ops)
noncomputable def Oj(P:Program)(callf:CallF)(ops:Array Oper)(l:List Oper)(fr:Fr)(H:Mem):Out:=
 List.rec (motive:=λ_=>SeqF) seqN b9s l P callf ops fr H
noncomputable def Ld(r:Out)(k:Fr->Mem->Out):Out:=match r with
 | .norm fr H=>k fr H
 | r=>r
noncomputable def Qg(c:Option AV)(a b:Fr->Mem->Out)(fr:Fr)(H:Mem):Out:=match c with
 | some (.lit (.bool true))=>a fr H
 | some (.lit (.bool false))=>b fr H
 | _=>.bad
noncomputable def Qh(id:Nat)(r:Out):Out:=match r with
 | .exit id' fr H=>(match Nat.beq id' id with|true=>.norm fr H|false=>.exit id' fr H)
 | r=>r
abbrev XF:=Program->CallF->LoopF->Fr->Mem->Out
noncomputable def xSkip:XF:=λ_ _ _ fr H=>.norm fr H
noncomputable def a0d(ops:Array Oper)(tab:List Nat)(fr:Fr)(res:T2 AV)(i t:Nat):Option AV:=
 match Gz t ops.toList 0 with
 | none=>fr.get t
 | some j=>match A1 tab i j with
  | true=>B9 res j
  | false=>match A1 tab j i||Nat.beq i j with
   | true=>fr.get t
   | false=>none
noncomputable def env(ops:Array Oper)(tab:List Nat)(fr:Fr)(res:T2 AV)(i:Nat):Ev:=λx=>match x with
 | .tmp t=>a0d ops tab fr res i t
 | .const v=>some (.lit v)
 | .global g=>some (.lit (.pointer (some ⟨g,0,none⟩)))
 | .func f=>some (.lit (.func (.func f) #[] #[]))
noncomputable def a6u(tab:List Nat)(res:T2 AV)(i:Nat)(g:Nat×Bool):Option Bool:=
 match A1 tab i g.1,B9 res g.1 with
 | true,some (.lit (.bool b))=>(match b,g.2 with|true,true=>some true|false,false=>some true|_,_=>some false)
 | true,some (.lit (.tuple _))=>some false
 | _,_=>none
noncomputable def Ol(tab:List Nat)(res:T2 AV)(i:Nat)(o:Oper):Option Bool:=match o.guard with|none=>some true|some g=>a6u tab res i g
noncomputable def quiet(P:Program)(H:Mem)(ev:Ev)(o:Oper):Option AV:=
 match cls o.op with
 | .gen=>A3 P ev o
 | _=>match opV P H ev o with|.val v _=>some v|_=>none
abbrev Als:=List (Nat×Nat×Blk)
noncomputable def a6v(t:T2 AV)(k:Nat):Bool:=Lf.rec (motive:=λ_=>Bool) true (λ_ _=>false) (gN (d1 k) (gN (d0 k) t))
noncomputable def I8(res:T2 AV)(i:Nat)(v:AV)(K:T2 AV->Out):Out:=match a6v res i with|true=>S0 res i (.v i v) K|false=>.bad
abbrev StF:=T2 AV->Mem->List Nat->Als->Out
noncomputable def a0e(P:Program)(ops:Array Oper)(tab:List Nat)(fr:Fr)(i:Nat)(res:T2 AV)(H:Mem)(held:List Nat)(als:Als)(K:StF):Out:=
 match ops[i]? with
 | none=>.bad
 | some o=>match Ol tab res i o with
  | some false=>I8 res i (.lit undef) λres=>K res H held als
  | some true=>match cls o.op with
   | .alloc=>match opV P H (env ops tab fr res i) o with
    | .val v H'=>match H'.get H.next with
     | some b=>I8 res i v λres=>K res H' held ((i,H.next,b)::als)
     | none=>.bad
    | _=>.bad
   | .read=>match quiet P H (env ops tab fr res i) o with
    | some v=>I8 res i v λres=>K res H (i::held) als
    | none=>.bad
   | _=>match quiet P H (env ops tab fr res i) o with
    | some v=>I8 res i v λres=>K res H held als
    | none=>.bad
  | none=>.bad
noncomputable def Qi(P:Program)(ops:Array Oper)(tab:List Nat)(fr:Fr):List Nat->T2 AV->Mem->List Nat->Als->StF->Out
 | [],res,H,held,als,K=>K res H held als
 | i::l,res,H,held,als,K=>a0e P ops tab fr i res H held als λres H held als=>Qi P ops tab fr l res H held als K
noncomputable def eqBlk:Blk->Blk->Bool
 | .cells l own z,.cells m own' z'=>eqAVs l m&&(own==own')&&Nat.beq z z'
 | .map [] c,.map [] c'=>Nat.beq c c'
 | _,_=>false
noncomputable def M5(P:Program)(ops:Array Oper)(tab:List Nat)(fr:Fr)(res:T2 AV)(H:Mem):List Nat->Bool
 | []=>true
 | i::l=>match ops[i]?,B9 res i with
  | some o,some v=>match quiet P H (env ops tab fr res i) o with
   | some v'=>match eqAV v' v with|true=>M5 P ops tab fr res H l|false=>false
   | none=>false
  | _,_=>false
noncomputable def M6(H:Mem):Als->Bool
 | []=>true
 | (_,a,b)::l=>match H.get a with
  | some b'=>match eqBlk b' b with|true=>M6 H l|false=>false
  | none=>false
noncomputable def Hc(tab:List Nat)(c:Nat):List Nat->List Nat
 | []=>[]
 | i::l=>match A1 tab c i with|true=>Hc tab c l|false=>i::Hc tab c l
noncomputable def Gi(tab:List Nat)(c:Nat):Als->Als
 | []=>[]
 | x::l=>match A1 tab c x.1 with|true=>Gi tab c l|false=>x::Gi tab c l
noncomputable def Fr.clear(fr:Fr):Fr:=Fr.rec (motive:=λ_=>Fr) (λ_ ds=>.s e2 ds) (λ_ ds=>.s e2 ds) (λ_ ds=>.s e2 ds) fr
noncomputable def fin(res:T2 AV)(H:Mem):List Oper->Nat->Fr->Out
 | [],_,fr=>.norm fr H
 | o::l,i,fr=>match B9 res i with
  | some v=>fr.putK o.dst v λfr=>fin res H l (i+1) fr
  | none=>.bad
noncomputable def act(P:Program)(callf:CallF)(ops:Array Oper)(tab:List Nat)(fr:Fr)(c:Nat)(res:T2 AV)(H:Mem)(K:T2 AV->Mem->Out):Out:=
 match ops[c]? with
 | none=>.bad
 | some o=>match Ol tab res c o with
  | some false=>I8 res c (.lit undef) λres=>K res H
  | some true=>match opV P H (env ops tab fr res c) o with
   | .val v H'=>I8 res c v λres=>K res H'
   | .skip H'=>I8 res c (.lit undef) λres=>K res H'
   | .enter f args H'=>match callf f args H' with
    | .ret v H''=>I8 res c v λres=>K res H''
    | .panic v H''=>.panic v fr.clear H''
    | .bad=>.bad
   | _=>.bad
  | none=>.bad
noncomputable def Qj(P:Program)(callf:CallF)(ops:Array Oper)(tab:List Nat)(fr:Fr)(all:List Nat):Nat->List Nat->T2 AV->Mem->List Nat->Als->Out
 | k,cs,res,H,held,als=>match cs with
  | []=>Qi P ops tab fr (Es tab all k ops.toList 0) res H held als λres H held als =>
   match M5 P ops tab fr res H held&&M6 H als with
   | true=>fin res H ops.toList 0 fr
   | false=>.bad
  | c::cs=>Qi P ops tab fr (Es tab all k ops.toList 0) res H held als λres H held als =>
   match M5 P ops tab fr res H held&&M6 H als with
   | true=>act P callf ops tab fr c res H λres H=>Qj P callf ops tab fr all (k+1) cs res H (Hc tab c held) (Gi tab c als)
   | false=>.bad
noncomputable def drawn(P:Program)(callf:CallF)(ops:Array Oper)(fr:Fr)(H:Mem):Out:=
 match Oi ops.toList&&Tables.follows P.toTables .mixedOrders with
 | true=>Qj P callf ops (ancs [] ops.toList) fr (chainOf ops.toList 0) 0 (chainOf ops.toList 0) e2 H [] []
 | false=>.bad
noncomputable def b9t(_:Nat)(ops:Array Oper)(draw:Bool):XF:=λP callf _ fr H=>match draw with
 | false=>Oj P callf ops ops.toList fr H
 | true=>drawn P callf ops fr H
noncomputable def a6w(_ _:Code)(a b:XF):XF:=λP callf loopf fr H=>Ld (a P callf loopf fr H) (b P callf loopf)
noncomputable def a6x(c:Operand)(_ _:Code)(a b:XF):XF:=λP callf loopf fr H=>Qg (fr.ev c) (a P callf loopf) (b P callf loopf) fr H
noncomputable def a6y(id:Nat)(_:Code)(a:XF):XF:=λP callf loopf fr H=>Qh id (a P callf loopf fr H)
noncomputable def a6z(b:Code)(a:XF):XF:=λP callf loopf fr H=>Ld (a P callf loopf fr H) (loopf (.loop b))
noncomputable def a7a(_:Operand)(_:Array Tmp)(_ _:Code)(_ _:XF):XF:=λ_ _ _ _ _=>.bad
noncomputable def a7b(id:Nat):XF:=λ_ _ _ fr H=>.exit id fr H
noncomputable def a7c(_:Code)(_:XF):XF:=λ_ _ _ _ _=>.bad
noncomputable def a7d(_:Nat):XF:=λ_ _ _ fr H=>.norm fr H
noncomputable def a7e(_:Nat):XF:=λ_ _ _ _ _=>.bad
noncomputable def xRet:XF:=λ_ _ _ fr H=>.ret fr H
noncomputable def a7f(_:String):XF:=λ_ _ _ _ _=>.bad
noncomputable def execC:Code->XF:=Code.rec (motive:=λ_=>XF) xSkip b9t a6w a6x a6y a6z a7a a7b a7c a7d a7e xRet a7f
noncomputable def Cn(P:Program)(callf:CallF)(loopf:LoopF)(c:Code)(fr:Fr)(H:Mem):Out:=execC c P callf loopf fr H
inductive Mode where
 | returning
 | panicking (v:AV)
 | recovered (v:AV)
inductive Kb where
 | norm (fr:Fr) (u:Mode) (H:Mem)
 | ret (fr:Fr) (u:Mode) (H:Mem)
 | bad
noncomputable def a0f(callf:CallF)(o:Oper)(fr:Fr)(u:Mode)(k:Fr->Mode->Mem->Kb)(H:Mem)(r:R):Kb:=
 match r with
 | .val v H=>fr.putK o.dst v λfr=>k fr u H
 | .skip H=>fr.putK o.dst (.lit undef) λfr=>k fr u H
 | .enter f args H=>match callf f args H with
  | .ret v H=>fr.putK o.dst v λfr=>k fr u H
  | _=>.bad
 | .recover=>match u with
  | .panicking v=>fr.putK o.dst v λfr=>k fr (.recovered v) H
  | _=>fr.putK o.dst (.lit .nilIface) λfr=>k fr u H
 | _=>.bad
noncomputable def M7(P:Program)(callf:CallF)(ops:Array Oper):List Oper->Fr->Mode->Mem->Kb
 | [],fr,u,H=>.norm fr u H
 | o::l,fr,u,H=>match (match o.guard with|none=>some true|some g=>Lb ops fr g) with
  | some true=>a0f callf o fr u (M7 P callf ops l) H (opV P H fr.ev o)
  | some false=>fr.putK o.dst (.lit undef) λfr=>M7 P callf ops l fr u H
  | none=>.bad
noncomputable def Tc(u:Mode)(r:Out):Kb:=match r with
 | .norm fr H=>.norm fr u H
 | .ret fr H=>.ret fr u H
 | _=>.bad
noncomputable def G0(P:Program)(callf:CallF)(loopf:LoopF):Code->Fr->Mode->Mem->Kb
 | .seq a b,fr,u,H=>match G0 P callf loopf a fr u H with
  | .norm fr u H=>G0 P callf loopf b fr u H
  | r=>r
 | .cond c a b,fr,u,H=>match fr.ev c with
  | some (.lit (.bool true))=>G0 P callf loopf a fr u H
  | some (.lit (.bool false))=>G0 P callf loopf b fr u H
  | _=>.bad
 | .region id ops true,fr,u,H=>Tc u (Cn P callf loopf (.region id ops true) fr H)
 | .region _ ops false,fr,u,H=>M7 P callf ops ops.toList fr u H
 | c,fr,u,H=>Tc u (Cn P callf loopf c fr H)
noncomputable def Qk{β:Type}(l:List AV)(fr:Fr)(K:Fr->β):β:=
 List.rec (motive:=λ_=>Fr->Nat->β) (λfr _=>K fr) (λv _ ih fr i=>fr.set i v λfr=>ih fr (Nat.succ i)) l fr 0
noncomputable def I9(P:Program)(fr:Fr)(H:Mem):ResultVar->Option AV
 | .tmp t=>fr.get t
 | .cell a t=>match fr.get a with
  | some p=>load P H t p
  | none=>none
noncomputable def Kc(P:Program)(fr:Fr)(H:Mem):List ResultVar->Option (List AV)
 | []=>some []
 | r::l=>match I9 P fr H r with
  | some v=>match Kc P fr H l with|some vs=>some (v::vs)|none=>none
  | none=>none
noncomputable def Fa(P:Program)(fn:Func)(fr:Fr)(H:Mem):Option AV:=
 match Kc P fr H fn.results.toList with
 | some [v]=>some v
 | some vs=>some (.tup vs)
 | none=>none
noncomputable def Ck(n:Nat):Fr:=match Nat.ble n 256 with|true=>.s e2 []|false=>.g e3 []
def B6(n:Nat)(o:Oper):Bool:=match o.dst with|some t=>Nat.blt t n|none=>true
def Aw(n:Nat):Code->Bool
 | .region _ ops _=>ops.toList.all (B6 n)
 | .seq a b=>Aw n a&&Aw n b
 | .cond _ a b=>Aw n a&&Aw n b
 | .block _ b=>Aw n b
 | .loop b=>Aw n b
 | .scope b=>Aw n b
 | _=>true
noncomputable def b9u(P:Program)(g:Func)(k:Mode->Mem->Ay)(r:Kb):Ay:=
 match r with
 | .norm fr u H=>match fr.defers,Fa P g fr H,u with
  | [],some _,.recovered _=>k .returning H
  | [],some _,.returning=>k .returning H
  | [],some _,.panicking v=>k (.panicking v) H
  | _,_,_=>.bad
 | .ret fr u H=>match fr.defers,Fa P g fr H,u with
  | [],some _,.recovered _=>k .returning H
  | [],some _,.returning=>k .returning H
  | [],some _,.panicking v=>k (.panicking v) H
  | _,_,_=>.bad
 | .bad=>.bad
noncomputable def a7g(P:Program)(callf:CallF)(loopf:LoopF)(f:FuncId)(args:List AV)(u:Mode)(H:Mem)(k:Mode->Mem->Ay):Ay:=
 match P.funcs[f]? with
 | some g=>match g.body,Ao P f with
  | some c,true=>match Aw g.ntmps c,Nat.ble (len args) g.ntmps with
   | true,true=>b9u P g k (Qk args (Ck g.ntmps) λfr=>G0 P callf loopf c fr u H)
   | _,_=>.bad
  | _,_=>.bad
 | none=>.bad
noncomputable def Co(P:Program)(callf:CallF)(loopf:LoopF)(fn:Func)(fr:Fr):List Dfr->Mode->Mem->Ay
 | [],.returning,H=>match Fa P fn fr H with
  | some v=>.ret v H
  | none=>.bad
 | [],.panicking v,H=>.panic v H
 | [],.recovered _,_=>.bad
 | (.func f,cap,args)::ds,u,H=>a7g P callf loopf f (args++cap) u H (Co P callf loopf fn fr ds)
 | _::_,_,_=>.bad
noncomputable def a7h(P:Program)(callf:CallF)(loopf:LoopF)(fn:Func)(r:Out):Ay:=match r with
 | .norm fr H=>Co P callf loopf fn fr fr.defers .returning H
 | .ret fr H=>Co P callf loopf fn fr fr.defers .returning H
 | .panic v fr H=>Co P callf loopf fn fr fr.defers (.panicking v) H
 | _=>.bad
noncomputable def b9v(P:Program)(callf:CallF)(loopf:LoopF)(fn:Func)(c:Code)(args:List AV)(H:Mem):Ay:=
 match Aw fn.ntmps c,Nat.ble (len args) fn.ntmps with
 | true,true=>a7h P callf loopf fn (Qk args (Ck fn.ntmps) λfr=>Cn P callf loopf c fr H)
 | _,_=>.bad
noncomputable def enter(P:Program)(callf:CallF)(loopf:LoopF)(f:FuncId)(args:List AV)(H:Mem):Ay:=
 match P.funcs[f]? with
 | some fn=>match fn.body with
  | some c=>b9v P callf loopf fn c args H
  | none=>.bad
 | none=>.bad
noncomputable def b9w(P:Program)(n:Nat):CallF×LoopF:=
 Nat.rec (motive:=λ_=>CallF×LoopF) (λ_ _ _=>.bad,λ_ _ _=>.bad) (λ_ ih=>(enter P ih.1 ih.2,Cn P ih.1 ih.2)) n
noncomputable def call(P:Program)(n:Nat):CallF:=(b9w P n).1
noncomputable def uN{α:Type}(d:Dg)(x:N α)(v:α):N α:=sN d x v id
theorem a0g{f h:Type}(d:Dg)(x:N f)(v:f)(K:N f->h):sN d x v K=K (uN d x v):=by
 cases x;cases d<;>rfl
theorem Fb{f:Type}(d:Dg)(x:N f)(v:f):gN d (uN d x v)=v:=by
 cases x;cases d<;>rfl
theorem Fc{A:Type}(d f:Dg)(x:N A)(v:A)(h:f≠d):gN f (uN d x v)=gN f x:=by
 cases x;cases d<;>cases f<;>first|rfl|exact absurd rfl h
theorem Dg.em(d f:Dg):f=d\/f≠d:=Classical.em _
abbrev X1:=@Dg.em
theorem Om{f:Type}(k j:Nat)(x y:f)(h:Mz k (.v j x)=some y):j=k/\x=y:=by
 have A:Bool.rec (motive:=λ_=>Option f) none (some x) (Nat.beq j k)=some y:=h
 cases D:Nat.beq j k with
 | true=>simp_all
 | false=>simp_all
noncomputable def u2{α:Type}(t:T2 α)(k:Nat)(x:Lf α):T2 α:=uN (d0 k) t (uN (d1 k) (gN (d0 k) t) x)
theorem M8{f h:Type}(t:T2 f)(k:Nat)(x:Lf f)(K:T2 f->h):S0 t k x K=K (u2 t k x):=by
 grind[u2,S0,a0g]
noncomputable def u3{α:Type}(t:T3 α)(k:Nat)(x:Lf α):T3 α:=uN (d0 k) t (uN (d1 k) (gN (d0 k) t) (uN (d2 k) (gN (d1 k) (gN (d0 k) t)) x))
theorem On{f h:Type}(t:T3 f)(k:Nat)(x:Lf f)(K:T3 f->h):Wm t k x K=K (u3 t k x):=by
 grind[u3,Wm,a0g]
noncomputable def u4{α:Type}(t:T4 α)(k:Nat)(x:Lf α):T4 α:=
 uN (d0 k) t (uN (d1 k) (gN (d0 k) t) (uN (d2 k) (gN (d1 k) (gN (d0 k) t)) (uN (d3 k) (gN (d2 k) (gN (d1 k) (gN (d0 k) t))) x)))
theorem Td{f h:Type}(t:T4 f)(k:Nat)(x:Lf f)(K:T4 f->h):P4 t k x K=K (u4 t k x):=by
 grind[u4,P4,a0g]
theorem at2{A:Type}(t:T2 A)(k j:Nat)(x:Lf A):
  gN (d1 j) (gN (d0 j) (u2 t k x))=x\/gN (d1 j) (gN (d0 j) (u2 t k x))=gN (d1 j) (gN (d0 j) t):=by
 unfold u2;rcases X1 (d0 k) (d0 j) with f|f
 .rw[f,Fb];rcases X1 (d1 k) (d1 j) with h|h
  .rw[h,Fb];grind
  .rw[Fc _ _ _ _ h];grind
 .rw[Fc _ _ _ _ f];grind
theorem a0h{f:Type}(t:T2 f)(k:Nat)(x:Lf f):gN (d1 k) (gN (d0 k) (u2 t k x))=x:=by
 grind[u2,Fb]
theorem at3{D:Type}(t:T3 D)(k j:Nat)(x:Lf D):
  gN (d2 j) (gN (d1 j) (gN (d0 j) (u3 t k x)))=x\/gN (d2 j) (gN (d1 j) (gN (d0 j) (u3 t k x)))=gN (d2 j) (gN (d1 j) (gN (d0 j) t)):=by
 unfold u3;rcases X1 (d0 k) (d0 j) with f|f
 .rw[f,Fb];rcases X1 (d1 k) (d1 j) with h|h
  .rw[h,Fb];rcases X1 (d2 k) (d2 j) with A|A
   .rw[A,Fb];grind
   .rw[Fc _ _ _ _ A];grind
  .rw[Fc _ _ _ _ h];grind
 .rw[Fc _ _ _ _ f];grind
theorem a7i{f:Type}(t:T3 f)(k:Nat)(x:Lf f):gN (d2 k) (gN (d1 k) (gN (d0 k) (u3 t k x)))=x:=by
 grind[u3,Fb]
theorem at4{Q:Type}(t:T4 Q)(k j:Nat)(x:Lf Q):
  gN (d3 j) (gN (d2 j) (gN (d1 j) (gN (d0 j) (u4 t k x))))=x\/gN (d3 j) (gN (d2 j) (gN (d1 j) (gN (d0 j) (u4 t k x))))=gN (d3 j) (gN (d2 j) (gN (d1 j) (gN (d0 j) t))):=by
 unfold u4;rcases X1 (d0 k) (d0 j) with f|f
 .rw[f,Fb];rcases X1 (d1 k) (d1 j) with h|h
  .rw[h,Fb];rcases X1 (d2 k) (d2 j) with A|A
   .rw[A,Fb];rcases X1 (d3 k) (d3 j) with D|D
    .rw[D,Fb];grind
    .rw[Fc _ _ _ _ D];grind
   .rw[Fc _ _ _ _ A];grind
  .rw[Fc _ _ _ _ h];grind
 .rw[Fc _ _ _ _ f];grind
theorem a0i{f:Type}(t:T4 f)(k:Nat)(x:Lf f):gN (d3 k) (gN (d2 k) (gN (d1 k) (gN (d0 k) (u4 t k x))))=x:=by
 grind[u4,Fb]
theorem b9x{f:Type}(t:T2 f)(k j:Nat)(v y:f)(h:B9 (u2 t k (.v k v)) j=some y):(j=k/\y=v)\/(j≠k/\B9 t j=some y):=by
 by_cases A:j=k
 .subst A;unfold B9 at h;rw[a0h] at h;exact .inl ⟨rfl,(Om _ _ _ _ h).2.symm⟩
 grind[Om,at2,B9]
theorem b9y{f:Type}(t:T3 f)(k j:Nat)(v y:f)(h:H7 (u3 t k (.v k v)) j=some y):(j=k/\y=v)\/(j≠k/\H7 t j=some y):=by
 by_cases A:j=k
 .subst A;unfold H7 at h;rw[a7i] at h;exact .inl ⟨rfl,(Om _ _ _ _ h).2.symm⟩
 grind[Om,at3,H7]
theorem a0j{f:Type}(t:T4 f)(k j:Nat)(v y:f)(h:Ep (u4 t k (.v k v)) j=some y):(j=k/\y=v)\/(j≠k/\Ep t j=some y):=by
 by_cases A:j=k
 .subst A;unfold Ep at h;rw[a0i] at h;exact .inl ⟨rfl,(Om _ _ _ _ h).2.symm⟩
 grind[Om,at4,Ep]
theorem b9z{f:Type}(t:T4 f)(k j:Nat)(y:f)(h:Ep (u4 t k .e) j=some y):j≠k/\Ep t j=some y:=by
 by_cases A:j=k
 .subst A;unfold Ep at h;rw[a0i] at h;cases h
 .refine⟨A,?_⟩;unfold Ep at h |-;rcases at4 t k j (.e:Lf f) with e|e
  .rw[e] at h;cases h
  grind
theorem Kd{f:Type}(d:Dg)(x:f):gN d (nN x)=x:=by cases d<;>rfl
theorem a7j{f:Type}(k:Nat):B9 (e2:T2 f) k=none:=by unfold B9 e2;rw[Kd,Kd];rfl
theorem c0a{f:Type}(k:Nat):H7 (e3:T3 f) k=none:=by unfold H7 e3 e2;rw[Kd,Kd,Kd];rfl
theorem Te{f:Type}(k:Nat):Ep (e4:T4 f) k=none:=by unfold Ep e4 e3 e2;rw[Kd,Kd,Kd,Kd];rfl
theorem Dy{f:Type}(n:Nat)(K:Nat->f):E6 n K=K n:=by cases n<;>rfl
theorem a7k{f:Type}(n:Int)(K:Int->f):M0 n K=K n:=by cases n<;>simp[M0,Dy]
noncomputable def Cg.upd(t:Cg)(a:Nat)(b:Blk):Cg:=match t with|.tr t=>.tr (u4 t a (.v a b))|.fn g=>.fn (Ak g a (some b))
noncomputable def Cg.rm(t:Cg)(a:Nat):Cg:=match t with|.tr t=>.tr (u4 t a .e)|.fn g=>.fn (Ak g a none)
noncomputable def Mem.upd(H:Mem)(a:Nat)(b:Blk):Mem:=⟨H.t.upd a b,H.next⟩
noncomputable def Mem.rm(H:Mem)(a:Nat):Mem:=⟨H.t.rm a,H.next⟩
noncomputable def Mem.add(H:Mem)(b:Blk):Mem:=⟨H.t.upd H.next b,H.next+1⟩
theorem Mem.newK_eq{f:Type}(H:Mem)(b:Blk)(K:Mem->f):H.newK b K=K (H.add b):=by
 obtain⟨t,n⟩:=H;cases t<;>simp[Mem.newK,a6k,S1,Wn,Wo,Td,Dy,Mem.add,Cg.upd]
abbrev Xy:=@Mem.newK_eq
theorem Mem.setK_eq{f:Type}(H:Mem)(a:Nat)(b:Blk)(K:Mem->f):H.setK a b K=K (H.upd a b):=by
 obtain⟨t,n⟩:=H;cases t<;>simp[Mem.setK,a6l,S1,Wn,Wo,Td,Mem.upd,Cg.upd]
abbrev X8:=@Mem.setK_eq
theorem Mem.delK_eq{f:Type}(H:Mem)(a:Nat)(K:Mem->f):H.delK a K=K (H.rm a):=by
 obtain⟨t,n⟩:=H;cases t<;>simp[Mem.delK,a6m,a6j,a6h,a6i,Td,Mem.rm,Cg.rm]
theorem a7l {g:Nat->Option Blk} {a j:Nat} {b y:Blk} (h:Ak g a (some b) j=some y) : (j=a/\y=b)\/(j≠a/\g j=some y):=by
 unfold Ak at h;grind
theorem c0b {g:Nat->Option Blk} {a j:Nat} {y:Blk} (h:Ak g a none j=some y) : j≠a/\g j=some y:=by
 simp_all[Ak]
theorem Mem.get_upd{H:Mem}{a j:Nat}{b y:Blk}(h:(H.upd a b).get j=some y):(j=a/\y=b)\/(j≠a/\H.get j=some y):=by
 obtain⟨t,n⟩:=H
 cases t with
 | tr t=>exact a0j _ _ _ _ _ h
 | fn g=>exact a7l h
abbrev Yb:=@Mem.get_upd
theorem Mem.get_rm{H:Mem}{a j:Nat}{y:Blk}(h:(H.rm a).get j=some y):j≠a/\H.get j=some y:=by
 obtain⟨t,n⟩:=H
 cases t with
 | tr t=>exact b9z _ _ _ _ h
 | fn g=>exact c0b h
abbrev Yj:=@Mem.get_rm
theorem Mem.get_add{H:Mem}{j:Nat}{b y:Blk}(h:(H.add b).get j=some y):(j=H.next/\y=b)\/(j≠H.next/\H.get j=some y):=by
 obtain⟨t,n⟩:=H
 cases t with
 | tr t=>exact a0j _ _ _ _ _ h
 | fn g=>exact a7l h
abbrev X2:=@Mem.get_add
noncomputable def Fr.upd(fr:Fr)(d:Tmp)(v:AV):Fr:=fr.set d v id
theorem Fr.set_eq{f:Type}(fr:Fr)(d:Tmp)(v:AV)(K:Fr->f):fr.set d v K=K (fr.upd d v):=by
 cases fr<;>simp[Fr.set,Fr.upd,fpS,fpG,fpF,M8,On]
theorem Fr.get_upd{fr:Fr}{d j:Tmp}{v y:AV}(h:(fr.upd d v).get j=some y):(j=d/\y=v)\/(j≠d/\fr.get j=some y):=by
 cases fr with
 | s t ds=>simp_all[fgS,Fr.get,M8,fpS,Fr.set,Fr.upd,b9x]
 | g t ds=>simp_all[fgG,Fr.get,On,fpG,Fr.set,Fr.upd,b9y]
 | f g ds =>
  have A:E9 g d v j=some y:=h;unfold E9 at A;by_cases e:j=d
  .grind
  .rw[if_neg e] at A;exact .inr ⟨e,A⟩
abbrev Yg:=@Fr.get_upd
theorem Fr.defers_upd(fr:Fr)(d:Tmp)(v:AV):(fr.upd d v).defers=fr.defers:=by
 cases fr<;>simp[Fr.upd,Fr.set,fpS,fpG,fpF,M8,On,Fr.defers]
abbrev Yk:=@Fr.defers_upd
theorem Fr.get_defer(fr:Fr)(x:Dfr)(j:Tmp):(fr.defer x).get j=fr.get j:=by cases fr<;>rfl
abbrev Yi:=@Fr.get_defer
theorem Fr.defers_defer(fr:Fr)(x:Dfr):(fr.defer x).defers=x::fr.defers:=by cases fr<;>rfl
abbrev Y4:=@Fr.defers_defer
noncomputable def Fr.put(fr:Fr)(d:Option Tmp)(v:AV):Fr:=match d with|some d=>fr.upd d v|none=>fr
theorem Fr.putK_eq{f:Type}(fr:Fr)(d:Option Tmp)(v:AV)(K:Fr->f):fr.putK d v K=K (fr.put d v):=by
 cases d with
 | none=>rfl
 | some d=>exact Fr.set_eq fr d v K
abbrev X3:=@Fr.putK_eq
theorem a7m(n j:Nat):(Ck n).get j=none:=by
 unfold Ck;split
 .exact a7j j
 .exact c0a j
theorem a7n(n:Nat):(Ck n).defers=[]:=by unfold Ck;split<;>rfl
theorem Le{f:Type}(l:List f)(i:Nat):nth l i=l[i]?:=by
 induction l generalizing i with
 | nil=>rfl
 | cons x l h=>cases i with
  | zero=>rfl
  | succ i=>grind[nth]
theorem C3{h:Type}(l:List h):len l=l.length:=by
 have:∀n,List.rec (motive:=λ_=>Nat->Nat) (λn=>n) (λ_ _ f n=>E6 (Nat.succ n) f) l n=n+l.length:=by
  induction l with
  | nil=>grind
  | cons x l f=>grind[Dy]
 grind[len]
theorem c0c{f h:Type}(z:h)(n:Nat)(l:List f)(K:List f->h):Wr z n l K=if n<=l.length then K (l.take n) else z:=by
 induction n generalizing l K with
 | zero=>rfl
 | succ n A=>cases l with
  | nil=>rfl
  | cons x l =>
   simp_all[Wr]
theorem c0d{f h:Type}(z:h)(n:Nat)(l:List f)(K:List f->h):Ws z n l K=if n<=l.length then K (l.drop n) else z:=by
 induction n generalizing l K with
 | zero=>rfl
 | succ n A=>cases l with
  | nil=>rfl
  | cons x l =>
   simp_all[Ws]
theorem Ja{f h:Type}(l:List f)(n off:Nat)(z:h)(K:List f->h):K5 l n off z K=if off+n<=l.length then K ((l.drop off).take n) else z:=by
 (simp_all[K5,c0d,c0c];grind)
theorem Ql{f h:Type}(a b:List f)(K:List f->h):S2 a b K=K (a++b):=by
 induction a generalizing K with
 | nil=>rfl
 | cons x a A =>
  simp_all[S2]
theorem c0e{f h:Type}(z:h)(new l:List f)(K:List f->h):overK z new l K=if new.length<=l.length then K (new++l.drop new.length) else z:=by
 induction new generalizing l K with
 | nil=>rfl
 | cons x new A=>cases l with
  | nil=>rfl
  | cons y l =>
   simp_all[overK]
theorem Lh{f h:Type}(z:h)(l:List f)(off:Nat)(new:List f)(K:List f->h):
  K6 z l off new K=if off+new.length<=l.length then K (l.take off++new++l.drop (off+new.length)) else z:=by
 induction off generalizing l K with
 | zero =>
  have:K6 z l 0 new K=overK z new l K:=rfl;grind[c0e]
 | succ off A=>cases l with
  | nil=>simp[K6]
  | cons x l =>
   (simp_all[K6];grind)
abbrev Rn:=Nat->Option (Nat×Nat×Nat)
mutual
def VR(ρ:Rn):AV->Value->Prop
 | .lit v,u=>u=v
 | .ptr a off,u=>∃b o k,ρ a=some (b,o,k)/\u=.pointer (some ⟨b,o+off,none⟩)
 | .sl a off n c,u=>∃b o k,ρ a=some (b,o,k)/\n<=c/\u=.slice (some ⟨b,o+off,none⟩) n c
 | .slq a off n d,u=>∃b o k,ρ a=some (b,o,k)/\d+n<=k/\u=.slice (some ⟨b,o+off,none⟩) n (k-d)
 | .es,u=>∃ad c,u=.slice (some ad) 0 c
 | .map a,u=>∃b o k,ρ a=some (b,o,k)/\u=.map (some b)
 | .func fn f c,u=>∃f' c',u=.func fn f' c'/\VRs ρ f f'.toList/\VRs ρ c c'.toList
 | .iface t v,u=>∃u',u=.iface t u'/\VR ρ v u'
 | .agg l,u=>∃cs,u=.agg cs/\VRs ρ l cs.toList
 | .tup l,u=>∃cs,u=.tuple cs/\VRs ρ l cs.toList
def VRs (ρ:Rn):List AV->List Value->Prop
 | [],us=>us=[]
 | v::l,us=>∃u us',us=u::us'/\VR ρ v u/\VRs ρ l us'
end
def Sub(ρ ρ' : Rn):Prop:=∀a x,ρ a=some x->ρ' a=some x
theorem Sub.refl(ρ:Rn):Sub ρ ρ:=λ_ _ h=>h
abbrev Yl:=@Sub.refl
theorem Sub.trans{a b c:Rn}(h:Sub a b)(k:Sub b c):Sub a c:=λx y e=>k x y (h x y e)
mutual
theorem VR.mono {ρ ρ' : Rn} (h:Sub ρ ρ') : ∀ {v:AV} {u:Value},VR ρ v u->VR ρ' v u
 | .lit _,_,r=>r
 | .ptr _ _,_,⟨b,o,k,e,r⟩=>⟨b,o,k,h _ _ e,r⟩
 | .sl _ _ _ _,_,⟨b,o,k,e,r⟩=>⟨b,o,k,h _ _ e,r⟩
 | .slq _ _ _ _,_,⟨b,o,k,e,r⟩=>⟨b,o,k,h _ _ e,r⟩
 | .es,_,r=>r
 | .map _,_,⟨b,o,k,e,r⟩=>⟨b,o,k,h _ _ e,r⟩
 | .func _ _ _,_,⟨f',c',e,r,q⟩=>⟨f',c',e,VRs.mono h r,VRs.mono h q⟩
 | .iface _ _,_,⟨u',e,r⟩=>⟨u',e,VR.mono h r⟩
 | .agg _,_,⟨cs,e,r⟩=>⟨cs,e,VRs.mono h r⟩
 | .tup _,_,⟨cs,e,r⟩=>⟨cs,e,VRs.mono h r⟩
theorem VRs.mono {ρ ρ' : Rn} (h:Sub ρ ρ') : ∀ {l:List AV} {us:List Value},VRs ρ l us->VRs ρ' l us
 | [],_,r=>r
 | _ :: _,_,⟨u,us',e,r,q⟩=>⟨u,us',e,VR.mono h r,VRs.mono h q⟩
end
theorem VRs.nil{ρ:Rn}:VRs ρ [] []:=rfl
theorem VRs.cons{ρ:Rn}{v:AV}{l:List AV}{u:Value}{us:List Value}(h:VR ρ v u)(k:VRs ρ l us):VRs ρ (v::l) (u::us):=⟨u,us,rfl,h,k⟩
theorem VRs.length{ρ:Rn}:∀{l:List AV}{us:List Value},VRs ρ l us->us.length=l.length
 | [],_,h=>by cases h;rfl
 | _::l,_,⟨u,f,e,_,q⟩=>by subst e;simp[VRs.length q]
theorem VRs.get{ρ:Rn}:∀{l:List AV}{us:List Value}(i:Nat){v:AV},VRs ρ l us->l[i]?=some v->∃u,us[i]?=some u/\VR ρ v u
 | x::l,_,i,v,⟨u,D,e,r,q⟩,h=>by
  subst e
  cases i with
  | zero=>grind
  | succ i=>simp at h;obtain⟨w,f,A⟩:=VRs.get i q h;exact⟨w,by simpa using f,A⟩
theorem VRs.append{ρ:Rn}:∀{l A:List AV}{us f:List Value},VRs ρ l us->VRs ρ A f->VRs ρ (l++A) (us++f)
 | [],_,_,_,h,k=>by cases h;exact k
 | _::_,_,_,_,⟨u,f,e,r,q⟩,k=>by subst e;exact⟨u,f++_,rfl,r,VRs.append q k⟩
theorem VRs.take{ρ:Rn}:∀{l:List AV}{us:List Value}(n:Nat),VRs ρ l us->VRs ρ (l.take n) (us.take n)
 | [],_,n,h=>by grind[VRs]
 | _::_,_,0,_=>by rfl
 | _::_,_,n+1,⟨u,f,e,r,q⟩=>by subst e;exact⟨u,f.take n,by simp,r,VRs.take n q⟩
theorem VRs.drop{ρ:Rn}:∀{l:List AV}{us:List Value}(n:Nat),VRs ρ l us->VRs ρ (l.drop n) (us.drop n)
 | [],_,n,h=>by grind[VRs]
 | _::_,_,0,h=>by grind
 | _::_,_,n+1,⟨u,f,e,r,q⟩=>by subst e;simpa using VRs.drop n q
theorem VRs.lits {ρ:Rn} : ∀ (us:List Value),VRs ρ (us.map .lit) us
 | []=>rfl
 | u :: us=>⟨u,us,rfl,rfl,VRs.lits us⟩
abbrev X9:=@VRs.lits
theorem VRs.of_get {ρ:Rn} : ∀ {l:List AV} {us:List Value},us.length=l.length->(∀ (i:Nat) (v:AV),l[i]?=some v->∃ u,us[i]?=some u/\VR ρ v u)->VRs ρ l us
 | [],[],_,_=>rfl
 | [],_ :: _,h,_=>by grind
 | _ :: _,[],h,_=>by grind
 | v :: l,u :: us,h,k=>by
  refine⟨u,us,rfl,?_,VRs.of_get (by grind) fun i v' hi=>?_⟩
  ·obtain⟨w,hw,hv⟩:=k 0 v rfl;grind
  ·simpa using k (i+1) v' (by grind)
abbrev Yn:=@VRs.of_get
theorem Qm{ρ:Rn}:∀{l:List AV}{vs:List Value}{us:List Value},litAll l=some vs->VRs ρ l us->us=vs
 | [],vs,us,h,k=>by cases h;exact k
 | v::l,vs,us,h,⟨u,A,e,r,q⟩=>by
  subst e
  cases v with
  | lit x =>
   simp only[litAll] at h;split at h
   .rename_i ws f;cases h;cases r;rw[Qm f q]
   grind
  | _=>simp[litAll] at h
theorem VR.cells{ρ:Rn}{v:AV}{u:Value}(h:VR ρ v u):VRs ρ (cellsOf v) u.cells.toList:=by
 cases v with
 | lit x =>
  cases h;cases u<;>first|exact⟨_,_,rfl,rfl,rfl⟩|exact X9 _
 | agg l=>obtain⟨cs,e,r⟩:=h;subst e;exact r
 | ptr a off=>obtain⟨b,o,k,e,r⟩:=h;subst r;exact⟨_,_,rfl,⟨b,o,k,e,rfl⟩,rfl⟩
 | sl a off n c=>obtain⟨b,o,k,e,e2,r⟩:=h;subst r;exact⟨_,_,rfl,⟨b,o,k,e,e2,rfl⟩,rfl⟩
 | slq a off n c=>obtain⟨b,o,k,e,e2,r⟩:=h;subst r;exact⟨_,_,rfl,⟨b,o,k,e,e2,rfl⟩,rfl⟩
 | es=>obtain⟨b,o,e⟩:=h;subst e;exact⟨_,_,rfl,⟨b,o,rfl⟩,rfl⟩
 | map a=>obtain⟨b,o,k,e,r⟩:=h;subst r;exact⟨_,_,rfl,⟨b,o,k,e,rfl⟩,rfl⟩
 | func fn f c=>obtain⟨A,D,e,r,q⟩:=h;subst e;exact⟨_,_,rfl,⟨A,D,rfl,r,q⟩,rfl⟩
 | iface t w=>obtain⟨u',e,r⟩:=h;subst e;exact⟨_,_,rfl,⟨u',rfl,r⟩,rfl⟩
 | tup l=>obtain⟨cs,e,r⟩:=h;subst e;exact⟨_,_,rfl,⟨cs,rfl,r⟩,rfl⟩
theorem a0k{ρ:Rn}{v:AV}{u:Value}(h:VR ρ v u)(k:oneC v=true):u.oneCell=true:=by
 cases v with
 | lit x=>cases h;cases u<;>first|rfl|cases k
 | agg l=>cases k
 | ptr a off=>obtain⟨b,o,k,e,r⟩:=h;subst r;rfl
 | sl a off n c=>obtain⟨b,o,k,e,e2,r⟩:=h;subst r;rfl
 | slq a off n c=>obtain⟨b,o,k,e,e2,r⟩:=h;subst r;rfl
 | es=>obtain⟨b,o,e⟩:=h;subst e;rfl
 | map a=>obtain⟨b,o,k,e,r⟩:=h;subst r;rfl
 | func fn f c=>obtain⟨A,D,e,r,q⟩:=h;subst e;rfl
 | iface t w=>obtain⟨u',e,r⟩:=h;subst e;rfl
 | tup l=>cases k
def ER(ρ:Rn):List (AV×AV×Nat)->List MapEntry->Prop
 | [],es=>es=[]
 | (k,v,b)::l,es=>∃e es',es=e::es'/\VR ρ k e.key/\VR ρ v e.val/\e.born=b/\ER ρ l es'
theorem ER.mono{ρ f:Rn}(h:Sub ρ f):∀{l:List (AV×AV×Nat)} {es:List MapEntry},ER ρ l es->ER f l es
 | [],_,r=>r
 | _::_,_,⟨e,A,q,r,s,t,z⟩=>⟨e,A,q,r.mono h,s.mono h,t,ER.mono h z⟩
def BR(B:Nat)(ρ:Rn):Blk->Nat->Nat->Nat->World->Prop
 | .cells l own z,b,o,k,w=>∃c e fz,w.heap[b]?=some (.cells c e fz)/\(∀(i:Nat)(v:AV),l[i]?=some v->∃u,c[o+i]?=some u/\VR ρ v u) /\
   (own=true->B<=b/\(∀j,j<c.size->¬(fz.1<=j/\j<fz.2))/\o+k*z<=c.size/\(z=0\/l.length<=k*z))
 | .map es clock,b,_,_,w=>∃es',w.heap[b]?=some (.map es' clock)/\ER ρ es es'.toList/\B<=b
 | .siter s pos,b,o,_,w=>w.heap[b]?=some (.stringIter s pos)/\B<=b/\o=0
 | .typ T l ex,b,o,k,w=>o=0/\B<=b/\∃c,w.heap[b]?=some (.cells c T (0,0))/\(∀(i:Nat)(v:AV),l[i]?=some v->∃u,c[i]?=some u/\VR ρ v u)/\(ex=true->c.size=l.length)/\(ex=false->c.size=k/\l.length<=k)
def Blk.own:Blk->Bool
 | .cells _ own _=>own
 | _=>true
theorem BR.lt{B:Nat}{ρ:Rn}{x:Blk}{b o k:Nat}{w:World}(h:BR B ρ x b o k w):b<w.heap.size:=by
 cases x with
 | cells l own z=>obtain⟨c,e,A,f,_⟩:=h;grind
 | map es D=>obtain⟨Q,f,_⟩:=h;grind
 | siter s U=>exact(e5y.1 h.1).1
 | typ T l Z=>obtain⟨_,_,c,f,_⟩:=h;grind
theorem BR.mono{B:Nat}{ρ a0:Rn}{x:Blk}{b o k:Nat}{w w': World}(h:BR B ρ x b o k w)(D:Sub ρ a0)(A:w'.heap[b]?=w.heap[b]?):BR B a0 x b o k w':=by
 cases x with
 | cells l own z =>
  obtain⟨c,e,fz,f,Q,ho⟩:=h;exact⟨c,e,fz,A.trans f,λi v hi=>let ⟨u,U,Z⟩:=Q i v hi;⟨u,U,Z.mono D⟩,ho⟩
 | map es a2=>obtain⟨a1,f,he,hB⟩:=h;exact⟨a1,A.trans f,he.mono D,hB⟩
 | siter s a3=>exact⟨A.trans h.1,h.2⟩
 | typ T l ex =>
  obtain⟨h0,hB,c,f,Q,h1,h2⟩:=h;exact⟨h0,hB,c,A.trans f,λi v hi=>let ⟨u,U,Z⟩:=Q i v hi;⟨u,U,Z.mono D⟩,h1,h2⟩
theorem BR.above{B:Nat}{ρ:Rn}{x:Blk}{b o k:Nat}{w:World}(h:BR B ρ x b o k w)(f:x.own=true):B<=b:=by
 cases x with
 | cells l own z=>obtain⟨c,e,D,A,Q,hh⟩:=h;exact(hh f).1
 | map es U=>obtain⟨Z,A,he,hB⟩:=h;grind
 | siter s a0=>exact h.2.1
 | typ T l ex=>exact h.2.1
structure Sim (B G:Nat) (ρ:Rn) (H:Mem) (w:World):Prop where
 blk:∀a x,H.get a=some x->ρ a=none\/∃b o k,ρ a=some (b,o,k)/\BR B ρ x b o k w
 inj:∀a a' x x' b o k o' k',H.get a=some x->H.get a'=some x'->a≠a'->x.own=true->ρ a=some (b,o,k)->ρ a'=some (b,o',k')->False
 fresh:∀a,H.next<=a->ρ a=none
 glob:∀a x,a<G->H.get a=some x->ρ a=some (a,0,0)
 names:G<=H.next
 base:B<=w.heap.size
def isMk:Obj->Bool
 | .loop _=>true
 | .deferred _=>true
 | _=>false
def KD(w w' : World):Prop:=(∀(k:Nat)(o:Obj),w.heap[k]?=some o->isMk o=true->w'.heap[k]?=some o)/\w.drawn<=w'.drawn
theorem KD.refl(w:World):KD w w:=⟨λ_ _ h _=>h,Wy _⟩
theorem KD.trans{a b c:World}(h:KD a b)(k:KD b c):KD a c:=⟨λi o hi f=>k.1 i o (h.1 i o hi f) f,W6 h.2 k.2⟩
theorem KD.heap{w w': World}(h:w'.heap=w.heap)(f:w.drawn<=w'.drawn:=by first|exact Wy _|exact W4 _|assumption|omega):KD w w':=⟨λ_ _ A _=>by grind,f⟩
theorem KD.push{w w': World}{f:Obj}(h:w'.heap=w.heap.push f)(A:w.drawn<=w'.drawn:=by first|exact Wy _|exact W4 _|assumption|omega):KD w w':=⟨λk o D _=>by
 grind,A⟩
theorem KD.turn{w w': World}{b:Nat}{x:Obj}(A:w.heap[b]?=some x)(hx:isMk x=false)(h:∀j,j≠b->w'.heap[j]?=w.heap[j]?)(f:w.drawn<=w'.drawn:=by first|exact Wy _|exact W4 _|assumption|omega):KD w w':=⟨λk o D Q=>by
 grind,f⟩
abbrev Yv:=@KD.turn
structure Ext (B n:Nat) (ρ:Rn) (w:World) (ρ' : Rn) (w' : World):Prop where
 same:∀a,a<n->ρ' a=ρ a
 keeps:KD w w'
 below:Below B w w'
theorem Ext.refl(B n:Nat)(ρ:Rn)(w:World):Ext B n ρ w ρ w:=⟨λ_ _=>rfl,KD.refl w,Below.refl B w⟩
abbrev X6:=@Ext.refl
theorem Ext.trans{B n n': Nat}{ρ f A:Rn}{w w' D:World}(h:Ext B n ρ w f w')(k:Ext B n' f w' A D)(U:n<=n'):Ext B n ρ w A D:=
 ⟨λa Q=>(k.same a (Xg Q U)).trans (h.same a Q),h.keeps.trans k.keeps,h.below.trans k.below⟩
theorem Ext.sub {B G:Nat} {ρ ρ' : Rn} {H:Mem} {w0 w w' : World} (h:Ext B H.next ρ w ρ' w') (s:Sim B G ρ H w0) : Sub ρ ρ':=by
 intro a x hx
 rw[h.same a ?_];· grind
 rcases Nat.lt_or_ge a H.next with k|k
 ·exact k
 ·rw[s.fresh a k] at hx;grind
section
def upd(ρ:Rn)(n:Nat)(x:Nat×Nat×Nat):Rn:=λa=>if a=n then some x else ρ a
theorem Da(ρ:Rn)(n:Nat)(x:Nat×Nat×Nat):upd ρ n x n=some x:=by simp[upd]
theorem C4(ρ:Rn){n a:Nat}(x:Nat×Nat×Nat)(h:a≠n):upd ρ n x a=ρ a:=by grind[upd]
theorem Jb{ρ:Rn}{n:Nat}{x:Nat×Nat×Nat}(h:ρ n=none):Sub ρ (upd ρ n x):=by
 intro a y hy;grind[C4]
variable {B G:Nat}{ρ:Rn}{H:Mem}{w w' : World}
theorem Sim.at(s:Sim B G ρ H w){a:Nat}{x:Blk}{b o k:Nat}(h:H.get a=some x)(f:ρ a=some (b,o,k)):BR B ρ x b o k w:=by
 rcases s.blk a x h with A|⟨D,Q,U,Z,hb⟩
 all_goals grind
theorem Sim.none(s:Sim B G ρ H w):ρ H.next=none:=s.fresh _ (Wy _)
theorem Sim.lt_next(s:Sim B G ρ H w){a:Nat}{x:Nat×Nat×Nat}(h:ρ a=some x):a<H.next:=by
 rcases e6y a H.next with k|k
 .exact k
 .rw[s.fresh a k] at h;cases h
theorem Sim.heap(s:Sim B G ρ H w)(h:w'.heap=w.heap):Sim B G ρ H w' :=
 {blk:=λa x hx=>(s.blk a x hx).imp id λ⟨b,o,k,f,A⟩=>⟨b,o,k,f,A.mono (Yl _) (by rw[h])⟩
  inj:=s.inj,fresh:=s.fresh,glob:=s.glob,names:=s.names,base:=by rw[h];exact s.base }
theorem Sim.other(s:Sim B G ρ H w)(h:w.heap.size<=w'.heap.size)(hh:∀a x b o k,H.get a=some x->ρ a=some (b,o,k)->w'.heap[b]?=w.heap[b]?):Sim B G ρ H w' :=
 {blk:=λa x hx=>(s.blk a x hx).imp id λ⟨b,o,k,f,A⟩=>⟨b,o,k,f,A.mono (Yl _) (hh a x b o k hx f)⟩
  inj:=s.inj,fresh:=s.fresh,glob:=s.glob,names:=s.names,base:=W6 s.base h }
theorem Sim.rm(s:Sim B G ρ H w)(a:Nat):Sim B G ρ (H.rm a) w:=
 {blk:=λj x hx=>s.blk j x (Yj hx).2
  inj:=λj A x D b o k Q U h Z a0 ho hr a1=>s.inj j A x D b o k Q U (Yj h).2 (Yj Z).2 a0 ho hr a1
  fresh:=λj f=>s.fresh j f
  glob:=λj x f hx=>s.glob j x f (Yj hx).2
  names:=s.names,base:=s.base }
theorem Sim.add(s:Sim B G ρ H w){x:Blk}{b o k:Nat}(a1:w.heap.size<=w'.heap.size)
  (hh:∀a x f Q U,H.get a=some x->ρ a=some (f,Q,U)->f≠b/\w'.heap[f]?=w.heap[f]?)
  (hx:BR B (upd ρ H.next (b,o,k)) x b o k w'):Sim B G (upd ρ H.next (b,o,k)) (H.add x) w':=by
 have a2:=Jb (x:=(b,o,k)) s.none;refine⟨?_,?_,?_,?_,?_,W6 s.base a1⟩
 .intro a y hy;rcases X2 hy with⟨rfl,rfl⟩|⟨D,hy⟩
  .grind[Da]
  .rw[C4 _ _ D];rcases s.blk a y hy with hn|⟨f,Q,U,A,hb⟩
   .grind
   .exact .inr ⟨f,Q,U,A,hb.mono a2 (hh a y f Q U hy A).2⟩
 .intro a a' y y' b1 o1 k1 o2 k2 h h' D ho A Z;rcases X2 h with⟨e1,e2⟩|⟨a3,g⟩
  .rcases X2 h' with⟨e3,e4⟩|⟨a0,g'⟩
   .grind
   .rw[e1,Da] at A;cases A;rw[C4 _ _ a0] at Z;grind
  .rw[C4 _ _ a3] at A;rcases X2 h' with⟨e3,e4⟩|⟨a0,g'⟩
   .rw[e3,Da] at Z;grind
   .rw[C4 _ _ a0] at Z;exact s.inj a a' y y' b1 o1 k1 o2 k2 g g' D ho A Z
 .intro a ha;have h1:H.next+1<=a:=ha;rw[C4 _ _ (by omega)];exact s.fresh a (by omega)
 .intro a y ha hy;have a4:=s.names;rcases X2 hy with⟨rfl,rfl⟩|⟨D,hy⟩
  .omega
  .rw[C4 _ _ D];exact s.glob a y ha hy
 .exact e7l s.names
theorem Sim.set(s:Sim B G ρ H w){a:Nat}{x y:Blk}{b o k:Nat}(Q:H.get a=some x)(hr:ρ a=some (b,o,k))(Z:x.own=true)(a5:y.own=true)
  (a3:w.heap.size<=w'.heap.size) (hh:∀f,f≠b->f < w.heap.size->w'.heap[f]?=w.heap[f]?) (hy:BR B ρ y b o k w'):Sim B G ρ (H.upd a y) w':=by
 refine⟨?_,?_,λj U=>s.fresh j U,?_,s.names,W6 s.base a3⟩
 .intro j z A;rcases Yb A with⟨rfl,rfl⟩|⟨D,A⟩
  .grind
  .rcases s.blk j z A with hn|⟨f,o',k',a2,hb⟩
   .grind
   .refine .inr ⟨f,o',k',a2,hb.mono (Yl _) (hh f ?_ hb.lt)⟩;rintro rfl;exact s.inj a j x z f o k o' k' Q A (Ne.symm D) Z hr a2
 .intro j j' z z' b1 o1 k1 o2 k2 h h' D ho a0 a1;rcases Yb h with⟨e1,e2⟩|⟨a6,g⟩
  .rcases Yb h' with⟨e3,e4⟩|⟨a4,g'⟩
   .grind
   .subst e1;exact s.inj j j' x z' b1 o1 k1 o2 k2 Q g' D Z a0 a1
  .rcases Yb h' with⟨e3,e4⟩|⟨a4,g'⟩
   .subst e3;exact s.inj j' j x z b1 o2 k2 o1 k1 Q g (Ne.symm D) Z a1 a0
   .exact s.inj j j' z z' b1 o1 k1 o2 k2 g g' D ho a0 a1
 .intro j z U A;rcases Yb A with⟨rfl,rfl⟩|⟨D,A⟩
  .exact s.glob j x U Q
  .exact s.glob j z U A
theorem Sim.alloc(s:Sim B G ρ H w)(x:Blk)(f:Obj)(k:Nat)(w' : World)(A:w'.heap=w.heap.push f)
  (hx:BR B (upd ρ H.next (w.heap.size,0,k)) x w.heap.size 0 k w'):Sim B G (upd ρ H.next (w.heap.size,0,k)) (H.add x) w':=by
 refine s.add (by grind) ?_ hx;intro a y D Q U hy h;have Z:=(s.at hy h).lt;grind
theorem a7o(w w' : World)(f:Obj)(h:w'.heap=w.heap.push f):w'.heap[w.heap.size]?=some f:=by grind
theorem Ext.alloc(ρ:Rn)(n:Nat)(x:Nat×Nat×Nat)(w w' : World)(f:Obj)(h:w'.heap=w.heap.push f)(A:w'.os=w.os)(D:w'.tape=w.tape)(Q:w'.output=w.output)
  (U:B<=w.heap.size) (Z:w.drawn<=w'.drawn:=by first|exact Wy _|exact W4 _|assumption|omega):Ext B n ρ w (upd ρ n x) w' :=
 ⟨λa ha=>C4 _ _ (by omega),KD.push h,A,D,Q,by grind,λk hk=>by grind⟩
abbrev Yh:=@Ext.alloc
end
section
variable {B G:Nat}{ρ:Rn}{H:Mem}{w:World}{P:Program}
variable {t:TypeId}{b off o k:Nat}{u:Value}{i:TypeInfo}{n:Int}
theorem Fu(b x n:Nat):Addr.add ⟨b,x,none⟩ n=⟨b,x+n,none⟩:=by
 grind[Addr.add]
theorem a0l(v:Value):v.oneCell'=v.oneCell:=by cases v<;>rfl
theorem Qn{c:Array Value}{e:TypeId}{f:Nat×Nat}(h:w.heap[b]?=some (.cells c e f))(A:c[off]?=some u):w.cell? ⟨b,off,none⟩=some u:=by
 grind[World.cell?]
theorem a0m{c:Array Value}{e:TypeId}{f:Nat×Nat}(h:w.heap[b]?=some (.cells c e f))(A:¬(f.1<=off/\off<f.2)):w.frozen? ⟨b,off,none⟩=false:=by
 grind[World.frozen?]
theorem Gj(h:P.info? t=some i)(w:World):(typeInfo t).run P w=.ok i w:=by
 simp[typeInfo,h]
theorem Ca(h:P.info? t=some i)(w:World):(sizeOf t).run P w=.ok i.size w:=by
 simp[sizeOf,Gj h]
theorem Ax{d:TypeDesc}(h:P.underlying t=some d)(w:World):(underlying t).run P w=.ok d w:=run_underlying h w
theorem Et{z:Value}(h:P.info? t=some i)(f:i.zero=some z)(w:World):(zeroValue t).run P w=.ok z w:=by
 simp_all[Gj,zeroValue]
theorem Qo{b:Bool}{n:Nat}(h:Ch P t=some (b,n))(w:World):(isAgg t).run P w=.ok b w/\(sizeOf t).run P w=.ok n w:=by
 unfold Ch at h;split at h
 .rename_i d i f hi;cases h
  (split<;>simp_all[Ca,Ax,isAgg])
 grind
theorem BR.sub{l:List AV}{own:Bool}{z n:Nat}(h:BR B ρ (.cells l own z) b o k w)(Q:off+n<=l.length):
  ∃us:List Value,us.length=n/\VRs ρ ((l.drop off).take n) us/\∀j v,us[j]?=some v->w.cell? ⟨b,o+off+j,none⟩=some v:=by
 obtain⟨c,e,U,Z,f,_⟩:=h;have A:((c.toList.drop (o+off)).take n).length=n:=by
  rw[Xa,e8j];rcases Nat.eq_zero_or_pos n with D|D
  .omega
  .obtain⟨u,hu,_⟩:=f (off+n-1) (l[off+n-1]'(by omega)) (by grind);grind
 refine⟨(c.toList.drop (o+off)).take n,A,Yn ?_ ?_,?_⟩
 .grind
 .grind
 grind[Qn]
theorem Tf{x:Nat}(us:List Value)(h:∀j v,us[j]?=some v->w.cell? ⟨b,x+j,none⟩=some v):(loadCells ⟨b,x,none⟩ us.length).run P w=.ok us.toArray w:=
 run_loadCells_list w ⟨b,x,none⟩ us λj v f=>by grind[Fu]
theorem a7p{x:Blk}{v:AV}(h:Bf (Ch P t) (some x) off=some v)(A:BR B ρ x b o k w):
  ∃r,(Instr.loadAt t (.pointer (some ⟨b,o+off,none⟩))).run P w=.ok r w/\VR ρ v r:=by
 unfold Bf at h;split at h
 .rename_i l own z size hx f;cases hx;obtain⟨D,Q⟩:=Qo f w;rw[Ja] at h;split at h
  .rename_i U;cases h;obtain⟨us,Z,a1,a2⟩:=A.sub U;subst Z;refine⟨.agg us.toArray,?_,⟨_,rfl,by grind⟩⟩;simp_all[Tf,loadVar,Instr.sureAddr,Instr.loadAt]
  grind
 .rename_i l own z size hx f;cases hx;obtain⟨D,Q⟩:=Qo f w;rw[Le] at h;obtain⟨c,e,fz,a0,hc,_⟩:=A;obtain⟨u,hu,hv⟩:=hc _ _ h;refine⟨u,?_,hv⟩;simp[Instr.loadAt,Instr.sureAddr,loadVar,D,Qn a0 hu]
 grind
theorem a7q{p v:AV}(s:Sim B G ρ H w)(hG:G=P.globals.size)(h:load P H t p=some v)(A:VR ρ p u):
  ∃r,(Instr.loadAt t u).run P w=.ok r w/\VR ρ v r:=by
 unfold load at h;split at h
 .rename_i a off;obtain⟨b,o,k,f,rfl⟩:=A
  cases hx:H.get a with
  | none=>grind[Bf]
  | some x=>rw[hx] at h;exact a7p h (s.at hx f)
 .rename_i g off;cases A;split at h
  .rename_i D
   cases hx:H.get g with
   | none=>grind[Bf]
   | some x =>
    rw[hx] at h;have Q:g+1<=P.globals.size:=by grind[Nat.ble_eq,Nat.blt]
    have f:=s.glob g x (by grind) hx;simpa using a7p h (s.at hx f)
  grind
 grind
theorem a0n(b x:Nat)(e:TypeId)(f:Nat×Nat):∀(vs:List Value)(i:Nat)(c:Array Value)(w:World),w.heap[b]?=some (.cells c e f) ->
  (∀j,j<c.size->¬(f.1<=j/\j<f.2))->x+i+vs.length<=c.size->(∀v∈vs,v.oneCell=true) ->
  ∃w' h,(storeCells ⟨b,x,none⟩ vs i).run P w=.ok () w'/\w'.heap[b]?=some (.cells h e f)/\h.size=c.size /\
   (∀j,h[j]?=if x+i<=j/\j<x+i+vs.length then vs[j-(x+i)]? else c[j]?) /\
   (∀A,A≠b->w'.heap[A]?=w.heap[A]?)/\(w'.heap.size=w.heap.size/\w'.drawn=w.drawn)/\w'.os=w.os/\w'.tape=w.tape/\w'.output=w.output
 | [],i,c,w,D,Q,U,Z=>⟨w,c,rfl,D,rfl,λj=>by grind,λ_ _=>rfl,⟨rfl,rfl⟩,rfl,rfl,rfl⟩
 | v::vs,i,c,w,D,Q,U,Z=>by
  simp only[Xi] at U;have a1:x+i<c.size:=by omega
  have a5:w.cell? ⟨b,x+i,none⟩=some c[x+i]:=Qn D (by grind);have a6:w.frozen? ⟨b,x+i,none⟩=false:=a0m D (Q _ a1);have h1:(w.setCell ⟨b,x+i,none⟩ v).heap[b]?=some (.cells (c.setIfInBounds (x+i) v) e f):=by
   grind[World.setCell]
  obtain⟨w',h,hr,a2,a7,a3,a4,hs,h2,h3,h4⟩:=a0n b x e f vs (i+1) (c.setIfInBounds (x+i) v) (w.setCell ⟨b,x+i,none⟩ v) h1 (by grind) (by grind) (λu hu=>Z u (by grind));refine⟨w',h,?_,a2,by grind,?_,?_,?_,h2,h3,h4⟩
  .simp_all[storeCells,Fu,a0l,run_store]
  .intro j;rw[a3 j];grind
  .intro A a0;rw[a4 A a0];simp[World.setCell,Array.getElem?_modify,Ne.symm a0]
  simp_all
theorem a7r{a:Nat}{l new:List AV}{z:Nat}{vs:List Value}(s:Sim B G ρ H w)(h:H.get a=some (.cells l true z))(A:ρ a=some (b,o,k))
  (a6:off+new.length<=l.length) (D:VRs ρ new vs) (ho:∀v∈vs,v.oneCell=true) :
  ∃w',(storeCells ⟨b,o+off,none⟩ vs).run P w=.ok () w'/\Ext B H.next ρ w ρ w'/\Sim B G ρ (H.upd a (.cells (l.take off++new++l.drop (off+new.length)) true z)) w':=by
 have a0:=s.at h A;obtain⟨c,e,Q,U,hc,a1⟩:=a0;obtain⟨hB,hf,hk,hz⟩:=a1 rfl;have a7:=D.length;have a8:o+off+vs.length<=c.size:=by
  rcases Nat.eq_zero_or_pos l.length with h0|h0
  ·
   grind
  .obtain⟨u,hu,_⟩:=hc (l.length-1) (l[l.length-1]'(by omega)) (by grind);grind
 obtain⟨w',c',a2,a3,a9,a4,f,b0,Z,h3,h4⟩:=a0n (P:=P) b (o+off) e Q vs 0 c w U hf (by omega) ho;refine⟨w',a2,⟨λ_ _=>rfl,Yv U rfl (λq hq=>f q hq),Z,h3,h4,by omega,λq hq=>f q (by omega)⟩,?_⟩;refine s.set h A rfl rfl (by omega) (λb' a5 _=>f b' a5) ⟨c',e,Q,a3,?_,λ_=>⟨hB,by grind,by grind,?_⟩⟩
 rotate_left
 .grind
 intro i v hi;rw[a4];by_cases h1:i<off
 .grind
 .by_cases Z:i<off+new.length
  .rw[if_pos (by omega)];rw[e5z,Xm (by grind),e5v (by grind)] at hi;have e1:min off l.length=off:=by omega
   simp only[Xa,e1] at hi;obtain⟨u,hu,b1⟩:=D.get _ hi;grind
  grind
def RS(B G:Nat)(P:Program)(ρ:Rn)(H:Mem)(w:World)(r:R)(m:Sem Next):Prop:=
 match r with
 | .val v H'=>∃ρ' u w',m.run P w=.ok (.value u) w'/\Ext B H.next ρ w ρ' w'/\Sim B G ρ' H' w'/\VR ρ' v u/\H.next<=H'.next
 | .skip H'=>∃ρ' w',m.run P w=.ok .skip w'/\Ext B H.next ρ w ρ' w'/\Sim B G ρ' H' w'/\H.next<=H'.next
 | .enter f args H'=>∃us:Array Value,m.run P w=.ok (.enter f us) w/\VRs ρ args us.toList/\H'=H
 | .dfr fn cap args H'=>∃cs as:Array Value,m.run P w=.ok (.defer { target:=.fn fn cs,args:=as }) w/\VRs ρ cap cs.toList/\VRs ρ args as.toList/\H'=H
 | .panic v H'=>∃u,m.run P w=.halt (.panic u) w/\VR ρ v u/\H'=H
 | .recover=>m.run P w=.ok .recover w
 | .bad=>True
abbrev EvR(ρ:Rn)(ev:Ev)(e:Operand->Value):Prop:=∀x v,ev x=some v->VR ρ v (e x)
theorem RS.quiet{v:AV}{m:Sem Next}(s:Sim B G ρ H w)(h:m.run P w=.ok (.value u) w)(f:VR ρ v u):RS B G P ρ H w (.val v H) m:=
 ⟨ρ,u,w,h,X6 _ _ _ _,s,f,Wy _⟩
abbrev Xz:=@RS.quiet
theorem RS.ofOpt{r:Option AV}{m:Sem Next}(s:Sim B G ρ H w)(h:∀v,r=some v->∃u,m.run P w=.ok (.value u) w/\VR ρ v u):RS B G P ρ H w (ofOpt H r) m:=by
 cases r with
 | none=>trivial
 | some v=>obtain⟨u,f,A⟩:=h v rfl;exact Xz s f A
abbrev Ya:=@RS.ofOpt
theorem Qp{A:Type}:∀{m:Sem A}{a:A},Ap P m=some a->∀w,m.run P w=.ok a w:=by
 intro m
 induction m with
 | pure b=>simp[Ap]
 | program k f=>intro a h w;simp only[Ap] at h;exact f _ h w
 | mark m k f=>assumption
 | choose q k f =>
  simp_all[Ap,Sem.run]
 | _=>grind[Ap]
theorem a0o{v:AV}{x:Value}(h:toLit v=some x)(A:VR ρ v u):u=x:=by
 cases v with
 | lit y=>cases h;exact A
 | agg l =>
  obtain⟨cs,e,r⟩:=A;simp only[toLit] at h;split at h
  .rename_i vs D;cases h;subst e;rw[<- Qm D r]
  grind
 | tup l =>
  obtain⟨cs,e,r⟩:=A;simp only[toLit] at h;split at h
  .rename_i vs D;cases h;subst e;rw[<- Qm D r]
  grind
 | iface t y =>
  obtain⟨u',e,r⟩:=A
  cases y with
  | lit z=>cases h;cases r;exact e
  | _=>cases h
 | func fn f c =>
  obtain⟨Z,c',e,r,q⟩:=A;simp only[toLit] at h;split at h
  .rename_i x1 x2 Q U;cases h;subst e;rw[<- Qm Q r,<- Qm U q]
  grind
 | _=>cases h
theorem Li{ev:Ev}{e:Operand->Value}{o:Oper}{v:AV}(f:∀cs b,o.op≠.select cs b)(he:EvR ρ ev e)(h:A3 P ev o=some v):
  ∃u,(execOp e o).run P w=.ok (.value u) w/\VR ρ v u:=by
 unfold A3 at h;dsimp only at h;split at h
 .rename_i A;split at h
  .rename_i u D;cases h;refine⟨u,?_,rfl⟩;grind[execOp_congr,Qp,a0o]
  grind
 grind
section one
variable {ev:Ev}{e:Operand→Value}{o:Oper} (s:Sim B G ρ H w) (hG:G=P.globals.size) (he:EvR ρ ev e)
include s he
variable {x:Operand}{t:TypeId}
theorem a7s(h:execOp e o=pure (.value (e x))):RS B G P ρ H w (Ed H (ev x)) (execOp e o):=by
 unfold Ed;split
 .simp_all[Xz]
 .trivial
theorem c0f{c a b:Operand}(h:o.op=.pick c a b):RS B G P ρ H w (Gx H (ev c) (ev a) (ev b)) (execOp e o):=by
 unfold Gx;split
 .rename_i f;have:=he _ _ f;simp_all[Ya,VR,asBool,execOp]
 .rename_i f;have:=he _ _ f;simp_all[Ya,VR,asBool,execOp]
 .trivial
omit he in
theorem Th{l:List AV}{cells:Array Value}{elem:TypeId}{m:Sem Next}{v:AV}{u:Value}(z k:Nat)(hk:k*z<=cells.size)(hz:z=0\/l.length<=k*z)(hc:VRs ρ l cells.toList)
  (hrun:m.run P w=.ok (.value u) { w with heap:=w.heap.push (.cells cells elem) }) (hv:VR (upd ρ H.next (w.heap.size,0,k)) v u) :
  RS B G P ρ H w (.val v (H.add (.cells l true z))) m:=by
 refine⟨upd ρ H.next (w.heap.size,0,k),u,_,hrun,Yh ρ _ _ w _ _ rfl rfl rfl rfl s.base,?_,hv,W4 _⟩;refine s.alloc _ _ k _ rfl ⟨cells,elem,(0,0),by simp,?_,λ_=>⟨s.base,by simp,by grind,hz⟩⟩;intro i v hi;obtain⟨u,hu,hv⟩:=hc.get i hi;exact⟨u,by grind,hv.mono (Jb s.none)⟩
theorem c0g(h:o.op=.box t x):RS B G P ρ H w (Ha H (ev x)) (execOp e o):=by
 unfold Ha;split
 .rename_i v f;unfold C9;rw[Xy];refine Th s (cells:=(e x).cells) (elem:=t) 0 0 (by simp) (.inl rfl) (he _ _ f).cells (u:=.pointer (some ⟨w.heap.size,0,none⟩)) ?_ ⟨_,_,_,Da _ _ _,rfl⟩;simp[execOp,h,Instr.box,newVar,newRow]
 .trivial
omit he in
theorem c0h{t:TypeId}(h:o.op=.alloc t):RS B G P ρ H w (I4 P H t) (execOp e o):=by
 unfold I4;split
 .rename_i l f;unfold Br at f;split at f
  .rename_i i hi;split at f
   .rename_i A D;cases f;unfold C9;rw[Xy];refine Th s (cells:=A.cells) (elem:=t) 0 0 (by simp) (.inl rfl) (X9 _) (u:=.pointer (some ⟨w.heap.size,0,none⟩)) ?_ ⟨_,_,_,Da _ _ _,rfl⟩;simp_all[Et,newRow,newVar,Instr.alloc,execOp]
   grind
  grind
 .trivial
include hG in
theorem c0i{t:TypeId}{x:Operand}(h:o.op=.load t x):RS B G P ρ H w (Fs P H t (ev x)) (execOp e o):=by
 unfold Fs;split
 .rename_i p f;refine Ya s λv A=>?_;obtain⟨r,D,Q⟩:=a7q s hG A (he _ _ f);simp_all[execOp]
 .trivial
omit s he in
theorem allOne_VRs:∀{l:List AV}{us:List Value},VRs ρ l us->allOne l=true->∀v∈us,v.oneCell=true
 | [],_,h,_=>by cases h;simp
 | v::l,_,⟨u,A,e,r,q⟩,h=>by
  subst e;simp only[allOne] at h;split at h
  .rename_i f;intro x hx;rcases Xb.1 hx with rfl|hx
   .exact a0k r f
   .exact allOne_VRs q h x hx
  grind
theorem c0j{a:Operand}(h:o.op=.store t a x):RS B G P ρ H w (Ia P H t (ev a) (ev x)) (execOp e o):=by
 unfold Ia;split
 .rename_i p v Q U;split
  .rename_i H' f;unfold store at f;split at f
   .rename_i n off;split at f
    .rename_i l z bl size Z ht;split at f
     .rename_i A;rw[Lh] at f;split at f
      .rename_i a0;rw[X8] at f;cases f;simp only[W0] at A;have a1:len (cellsOf v)=size:=Xd A.1;rw[C3] at a1;obtain⟨b,q,k,hr,hu⟩:=he _ _ Q;have D:=(he _ _ U).cells;obtain⟨w',a2,a3,a4⟩:=a7r (P:=P) s Z hr a0 D (allOne_VRs D A.2);refine⟨ρ,w',?_,a3,a4,Wy _⟩;have a5:(e x).cells.size=size:=by have:=D.length;grind
       simp[execOp,h,Instr.storeAt,Instr.sureAddr,hu,storeVar,(Qo ht _).2,a5,a2]
      grind
     grind
    grind
   grind
  .trivial
 .trivial
theorem M9(f:∀cs b,o.op≠.select cs b):RS B G P ρ H w (ofOpt H (A3 P ev o)) (execOp e o):=
 Ya s λ_ h=>Li f he h
theorem c0k(h:o.op=.nilCheck x):RS B G P ρ H w (I5 P H ev o (ev x)) (execOp e o):=by
 unfold I5;split
 .rename_i a off A;obtain⟨b,q,k,U,D⟩:=he _ _ A;exact Xz s (u:=e x) (by simp_all[execOp]) ⟨b,q,k,U,D⟩
 .rename_i f l r A;obtain⟨Z,c',D,Q,h2⟩:=he _ _ A;exact Xz s (u:=e x) (by simp_all[execOp]) ⟨Z,c',D,Q,h2⟩
 .rename_i t v A;obtain⟨u',D,Q⟩:=he _ _ A;exact Xz s (u:=e x) (by simp_all[execOp]) ⟨u',D,Q⟩
 grind[M9]
theorem c0l(h:o.op=.makeInterface t x):RS B G P ρ H w (J8 P H t (ev x)) (execOp e o):=by
 unfold J8;split
 .trivial
 .rename_i d v D f A;refine Xz s (u:=.iface t (e x)) ?_ ⟨_,rfl,he _ _ A⟩;cases d<;>first|(simp[execOp,h,Instr.makeInterface,Ax f];done)|grind
 .trivial
omit s in
theorem evals_VRs:∀{l:List Operand}{vs:List AV},Be ev l=some vs->VRs ρ vs (l.map e)
 | [],_,h=>by cases h;rfl
 | x::l,vs,h=>by
  simp only[Be] at h;split at h
  .rename_i v f;split at h
   .rename_i ws A;cases h;exact⟨_,_,rfl,he _ _ f,evals_VRs A⟩
   grind
  grind
theorem c0m{fn:Fn}{a c:Array Operand}(h:o.op=.makeFunc fn a c):RS B G P ρ H w (Ib H fn (Be ev a.toList) (Be ev c.toList)) (execOp e o):=by
 unfold Ib;split
 .rename_i x y hx hy;refine Xz s (u:=.func fn (a.map e) (c.map e)) (by simp[execOp,h,Instr.makeFunc]) ⟨_,_,rfl,?_,?_⟩
  .simpa using evals_VRs he hx
  .simpa using evals_VRs he hy
 .trivial
theorem c0n{i:Nat}(h:o.op=.extract x i):RS B G P ρ H w (Ic H (ev x) i) (execOp e o):=by
 unfold Ic;split
 .rename_i l f;obtain⟨cs,A,D⟩:=he _ _ f;refine Ya s λv f=>?_;obtain⟨u,Q,U⟩:=D.get i f;simp_all[Instr.extract,execOp]
 .rename_i vs f;have A:=he _ _ f;simp only[VR] at A;split
  .rename_i v Q;exact Xz s (u:=v) (by simp_all[Instr.extract,execOp]) rfl
  .trivial
 .trivial
omit s in
theorem c0o{x:Operand}(h:o.op=.panic x):RS B G P ρ H w (Qe H (ev x)) (execOp e o):=by
 unfold Qe;split
 .rename_i t v f;obtain⟨u',A,D⟩:=he _ _ f;exact⟨e x,by simp_all[Instr.panic,execOp],⟨u',A,D⟩,rfl⟩
 .rename_i t v f;have A:=he _ _ f;simp only[VR] at A;exact⟨e x,by simp_all[Instr.panic,execOp],by grind,rfl⟩
 .trivial
end one
section one
variable {ev:Ev}{e:Operand→Value}{o:Oper} (s:Sim B G ρ H w) (he:EvR ρ ev e)
variable {t:TypeId}{x:Operand}
theorem Ke{v:AV}{n:Nat}{u:Value}(h:natOf v=some n)(f:VR ρ v u):∃k,u=.int k n:=by
 unfold natOf at h;split at h
 .cases h;cases f;grind
 grind
theorem a7t{r:Option AV}(s:Sim B G ρ H w)(he:EvR ρ ev e)(f:∀cs b,o.op≠.select cs b)(h:∀v,r=some v->∃u,(execOp e o).run P w=.ok (.value u) w/\VR ρ v u):
  RS B G P ρ H w (Gh P H ev o r) (execOp e o):=by
 unfold Gh;split
 .rename_i v;obtain⟨u,A,D⟩:=h v rfl;grind[RS.quiet]
 grind[M9]
include s he
theorem c0p{f:Nat}(h:o.op=.fieldAddr t x f):RS B G P ρ H w (Gy P H ev o t (ev x) f) (execOp e o):=by
 unfold Gy;split
 .rename_i v D;refine a7t s he (by grind) λr A=>?_;unfold fieldAddr at A;split at A
  .rename_i Z a off hd;obtain⟨b,q,k,Q,hu⟩:=he _ _ D;split at A
   .rename_i U hf;split at A
    .rename_i i hi;split at A
     .grind
     .rename_i hz;rw[Dy] at A;cases A;have a0:i.size≠0:=by intro h0;simp_all
      refine⟨.pointer (some ⟨b,q+off+U.offset,none⟩),?_,⟨b,q,k,Q,by grind⟩⟩;simp_all[Fu,Ca,fieldPlace,Instr.sureAddr,Ax,Instr.fieldAt,execOp]
    grind
   grind
  grind
 .trivial
theorem c0q{i:Operand}(h:o.op=.indexAddr t x i):RS B G P ρ H w (Di P H ev o t (ev x) (ev i)) (execOp e o):=by
 unfold Di;split
 .rename_i v k hv hk;refine a7t s he (by grind) λr f=>?_;unfold indexAddr at f;split at f
  .rename_i el a off n c j A D;obtain⟨ki,hi⟩:=Ke D (he _ _ hk);obtain⟨b,q,Q,U,a4,Z⟩:=he _ _ hv;split at f
   .rename_i a0 a1;split at f
    .rename_i a3;rw[Dy] at f;cases f;have a2:j<n:=by simp_all
     refine⟨.pointer (some ⟨b,q+off+j*a0.size,none⟩),?_,⟨b,q,Q,U,by grind⟩⟩;simp[execOp,h,Instr.indexAt,hi,asIntOf,Ax A,Z,a2,Ca a1,Fu]
    grind
   grind
  .rename_i el a off n c j A D;obtain⟨ki,hi⟩:=Ke D (he _ _ hk);obtain⟨b,q,Q,U,a4,Z⟩:=he _ _ hv;split at f
   .rename_i a0 a1;split at f
    .rename_i a3;rw[Dy] at f;cases f;have a2:j<n:=by simp_all
     refine⟨.pointer (some ⟨b,q+off+j*a0.size,none⟩),?_,⟨b,q,Q,U,by grind⟩⟩;simp[execOp,h,Instr.indexAt,hi,asIntOf,Ax A,Z,a2,Ca a1,Fu]
    grind
   grind
  .rename_i n el a off j A D;obtain⟨ki,hi⟩:=Ke D (he _ _ hk);obtain⟨b,q,Q,U,Z⟩:=he _ _ hv;split at f
   .rename_i a0 a1;split at f
    .rename_i a3;rw[Dy] at f;cases f;have a2:j<n:=by simp_all
     refine⟨.pointer (some ⟨b,q+off+j*a0.size,none⟩),?_,⟨b,q,Q,U,by grind⟩⟩;simp[execOp,h,Instr.indexAt,hi,asIntOf,Ax A,Z,Instr.sureAddr,a2,Ca a1,Fu]
    grind
   grind
  grind
 .trivial
omit s he in
theorem a7u{v:AV}{l:List AV}{u:Value}(h:asAggL v=some l)(f:VR ρ v u):∃cs,u=.agg cs/\VRs ρ l cs.toList:=by
 unfold asAggL at h;split at h
 .cases h;cases f;exact⟨_,rfl,X9 _⟩
 .cases h;exact f
 grind
omit s he in
theorem a7v{t:TypeId}{l:List AV}{cs:Array Value}{off:Nat}{v:AV}(h:S5 P t l off=some v)(A:VRs ρ l cs.toList)(w:World):
  ∃u,(part t cs off).run P w=.ok u w/\VR ρ v u:=by
 unfold S5 at h;split at h
 .rename_i size f;obtain⟨D,Q⟩:=Qo f w;split at h
  .cases h;refine⟨.agg (cs.extract off (off+size)),by simp_all[part],⟨_,rfl,?_⟩⟩;simp_all[VRs.drop,VRs.take]
  grind
 .rename_i size f;obtain⟨D,Q⟩:=Qo f w;obtain⟨u,U,Z⟩:=A.get _ h;simp_all[part]
 grind
theorem c0r{f:Nat}(h:o.op=.field t x f):RS B G P ρ H w (J9 P H t (ev x) f) (execOp e o):=by
 unfold J9;split
 .rename_i v D;refine Ya s λr A=>?_;unfold field at A;split at A
  .rename_i Z l hd Q;obtain⟨cs,hu,U⟩:=a7u Q (he _ _ D);split at A
   .rename_i fd hf;obtain⟨u,h1,h2⟩:=a7v A U w;simp_all[asAgg,Ax,Instr.field,execOp]
   grind
  grind
 .trivial
theorem c0s{i:Operand}(h:o.op=.index t x i):RS B G P ρ H w (I6 P H ev o t (ev x) (ev i)) (execOp e o):=by
 unfold I6;split
 .rename_i v k A D;split
  .rename_i r f;unfold index at f;split at f
   .rename_i n el l j hd Q U;obtain⟨ki,hi⟩:=Ke U (he _ _ D);obtain⟨cs,hu,Z⟩:=a7u Q (he _ _ A);split at f
    .rename_i a0 a1;split at f
     .rename_i a2;obtain⟨u,h1,h2⟩:=a7v f Z w;simp_all[Ca,Ax,asIntOf,Instr.index,execOp,Xz]
     grind
    grind
   grind
  .refine Ya s λr f=>?_;obtain⟨u,h1,h2⟩:=Li (P:=P) (w:=w) (by grind) he f;grind
 .trivial
theorem c0t{xt:TypeId}{A:Bool}(h:o.op=.typeAssert x xt t A):RS B G P ρ H w (I7 P H ev o (ev x) t A) (execOp e o):=by
 unfold I7;split
 .rename_i r f;obtain⟨u,D,h2⟩:=Li (P:=P) (w:=w) (by grind) he f;grind[RS.quiet]
 .split
  .rename_i v hv;refine Ya s λr f=>?_;unfold typeAssert at f;split at f
   .rename_i a2 ty y U;obtain⟨u',Q,D⟩:=he _ _ hv;split at f
    .rename_i a3 a4;split at f
     .rename_i hm;cases f;cases A
      ·(simp_all[Gj,Ax,Instr.typeAssert,execOp];grind)
      .exact⟨.tuple #[e x,.bool true],by simp_all[Gj,Ax,Instr.typeAssert,execOp],⟨_,rfl,_,_,rfl,⟨u',Q,D⟩,_,_,rfl,rfl,rfl⟩⟩
     .rename_i m hm;cases A
      .grind
      .simp only[if_true] at f;split at f
       .rename_i j hj;split at f
        .rename_i Z hz;cases f;exact⟨.tuple #[Z,.bool false],by simp_all[Et,Gj,Ax,Instr.typeAssert,execOp],⟨_,rfl,_,_,rfl,rfl,_,_,rfl,rfl,rfl⟩⟩
        grind
       grind
    grind
   .rename_i d ty y a5 U;obtain⟨u',Q,D⟩:=he _ _ hv;have a6:∀ms,d≠.interface ms:=λms hm=>by grind
    split at f
    .rename_i a0;cases f;subst a0;cases A
     .refine⟨u',?_,D⟩;cases d<;>first|(simp[execOp,h,Instr.typeAssert,Ax U,Q];done)|grind
     .refine⟨.tuple #[u',.bool true],?_,⟨_,rfl,_,_,rfl,D,_,_,rfl,rfl,rfl⟩⟩;cases d<;>first|(simp[execOp,h,Instr.typeAssert,Ax U,Q];done)|grind
    .rename_i a0;cases A
     .grind
     .simp only[if_true] at f;have a1:¬(ty=t):=a0;split at f
      .rename_i j hj;split at f
       .rename_i Z hz;cases f;refine⟨.tuple #[Z,.bool false],?_,⟨_,rfl,_,_,rfl,rfl,_,_,rfl,rfl,rfl⟩⟩;cases d<;>first|(simp[execOp,h,Instr.typeAssert,Ax U,Q,a1,Et hj hz];done)|grind
       grind
      grind
   grind
  .trivial
end one
theorem a0p(a b:Int):iEq a b=(a==b):=by
 cases a<;>cases b<;>refine Bool.eq_iff_iff.2 ?_<;>simp[iEq]<;>omega
theorem Qq(a b:Int):iLt a b=decide (a<b):=by
 cases a<;>cases b<;>refine Bool.eq_iff_iff.2 ?_<;>simp only[iLt,Nat.blt,e8f,decide_eq_true_eq]<;>first|omega|grind
theorem a7w(a b:Int):decide (a<=b) = !decide (b<a):=by
 grind
theorem c0u(h:a6q n=true):-9223372036854775808<=n/\n<=9223372036854775807:=by
 cases n with
 | ofNat m=>have:m<=9223372036854775807:=Wz h;grind
 | negSucc m=>have:m<=9223372036854775807:=Wz h;grind
theorem Na(h:-9223372036854775808<=n/\n<=9223372036854775807):IntKind.i64.wrap n=n:=by
 (simp_all[IntKind.signed,IntKind.bits,IntKind.wrap];grind)
theorem c0v{m:Nat}(h:m<=255):IntKind.u8.wrap (Int.ofNat m)=Int.ofNat m:=by
 (simp_all[IntKind.signed,IntKind.bits,IntKind.wrap];grind)
theorem a7x{k:IntKind}{v:AV}(h:M4 k n=some v):v=.lit (.int k (k.wrap n)):=by
 unfold M4 at h;split at h
 .grind[c0u,Na]
 .split at h
  all_goals grind[Nat.le_of_ble_eq_true,c0v]
 grind
theorem Nb(b:Bool):bv b=some (.lit (.bool b)):=by cases b<;>rfl
theorem c0w{k f:IntKind}(h:kEq k f=true):k=f:=by
 (simp_all[kEq];grind)
theorem c0x{f:BinOp}{x y v:AV}{u': Value}(t:TypeId)(h:B4 f x y=some v)(hx:VR ρ x u)(hy:VR ρ y u'):
  ∃r,(binOp f t u u').run P w=.ok r w/\VR ρ v r/\∃k A a b,u=.int k a/\u'=.int A b:=by
 unfold B4 at h;split at h
 .rename_i k a A b;cases hx;cases hy;split at h
  .rename_i hk;have:=c0w hk;subst this;have ar:∀n,M0 n (M4 k)=some v->(binOp f t (.int k a) (.int k b)).run P w=.ok (.int k (k.wrap n)) w ->
     ∃r,(binOp f t (.int k a) (.int k b)).run P w=.ok r w/\VR ρ v r/\∃Q A U Z,Value.int k a=.int Q U/\Value.int k b=.int A Z:=λn hn hr=>by
    rw[a7k] at hn;exact⟨_,hr,(a7x hn) ▸ rfl,_,_,_,_,rfl,rfl⟩
   have D:∀c,bv c=some v->(binOp f t (.int k a) (.int k b)).run P w=.ok (.bool c) w ->
     ∃r,(binOp f t (.int k a) (.int k b)).run P w=.ok r w/\VR ρ v r/\∃Q A U Z,Value.int k a=.int Q U/\Value.int k b=.int A Z:=λc hc hr=>by
    rw[Nb] at hc;cases hc;exact⟨_,hr,rfl,_,_,_,_,rfl,rfl⟩
   cases f
   case add=>simp_all[Op.intArith,binOp]
   case sub=>(simp_all[Op.intArith,binOp];grind)
   case mul=>simp_all[Op.intArith,binOp]
   case eql=>exact D _ h (by simp[binOp,Op.intCmp,a0p])
   case neq=>exact D _ h (by simp[binOp,Op.intCmp,a0p];rfl)
   case lss=>exact D _ h (by simp[binOp,Op.intCmp,Qq])
   case leq=>exact D _ h (by simp[a7w,Qq,Op.intCmp,binOp])
   case gtr=>exact D _ h (by simp[binOp,Op.intCmp,Qq])
   case geq=>exact D _ h (by simp[a7w,Qq,Op.intCmp,binOp])
   all_goals cases h
  grind
 grind
section one
variable {ev:Ev}{e:Operand→Value}{o:Oper} (s:Sim B G ρ H w) (he:EvR ρ ev e)
variable {k:Nat}{x y:Operand}{u:Value}
theorem a7y{f:BinOp}{t:TypeId}{a b:Value}(h:¬(a=.nilIface/\b=.nilIface))(A:∀c d,¬(a=.agg c/\b=.agg d))(w:World):(eqGuard f t x y a b).run P w=.ok () w:=by
  cases f<;>first
    | rfl
    | (simp only[eqGuard,Bool.not_true,e8z,if_false]
       simp_all)
theorem a7z{l:Nat}{d:Option TypeDesc}(h:(Nat.beq k l&&Nat.beq k (descKind d))=true):k=l/\k=descKind d:=by
 (simp_all;grind)
inductive NK:Nat->Bool->Value->Prop
 | p1 (a):NK 1 false (.pointer (some a))
 | n1:NK 1 true (.pointer none)
 | p2 (a n c):NK 2 false (.slice (some a) n c)
 | n2 (n c):NK 2 true (.slice none n c)
 | p3 (r):NK 3 false (.map (some r))
 | n3:NK 3 true (.map none)
 | p4 (f a b):NK 4 false (.func f a b)
 | n4:NK 4 true .nilFunc
 | p5 (t v):NK 5 false (.iface t v)
 | n5:NK 5 true .nilIface
theorem Ti{a:AV}{b:Bool}(h:nilKind a=some (k,b))(f:VR ρ a u):NK k b u:=by
 unfold nilKind at h;split at h<;>cases h
 .obtain⟨_,_,_,_,rfl⟩:=f;exact .p1 _
 .cases f;exact .n1
 .obtain⟨_,_,_,_,_,rfl⟩:=f;exact .p2 _ _ _
 .obtain⟨_,_,_,_,_,rfl⟩:=f;exact .p2 _ _ _
 .obtain⟨_,_,rfl⟩:=f;exact .p2 _ _ _
 .cases f;exact .n2 _ _
 .obtain⟨_,_,_,_,rfl⟩:=f;exact .p3 _
 .cases f;exact .n3
 .obtain⟨_,_,rfl,_⟩:=f;exact .p4 _ _ _
 .cases f;exact .n4
 .obtain⟨_,rfl,_⟩:=f;exact .p5 _ _
 .cases f;exact .n5
theorem c0y{d:Option TypeDesc}(h:k=descKind d)(f:k≠0):∃t,d=some t/\(match k,t with|1,.pointer _=>True|2,.slice _=>True|3,.map _ _=>True|4,.func _ _ _=>True|5,.interface _=>True|_,_=>False):=by
 subst h;unfold descKind at f |-;grind
theorem c0z{t:TypeId}{u': Value}{b:Bool}(n:Nat)(h:k=descKind (P.underlying t))(f:NK k b u)(A:NK k (!b) u')(w:World):
  (Op.equalIn (n+1) t u u').run P w=.ok false w:=by
 have D:k≠0:=by cases f<;>simp
 obtain⟨d,Q,U⟩:=c0y h D;have Z:=Ax Q w;cases f<;>cases A<;>cases d<;>first
  | exact U.elim
  | simp[Op.equalIn,Z]
theorem a8a{t:TypeId}{u': Value}{b:Bool}(A:k=descKind (P.underlying t))(f:NK k b u)(h:NK k (!b) u')(w:World):
  (Op.equal t u u').run P w=.ok false w/\¬(u=.nilIface/\u'=.nilIface)/\(∀c d,¬(u=.agg c/\u'=.agg d)) /\
   (binOp .eql t u u'=do pure (.bool (<- Op.equal t u u')))/\(binOp .neq t u u'=do pure (.bool (!(<- Op.equal t u u')))):=by
 have he:(Op.equal t u u').run P w=.ok false w:=c0z 9999 A f h w;refine⟨he,?_⟩;clear he;cases f<;>cases h<;>exact⟨by simp,by simp,rfl,rfl⟩
include s he
theorem c1a{U:BinOp}{t ty:TypeId}(h:o.op=.binOp U t x y ty):RS B G P ρ H w (Oh P H U t (ev x) (ev y)) (execOp e o):=by
 unfold Oh;split
 .rename_i a b Z hb;have key:Wt (P.underlying t) a b=true->(Op.equal t (e x) (e y)).run P w=.ok false w/\¬(e x=.nilIface/\e y=.nilIface)/\(∀c d,¬(e x=.agg c/\e y=.agg d)) /\
   (binOp .eql t (e x) (e y)=do pure (.bool (<- Op.equal t (e x) (e y))))/\(binOp .neq t (e x) (e y)=do pure (.bool (!(<- Op.equal t (e x) (e y))))):=by
   intro f;unfold Wt at f;split at f
   .rename_i k l A D;obtain⟨rfl,Q⟩:=a7z f;exact a8a Q (Ti A (he _ _ Z)) (Ti D (he _ _ hb)) w
   .rename_i k l A D;obtain⟨rfl,Q⟩:=a7z f;exact a8a Q (Ti A (he _ _ Z)) (Ti D (he _ _ hb)) w
   grind
  split
  .rename_i f;obtain⟨A,D,h3,h4,h5⟩:=key f;exact Xz s (u:=.bool false) (by simp_all[a7y,execOp]) rfl
  .rename_i f;obtain⟨A,D,h3,h4,h5⟩:=key f;exact Xz s (u:=.bool true) (by simp_all[a7y,execOp]) rfl
  .trivial
 .trivial
theorem c1b{A:BinOp}{t ty:TypeId}(h:o.op=.binOp A t x y ty):RS B G P ρ H w (Bc P H ev o A t (ev x) (ev y)) (execOp e o):=by
 unfold Bc;split
 .rename_i v f;unfold Qb at f;split at f
  .rename_i a b Q U;obtain⟨r,D,Z,k,k',n,m,hu,a0⟩:=c0x (P:=P) (w:=w) t f (he _ _ Q) (he _ _ U);simp_all[Xz,eqGuard,execOp]
  grind
 .split
  .rename_i r D;obtain⟨u,h1,h2⟩:=Li (P:=P) (w:=w) (by grind) he D;grind[RS.quiet]
  .exact c1a s he h
end one
end
end Go.Ai
