/- A small verified interpreter over names, its proofs, and what was proved with it. No condition. -/
import GoSem.Dispatch
import Derived.Calls
import Derived.Below
import Derived.Wp
import Derived.Laws.Sem
import Derived.Laws.Cells
import Derived.Laws.Entries
import Derived.Orders
set_option linter.all false
set_option linter.deprecated false
section
namespace Go.Ai
abbrev g2y:=@Array.getElem?_eq_some_iff
abbrev Dp:=@Nat.le_refl
abbrev Ec:=@Nat.le_trans
abbrev Dy:=@Nat.le_succ
abbrev Et:=@Nat.lt_of_lt_of_le
abbrev g3a:=@Nat.lt_or_ge
abbrev g3t:=@Nat.le_succ_of_le
abbrev Dw:=@List.length_take
abbrev g5h:=@List.length_drop
abbrev g4t:=@Nat.ble_eq
abbrev Ek:=@List.length_cons
abbrev Er:=@List.append_assoc
abbrev Eu:=@List.getElem?_append_right
abbrev Ew:=@List.getElem?_append_left
abbrev Dz:=@List.mem_cons
abbrev Ds:=@Bool.and_eq_true
abbrev Eh:=@Nat.eq_of_beq_eq_true
abbrev g3u:=@Nat.add_assoc
abbrev Dq:=@Nat.le_of_ble_eq_true
abbrev g4i:=@Nat.add_comm
abbrev g5i:=@Bool.eq_iff_iff
abbrev g3f:=@Bool.true_and
abbrev g2j:=@Bool.false_and
abbrev g5j:=@Bool.false_eq_true
abbrev Du:=@Nat.zero_le
abbrev g5k:=@List.foldl_cons
abbrev g4u:=@Array.getElem?_toList
abbrev g4v:=@List.getElem?_take
abbrev Dr:=@List.length_append
abbrev g5l:=@List.getElem?_drop
abbrev g4j:=@Nat.succ_mul
abbrev Es:=@Nat.mod_lt
abbrev g2s:=@List.getElem?_map
abbrev g3g:=@Nat.mul_le_mul
abbrev g3v:=@Bool.or_false
abbrev g2t:=@Int.toNat_natCast
abbrev g5m:=@List.map_map
abbrev g5n:=@Nat.le_add_right
abbrev g2u:=@Nat.add_mul
abbrev g2n:=@Nat.zero_add
abbrev g5o:=@Nat.mul_le_mul_right
abbrev Ea:=@List.getElem?_eq_some_iff
abbrev El:=@Nat.mul_one
abbrev g2v:=@List.map_cons
abbrev g4w:=@Bool.not_eq_true'
abbrev g3w:=@Bool.or_eq_true
abbrev Dx:=@List.getD_eq_getElem?_getD
abbrev g2k:=@List.getElem?_eq_none
abbrev Em:=@List.length_singleton
abbrev g2o:=@Nat.sub_self
abbrev g5p:=@Nat.beq_refl
abbrev g4k:=@List.nil_append
abbrev g4x:=@List.cons_append
abbrev g2p:=@List.mem_cons_of_mem
abbrev g4y:=@Nat.lt_succ_self
abbrev g3y:=@Nat.lt_succ_of_lt
abbrev Eb:=@List.all_eq_true
abbrev Eg:=@List.mem_append
abbrev g2l:=@List.mem_of_getElem?
abbrev g2i:=@List.length_eq_zero_iff
abbrev g3n:=@List.length_pos_iff
abbrev g4z:=@List.flatten_cons
abbrev g3h:=@List.drop_length
abbrev g3z:=@List.drop_drop
abbrev g3b:=@List.take_append_drop
abbrev Ez:=@List.mem_iff_getElem
abbrev Dv:=@List.getElem?_eq_getElem
abbrev Ei:=@List.mem_map
abbrev g2q:=@Option.map_eq_some_iff
abbrev g5q:=@Option.bind_eq_some_iff
abbrev g5r:=@List.getElem?_range
abbrev g3o:=@List.mem_of_mem_take
abbrev g5s:=@List.mem_flatMap
abbrev g4l:=@List.mem_range
abbrev g4a:=@Bool.true_or
abbrev g2x:=@Nat.ble_eq_true_of_le
abbrev g4m:=@List.flatMap_cons
abbrev g3p:=@List.drop_zero
abbrev g5t:=@List.all_cons
abbrev g4n:=@Bool.false_or
abbrev Eo:=@List.take_of_length_le
abbrev g4o:=@Bool.and_true
abbrev g5u:=@List.flatMap_append
abbrev Ee:=@List.length_map
abbrev g3c:=@List.take_append_of_le_length
abbrev Fa:=@Nat.min_eq_left
abbrev Dt:=@List.getElem_mem
abbrev g4b:=@Bool.or_eq_true_iff
abbrev g3d:=@List.drop_eq_nil_iff
abbrev Ef:=@List.drop_eq_getElem_cons
abbrev Ed:=@List.length_set
abbrev g2w:=@List.getElem?_replicate
abbrev g4c:=@List.length_replicate
abbrev g4p:=@List.set_append_right
abbrev g5a:=@List.replicate_succ
abbrev g5v:=@List.set_cons_zero
abbrev g4d:=@Bool.or_true
abbrev Ej:=@List.append_nil
abbrev En:=@List.mem_singleton
abbrev g3q:=@List.take_succ_cons
abbrev g5b:=@List.mem_cons_self
abbrev g5w:=@Nat.mul_comm
abbrev g3e:=@List.take_succ
abbrev g5c:=@List.all_eq_false
abbrev Ep:=@List.take_length
abbrev Fb:=@Nat.le_of_lt
abbrev g5x:=@Bool.and_eq_false_iff
abbrev g3i:=@Bool.and_false
abbrev Ex:=@List.drop_eq_nil_of_le
abbrev g3j:=@Int.ofNat_tmod
abbrev g5y:=@List.range_succ
abbrev g2r:=@List.map_append
abbrev g4q:=@List.map_singleton
abbrev g2m:=@List.getElem_map
abbrev Ey:=@List.getElem_append_left
abbrev g4e:=@List.take_zero
abbrev g4f:=@List.mem_or_eq_of_mem_set
abbrev g2z:=@List.getElem?_set_ne
abbrev g3x:=@List.getElem?_set_self
abbrev g5z:=@List.getElem_set_self
abbrev g4g:=@List.getElem_set_ne
abbrev g3k:=@List.getElem_take
abbrev g6a:=@List.idxOf_append
abbrev g3r:=@List.map_congr_left
abbrev g4r:=@List.ext_getElem?
abbrev g4s:=@List.dropLast_concat_getLast
abbrev g5d:=@List.length_nil
abbrev g6b:=@Nat.lt_trichotomy
abbrev g6c:=@List.foldl_append
abbrev g3l:=@List.getElem_append_right
abbrev g6d:=@List.nodup_cons
abbrev g3s:=@List.length_pos_of_mem
abbrev g5e:=@Int.lt_trichotomy
abbrev g5f:=@List.eq_nil_of_length_eq_zero
abbrev g5g:=@List.all_append
abbrev g4h:=@List.length_reverse
abbrev g3m:=@List.getElem_of_mem
abbrev g6e:=@List.reverse_append
end Go.Ai
end
section
namespace Go.Ai
inductive AV where
 | lit (v:Value)
 | ptr (a off:Nat)
 | sl (a off len cap:Nat)
 | slq (a off len d:Nat)
 | es
 | map (a:Nat)
 | func (fn:Fn) (first cap:List AV)
 | iface (t:TypeId) (v:AV)
 | agg (l:List AV)
 | tup (l:List AV)
 deriving Inhabited
inductive Dg where
 | d0|d1|d2|d3|d4|d5|d6|d7|d8|d9|d10|d11|d12|d13|d14|d15
structure N (α:Type) where
 mk :: (c0 c1 c2 c3 c4 c5 c6 c7 c8 c9 c10 c11 c12 c13 c14 c15:α)
inductive Lf (α:Type) where
 | e
 | v (k:Nat) (x:α)
def gN0 {α:Type} (x:N α) : α:=x.c0
def gN1 {α:Type} (x:N α) : α:=x.c1
def gN2 {α:Type} (x:N α) : α:=x.c2
def gN3 {α:Type} (x:N α) : α:=x.c3
def gN4 {α:Type} (x:N α) : α:=x.c4
def gN5 {α:Type} (x:N α) : α:=x.c5
def gN6 {α:Type} (x:N α) : α:=x.c6
def gN7 {α:Type} (x:N α) : α:=x.c7
def gN8 {α:Type} (x:N α) : α:=x.c8
def gN9 {α:Type} (x:N α) : α:=x.c9
def gN10 {α:Type} (x:N α) : α:=x.c10
def gN11 {α:Type} (x:N α) : α:=x.c11
def gN12 {α:Type} (x:N α) : α:=x.c12
def gN13 {α:Type} (x:N α) : α:=x.c13
def gN14 {α:Type} (x:N α) : α:=x.c14
def gN15 {α:Type} (x:N α) : α:=x.c15
def sN0 {α β:Type} (c0 c1 c2 c3 c4 c5 c6 c7 c8 c9 c10 c11 c12 c13 c14 c15 v:α) (K:N α->β) : β:=K (.mk v c1 c2 c3 c4 c5 c6 c7 c8 c9 c10 c11 c12 c13 c14 c15)
def sN1 {α β:Type} (c0 c1 c2 c3 c4 c5 c6 c7 c8 c9 c10 c11 c12 c13 c14 c15 v:α) (K:N α->β) : β:=K (.mk c0 v c2 c3 c4 c5 c6 c7 c8 c9 c10 c11 c12 c13 c14 c15)
def sN2 {α β:Type} (c0 c1 c2 c3 c4 c5 c6 c7 c8 c9 c10 c11 c12 c13 c14 c15 v:α) (K:N α->β) : β:=K (.mk c0 c1 v c3 c4 c5 c6 c7 c8 c9 c10 c11 c12 c13 c14 c15)
def sN3 {α β:Type} (c0 c1 c2 c3 c4 c5 c6 c7 c8 c9 c10 c11 c12 c13 c14 c15 v:α) (K:N α->β) : β:=K (.mk c0 c1 c2 v c4 c5 c6 c7 c8 c9 c10 c11 c12 c13 c14 c15)
def sN4 {α β:Type} (c0 c1 c2 c3 c4 c5 c6 c7 c8 c9 c10 c11 c12 c13 c14 c15 v:α) (K:N α->β) : β:=K (.mk c0 c1 c2 c3 v c5 c6 c7 c8 c9 c10 c11 c12 c13 c14 c15)
def sN5 {α β:Type} (c0 c1 c2 c3 c4 c5 c6 c7 c8 c9 c10 c11 c12 c13 c14 c15 v:α) (K:N α->β) : β:=K (.mk c0 c1 c2 c3 c4 v c6 c7 c8 c9 c10 c11 c12 c13 c14 c15)
def sN6 {α β:Type} (c0 c1 c2 c3 c4 c5 c6 c7 c8 c9 c10 c11 c12 c13 c14 c15 v:α) (K:N α->β) : β:=K (.mk c0 c1 c2 c3 c4 c5 v c7 c8 c9 c10 c11 c12 c13 c14 c15)
def sN7 {α β:Type} (c0 c1 c2 c3 c4 c5 c6 c7 c8 c9 c10 c11 c12 c13 c14 c15 v:α) (K:N α->β) : β:=K (.mk c0 c1 c2 c3 c4 c5 c6 v c8 c9 c10 c11 c12 c13 c14 c15)
def sN8 {α β:Type} (c0 c1 c2 c3 c4 c5 c6 c7 c8 c9 c10 c11 c12 c13 c14 c15 v:α) (K:N α->β) : β:=K (.mk c0 c1 c2 c3 c4 c5 c6 c7 v c9 c10 c11 c12 c13 c14 c15)
def sN9 {α β:Type} (c0 c1 c2 c3 c4 c5 c6 c7 c8 c9 c10 c11 c12 c13 c14 c15 v:α) (K:N α->β) : β:=K (.mk c0 c1 c2 c3 c4 c5 c6 c7 c8 v c10 c11 c12 c13 c14 c15)
def sN10 {α β:Type} (c0 c1 c2 c3 c4 c5 c6 c7 c8 c9 c10 c11 c12 c13 c14 c15 v:α) (K:N α->β) : β:=K (.mk c0 c1 c2 c3 c4 c5 c6 c7 c8 c9 v c11 c12 c13 c14 c15)
def sN11 {α β:Type} (c0 c1 c2 c3 c4 c5 c6 c7 c8 c9 c10 c11 c12 c13 c14 c15 v:α) (K:N α->β) : β:=K (.mk c0 c1 c2 c3 c4 c5 c6 c7 c8 c9 c10 v c12 c13 c14 c15)
def sN12 {α β:Type} (c0 c1 c2 c3 c4 c5 c6 c7 c8 c9 c10 c11 c12 c13 c14 c15 v:α) (K:N α->β) : β:=K (.mk c0 c1 c2 c3 c4 c5 c6 c7 c8 c9 c10 c11 v c13 c14 c15)
def sN13 {α β:Type} (c0 c1 c2 c3 c4 c5 c6 c7 c8 c9 c10 c11 c12 c13 c14 c15 v:α) (K:N α->β) : β:=K (.mk c0 c1 c2 c3 c4 c5 c6 c7 c8 c9 c10 c11 c12 v c14 c15)
def sN14 {α β:Type} (c0 c1 c2 c3 c4 c5 c6 c7 c8 c9 c10 c11 c12 c13 c14 c15 v:α) (K:N α->β) : β:=K (.mk c0 c1 c2 c3 c4 c5 c6 c7 c8 c9 c10 c11 c12 c13 v c15)
def sN15 {α β:Type} (c0 c1 c2 c3 c4 c5 c6 c7 c8 c9 c10 c11 c12 c13 c14 c15 v:α) (K:N α->β) : β:=K (.mk c0 c1 c2 c3 c4 c5 c6 c7 c8 c9 c10 c11 c12 c13 c14 v)
noncomputable def gN {α:Type} : Dg->N α->α:=Dg.rec (motive:=fun _=>N α->α) gN0 gN1 gN2 gN3 gN4 gN5 gN6 gN7 gN8 gN9 gN10 gN11 gN12 gN13 gN14 gN15
noncomputable def sF {α β:Type} : Dg->(α->α->α->α->α->α->α->α->α->α->α->α->α->α->α->α->α->(N α->β)->β) :=
 Dg.rec (motive:=fun _=>α->α->α->α->α->α->α->α->α->α->α->α->α->α->α->α->α->(N α->β)->β) sN0 sN1 sN2 sN3 sN4 sN5 sN6 sN7 sN8 sN9 sN10 sN11 sN12 sN13 sN14 sN15
noncomputable def sN {α β:Type} (d:Dg) (x:N α) (v:α) (K:N α->β) : β:=N.rec (motive:=fun _=>α->(N α->β)->β) (sF d) x v K
def nN {α:Type} (x:α) : N α:=.mk x x x x x x x x x x x x x x x x
def dig (n:Nat) : Dg:=match n with
 | 0=>.d0
 | 1=>.d1
 | 2=>.d2
 | 3=>.d3
 | 4=>.d4
 | 5=>.d5
 | 6=>.d6
 | 7=>.d7
 | 8=>.d8
 | 9=>.d9
 | 10=>.d10
 | 11=>.d11
 | 12=>.d12
 | 13=>.d13
 | 14=>.d14
 | _=>.d15
def d0 (k:Nat) : Dg:=dig (Nat.mod k 16)
def d1 (k:Nat) : Dg:=dig (Nat.mod (Nat.div k 16) 16)
def d2 (k:Nat) : Dg:=dig (Nat.mod (Nat.div k 256) 16)
def d3 (k:Nat) : Dg:=dig (Nat.mod (Nat.div k 4096) 16)
noncomputable def b0v {α:Type} (k:Nat) (x:Lf α) : Option α :=
 Lf.rec (motive:=fun _=>Option α) none (fun j x=>Bool.rec (motive:=fun _=>Option α) none (some x) (Nat.beq j k)) x
abbrev T2 (α:Type):=N (N (Lf α))
abbrev T3 (α:Type):=N (T2 α)
abbrev T4 (α:Type):=N (T3 α)
def e2 {α:Type} : T2 α:=nN (nN .e)
def e3 {α:Type} : T3 α:=nN e2
def e4 {α:Type} : T4 α:=nN e3
noncomputable def Cp {α:Type} (t:T2 α) (k:Nat) : Option α:=b0v k (gN (d1 k) (gN (d0 k) t))
noncomputable def a5a {α:Type} (t:T3 α) (k:Nat) : Option α:=b0v k (gN (d2 k) (gN (d1 k) (gN (d0 k) t)))
noncomputable def a1u {α:Type} (t:T4 α) (k:Nat) : Option α:=b0v k (gN (d3 k) (gN (d2 k) (gN (d1 k) (gN (d0 k) t))))
noncomputable def b7e {α β:Type} (t:T2 α) (k:Nat) (x:Lf α) (K:T2 α->β) : β :=
 sN (d1 k) (gN (d0 k) t) x fun a=>sN (d0 k) t a K
noncomputable def c1c {α β:Type} (t:T3 α) (k:Nat) (x:Lf α) (K:T3 α->β) : β :=
 sN (d2 k) (gN (d1 k) (gN (d0 k) t)) x fun a=>sN (d1 k) (gN (d0 k) t) a fun a=>sN (d0 k) t a K
noncomputable def b4k {α β:Type} (t:T4 α) (k:Nat) (x:Lf α) (K:T4 α->β) : β :=
 sN (d3 k) (gN (d2 k) (gN (d1 k) (gN (d0 k) t))) x fun a=>sN (d2 k) (gN (d1 k) (gN (d0 k) t)) a fun a=>sN (d1 k) (gN (d0 k) t) a fun a=>sN (d0 k) t a K
inductive Blk where
 | cells (l:List AV) (own:Bool) (z:Nat)
 | map (es:List (AV×AV×Nat)) (clock:Nat)
 | siter (s:ByteArray) (pos:Nat)
 | typ (T:TypeId) (l:List AV) (ex:Bool)
inductive Ct where
 | tr (t:T4 Blk)
 | fn (g:Nat->Option Blk)
structure Mem where
 t:Ct
 next:Nat
def Aj (g:Nat->Option Blk) (a:Nat) (x:Option Blk) : Nat->Option Blk:=fun j=>if j=a then x else g j
noncomputable def a2b {β:Type} (n:Nat) (K:Nat->β) : β:=Nat.rec (K 0) (fun m _=>K (Nat.succ m)) n
noncomputable def b0w {β:Type} (n:Int) (K:Int->β) : β:=Int.rec (fun m=>a2b m fun m=>K (.ofNat m)) (fun m=>a2b m fun m=>K (.negSucc m)) n
noncomputable def d8y (t:Ct) (a:Nat) : Option Blk:=Ct.rec (motive:=fun _=>Nat->Option Blk) a1u (fun g a=>g a) t a
noncomputable def Mem.get (H:Mem) (a:Nat) : Option Blk:=Mem.rec (motive:=fun _=>Nat->Option Blk) (fun t _ a=>d8y t a) H a
noncomputable def c1d {β:Type} (t:T4 Blk) (a:Nat) (b:Blk) (K:Ct->β) : β:=b4k t a (.v a b) fun t=>K (.tr t)
noncomputable def c1e {β:Type} (g:Nat->Option Blk) (a:Nat) (b:Blk) (K:Ct->β) : β:=K (.fn (Aj g a (some b)))
noncomputable def c7p {β:Type} (t:T4 Blk) (a:Nat) (K:Ct->β) : β:=b4k t a .e fun t=>K (.tr t)
noncomputable def c7q {β:Type} (g:Nat->Option Blk) (a:Nat) (K:Ct->β) : β:=K (.fn (Aj g a none))
noncomputable def b7f {β:Type} (t:Ct) (a:Nat) (b:Blk) (K:Ct->β) : β:=Ct.rec (motive:=fun _=>Nat->Blk->(Ct->β)->β) c1d c1e t a b K
noncomputable def c7r {β:Type} (t:Ct) (a:Nat) (K:Ct->β) : β:=Ct.rec (motive:=fun _=>Nat->(Ct->β)->β) c7p c7q t a K
noncomputable def c7s {β:Type} (t:Ct) (n:Nat) (b:Blk) (K:Mem->β) : β:=b7f t n b fun t=>a2b (Nat.succ n) fun n=>K ⟨t,n⟩
noncomputable def c7t {β:Type} (t:Ct) (n a:Nat) (b:Blk) (K:Mem->β) : β:=b7f t a b fun t=>K ⟨t,n⟩
noncomputable def c7u {β:Type} (t:Ct) (n a:Nat) (K:Mem->β) : β:=c7r t a fun t=>K ⟨t,n⟩
noncomputable def Mem.newK {β:Type} (H:Mem) (b:Blk) (K:Mem->β) : β:=Mem.rec (motive:=fun _=>Blk->(Mem->β)->β) c7s H b K
noncomputable def Mem.setK {β:Type} (H:Mem) (a:Nat) (b:Blk) (K:Mem->β) : β:=Mem.rec (motive:=fun _=>Nat->Blk->(Mem->β)->β) c7t H a b K
noncomputable def Mem.delK {β:Type} (H:Mem) (a:Nat) (K:Mem->β) : β:=Mem.rec (motive:=fun _=>Nat->(Mem->β)->β) c7u H a K
def Ao {α:Type} (P:Program) : Sem α->Option α
 | .pure a=>some a
 | .program k=>Ao P (k P)
 | .mark _ k=>Ao P k
 | .choose q k=>if q.forced then Ao P (k 0) else none
 | _=>none
def cellsOf:AV->List AV
 | .lit (.agg cs)=>cs.toList.map .lit
 | .agg l=>l
 | v=>[v]
def asAggL:AV->Option (List AV)
 | .lit (.agg cs)=>some (cs.toList.map .lit)
 | .agg l=>some l
 | _=>none
def litAll:List AV->Option (List Value)
 | []=>some []
 | .lit v :: l=>match litAll l with|some vs=>some (v :: vs)|none=>none
 | _ :: _=>none
def Cc (P:Program) (t:TypeId) : Option (Bool×Nat) :=
 match P.underlying t,P.info? t with
 | some d,some i=>some (match d with|.struct _|.array _ _=>true|_=>false,i.size)
 | _,_=>none
noncomputable def nth {α:Type} (l:List α) (i:Nat) : Option α :=
 List.rec (motive:=fun _=>Nat->Option α) (fun _=>none) (fun x _ ih i=>Nat.rec (motive:=fun _=>Option α) (some x) (fun j _=>ih j) i) l i
noncomputable def c1f {α β:Type} (z:β) (n:Nat) (l:List α) (K:List α->β) : β :=
 Nat.rec (motive:=fun _=>List α->(List α->β)->β) (fun _ K=>K [])
  (fun _ ih l K=>List.rec (motive:=fun _=>β) z (fun x l _=>ih l fun r=>K (x :: r)) l) n l K
noncomputable def c1g {α β:Type} (z:β) (n:Nat) (l:List α) (K:List α->β) : β :=
 Nat.rec (motive:=fun _=>List α->(List α->β)->β) (fun l K=>K l)
  (fun _ ih l K=>List.rec (motive:=fun _=>β) z (fun _ l _=>ih l K) l) n l K
noncomputable def a8v {α β:Type} (l:List α) (n off:Nat) (z:β) (K:List α->β) : β:=c1g z off l fun l=>c1f z n l K
noncomputable def b7g {α β:Type} (a b:List α) (K:List α->β) : β :=
 List.rec (motive:=fun _=>(List α->β)->β) (fun K=>K b) (fun x _ ih K=>ih fun r=>K (x :: r)) a K
noncomputable def b7h {α β:Type} (z:β) (new l:List α) (K:List α->β) : β :=
 List.rec (motive:=fun _=>List α->(List α->β)->β) (fun l K=>K l)
  (fun x _ ih l K=>List.rec (motive:=fun _=>β) z (fun _ l _=>ih l fun r=>K (x :: r)) l) new l K
noncomputable def a8w {α β:Type} (z:β) (l:List α) (off:Nat) (new:List α) (K:List α->β) : β :=
 Nat.rec (motive:=fun _=>List α->(List α->β)->β) (fun l K=>b7h z new l K)
  (fun _ ih l K=>List.rec (motive:=fun _=>β) z (fun x l _=>ih l fun r=>K (x :: r)) l) off l K
noncomputable def len {α:Type} (l:List α) : Nat:=List.rec (motive:=fun _=>Nat->Nat) (fun n=>n) (fun _ _ ih n=>a2b (Nat.succ n) ih) l 0
end Go.Ai
end
section
namespace Go.Ai
def toLit:AV->Option Value
 | .lit v=>some v
 | .agg l=>match litAll l with|some vs=>some (.agg vs.toArray)|none=>none
 | .tup l=>match litAll l with|some vs=>some (.tuple vs.toArray)|none=>none
 | .iface t (.lit v)=>some (.iface t v)
 | .func f a b=>match litAll a,litAll b with|some x,some y=>some (.func f x.toArray y.toArray)|_,_=>none
 | _=>none
inductive R where
 | val (v:AV) (H:Mem)
 | skip (H:Mem)
 | enter (f:FuncId) (args:List AV) (H:Mem)
 | dfr (fn:Fn) (cap args:List AV) (H:Mem)
 | recover
 | panic (v:AV) (H:Mem)
 | bad
noncomputable def ofOpt (H:Mem) : Option AV->R
 | some v=>.val v H
 | none=>.bad
def oneC:AV->Bool
 | .lit (.agg _)=>false
 | .lit (.tuple _)=>false
 | .agg _=>false
 | .tup _=>false
 | _=>true
def allOne:List AV->Bool
 | []=>true
 | v :: l=>match oneC v with|true=>allOne l|false=>false
abbrev Ev:=Operand->Option AV
noncomputable def Bw (ev:Ev) : List Operand->Option (List AV)
 | []=>some []
 | x :: l=>match ev x with
  | some v=>match Bw ev l with|some vs=>some (v :: vs)|none=>none
  | none=>none
noncomputable def Ba (P:Program) (ev:Ev) (o:Oper) : Option AV :=
 let ρ:Operand->Value:=fun x=>match ev x with|some v=>(match toLit v with|some u=>u|none=>undef)|none=>undef
 if o.op.operands.toList.all fun x=>match ev x with|some v=>(match toLit v with|some _=>true|none=>false)|none=>false then
  match Ao P (execOp ρ o) with
  | some (.value v)=>some (.lit v)
  | _=>none
 else none
noncomputable def a7h (place:Nat->Option (Nat×Nat)) (cells:List AV) : List (Nat×AV)->Option (List AV)
 | []=>some cells
 | (i,v) :: rest=>match place i with
  | some (off,size)=>match Nat.beq (len (cellsOf v)) size with
   | true=>a8w none cells off (cellsOf v) fun cells=>a7h place cells rest
   | false=>none
  | none=>none
noncomputable def a0a (P:Program) (t:TypeId) : Option (List AV) :=
 match P.info? t with
 | some i=>match i.zero with
  | some z=>some (z.cells.toList.map .lit)
  | none=>none
 | none=>none
noncomputable def rep (l:List AV) : Nat->List AV
 | 0=>[]
 | n+1=>l++rep l n
noncomputable def a0k (H:Mem) (l:List AV) (own:Bool) (v:AV) : R:=H.newK (.cells l own 0) fun H=>.val v H
noncomputable def Cy (ev:Ev) : List (Nat×Operand)->Option (List (Nat×AV))
 | []=>some []
 | (i,x) :: l=>match ev x with
  | some v=>match Cy ev l with|some vs=>some ((i,v) :: vs)|none=>none
  | none=>none
noncomputable def c7v (P:Program) (fs:List Field) : Option (List (Nat×Nat)):=fs.mapM fun f=>(P.info? f.type).map fun i=>(f.offset,i.size)
noncomputable def b0x (l:Option (List AV)) : Option AV:=match l with|some l=>some (.agg l)|none=>none
noncomputable def build (P:Program) (t:TypeId) (parts:List (Nat×AV)) : Option AV :=
 match a0a P t,P.underlying t with
 | some zero,some (.struct fields)=>match c7v P fields.toList with
  | some pl=>b0x (a7h (nth pl) zero parts)
  | none=>none
 | some zero,some (.array _ elem)=>match P.info? elem with
  | some j=>b0x (a7h (fun i=>some (i*j.size,j.size)) zero parts)
  | none=>none
 | _,_=>none
noncomputable def Bd (k:Option (Bool×Nat)) (b:Option Blk) (off:Nat) : Option AV :=
 match b,k with
 | some (.cells l _ _),some (true,size)=>a8v l size off none fun l=>some (.agg l)
 | some (.cells l _ _),some (false,_)=>nth l off
 | _,_=>none
noncomputable def load (P:Program) (H:Mem) (t:TypeId) (p:AV) : Option AV :=
 match p with
 | .ptr a off=>Bd (Cc P t) (H.get a) off
 | .lit (.pointer (some ⟨g,off,none⟩))=>match Nat.blt g P.globals.size with
  | true=>Bd (Cc P t) (H.get g) off
  | false=>none
 | _=>none
noncomputable def store (P:Program) (H:Mem) (t:TypeId) (p v:AV) : Option Mem :=
 match p with
 | .ptr a off=>match H.get a,Cc P t with
  | some (.cells l true z),some (_,size)=>match Nat.beq (len (cellsOf v)) size && allOne (cellsOf v) with
   | true=>a8w none l off (cellsOf v) fun l=>H.setK a (.cells l true z) some
   | false=>none
  | _,_=>none
 | _=>none
noncomputable def a5b (P:Program) (t:TypeId) : Option (TypeId×Nat×Nat) :=
 match P.underlying t with
 | some (.slice e)=>match P.info? e with
  | some i=>match i.zero with
   | some z=>match Nat.beq z.cells.size i.size with|true=>some (e,i.size,i.bytes)|false=>none
   | none=>none
  | none=>none
 | _=>none
noncomputable def natOf:AV->Option Nat
 | .lit (.int _ (.ofNat n))=>some n
 | _=>none
noncomputable def a5y (v:Option AV) (d:Nat) : Option Nat :=
 match v with
 | some v=>natOf v
 | none=>some d
noncomputable def b2t (hi mx:Option AV) : Bool:=match mx,hi with|some _,none=>false|_,_=>true
noncomputable def a0f (lo hi mx:Option AV) (n c:Nat) : Option (Nat×Nat×Nat) :=
 match a5y lo 0,a5y hi n,a5y mx c,b2t hi mx with
 | some l,some h,some m,true=>match Nat.ble l h && Nat.ble h m && Nat.ble m c with|true=>some (l,h,m)|false=>none
 | _,_,_,_=>none
noncomputable def a5z (size a off:Nat) (q:Option (Nat×Nat×Nat)) : Option AV :=
 match q with
 | some (l,h,m)=>match Nat.beq m l with
  | true=>some (.sl a off 0 0)
  | false=>a2b (off+l*size) fun x=>a2b (h-l) fun y=>a2b (m-l) fun z=>some (.sl a x y z)
 | none=>none
noncomputable def b7i (size a off n d:Nat) (q:Option (Nat×Nat×Nat)) : Option AV :=
 match q with
 | some (l,h,_)=>match Nat.blt l n with
  | true=>a2b (off+l*size) fun x=>a2b (h-l) fun y=>a2b (d+l) fun z=>some (.slq a x y z)
  | false=>some .es
 | none=>none
noncomputable def a6a (size:Nat) (lo hi mx:Option AV) : AV->Option AV
 | .sl a off n c=>a5z size a off (a0f lo hi mx n c)
 | .slq a off n d=>match mx with
  | none=>b7i size a off n d (a0f lo hi none n n)
  | some m=>a5z size a off (a0f lo hi (some m) n n)
 | .es=>match a0f lo hi mx 0 0 with|some _=>some .es|none=>none
 | _=>none
noncomputable def b7j (P:Program) (t:TypeId) (x:AV) (lo hi mx:Option AV) : Option AV :=
 match P.underlying t with
 | some (.slice e)=>match P.info? e with
  | some i=>a6a i.size lo hi mx x
  | none=>none
 | some (.pointer arr)=>match P.underlying arr,x with
  | some (.array n e),.ptr a off=>match P.info? e with
   | some i=>a5z i.size a off (a0f lo hi mx n n)
   | none=>none
  | _,_=>none
 | some (.array n e)=>match P.info? e,x with
  | some i,.ptr a off=>a5z i.size a off (a0f lo hi mx n n)
  | _,_=>none
 | _=>none
noncomputable def fieldAddr (P:Program) (s:TypeId) (x:AV) (f:Nat) : Option AV :=
 match P.underlying s,x with
 | some (.struct fields),.ptr a off=>match fields[f]? with
  | some fd=>match P.info? fd.type with
   | some i=>match Nat.beq i.size 0 with|true=>none|false=>a2b (off+fd.offset) fun q=>some (.ptr a q)
   | none=>none
  | none=>none
 | _,_=>none
noncomputable def b7k (P:Program) (t:TypeId) (cs:List AV) (off:Nat) : Option AV :=
 match Cc P t with
 | some (true,size)=>match Nat.ble (off+size) cs.length with|true=>some (.agg ((cs.drop off).take size))|false=>none
 | some (false,_)=>cs[off]?
 | none=>none
noncomputable def field (P:Program) (t:TypeId) (x:AV) (f:Nat) : Option AV :=
 match P.underlying t,asAggL x with
 | some (.struct fields),some cs=>match fields[f]? with
  | some fd=>b7k P fd.type cs fd.offset
  | none=>none
 | _,_=>none
noncomputable def indexAddr (P:Program) (t:TypeId) (x i:AV) : Option AV :=
 match P.underlying t,x,natOf i with
 | some (.slice e),.sl a off len _,some k=>match P.info? e with|some j=>(match Nat.blt k len with|true=>a2b (off+k*j.size) fun q=>some (.ptr a q)|false=>none)|none=>none
 | some (.slice e),.slq a off len _,some k=>match P.info? e with|some j=>(match Nat.blt k len with|true=>a2b (off+k*j.size) fun q=>some (.ptr a q)|false=>none)|none=>none
 | some (.array n e),.ptr a off,some k=>match P.info? e with|some j=>(match Nat.blt k n with|true=>a2b (off+k*j.size) fun q=>some (.ptr a q)|false=>none)|none=>none
 | _,_,_=>none
noncomputable def index (P:Program) (t:TypeId) (x i:AV) : Option AV :=
 match P.underlying t,asAggL x,natOf i with
 | some (.array n e),some cs,some k=>match P.info? e with|some j=>if k<n then b7k P e cs (k*j.size) else none|none=>none
 | _,_,_=>none
noncomputable def nilKind:AV->Option (Nat×Bool)
 | .ptr _ _=>some (1,false)
 | .lit (.pointer none)=>some (1,true)
 | .sl _ _ _ _=>some (2,false)
 | .slq _ _ _ _=>some (2,false)
 | .es=>some (2,false)
 | .lit (.slice none _ _)=>some (2,true)
 | .map _=>some (3,false)
 | .lit (.map none)=>some (3,true)
 | .func _ _ _=>some (4,false)
 | .lit .nilFunc=>some (4,true)
 | .iface _ _=>some (5,false)
 | .lit .nilIface=>some (5,true)
 | _=>none
noncomputable def descKind:Option TypeDesc->Nat
 | some (.pointer _)=>1
 | some (.slice _)=>2
 | some (.map _ _)=>3
 | some (.func _ _ _)=>4
 | some (.interface _)=>5
 | _=>0
noncomputable def c1h (d:Option TypeDesc) (a b:AV) : Bool :=
 match nilKind a,nilKind b with
 | some (k,true),some (l,false)=>Nat.beq k l && Nat.beq k (descKind d)
 | some (k,false),some (l,true)=>Nat.beq k l && Nat.beq k (descKind d)
 | _,_=>false
noncomputable def lenOf:AV->Option Nat
 | .sl _ _ n _|.slq _ _ n _=>some n
 | .es=>some 0
 | .lit (.slice none n _)=>some n
 | .lit (.string s)=>some s.size
 | _=>none
noncomputable def Cz (H:Mem) (size n:Nat) : AV->Option (List AV)
 | .sl a off _ _|.slq a off _ _=>match H.get a with|some (.cells l _ _)=>a8v l (n*size) off none some|_=>none
 | .es=>if n=0 then some [] else none
 | .lit (.slice none _ _)=>some []
 | .lit (.string s)=>some ((s.extract 0 n).data.toList.map fun b=>.lit (.int .u8 b.toNat))
 | _=>none
noncomputable def small (need cap bytes:Nat) : Bool:=decide (need<=1048576) && decide (cap<=1048576) && decide (bytes<=1048576)
noncomputable def a5c (H:Mem) (l:List AV) (n size:Nat) : Option (AV×Mem):=H.newK (.cells l true size) fun H'=>some (.slq H.next 0 n 0,H')
noncomputable def b4l (H:Mem) (a:Nat) (l:List AV) (z off:Nat) (new:List AV) (v:AV) : Option (AV×Mem) :=
 match allOne new with
 | true=>a8w none l off new fun l=>H.setK a (.cells l true z) fun H=>some (v,H)
 | false=>none
noncomputable def c1i (H:Mem) (size bytes n:Nat) (new:List AV) : Option (AV×Mem):=match small n 0 bytes with|true=>a5c H new n size|false=>none
noncomputable def b4m (H:Mem) (size bytes n:Nat) (new:List AV) (a off k cap:Nat) : Option (AV×Mem) :=
 match Nat.ble (k+n) cap with
 | true=>match H.get a with
  | some (.cells l true z)=>b4l H a l z (off+k*size) new (.sl a off (k+n) cap)
  | _=>none
 | false=>match H.get a,small (k+n) cap bytes with
  | some (.cells l _ _),true=>a8v l (k*size) off none fun old=>b7g old new fun l=>a5c H l (k+n) size
  | _,_=>none
noncomputable def c1j (H:Mem) (size bytes n:Nat) (new:List AV) (a off k d:Nat) : Option (AV×Mem) :=
 match H.get a with
 | some (.cells l true z)=>match Nat.beq z size && Nat.beq off (d*size),Nat.ble (off+(k+n)*size) (len l),Nat.beq (off+k*size) (len l) && small (k+n) 0 bytes && allOne new with
  | true,true,_=>b4l H a l z (off+k*size) new (.slq a off (k+n) d)
  | true,false,true=>a8v l (k*size) off none fun old=>b7g old new fun l=>H.delK a fun H=>a5c H l (k+n) size
  | _,_,_=>none
 | _=>none
noncomputable def a2l (H:Mem) (size bytes n:Nat) (s:AV) (new:List AV) : Option (AV×Mem) :=
 match Nat.beq (len new) (n*size) with
 | true=>match s with
  | .lit (.slice none 0 0)=>c1i H size bytes n new
  | .sl a off k cap=>b4m H size bytes n new a off k cap
  | .slq a off k d=>c1j H size bytes n new a off k d
  | _=>none
 | false=>none
noncomputable def isSlice:AV->Bool
 | .sl _ _ _ _|.slq _ _ _ _|.lit (.slice none 0 0)=>true
 | _=>false
noncomputable def a2c (H:Mem) (size bytes:Nat) (s x:AV) : Option (AV×Mem) :=
 match lenOf x with
 | some 0=>match isSlice s with|true=>some (s,H)|false=>none
 | some n=>match Nat.beq size 0,Cz H size n x with
  | false,some new=>a2l H size bytes n s new
  | _,_=>none
 | none=>none
noncomputable def c1k (P:Program) (xType:Option TypeId) : Bool :=
 match xType with
 | some t=>match P.underlying t with|some (.slice _)|some .string=>true|_=>false
 | none=>false
noncomputable def c7w (P:Program) (xType:Option TypeId) : Bool :=
 match xType with
 | some t=>match P.underlying t with|some (.int _)=>true|_=>false
 | none=>false
noncomputable def c7x (P:Program) (H:Mem) (e:TypeId) (size bytes:Nat) (s x:AV) : Option (AV×Mem) :=
 match natOf x with
 | some 0=>match isSlice s with|true=>some (s,H)|false=>none
 | some n=>match Nat.beq size 0,Nat.ble n 1048576 && Nat.ble bytes 1048576,a0a P e with
  | false,true,some z=>a2l H size bytes n s (rep z n)
  | _,_,_=>none
 | none=>none
noncomputable def append (P:Program) (H:Mem) (sType:TypeId) (xType:Option TypeId) (s x:AV) : Option (AV×Mem) :=
 match a5b P sType,c1k P xType with
 | some (_,size,bytes),true=>a2c H size bytes s x
 | some (e,size,bytes),false=>match c7w P xType with|true=>c7x P H e size bytes s x|false=>none
 | _,_=>none
noncomputable def c7y (H:Mem) (d:AV) (m:Nat) (l:List AV) : Option (AV×Mem) :=
 match d with
 | .sl a off _ _|.slq a off _ _=>match H.get a with
  | some (.cells c true z)=>b4l H a c z off l (.lit (goInt m))
  | _=>none
 | _=>none
noncomputable def copy (P:Program) (H:Mem) (dType:TypeId) (d s:AV) : Option (AV×Mem) :=
 match a5b P dType,lenOf s,lenOf d with
 | some (_,size,_),some n,some k =>
  match Nat.min n k with
  | 0=>match isSlice d with|true=>some (.lit (goInt 0),H)|false=>none
  | m=>match Nat.beq size 0,Cz H size m s with
   | false,some l=>c7y H d m l
   | _,_=>none
 | _,_,_=>none
noncomputable def bytesOf:List AV->Option (List UInt8)
 | []=>some []
 | .lit (.int .u8 n) :: l=>match bytesOf l with|some r=>some (UInt8.ofNat n.toNat :: r)|none=>none
 | _ :: _=>none
noncomputable def convert (P:Program) (H:Mem) (src dst:TypeId) (x:AV) : Option (AV×Mem) :=
 match P.underlying src,P.underlying dst,x with
 | some .string,some (.slice e),.lit (.string s)=>match P.underlying e with
  | some (.int .u8)=>if s.size<=1048576 then a5c H (s.data.toList.map fun b=>.lit (.int .u8 b.toNat)) s.size 1 else none
  | _=>none
 | some (.slice _),some .string,.lit (.string _)=>none
 | some (.slice e),some .string,x=>match P.underlying e with
  | some (.int .u8)=>match lenOf x with
   | some n=>match Cz H 1 n x with
    | some l=>match bytesOf l with|some b=>some (.lit (.string ⟨b.toArray⟩),H)|none=>none
    | none=>none
   | none=>none
  | _=>none
 | _,_,_=>none
noncomputable def b0y (P:Program) (keyType:TypeId) (k:Value) (es:List (AV×AV×Nat)) : Option (Option Nat) :=
 match litAll (es.map (·.1)) with
 | some ks=>match Ao P (Instr.findKey keyType k (ks.map fun q=>⟨q,undef,0⟩)) with
  | some (some (i,_))=>some (some i)
  | some none=>some none
  | none=>none
 | none=>none
noncomputable def c7z (ok:Bool) (v:AV) (b:Bool) : AV:=match ok with|true=>.tup [v,.lit (.bool b)]|false=>v
noncomputable def b4n (P:Program) (t:TypeId) : Option Value :=
 match P.info? t with
 | some i=>i.zero
 | none=>none
noncomputable def b7l (P:Program) (elem:TypeId) (es:List (AV×AV×Nat)) (ok:Bool) (i:Option Nat) : Option AV :=
 match i with
 | some i=>match nth es i with
  | some (_,v,_)=>some (c7z ok v true)
  | none=>none
 | none=>match b4n P elem with
  | some z=>some (c7z ok (.lit z) false)
  | none=>none
noncomputable def lookup (P:Program) (H:Mem) (t:TypeId) (m k:AV) (ok:Bool) : Option AV :=
 match P.underlying t,m,toLit k with
 | some (.map key elem),.map a,some k=>match H.get a with
  | some (.map es _)=>match Ao P (Instr.checkKey es.isEmpty 10000 key k),b0y P key k es with
   | some _,some i=>b7l P elem es ok i
   | _,_=>none
  | _=>none
 | _,_,_=>none
noncomputable def b7m (x:AV×AV) : List (AV×AV×Nat)->Nat->List (AV×AV×Nat)
 | [],_=>[]
 | (_,_,b) :: r,0=>(x.1,x.2,b) :: r
 | e :: r,i+1=>e :: b7m x r i
noncomputable def c1l (es:List (AV×AV×Nat)) (clock:Nat) (k:Value) (v:AV) (i:Option Nat) : Option Blk :=
 match i with
 | some i=>match nth es i with
  | some (.lit old,_,_)=>match Instr.sameBits 10000 old k with
   | true=>some (.map (b7m (.lit k,v) es i) clock)
   | false=>none
  | _=>none
 | none=>some (.map (es++[(.lit k,v,clock)]) (clock+1))
noncomputable def mapUpdate (P:Program) (H:Mem) (t:TypeId) (m k v:AV) : Option Mem :=
 match P.underlying t,m,toLit k with
 | some (.map key _),.map a,some k=>match H.get a with
  | some (.map es clock)=>match Ao P (Instr.checkKey false 10000 key k),b0y P key k es with
   | some _,some i=>match c1l es clock k v i with
    | some b=>H.setK a b some
    | none=>none
   | _,_=>none
  | _=>none
 | _,_,_=>none
noncomputable def typeAssert (P:Program) (x:AV) (asserted:TypeId) (ok:Bool) : Option AV :=
 match P.underlying asserted,x with
 | some (.interface want),.iface t _=>match P.info? t with
  | some i=>match Instr.missingMethod want i.methods with
   | none=>some (if ok then .tup [x,.lit (.bool true)] else x)
   | some _=>if ok then (match P.info? asserted with|some j=>(match j.zero with|some z=>some (.tup [.lit z,.lit (.bool false)])|none=>none)|none=>none) else none
  | none=>none
 | some _,.iface t v =>
  if t=asserted then some (if ok then .tup [v,.lit (.bool true)] else v)
  else if ok then (match P.info? asserted with|some j=>(match j.zero with|some z=>some (.tup [.lit z,.lit (.bool false)])|none=>none)|none=>none) else none
 | _,_=>none
noncomputable def Ap (P:Program) (f:FuncId) : Bool :=
 match P.funcs[f]? with
 | some fn=>fn.body.isSome && !(fn.name == "runtime.NumGoroutine")
 | none=>false
noncomputable def ifaceOf:AV->Option (TypeId×AV)
 | .iface t v=>some (t,v)
 | .lit (.iface t v)=>some (t,.lit v)
 | _=>none
noncomputable def b4o (d:Option TypeDesc) : Option Bool:=match d with
 | some (.pointer _)=>some true
 | some _=>some false
 | none=>none
noncomputable def c8a (d:Option Bool) (m:Method) : Option FuncId :=
 match m.path.isEmpty,m.func with
 | true,some (f,pr)=>match d,pr with
  | some true,true=>some f
  | some false,false=>some f
  | _,_=>none
 | _,_=>none
noncomputable def c1m (P:Program) (t:TypeId) (name:String) : Option FuncId :=
 match P.info? t with
 | some i=>match i.methods.find? (·.name == name) with
  | some m=>c8a (b4o (P.underlying t)) m
  | none=>none
 | none=>none
noncomputable def a6b (P:Program) (H:Mem) (f:FuncId) (args:List AV) : R:=if Ap P f then .enter f args H else .bad
noncomputable def b7n (P:Program) (H:Mem) (c:Call) (args:List AV) : R :=
 match args,c.argTypes[0]? with
 | [s,x],some st=>match append P H st c.argTypes[1]? s x with|some (v,H)=>.val v H|none=>.bad
 | _,_=>.bad
noncomputable def c1n (P:Program) (H:Mem) (c:Call) (args:List AV) : R :=
 match args,c.argTypes[0]? with
 | [d,s],some dt=>match copy P H dt d s with|some (v,H)=>.val v H|none=>.bad
 | _,_=>.bad
noncomputable def a5d (P:Program) (H:Mem) (c:Call) (args:List AV) : R :=
 match args,(c.argTypes[0]?).bind P.underlying with
 | [.sl _ _ n _],some (.slice _)=>.val (.lit (goInt n)) H
 | [.slq _ _ n _],some (.slice _)=>.val (.lit (goInt n)) H
 | [.es],some (.slice _)=>.val (.lit (goInt 0)) H
 | [.map a],some (.map _ _)=>match H.get a with|some (.map es _)=>.val (.lit (goInt es.length)) H|_=>.bad
 | [.lit (.string s)],some .string=>.val (.lit (goInt s.size)) H
 | _,_=>.bad
noncomputable def a7i (P:Program) (H:Mem) (ev:Ev) (o:Oper) (c:Call) (args:List AV) : R :=
 match a5d P H c args with
 | .bad=>ofOpt H (Ba P ev o)
 | r=>r
noncomputable def a8x (P:Program) (H:Mem) (ev:Ev) (o:Oper) (c:Call) (args:List AV) : R :=
 match Ba P ev o with
 | some v=>.val v H
 | none=>match args,(c.argTypes[0]?).bind P.underlying with
  | [.sl _ _ _ n],some (.slice _)=>.val (.lit (goInt n)) H
  | _,_=>.bad
noncomputable def a3f (P:Program) (H:Mem) (ev:Ev) (o:Oper) (c:Call) (args:List AV) (b:Builtin) : R :=
 match b with
 | .append=>b7n P H c args
 | .copy=>c1n P H c args
 | .len=>a7i P H ev o c args
 | .cap=>a8x P H ev o c args
 | .recover=>.recover
 | _=>ofOpt H (Ba P ev o)
noncomputable def b7o (P:Program) (H:Mem) (ev:Ev) (args:List AV) (recv:Operand) (name:String) : R :=
 match ev recv with
 | some r=>match ifaceOf r with
  | some (t,v)=>match c1m P t name with
   | some f=>a6b P H f (v :: args)
   | none=>.bad
  | none=>.bad
 | none=>.bad
noncomputable def a8y (P:Program) (H:Mem) (args:List AV) (f:Option AV) : R :=
 match f with
 | some (.lit (.func (.func f) first cap))=>a6b P H f (first.toList.map .lit++args++cap.toList.map .lit)
 | some (.func (.func f) first cap)=>a6b P H f (first++args++cap)
 | _=>.bad
noncomputable def Cd (P:Program) (H:Mem) (ev:Ev) (o:Oper) (c:Call) : R :=
 match Bw ev c.args.toList with
 | none=>.bad
 | some args=>match c.callee with
  | .builtin b=>a3f P H ev o c args b
  | .invoke recv name=>b7o P H ev args recv name
  | .value f=>a8y P H args (ev f)
noncomputable def b2u (H:Mem) (ev:Ev) (c:Call) : R :=
 match Bw ev c.args.toList,c.callee with
 | some args,.value f=>match ev f with
  | some (.func fn first cap)=>.dfr fn cap (first++args) H
  | some (.lit (.func fn first cap))=>.dfr fn (cap.toList.map .lit) (first.toList.map .lit++args) H
  | _=>.bad
 | _,_=>.bad
noncomputable def c8b (n:Int) : Bool:=match n with|.ofNat m=>Nat.ble m 9223372036854775807|.negSucc m=>Nat.ble m 9223372036854775807
noncomputable def b0z (k:IntKind) (n:Int) : Option AV:=match k with
 | .i64=>match c8b n with|true=>some (.lit (.int .i64 n))|false=>none
 | .u8=>match n with|.ofNat m=>(match Nat.ble m 255 with|true=>some (.lit (.int .u8 (.ofNat m)))|false=>none)|_=>none
 | _=>none
noncomputable def iEq:Int->Int->Bool
 | .ofNat a,.ofNat b=>Nat.beq a b
 | .negSucc a,.negSucc b=>Nat.beq a b
 | _,_=>false
noncomputable def iLt:Int->Int->Bool
 | .ofNat a,.ofNat b=>Nat.blt a b
 | .negSucc _,.ofNat _=>true
 | .ofNat _,.negSucc _=>false
 | .negSucc a,.negSucc b=>Nat.blt b a
noncomputable def kEq:IntKind->IntKind->Bool
 | .i64,.i64=>true
 | .u8,.u8=>true
 | _,_=>false
noncomputable def bv (b:Bool) : Option AV:=match b with|true=>some (.lit (.bool true))|false=>some (.lit (.bool false))
noncomputable def Cl (op:BinOp) (x y:AV) : Option AV :=
 match x,y with
 | .lit (.int k a),.lit (.int k' b)=>match kEq k k' with
  | true=>match op with
   | .add=>b0w (Int.add a b) (b0z k)
   | .sub=>b0w (Int.sub a b) (b0z k)
   | .mul=>b0w (Int.mul a b) (b0z k)
   | .eql=>bv (iEq a b)
   | .neq=>bv (!iEq a b)
   | .lss=>bv (iLt a b)
   | .leq=>bv (!iLt b a)
   | .gtr=>bv (iLt b a)
   | .geq=>bv (!iLt a b)
   | _=>none
  | false=>none
 | _,_=>none
noncomputable def c1o (a:Option AV) (b:Unit->Option AV) : Option AV:=match a with|some v=>some v|none=>b ()
noncomputable def a3u (H:Mem) (c a b:Option AV) : R :=
 match c with
 | some (.lit (.bool true))=>ofOpt H a
 | some (.lit (.bool false))=>ofOpt H b
 | _=>.bad
noncomputable def a6c (P:Program) (H:Mem) (t:TypeId) : R :=
 match a0a P t with|some l=>a0k H l true (.ptr H.next 0)|none=>.bad
noncomputable def a4f (H:Mem) (x:Option AV) : R :=
 match x with|some v=>a0k H (cellsOf v) true (.ptr H.next 0)|none=>.bad
noncomputable def a4g (P:Program) (H:Mem) (t:TypeId) (ps:Option (List (Nat×AV))) : R :=
 match ps with
 | some ps=>ofOpt H (build P t ps)
 | none=>.bad
noncomputable def a1k (P:Program) (e:TypeId) (n:Nat) : Option (List AV):=match Nat.beq n 0 with|true=>some []|false=>a0a P e
noncomputable def a2m (P:Program) (H:Mem) (t:TypeId) (len:Nat) (ps:Option (List (Nat×AV))) : R :=
 match a5b P t,ps with
 | some (e,size,_),some ps =>
  match Nat.ble (len*size) 1048576,a1k P e (len*size) with
  | true,some z=>match a7h (fun i=>some (i*size,size)) (rep z len) ps with
   | some l=>a0k H l true (.sl H.next 0 len len)
   | none=>.bad
  | _,_=>.bad
 | _,_=>.bad
noncomputable def a2n (P:Program) (H:Mem) (t:TypeId) (a:Option AV) : R :=
 match a with|some p=>ofOpt H (load P H t p)|none=>.bad
noncomputable def a5e (P:Program) (H:Mem) (t:TypeId) (a x:Option AV) : R :=
 match a,x with
 | some p,some v=>match store P H t p v with|some H=>.skip H|none=>.bad
 | _,_=>.bad
noncomputable def a6d (P:Program) (H:Mem) (ev:Ev) (o:Oper) (x:Option AV) : R :=
 match x with
 | some (.ptr a off)=>.val (.ptr a off) H
 | some (.func (.func f) x y)=>.val (.func (.func f) x y) H
 | some (.iface t v)=>.val (.iface t v) H
 | _=>ofOpt H (Ba P ev o)
noncomputable def b2v (P:Program) (H:Mem) (op:BinOp) (t:TypeId) (x y:Option AV) : R :=
 match x,y with
 | some a,some b=>match op,c1h (P.underlying t) a b with
  | .eql,true=>.val (.lit (.bool false)) H
  | .neq,true=>.val (.lit (.bool true)) H
  | _,_=>.bad
 | _,_=>.bad
noncomputable def b4p (op:BinOp) (x y:Option AV) : Option AV :=
 match x,y with
 | some a,some b=>Cl op a b
 | _,_=>none
noncomputable def Bq (P:Program) (H:Mem) (ev:Ev) (o:Oper) (op:BinOp) (t:TypeId) (x y:Option AV) : R :=
 match b4p op x y with
 | some v=>.val v H
 | none=>match Ba P ev o with
  | some v=>.val v H
  | none=>b2v P H op t x y
noncomputable def a1l (P:Program) (H:Mem) (ev:Ev) (o:Oper) (src dst:TypeId) (x:Option AV) : R :=
 match Ba P ev o with
 | some v=>.val v H
 | none=>match x with
  | some v=>match convert P H src dst v with|some (v,H)=>.val v H|none=>.bad
  | none=>.bad
noncomputable def a7j (P:Program) (H:Mem) (t:TypeId) (x:Option AV) : R :=
 match P.underlying t,x with
 | some (.interface _),_=>.bad
 | some _,some v=>.val (.iface t v) H
 | _,_=>.bad
noncomputable def a5f (H:Mem) (fn:Fn) (a b:Option (List AV)) : R :=
 match a,b with
 | some a,some b=>.val (.func fn a b) H
 | _,_=>.bad
noncomputable def a4h (P:Program) (H:Mem) (ev:Ev) (t:TypeId) (r:Option Operand) : R :=
 match r with
 | none=>H.newK (.map [] 0) (fun H2=>.val (.map H.next) H2)
 | some x=>match P.underlying t,ev x with
  | some (.map _ _),some (.lit (.int _ _))=>H.newK (.map [] 0) (fun H2=>.val (.map H.next) H2)
  | _,_=>.bad
noncomputable def a1v (P:Program) (H:Mem) (t:TypeId) (l c:Option AV) : R :=
 match a5b P t,l.bind natOf,c.bind natOf with
 | some (e,size,bytes),some l,some c =>
  match Nat.ble l c && Nat.ble c 1048576 && Nat.ble bytes 1048576,a1k P e (c*size) with
  | true,some z=>a0k H (rep z c) true (.sl H.next 0 l c)
  | _,_=>.bad
 | _,_,_=>.bad
noncomputable def a1w (ev:Ev) (y:Option Operand) : Option (Option AV) :=
 match y with|none=>some none|some y=>match ev y with|some v=>some (some v)|none=>none
noncomputable def a3g (P:Program) (H:Mem) (ev:Ev) (t:TypeId) (x:Option AV) (lo hi mx:Option Operand) : R :=
 match x with
 | some v=>match a1w ev lo,a1w ev hi,a1w ev mx with
  | some lo,some hi,some mx=>ofOpt H (b7j P t v lo hi mx)
  | _,_,_=>.bad
 | none=>.bad
noncomputable def a0b (P:Program) (H:Mem) (ev:Ev) (o:Oper) (t:TypeId) (x:Option AV) (lo hi mx:Option Operand) : R :=
 match Ba P ev o with
 | some v=>.val v H
 | none=>a3g P H ev t x lo hi mx
noncomputable def a3h (P:Program) (H:Mem) (ev:Ev) (o:Oper) (r:Option AV) : R :=
 match r with
 | some v=>.val v H
 | none=>ofOpt H (Ba P ev o)
noncomputable def a3v (P:Program) (H:Mem) (ev:Ev) (o:Oper) (s:TypeId) (x:Option AV) (f:Nat) : R :=
 match x with|some v=>a3h P H ev o (fieldAddr P s v f)|none=>.bad
noncomputable def a7k (P:Program) (H:Mem) (t:TypeId) (x:Option AV) (f:Nat) : R :=
 match x with|some v=>ofOpt H (field P t v f)|none=>.bad
noncomputable def a0q (P:Program) (H:Mem) (ev:Ev) (o:Oper) (t:TypeId) (x i:Option AV) : R :=
 match x,i with|some v,some k=>a3h P H ev o (indexAddr P t v k)|_,_=>.bad
noncomputable def a6e (P:Program) (H:Mem) (ev:Ev) (o:Oper) (t:TypeId) (x i:Option AV) : R :=
 match x,i with
 | some v,some k=>match index P t v k with
  | some v=>.val v H
  | none=>ofOpt H (Ba P ev o)
 | _,_=>.bad
noncomputable def a4i (P:Program) (H:Mem) (ev:Ev) (o:Oper) (t:TypeId) (m k:Option AV) (ok:Bool) : R :=
 match m,k with
 | some m,some k=>ofOpt H (c1o (Ba P ev o) fun _=>lookup P H t m k ok)
 | _,_=>.bad
noncomputable def a5g (P:Program) (H:Mem) (t:TypeId) (m k x:Option AV) : R :=
 match m,k,x with
 | some m,some k,some v=>match mapUpdate P H t m k v with|some H=>.skip H|none=>.bad
 | _,_,_=>.bad
noncomputable def b4q (P:Program) (H:Mem) (t:TypeId) (x:Option AV) : R :=
 match P.underlying t,x with
 | some .string,some (.lit (.string s))=>H.newK (.siter s 0) (fun H2=>.val (.ptr H.next 0) H2)
 | _,_=>.bad
noncomputable def c8c (H:Mem) (a:Nat) (s:ByteArray) (pos:Nat) (q:Nat×Nat) : R :=
 H.setK a (.siter s (pos+q.2)) (fun H=>.val (.tup [.lit (.bool true),.lit (goInt pos),.lit (.int .i32 q.1)]) H)
noncomputable def b4r (H:Mem) (it:Option AV) : R :=
 match it with
 | some (.ptr a 0)=>match H.get a with
  | some (.siter s pos) =>
   match Nat.blt pos s.size with
   | true=>c8c H a s pos (Utf8.decode s pos)
   | false=>.val (.tup [.lit (.bool false)]) H
  | _=>.bad
 | _=>.bad
noncomputable def a6f (P:Program) (H:Mem) (ev:Ev) (o:Oper) (x:Option AV) (asserted:TypeId) (ok:Bool) : R :=
 match Ba P ev o with
 | some v=>.val v H
 | none=>match x with|some v=>ofOpt H (typeAssert P v asserted ok)|none=>.bad
noncomputable def a5h (H:Mem) (t:Option AV) (i:Nat) : R :=
 match t with
 | some (.tup l)=>ofOpt H l[i]?
 | some (.lit (.tuple vs))=>match vs[i]? with|some v=>.val (.lit v) H|none=>.bad
 | _=>.bad
noncomputable def b4s (H:Mem) (x:Option AV) : R :=
 match x with
 | some (.iface t v)=>.panic (.iface t v) H
 | some (.lit (.iface t v))=>.panic (.lit (.iface t v)) H
 | _=>.bad
noncomputable def a1m (H:Mem) (x:Option AV) : R :=
 match x with|some v=>.val v H|none=>.bad
abbrev Hd:=Program->Mem->Ev->Oper->R
noncomputable def c8d (x:Operand) : Hd:=fun _ H ev _=>a1m H (ev x)
noncomputable def d8z (c a b:Operand) : Hd:=fun _ H ev _=>a3u H (ev c) (ev a) (ev b)
noncomputable def d9a (t:TypeId) : Hd:=fun P H _ _=>a6c P H t
noncomputable def hBox (_:TypeId) (x:Operand) : Hd:=fun _ H ev _=>a4f H (ev x)
noncomputable def d9b (t:TypeId) (parts:Array (Nat×Operand)) : Hd:=fun P H ev _=>a4g P H t (Cy ev parts.toList)
noncomputable def d9c (t:TypeId) (len:Nat) (parts:Array (Nat×Operand)) : Hd:=fun P H ev _=>a2m P H t len (Cy ev parts.toList)
noncomputable def c8e (t:TypeId) (m k x:Operand) : Hd:=fun P H ev _=>a5g P H t (ev m) (ev k) (ev x)
noncomputable def d9d (t:TypeId) (a:Operand) : Hd:=fun P H ev _=>a2n P H t (ev a)
noncomputable def d9e (t:TypeId) (a x:Operand) : Hd:=fun P H ev _=>a5e P H t (ev a) (ev x)
noncomputable def hN (_:Nat) : Hd:=fun _ _ _ _=>.bad
noncomputable def d9f (x:Operand) : Hd:=fun P H ev o=>a6d P H ev o (ev x)
noncomputable def hBin (op:BinOp) (t:TypeId) (x y:Operand) (_:TypeId) : Hd:=fun P H ev o=>Bq P H ev o op t (ev x) (ev y)
noncomputable def hUn (_:UnOp) (_:TypeId) (_:Operand) : Hd:=fun P H ev o=>ofOpt H (Ba P ev o)
noncomputable def d9g (src dst:TypeId) (x:Operand) : Hd:=fun P H ev o=>a1l P H ev o src dst (ev x)
noncomputable def hTX (_:TypeId) (_:Operand) : Hd:=fun _ _ _ _=>.bad
noncomputable def d9h (t:TypeId) (x:Operand) : Hd:=fun P H ev _=>a7j P H t (ev x)
noncomputable def d9i (fn:Fn) (first captured:Array Operand) : Hd:=fun _ H ev _=>a5f H fn (Bw ev first.toList) (Bw ev captured.toList)
noncomputable def d9j (t:TypeId) (r:Option Operand) : Hd:=fun P H ev _=>a4h P H ev t r
noncomputable def d9k (t:TypeId) (l c:Operand) : Hd:=fun P H ev _=>a1v P H t (ev l) (ev c)
noncomputable def d9l (t:TypeId) (x:Operand) (lo hi mx:Option Operand) : Hd:=fun P H ev o=>a0b P H ev o t (ev x) lo hi mx
noncomputable def d9m (s:TypeId) (x:Operand) (f:Nat) : Hd:=fun P H ev o=>a3v P H ev o s (ev x) f
noncomputable def d9n (t:TypeId) (x:Operand) (f:Nat) : Hd:=fun P H ev _=>a7k P H t (ev x) f
noncomputable def d9o (t:TypeId) (x i:Operand) : Hd:=fun P H ev o=>a0q P H ev o t (ev x) (ev i)
noncomputable def d9p (t:TypeId) (x i:Operand) : Hd:=fun P H ev o=>a6e P H ev o t (ev x) (ev i)
noncomputable def d9q (t:TypeId) (m k:Operand) (ok:Bool) : Hd:=fun P H ev o=>a4i P H ev o t (ev m) (ev k) ok
noncomputable def hTXX (_:TypeId) (_ _:Operand) : Hd:=fun _ _ _ _=>.bad
noncomputable def d9r (_:TypeId) (_ _ _:Operand) : Hd:=fun _ _ _ _=>.bad
noncomputable def d9s (t:TypeId) (x:Operand) : Hd:=fun P H ev _=>b4q P H t (ev x)
noncomputable def d9t (it:Operand) (b:Bool) : Hd:=fun _ H ev _=>match b with|true=>b4r H (ev it)|false=>.bad
noncomputable def hX (_:Operand) : Hd:=fun _ _ _ _=>.bad
noncomputable def hXX (_ _:Operand) : Hd:=fun _ _ _ _=>.bad
noncomputable def d9u (x:Operand) (_ asserted:TypeId) (ok:Bool) : Hd:=fun P H ev o=>a6f P H ev o (ev x) asserted ok
noncomputable def d9v (t:Operand) (i:Nat) : Hd:=fun _ H ev _=>a5h H (ev t) i
noncomputable def d9w (c:Call) : Hd:=fun P H ev o=>Cd P H ev o c
noncomputable def hC (_:Call) : Hd:=fun _ _ _ _=>.bad
noncomputable def d9x (c:Call) : Hd:=fun _ H ev _=>b2u H ev c
noncomputable def d9y (x:Operand) : Hd:=fun _ H ev _=>b4s H (ev x)
noncomputable def d9z (_:TypeId) (_:Operand) (_:Bool) : Hd:=fun _ _ _ _=>.bad
noncomputable def e0a (_:Array SelectCase) (_:Bool) : Hd:=fun _ _ _ _=>.bad
noncomputable def handler:Op->Hd:=Op.rec (motive:=fun _=>Hd)
 c8d c8d d8z d9a hBox d9b d9c c8e d9d d9e hN hN d9f hBin hUn d9g hTX d9h d9i d9j hTX d9k d9l d9m d9n d9o d9p d9q c8e hTXX d9r d9s d9t hX d9u d9v d9w hC d9x d9y hXX d9z e0a
noncomputable def opV (P:Program) (H:Mem) (ev:Ev) (o:Oper) : R:=handler o.op P H ev o
end Go.Ai
end
section
namespace Go.Ai
def freeOp:Op->Bool
 | .move _|.assign _|.pick _ _ _|.build _ _|.nilCheck _|.binOp _ _ _ _ _|.unOp _ _ _|.makeInterface _ _|.makeFunc _ _ _
 | .slice _ _ _ _ _|.fieldAddr _ _ _|.field _ _ _|.indexAddr _ _ _|.index _ _ _|.typeAssert _ _ _ _|.extract _ _=>true
 | _=>false
def eqV:Nat->Value->Value->Bool
 | _,.bool a,.bool b=>a == b
 | _,.int j a,.int k b=>decide (j=k) && decide (a=b)
 | _,.string a,.string b=>decide (a=b)
 | _,.pointer a,.pointer b=>decide (a=b)
 | _,.slice a n c,.slice b m d=>decide (a=b) && decide (n=m) && decide (c=d)
 | _,.map a,.map b=>decide (a=b)
 | _,.nilFunc,.nilFunc=>true
 | _,.nilIface,.nilIface=>true
 | n+1,.iface t v,.iface u x=>decide (t=u) && eqV n v x
 | _,.func f ⟨[]⟩ ⟨[]⟩,.func g ⟨[]⟩ ⟨[]⟩=>decide (f=g)
 | _,_,_=>false
def c1p (acc:List Nat) (o:Oper) : Nat :=
 o.after.toList.foldl (fun s e=>match Region.binds .any e with|true=>s ||| 2 ^ e.on ||| acc.getD e.on 0|false=>s) 0
def ancs:List Nat->List Oper->List Nat
 | acc,[]=>acc
 | acc,o :: l=>ancs (acc++[c1p acc o]) l
def Aw (tab:List Nat) (i j:Nat) : Bool:=(tab.getD i 0).testBit j
mutual
def eqAV:AV->AV->Bool
 | .lit a,.lit b=>eqV 4 a b
 | .ptr a i,.ptr b j=>decide (a=b) && decide (i=j)
 | .sl a i n c,.sl b j m d=>decide (a=b) && decide (i=j) && decide (n=m) && decide (c=d)
 | .slq a i n c,.slq b j m d=>decide (a=b) && decide (i=j) && decide (n=m) && decide (c=d)
 | .es,.es=>true
 | .map a,.map b=>decide (a=b)
 | .func f x y,.func g u v=>decide (f=g) && eqAVs x u && eqAVs y v
 | .iface t x,.iface u y=>decide (t=u) && eqAV x y
 | .agg l,.agg m=>eqAVs l m
 | .tup l,.tup m=>eqAVs l m
 | _,_=>false
def eqAVs:List AV->List AV->Bool
 | [],[]=>true
 | x :: l,y :: m=>eqAV x y && eqAVs l m
 | _,_=>false
end
inductive Cls where
 | free|read|gen|alloc|chain|no
def cls (op:Op) : Cls :=
 match freeOp op with
 | true=>.free
 | false=>match op with
  | .load _ _|.lookup _ _ _ _=>.read
  | .convert _ _ _=>.gen
  | .alloc _|.box _ _|.buildSlice _ _ _|.makeSlice _ _ _|.makeMap _ _=>.alloc
  | .store _ _ _|.mapUpdate _ _ _ _|.insert _ _ _ _=>.chain
  | .call c=>match c.callee with
   | .builtin .append|.builtin .copy=>.chain
   | .builtin .len|.builtin .cap=>.read
   | .builtin .recover=>.no
   | .builtin _=>.gen
   | _=>.chain
  | _=>.no
def Cu (op:Op) : Bool:=match cls op with|.chain=>true|_=>false
def a3w (t:Nat) : List Oper->Nat->Option Nat
 | [],_=>none
 | o :: l,i=>match (match o.dst with|some d=>Nat.beq d t|none=>false) with
  | true=>some i
  | false=>a3w t l (i+1)
def chainOf:List Oper->Nat->List Nat
 | [],_=>[]
 | o :: l,i=>match Cu o.op with|true=>i :: chainOf l (i+1)|false=>chainOf l (i+1)
def a5i (tab:List Nat) : List Nat->Bool
 | i :: j :: l=>Aw tab j i && a5i tab (j :: l)
 | _=>true
def a1n (tab:List Nat) (i:Nat) : List Nat->Nat
 | []=>0
 | c :: cs=>match Aw tab i c with|true=>a1n tab i cs+1|false=>a1n tab i cs
def a1x (tab:List Nat) (cs:List Nat) (k:Nat) : List Oper->Nat->List Nat
 | [],_=>[]
 | o :: l,i=>match !Cu o.op && Nat.beq (a1n tab i cs) k with
  | true=>i :: a1x tab cs k l (i+1)
  | false=>a1x tab cs k l (i+1)
def a7l (ops:List Oper) (o:Oper) (i:Nat) : Bool :=
 (match o.dst with|some d=>(match a3w d ops 0 with|some j=>Nat.beq i j|none=>false)|none=>true) &&
 (match cls o.op with|.no=>false|_=>true) &&
 o.after.toList.all (fun e=>match Region.binds .any e with|true=>Nat.blt e.on i|false=>true) &&
 (match o.guard with|some g=>(match ops[g.1]? with|some p=>p.dst.isSome|none=>false)|none=>true)
def fit (ops:List Oper) : List Oper->Nat->Bool
 | [],_=>true
 | o :: l,i=>a7l ops o i && fit ops l (i+1)
def b2w (ops:List Oper) : Bool:=Nat.ble ops.length 256 && a5i (ancs [] ops) (chainOf ops 0) && fit ops ops 0
end Go.Ai
end
section
namespace Go.Ai
abbrev Dfr:=Fn×List AV×List AV
inductive Fr where
 | s (t:T2 AV) (ds:List Dfr)
 | g (t:T3 AV) (ds:List Dfr)
 | f (g:Nat->Option AV) (ds:List Dfr)
def a2o (g:Nat->Option AV) (d:Nat) (v:AV) : Nat->Option AV:=fun t=>if t=d then some v else g t
noncomputable def fgS (t:T2 AV) (_:List Dfr) (k:Nat) : Option AV:=Cp t k
noncomputable def fgG (t:T3 AV) (_:List Dfr) (k:Nat) : Option AV:=a5a t k
noncomputable def fpS {β:Type} (t:T2 AV) (ds:List Dfr) (d:Tmp) (v:AV) (K:Fr->β) : β:=b7e t d (.v d v) fun t=>K (.s t ds)
noncomputable def fpG {β:Type} (t:T3 AV) (ds:List Dfr) (d:Tmp) (v:AV) (K:Fr->β) : β:=c1c t d (.v d v) fun t=>K (.g t ds)
noncomputable def fgF (g:Nat->Option AV) (_:List Dfr) (k:Nat) : Option AV:=g k
noncomputable def fpF {β:Type} (g:Nat->Option AV) (ds:List Dfr) (d:Tmp) (v:AV) (K:Fr->β) : β:=K (.f (a2o g d v) ds)
noncomputable def Fr.get (fr:Fr) (t:Nat) : Option AV:=Fr.rec (motive:=fun _=>Nat->Option AV) fgS fgG fgF fr t
noncomputable def Fr.set {β:Type} (fr:Fr) (d:Tmp) (v:AV) (K:Fr->β) : β:=Fr.rec (motive:=fun _=>Tmp->AV->(Fr->β)->β) fpS fpG fpF fr d v K
noncomputable def Fr.defer (fr:Fr) (x:Dfr) : Fr:=Fr.rec (motive:=fun _=>Fr) (fun t ds=>.s t (x :: ds)) (fun t ds=>.g t (x :: ds)) (fun t ds=>.f t (x :: ds)) fr
noncomputable def Fr.defers (fr:Fr) : List Dfr:=Fr.rec (motive:=fun _=>List Dfr) (fun _ ds=>ds) (fun _ ds=>ds) (fun _ ds=>ds) fr
noncomputable def evT (t:Tmp) (fr:Fr) : Option AV:=fr.get t
noncomputable def evC (v:Value) (_:Fr) : Option AV:=some (.lit v)
noncomputable def evG (g:Nat) (_:Fr) : Option AV:=some (.lit (.pointer (some ⟨g,0,none⟩)))
noncomputable def evF (f:FuncId) (_:Fr) : Option AV:=some (.lit (.func (.func f) #[] #[]))
noncomputable def Fr.ev (fr:Fr) (x:Operand) : Option AV:=Operand.rec (motive:=fun _=>Fr->Option AV) evT evC evG evF x fr
noncomputable def putN {β:Type} (fr:Fr) (_:AV) (K:Fr->β) : β:=K fr
noncomputable def putS {β:Type} (d:Tmp) (fr:Fr) (v:AV) (K:Fr->β) : β:=fr.set d v K
noncomputable def Fr.putK {β:Type} (fr:Fr) (d:Option Tmp) (v:AV) (K:Fr->β) : β :=
 Option.rec (motive:=fun _=>Fr->AV->(Fr->β)->β) putN putS d fr v K
inductive Out where
 | norm (fr:Fr) (H:Mem)
 | exit (id:Nat) (fr:Fr) (H:Mem)
 | ret (fr:Fr) (H:Mem)
 | panic (v:AV) (fr:Fr) (H:Mem)
 | bad
inductive Az where
 | ret (v:AV) (H:Mem)
 | panic (v:AV) (H:Mem)
 | bad
noncomputable def c1q (ops:Array Oper) (fr:Fr) (j:Nat) : Option Bool :=
 match ops[j]? with
 | some o=>match o.dst with
  | some d=>match fr.get d with
   | some (.lit (.bool b))=>some b
   | _=>none
  | none=>none
 | none=>none
noncomputable def a8z (ops:Array Oper) (fr:Fr) (g:Nat×Bool) : Option Bool :=
 match c1q ops fr g.1 with
 | some b=>match b,g.2 with
  | true,true=>some true
  | false,false=>some true
  | _,_=>some false
 | none=>match ops[g.1]? with
  | some p=>match p.dst with
   | some d=>match fr.get d with
    | some (.lit (.tuple _))=>some false
    | _=>none
   | none=>none
  | none=>none
abbrev CallF:=FuncId->List AV->Mem->Az
abbrev LoopF:=Code->Fr->Mem->Out
abbrev AfterF:=CallF->Oper->Fr->(Fr->Mem->Out)->Out
noncomputable def aVal (v:AV) (H:Mem) : AfterF:=fun _ o fr k=>fr.putK o.dst v fun fr=>k fr H
noncomputable def e0b (H:Mem) : AfterF:=fun _ o fr k=>fr.putK o.dst (.lit undef) fun fr=>k fr H
noncomputable def e0c (f:FuncId) (args:List AV) (H:Mem) : AfterF:=fun callf o fr k =>
 match callf f args H with
 | .ret v H=>fr.putK o.dst v fun fr=>k fr H
 | .panic v H=>.panic v fr H
 | .bad=>.bad
noncomputable def aDfr (fn:Fn) (cap args:List AV) (H:Mem) : AfterF:=fun _ o fr k=>Fr.putK (fr.defer (fn,cap,args)) o.dst (.lit undef) fun fr=>k fr H
noncomputable def aBad:AfterF:=fun _ _ _ _=>.bad
noncomputable def e0d (v:AV) (H:Mem) : AfterF:=fun _ _ fr _=>.panic v fr H
noncomputable def after (callf:CallF) (o:Oper) (fr:Fr) (k:Fr->Mem->Out) (r:R) : Out :=
 R.rec (motive:=fun _=>AfterF) aVal e0b e0c aDfr aBad e0d aBad r callf o fr k
noncomputable def b4t (P:Program) (callf:CallF) (ops:Array Oper) (o:Oper) (fr:Fr) (H:Mem) (k:Fr->Mem->Out) (g:Nat×Bool) : Out :=
 match a8z ops fr g with
 | some true=>after callf o fr k (opV P H fr.ev o)
 | some false=>fr.putK o.dst (.lit undef) fun fr=>k fr H
 | none=>.bad
abbrev OneF:=Program->CallF->Array Oper->Oper->Fr->Mem->(Fr->Mem->Out)->Out
noncomputable def oneN:OneF:=fun P callf _ o fr H k=>after callf o fr k (opV P H fr.ev o)
noncomputable def oneG (g:Nat×Bool) : OneF:=fun P callf ops o fr H k=>b4t P callf ops o fr H k g
noncomputable def a9a (P:Program) (callf:CallF) (ops:Array Oper) (o:Oper) (fr:Fr) (H:Mem) (k:Fr->Mem->Out) : Out :=
 Option.rec (motive:=fun _=>OneF) oneN oneG o.guard P callf ops o fr H k
abbrev SeqF:=Program->CallF->Array Oper->Fr->Mem->Out
noncomputable def seqN:SeqF:=fun _ _ _ fr H=>.norm fr H
noncomputable def seqC (o:Oper) (_:List Oper) (ih:SeqF) : SeqF:=fun P callf ops fr H=>a9a P callf ops o fr H (ih P callf ops)
noncomputable def b2x (P:Program) (callf:CallF) (ops:Array Oper) (l:List Oper) (fr:Fr) (H:Mem) : Out :=
 List.rec (motive:=fun _=>SeqF) seqN seqC l P callf ops fr H
noncomputable def a9b (r:Out) (k:Fr->Mem->Out) : Out:=match r with
 | .norm fr H=>k fr H
 | r=>r
noncomputable def b4u (c:Option AV) (a b:Fr->Mem->Out) (fr:Fr) (H:Mem) : Out:=match c with
 | some (.lit (.bool true))=>a fr H
 | some (.lit (.bool false))=>b fr H
 | _=>.bad
noncomputable def b4v (id:Nat) (r:Out) : Out:=match r with
 | .exit id' fr H=>(match Nat.beq id' id with|true=>.norm fr H|false=>.exit id' fr H)
 | r=>r
abbrev XF:=Program->CallF->LoopF->Fr->Mem->Out
noncomputable def xSkip:XF:=fun _ _ _ fr H=>.norm fr H
noncomputable def c1r (ops:Array Oper) (tab:List Nat) (fr:Fr) (res:T2 AV) (i t:Nat) : Option AV :=
 match a3w t ops.toList 0 with
 | none=>fr.get t
 | some j=>match Aw tab i j with
  | true=>Cp res j
  | false=>match Aw tab j i || Nat.beq i j with
   | true=>fr.get t
   | false=>none
noncomputable def env (ops:Array Oper) (tab:List Nat) (fr:Fr) (res:T2 AV) (i:Nat) : Ev:=fun x=>match x with
 | .tmp t=>c1r ops tab fr res i t
 | .const v=>some (.lit v)
 | .global g=>some (.lit (.pointer (some ⟨g,0,none⟩)))
 | .func f=>some (.lit (.func (.func f) #[] #[]))
noncomputable def c8f (tab:List Nat) (res:T2 AV) (i:Nat) (g:Nat×Bool) : Option Bool :=
 match Aw tab i g.1,Cp res g.1 with
 | true,some (.lit (.bool b))=>(match b,g.2 with|true,true=>some true|false,false=>some true|_,_=>some false)
 | true,some (.lit (.tuple _))=>some false
 | _,_=>none
noncomputable def b2y (tab:List Nat) (res:T2 AV) (i:Nat) (o:Oper) : Option Bool:=match o.guard with|none=>some true|some g=>c8f tab res i g
noncomputable def quiet (P:Program) (H:Mem) (ev:Ev) (o:Oper) : Option AV :=
 match cls o.op with
 | .gen=>Ba P ev o
 | _=>match opV P H ev o with|.val v _=>some v|_=>none
abbrev Als:=List (Nat×Nat×Blk)
noncomputable def c8g (t:T2 AV) (k:Nat) : Bool:=Lf.rec (motive:=fun _=>Bool) true (fun _ _=>false) (gN (d1 k) (gN (d0 k) t))
noncomputable def a6g (res:T2 AV) (i:Nat) (v:AV) (K:T2 AV->Out) : Out:=match c8g res i with|true=>b7e res i (.v i v) K|false=>.bad
abbrev StF:=T2 AV->Mem->List Nat->Als->Out
noncomputable def c1s (P:Program) (ops:Array Oper) (tab:List Nat) (fr:Fr) (i:Nat) (res:T2 AV) (H:Mem) (held:List Nat) (als:Als) (K:StF) : Out :=
 match ops[i]? with
 | none=>.bad
 | some o=>match b2y tab res i o with
  | some false=>a6g res i (.lit undef) fun res=>K res H held als
  | some true=>match cls o.op with
   | .alloc=>match opV P H (env ops tab fr res i) o with
    | .val v H'=>match H'.get H.next with
     | some b=>a6g res i v fun res=>K res H' held ((i,H.next,b) :: als)
     | none=>.bad
    | _=>.bad
   | .read=>match quiet P H (env ops tab fr res i) o with
    | some v=>a6g res i v fun res=>K res H (i :: held) als
    | none=>.bad
   | _=>match quiet P H (env ops tab fr res i) o with
    | some v=>a6g res i v fun res=>K res H held als
    | none=>.bad
  | none=>.bad
noncomputable def b4w (P:Program) (ops:Array Oper) (tab:List Nat) (fr:Fr) : List Nat->T2 AV->Mem->List Nat->Als->StF->Out
 | [],res,H,held,als,K=>K res H held als
 | i :: l,res,H,held,als,K=>c1s P ops tab fr i res H held als fun res H held als=>b4w P ops tab fr l res H held als K
noncomputable def eqBlk:Blk->Blk->Bool
 | .cells l own z,.cells m own' z'=>eqAVs l m && (own == own') && Nat.beq z z'
 | .map [] c,.map [] c'=>Nat.beq c c'
 | _,_=>false
noncomputable def b1a (P:Program) (ops:Array Oper) (tab:List Nat) (fr:Fr) (res:T2 AV) (H:Mem) : List Nat->Bool
 | []=>true
 | i :: l=>match ops[i]?,Cp res i with
  | some o,some v=>match quiet P H (env ops tab fr res i) o with
   | some v'=>match eqAV v' v with|true=>b1a P ops tab fr res H l|false=>false
   | none=>false
  | _,_=>false
noncomputable def b1b (H:Mem) : Als->Bool
 | []=>true
 | (_,a,b) :: l=>match H.get a with
  | some b'=>match eqBlk b' b with|true=>b1b H l|false=>false
  | none=>false
noncomputable def a4j (tab:List Nat) (c:Nat) : List Nat->List Nat
 | []=>[]
 | i :: l=>match Aw tab c i with|true=>a4j tab c l|false=>i :: a4j tab c l
noncomputable def a3i (tab:List Nat) (c:Nat) : Als->Als
 | []=>[]
 | x :: l=>match Aw tab c x.1 with|true=>a3i tab c l|false=>x :: a3i tab c l
noncomputable def Fr.clear (fr:Fr) : Fr:=Fr.rec (motive:=fun _=>Fr) (fun _ ds=>.s e2 ds) (fun _ ds=>.s e2 ds) (fun _ ds=>.s e2 ds) fr
noncomputable def fin (res:T2 AV) (H:Mem) : List Oper->Nat->Fr->Out
 | [],_,fr=>.norm fr H
 | o :: l,i,fr=>match Cp res i with
  | some v=>fr.putK o.dst v fun fr=>fin res H l (i+1) fr
  | none=>.bad
noncomputable def act (P:Program) (callf:CallF) (ops:Array Oper) (tab:List Nat) (fr:Fr) (c:Nat) (res:T2 AV) (H:Mem) (K:T2 AV->Mem->Out) : Out :=
 match ops[c]? with
 | none=>.bad
 | some o=>match b2y tab res c o with
  | some false=>a6g res c (.lit undef) fun res=>K res H
  | some true=>match opV P H (env ops tab fr res c) o with
   | .val v H'=>a6g res c v fun res=>K res H'
   | .skip H'=>a6g res c (.lit undef) fun res=>K res H'
   | .enter f args H'=>match callf f args H' with
    | .ret v H''=>a6g res c v fun res=>K res H''
    | .panic v H''=>.panic v fr.clear H''
    | .bad=>.bad
   | _=>.bad
  | none=>.bad
noncomputable def b4x (P:Program) (callf:CallF) (ops:Array Oper) (tab:List Nat) (fr:Fr) (all:List Nat) : Nat->List Nat->T2 AV->Mem->List Nat->Als->Out
 | k,cs,res,H,held,als=>match cs with
  | []=>b4w P ops tab fr (a1x tab all k ops.toList 0) res H held als fun res H held als =>
   match b1a P ops tab fr res H held && b1b H als with
   | true=>fin res H ops.toList 0 fr
   | false=>.bad
  | c :: cs=>b4w P ops tab fr (a1x tab all k ops.toList 0) res H held als fun res H held als =>
   match b1a P ops tab fr res H held && b1b H als with
   | true=>act P callf ops tab fr c res H fun res H=>b4x P callf ops tab fr all (k+1) cs res H (a4j tab c held) (a3i tab c als)
   | false=>.bad
noncomputable def drawn (P:Program) (callf:CallF) (ops:Array Oper) (fr:Fr) (H:Mem) : Out :=
 match b2w ops.toList && Tables.follows P.toTables .mixedOrders with
 | true=>b4x P callf ops (ancs [] ops.toList) fr (chainOf ops.toList 0) 0 (chainOf ops.toList 0) e2 H [] []
 | false=>.bad
noncomputable def e0e (_:Nat) (ops:Array Oper) (draw:Bool) : XF:=fun P callf _ fr H=>match draw with
 | false=>b2x P callf ops ops.toList fr H
 | true=>drawn P callf ops fr H
noncomputable def c8h (_ _:Code) (a b:XF) : XF:=fun P callf loopf fr H=>a9b (a P callf loopf fr H) (b P callf loopf)
noncomputable def c8i (c:Operand) (_ _:Code) (a b:XF) : XF:=fun P callf loopf fr H=>b4u (fr.ev c) (a P callf loopf) (b P callf loopf) fr H
noncomputable def c8j (id:Nat) (_:Code) (a:XF) : XF:=fun P callf loopf fr H=>b4v id (a P callf loopf fr H)
noncomputable def c8k (b:Code) (a:XF) : XF:=fun P callf loopf fr H=>a9b (a P callf loopf fr H) (loopf (.loop b))
noncomputable def c8l (_:Operand) (_:Array Tmp) (_ _:Code) (_ _:XF) : XF:=fun _ _ _ _ _=>.bad
noncomputable def c8m (id:Nat) : XF:=fun _ _ _ fr H=>.exit id fr H
noncomputable def c8n (_:Code) (_:XF) : XF:=fun _ _ _ _ _=>.bad
noncomputable def c8o (_:Nat) : XF:=fun _ _ _ fr H=>.norm fr H
noncomputable def c8p (_:Nat) : XF:=fun _ _ _ _ _=>.bad
noncomputable def xRet:XF:=fun _ _ _ fr H=>.ret fr H
noncomputable def c8q (_:String) : XF:=fun _ _ _ _ _=>.bad
noncomputable def execC:Code->XF:=Code.rec (motive:=fun _=>XF) xSkip e0e c8h c8i c8j c8k c8l c8m c8n c8o c8p xRet c8q
noncomputable def Da (P:Program) (callf:CallF) (loopf:LoopF) (c:Code) (fr:Fr) (H:Mem) : Out:=execC c P callf loopf fr H
inductive Mode where
 | returning
 | panicking (v:AV)
 | recovered (v:AV)
inductive a7m where
 | norm (fr:Fr) (u:Mode) (H:Mem)
 | ret (fr:Fr) (u:Mode) (H:Mem)
 | bad
noncomputable def c1t (callf:CallF) (o:Oper) (fr:Fr) (u:Mode) (k:Fr->Mode->Mem->a7m) (H:Mem) (r:R) : a7m :=
 match r with
 | .val v H=>fr.putK o.dst v fun fr=>k fr u H
 | .skip H=>fr.putK o.dst (.lit undef) fun fr=>k fr u H
 | .enter f args H=>match callf f args H with
  | .ret v H=>fr.putK o.dst v fun fr=>k fr u H
  | _=>.bad
 | .recover=>match u with
  | .panicking v=>fr.putK o.dst v fun fr=>k fr (.recovered v) H
  | _=>fr.putK o.dst (.lit .nilIface) fun fr=>k fr u H
 | _=>.bad
noncomputable def b1c (P:Program) (callf:CallF) (ops:Array Oper) : List Oper->Fr->Mode->Mem->a7m
 | [],fr,u,H=>.norm fr u H
 | o :: l,fr,u,H=>match (match o.guard with|none=>some true|some g=>a8z ops fr g) with
  | some true=>c1t callf o fr u (b1c P callf ops l) H (opV P H fr.ev o)
  | some false=>fr.putK o.dst (.lit undef) fun fr=>b1c P callf ops l fr u H
  | none=>.bad
noncomputable def b7p (u:Mode) (r:Out) : a7m:=match r with
 | .norm fr H=>.norm fr u H
 | .ret fr H=>.ret fr u H
 | _=>.bad
noncomputable def a3x (P:Program) (callf:CallF) (loopf:LoopF) : Code->Fr->Mode->Mem->a7m
 | .seq a b,fr,u,H=>match a3x P callf loopf a fr u H with
  | .norm fr u H=>a3x P callf loopf b fr u H
  | r=>r
 | .cond c a b,fr,u,H=>match fr.ev c with
  | some (.lit (.bool true))=>a3x P callf loopf a fr u H
  | some (.lit (.bool false))=>a3x P callf loopf b fr u H
  | _=>.bad
 | .region id ops true,fr,u,H=>b7p u (Da P callf loopf (.region id ops true) fr H)
 | .region _ ops false,fr,u,H=>b1c P callf ops ops.toList fr u H
 | c,fr,u,H=>b7p u (Da P callf loopf c fr H)
noncomputable def b4y {β:Type} (l:List AV) (fr:Fr) (K:Fr->β) : β :=
 List.rec (motive:=fun _=>Fr->Nat->β) (fun fr _=>K fr) (fun v _ ih fr i=>fr.set i v fun fr=>ih fr (Nat.succ i)) l fr 0
noncomputable def a6h (P:Program) (fr:Fr) (H:Mem) : ResultVar->Option AV
 | .tmp t=>fr.get t
 | .cell a t=>match fr.get a with
  | some p=>load P H t p
  | none=>none
noncomputable def a7n (P:Program) (fr:Fr) (H:Mem) : List ResultVar->Option (List AV)
 | []=>some []
 | r :: l=>match a6h P fr H r with
  | some v=>match a7n P fr H l with|some vs=>some (v :: vs)|none=>none
  | none=>none
noncomputable def a2p (P:Program) (fn:Func) (fr:Fr) (H:Mem) : Option AV :=
 match a7n P fr H fn.results.toList with
 | some [v]=>some v
 | some vs=>some (.tup vs)
 | none=>none
noncomputable def Cv (n:Nat) : Fr:=match Nat.ble n 256 with|true=>.s e2 []|false=>.g e3 []
def Db (n:Nat) (o:Oper) : Bool:=match o.dst with|some t=>Nat.blt t n|none=>true
def Bg (n:Nat) : Code->Bool
 | .region _ ops _=>ops.toList.all (Db n)
 | .seq a b=>Bg n a && Bg n b
 | .cond _ a b=>Bg n a && Bg n b
 | .block _ b=>Bg n b
 | .loop b=>Bg n b
 | .scope b=>Bg n b
 | _=>true
noncomputable def e0f (P:Program) (g:Func) (k:Mode->Mem->Az) (r:a7m) : Az :=
 match r with
 | .norm fr u H=>match fr.defers,a2p P g fr H,u with
  | [],some _,.recovered _=>k .returning H
  | [],some _,.returning=>k .returning H
  | [],some _,.panicking v=>k (.panicking v) H
  | _,_,_=>.bad
 | .ret fr u H=>match fr.defers,a2p P g fr H,u with
  | [],some _,.recovered _=>k .returning H
  | [],some _,.returning=>k .returning H
  | [],some _,.panicking v=>k (.panicking v) H
  | _,_,_=>.bad
 | .bad=>.bad
noncomputable def c8r (P:Program) (callf:CallF) (loopf:LoopF) (f:FuncId) (args:List AV) (u:Mode) (H:Mem) (k:Mode->Mem->Az) : Az :=
 match P.funcs[f]? with
 | some g=>match g.body,Ap P f with
  | some c,true=>match Bg g.ntmps c,Nat.ble (len args) g.ntmps with
   | true,true=>e0f P g k (b4y args (Cv g.ntmps) fun fr=>a3x P callf loopf c fr u H)
   | _,_=>.bad
  | _,_=>.bad
 | none=>.bad
noncomputable def a0s (P:Program) (callf:CallF) (loopf:LoopF) (fn:Func) (fr:Fr) : List Dfr->Mode->Mem->Az
 | [],.returning,H=>match a2p P fn fr H with
  | some v=>.ret v H
  | none=>.bad
 | [],.panicking v,H=>.panic v H
 | [],.recovered _,_=>.bad
 | (.func f,cap,args) :: ds,u,H=>c8r P callf loopf f (args++cap) u H (a0s P callf loopf fn fr ds)
 | _ :: _,_,_=>.bad
noncomputable def c8s (P:Program) (callf:CallF) (loopf:LoopF) (fn:Func) (r:Out) : Az:=match r with
 | .norm fr H=>a0s P callf loopf fn fr fr.defers .returning H
 | .ret fr H=>a0s P callf loopf fn fr fr.defers .returning H
 | .panic v fr H=>a0s P callf loopf fn fr fr.defers (.panicking v) H
 | _=>.bad
noncomputable def e0g (P:Program) (callf:CallF) (loopf:LoopF) (fn:Func) (c:Code) (args:List AV) (H:Mem) : Az :=
 match Bg fn.ntmps c,Nat.ble (len args) fn.ntmps with
 | true,true=>c8s P callf loopf fn (b4y args (Cv fn.ntmps) fun fr=>Da P callf loopf c fr H)
 | _,_=>.bad
noncomputable def enter (P:Program) (callf:CallF) (loopf:LoopF) (f:FuncId) (args:List AV) (H:Mem) : Az :=
 match P.funcs[f]? with
 | some fn=>match fn.body with
  | some c=>e0g P callf loopf fn c args H
  | none=>.bad
 | none=>.bad
noncomputable def both (P:Program) (n:Nat) : CallF×LoopF :=
 Nat.rec (motive:=fun _=>CallF×LoopF) (fun _ _ _=>.bad,fun _ _ _=>.bad) (fun _ ih=>(enter P ih.1 ih.2,Da P ih.1 ih.2)) n
noncomputable def call (P:Program) (n:Nat) : CallF:=(both P n).1
end Go.Ai
end
section
namespace Go.Ai
variable {α β:Type} {j a:Nat} {y b:Blk} {H:Mem}
noncomputable def uN {α:Type} (d:Dg) (x:N α) (v:α) : N α:=sN d x v id
theorem c1u (d:Dg) (x:N α) (v:α) (K:N α->β) : sN d x v K=K (uN d x v):=by
 cases x;cases d<;>rfl
theorem a2d (d:Dg) (x:N α) (v:α) : gN d (uN d x v)=v:=by
 cases x;cases d<;>rfl
theorem a2e (d d' : Dg) (x:N α) (v:α) (h:d'≠d) : gN d' (uN d x v)=gN d' x:=by
 cases x;cases d<;>cases d'<;>first|rfl|exact absurd rfl h
theorem Dg.em (d d' : Dg) : d'=d\/d'≠d:=Classical.em _
theorem b2z (k j:Nat) (x y:α) (h:b0v k (.v j x)=some y) : j=k/\x=y:=by
 have h' : Bool.rec (motive:=fun _=>Option α) none (some x) (Nat.beq j k)=some y:=h
 cases hb:Nat.beq j k with
 | true=>simp_all
 | false=>simp_all
noncomputable def u2 {α:Type} (t:T2 α) (k:Nat) (x:Lf α) : T2 α:=uN (d0 k) t (uN (d1 k) (gN (d0 k) t) x)
theorem b1d (t:T2 α) (k:Nat) (x:Lf α) (K:T2 α->β) : b7e t k x K=K (u2 t k x):=by
 grind[u2,b7e,c1u]
noncomputable def u3 {α:Type} (t:T3 α) (k:Nat) (x:Lf α) : T3 α:=uN (d0 k) t (uN (d1 k) (gN (d0 k) t) (uN (d2 k) (gN (d1 k) (gN (d0 k) t)) x))
theorem b3a (t:T3 α) (k:Nat) (x:Lf α) (K:T3 α->β) : c1c t k x K=K (u3 t k x):=by
 grind[u3,c1c,c1u]
noncomputable def u4 {α:Type} (t:T4 α) (k:Nat) (x:Lf α) : T4 α :=
 uN (d0 k) t (uN (d1 k) (gN (d0 k) t) (uN (d2 k) (gN (d1 k) (gN (d0 k) t)) (uN (d3 k) (gN (d2 k) (gN (d1 k) (gN (d0 k) t))) x)))
theorem b7q (t:T4 α) (k:Nat) (x:Lf α) (K:T4 α->β) : b4k t k x K=K (u4 t k x):=by
 grind[u4,b4k,c1u]
theorem at2 (t:T2 α) (k j:Nat) (x:Lf α) :
  gN (d1 j) (gN (d0 j) (u2 t k x))=x\/gN (d1 j) (gN (d0 j) (u2 t k x))=gN (d1 j) (gN (d0 j) t):=by
 unfold u2;rcases Dg.em (d0 k) (d0 j) with h0|h0
 ·rw[h0,a2d];rcases Dg.em (d1 k) (d1 j) with h1|h1
  ·rw[h1,a2d];grind
  ·rw[a2e _ _ _ _ h1];grind
 ·rw[a2e _ _ _ _ h0];grind
theorem c1v (t:T2 α) (k:Nat) (x:Lf α) : gN (d1 k) (gN (d0 k) (u2 t k x))=x:=by
 grind[u2,a2d]
theorem at3 (t:T3 α) (k j:Nat) (x:Lf α) :
  gN (d2 j) (gN (d1 j) (gN (d0 j) (u3 t k x)))=x\/gN (d2 j) (gN (d1 j) (gN (d0 j) (u3 t k x)))=gN (d2 j) (gN (d1 j) (gN (d0 j) t)):=by
 unfold u3;rcases Dg.em (d0 k) (d0 j) with h0|h0
 ·rw[h0,a2d];rcases Dg.em (d1 k) (d1 j) with h1|h1
  ·rw[h1,a2d];rcases Dg.em (d2 k) (d2 j) with h2|h2
   ·rw[h2,a2d];grind
   ·rw[a2e _ _ _ _ h2];grind
  ·rw[a2e _ _ _ _ h1];grind
 ·rw[a2e _ _ _ _ h0];grind
theorem c8t (t:T3 α) (k:Nat) (x:Lf α) : gN (d2 k) (gN (d1 k) (gN (d0 k) (u3 t k x)))=x:=by
 grind[u3,a2d]
theorem at4 (t:T4 α) (k j:Nat) (x:Lf α) :
  gN (d3 j) (gN (d2 j) (gN (d1 j) (gN (d0 j) (u4 t k x))))=x\/gN (d3 j) (gN (d2 j) (gN (d1 j) (gN (d0 j) (u4 t k x))))=gN (d3 j) (gN (d2 j) (gN (d1 j) (gN (d0 j) t))):=by
 unfold u4;rcases Dg.em (d0 k) (d0 j) with h0|h0
 ·rw[h0,a2d];rcases Dg.em (d1 k) (d1 j) with h1|h1
  ·rw[h1,a2d];rcases Dg.em (d2 k) (d2 j) with h2|h2
   ·rw[h2,a2d];rcases Dg.em (d3 k) (d3 j) with h3|h3
    ·rw[h3,a2d];grind
    ·rw[a2e _ _ _ _ h3];grind
   ·rw[a2e _ _ _ _ h2];grind
  ·rw[a2e _ _ _ _ h1];grind
 ·rw[a2e _ _ _ _ h0];grind
theorem c1w (t:T4 α) (k:Nat) (x:Lf α) : gN (d3 k) (gN (d2 k) (gN (d1 k) (gN (d0 k) (u4 t k x))))=x:=by
 grind[u4,a2d]
theorem e0h (t:T2 α) (k j:Nat) (v y:α) (h:Cp (u2 t k (.v k v)) j=some y) : (j=k/\y=v)\/(j≠k/\Cp t j=some y):=by
 by_cases hj:j=k
 ·subst hj;unfold Cp at h;rw[c1v] at h;exact .inl ⟨rfl,(b2z _ _ _ _ h).2.symm⟩
 grind[b2z,at2,Cp]
theorem e0i (t:T3 α) (k j:Nat) (v y:α) (h:a5a (u3 t k (.v k v)) j=some y) : (j=k/\y=v)\/(j≠k/\a5a t j=some y):=by
 by_cases hj:j=k
 ·subst hj;unfold a5a at h;rw[c8t] at h;exact .inl ⟨rfl,(b2z _ _ _ _ h).2.symm⟩
 grind[b2z,at3,a5a]
theorem c1x (t:T4 α) (k j:Nat) (v y:α) (h:a1u (u4 t k (.v k v)) j=some y) : (j=k/\y=v)\/(j≠k/\a1u t j=some y):=by
 by_cases hj:j=k
 ·subst hj;unfold a1u at h;rw[c1w] at h;exact .inl ⟨rfl,(b2z _ _ _ _ h).2.symm⟩
 grind[b2z,at4,a1u]
theorem e0j (t:T4 α) (k j:Nat) (y:α) (h:a1u (u4 t k .e) j=some y) : j≠k/\a1u t j=some y:=by
 by_cases hj:j=k
 ·subst hj;unfold a1u at h;rw[c1w] at h;cases h
 ·refine⟨hj,?_⟩;unfold a1u at h |-;rcases at4 t k j (.e:Lf α) with e|e
  ·rw[e] at h;cases h
  grind
theorem a7o (d:Dg) (x:α) : gN d (nN x)=x:=by cases d<;>rfl
theorem c8u (k:Nat) : Cp (e2:T2 α) k=none:=by unfold Cp e2;rw[a7o,a7o];rfl
theorem e0k (k:Nat) : a5a (e3:T3 α) k=none:=by unfold a5a e3 e2;rw[a7o,a7o,a7o];rfl
theorem b7r (k:Nat) : a1u (e4:T4 α) k=none:=by unfold a1u e4 e3 e2;rw[a7o,a7o,a7o,a7o];rfl
theorem a0y (n:Nat) (K:Nat->β) : a2b n K=K n:=by cases n<;>rfl
theorem c8v (n:Int) (K:Int->β) : b0w n K=K n:=by cases n<;>simp[b0w,a0y]
noncomputable def Ct.upd (t:Ct) (a:Nat) (b:Blk) : Ct:=match t with|.tr t=>.tr (u4 t a (.v a b))|.fn g=>.fn (Aj g a (some b))
noncomputable def Ct.rm (t:Ct) (a:Nat) : Ct:=match t with|.tr t=>.tr (u4 t a .e)|.fn g=>.fn (Aj g a none)
noncomputable def Mem.upd (H:Mem) (a:Nat) (b:Blk) : Mem:=⟨H.t.upd a b,H.next⟩
noncomputable def Mem.rm (H:Mem) (a:Nat) : Mem:=⟨H.t.rm a,H.next⟩
noncomputable def Mem.add (H:Mem) (b:Blk) : Mem:=⟨H.t.upd H.next b,H.next+1⟩
theorem Mem.newK_eq (H:Mem) (b:Blk) (K:Mem->β) : H.newK b K=K (H.add b):=by
 obtain⟨t,n⟩:=H;cases t<;>simp[Mem.newK,c7s,b7f,c1d,c1e,b7q,a0y,Mem.add,Ct.upd]
theorem Mem.setK_eq (H:Mem) (a:Nat) (b:Blk) (K:Mem->β) : H.setK a b K=K (H.upd a b):=by
 obtain⟨t,n⟩:=H;cases t<;>simp[Mem.setK,c7t,b7f,c1d,c1e,b7q,Mem.upd,Ct.upd]
theorem Mem.delK_eq (H:Mem) (a:Nat) (K:Mem->β) : H.delK a K=K (H.rm a):=by
 obtain⟨t,n⟩:=H;cases t<;>simp[Mem.delK,c7u,c7r,c7p,c7q,b7q,Mem.rm,Ct.rm]
theorem c1y {g:Nat->Option Blk} {a j:Nat} {b y:Blk} (h:Aj g a (some b) j=some y) : (j=a/\y=b)\/(j≠a/\g j=some y):=by
 unfold Aj at h;grind
theorem e0l {g:Nat->Option Blk} {a j:Nat} {y:Blk} (h:Aj g a none j=some y) : j≠a/\g j=some y:=by
 simp_all[Aj]
theorem Mem.get_upd (h:(H.upd a b).get j=some y) : (j=a/\y=b)\/(j≠a/\H.get j=some y):=by
 obtain⟨t,n⟩:=H
 cases t with
 | tr t=>exact c1x _ _ _ _ _ h
 | fn g=>exact c1y h
theorem Mem.get_rm (h:(H.rm a).get j=some y) : j≠a/\H.get j=some y:=by
 obtain⟨t,n⟩:=H
 cases t with
 | tr t=>exact e0j _ _ _ _ h
 | fn g=>exact e0l h
theorem Mem.get_add (h:(H.add b).get j=some y) : (j=H.next/\y=b)\/(j≠H.next/\H.get j=some y):=by
 obtain⟨t,n⟩:=H
 cases t with
 | tr t=>exact c1x _ _ _ _ _ h
 | fn g=>exact c1y h
noncomputable def Fr.upd (fr:Fr) (d:Tmp) (v:AV) : Fr:=fr.set d v id
theorem Fr.set_eq (fr:Fr) (d:Tmp) (v:AV) (K:Fr->β) : fr.set d v K=K (fr.upd d v):=by
 cases fr<;>simp[Fr.set,Fr.upd,fpS,fpG,fpF,b1d,b3a]
theorem Fr.get_upd {fr:Fr} {d j:Tmp} {v y:AV} (h:(fr.upd d v).get j=some y) : (j=d/\y=v)\/(j≠d/\fr.get j=some y):=by
 cases fr with
 | s t ds=>simp_all[fgS,Fr.get,b1d,fpS,Fr.set,Fr.upd,e0h]
 | g t ds=>simp_all[fgG,Fr.get,b3a,fpG,Fr.set,Fr.upd,e0i]
 | f g ds =>
  have h' : a2o g d v j=some y:=h;unfold a2o at h';by_cases e:j=d
  ·grind
  ·rw[if_neg e] at h';exact .inr ⟨e,h'⟩
theorem Fr.defers_upd (fr:Fr) (d:Tmp) (v:AV) : (fr.upd d v).defers=fr.defers:=by
 cases fr<;>simp[Fr.upd,Fr.set,fpS,fpG,fpF,b1d,b3a,Fr.defers]
theorem Fr.get_defer (fr:Fr) (x:Dfr) (j:Tmp) : (fr.defer x).get j=fr.get j:=by cases fr<;>rfl
theorem Fr.defers_defer (fr:Fr) (x:Dfr) : (fr.defer x).defers=x :: fr.defers:=by cases fr<;>rfl
noncomputable def Fr.put (fr:Fr) (d:Option Tmp) (v:AV) : Fr:=match d with|some d=>fr.upd d v|none=>fr
theorem Fr.putK_eq (fr:Fr) (d:Option Tmp) (v:AV) (K:Fr->β) : fr.putK d v K=K (fr.put d v):=by
 cases d with
 | none=>rfl
 | some d=>exact Fr.set_eq fr d v K
theorem c8w (n j:Nat) : (Cv n).get j=none:=by
 unfold Cv;split
 ·exact c8u j
 ·exact e0k j
theorem c8x (n:Nat) : (Cv n).defers=[]:=by unfold Cv;split<;>rfl
theorem b1e (l:List α) (i:Nat) : nth l i=l[i]?:=by
 induction l generalizing i with
 | nil=>rfl
 | cons x l ih=>cases i with
  | zero=>rfl
  | succ i=>grind[nth]
theorem a0t (l:List α) : len l=l.length:=by
 have:∀ n,List.rec (motive:=fun _=>Nat->Nat) (fun n=>n) (fun _ _ ih n=>a2b (Nat.succ n) ih) l n=n+l.length:=by
  induction l with
  | nil=>grind
  | cons x l ih=>grind[a0y]
 grind[len]
theorem e0m (z:β) (n:Nat) (l:List α) (K:List α->β) : c1f z n l K=if n<=l.length then K (l.take n) else z:=by
 induction n generalizing l K with
 | zero=>rfl
 | succ n ih=>cases l with
  | nil=>rfl
  | cons x l =>
   simp_all[c1f]
theorem e0n (z:β) (n:Nat) (l:List α) (K:List α->β) : c1g z n l K=if n<=l.length then K (l.drop n) else z:=by
 induction n generalizing l K with
 | zero=>rfl
 | succ n ih=>cases l with
  | nil=>rfl
  | cons x l =>
   simp_all[c1g]
theorem a6i (l:List α) (n off:Nat) (z:β) (K:List α->β) : a8v l n off z K=if off+n<=l.length then K ((l.drop off).take n) else z:=by
 (simp_all[a8v,e0n,e0m];grind)
theorem b4z (a b:List α) (K:List α->β) : b7g a b K=K (a++b):=by
 induction a generalizing K with
 | nil=>rfl
 | cons x a ih =>
  simp_all[b7g]
theorem e0o (z:β) (new l:List α) (K:List α->β) : b7h z new l K=if new.length<=l.length then K (new++l.drop new.length) else z:=by
 induction new generalizing l K with
 | nil=>rfl
 | cons x new ih=>cases l with
  | nil=>rfl
  | cons y l =>
   simp_all[b7h]
theorem b3b (z:β) (l:List α) (off:Nat) (new:List α) (K:List α->β) :
  a8w z l off new K=if off+new.length<=l.length then K (l.take off++new++l.drop (off+new.length)) else z:=by
 induction off generalizing l K with
 | zero =>
  have:a8w z l 0 new K=b7h z new l K:=rfl;grind[e0o]
 | succ off ih=>cases l with
  | nil=>simp[a8w]
  | cons x l =>
   (simp_all[a8w];grind)
end Go.Ai
end
section
namespace Go.Ai
open Go.RowKit (Below)
abbrev Rn:=Nat->Option (Nat×Nat×Nat)
mutual
def VR (ρ:Rn) : AV->Value->Prop
 | .lit v,u=>u=v
 | .ptr a off,u=>∃ b o k,ρ a=some (b,o,k)/\u=.pointer (some ⟨b,o+off,none⟩)
 | .sl a off n c,u=>∃ b o k,ρ a=some (b,o,k)/\n<=c/\u=.slice (some ⟨b,o+off,none⟩) n c
 | .slq a off n d,u=>∃ b o k,ρ a=some (b,o,k)/\d+n<=k/\u=.slice (some ⟨b,o+off,none⟩) n (k-d)
 | .es,u=>∃ ad c,u=.slice (some ad) 0 c
 | .map a,u=>∃ b o k,ρ a=some (b,o,k)/\u=.map (some b)
 | .func fn f c,u=>∃ f' c',u=.func fn f' c'/\VRs ρ f f'.toList/\VRs ρ c c'.toList
 | .iface t v,u=>∃ u',u=.iface t u'/\VR ρ v u'
 | .agg l,u=>∃ cs,u=.agg cs/\VRs ρ l cs.toList
 | .tup l,u=>∃ cs,u=.tuple cs/\VRs ρ l cs.toList
def VRs (ρ:Rn) : List AV->List Value->Prop
 | [],us=>us=[]
 | v :: l,us=>∃ u us',us=u :: us'/\VR ρ v u/\VRs ρ l us'
end
def Sub (ρ ρ' : Rn) : Prop:=∀ a x,ρ a=some x->ρ' a=some x
theorem Sub.refl (ρ:Rn) : Sub ρ ρ:=fun _ _ h=>h
theorem Sub.trans {a b c:Rn} (h:Sub a b) (k:Sub b c) : Sub a c:=fun x y e=>k x y (h x y e)
mutual
theorem VR.mono {ρ ρ' : Rn} (h:Sub ρ ρ') : ∀ {v:AV} {u:Value},VR ρ v u->VR ρ' v u
 | .lit _,_,r=>r
 | .ptr _ _,_,⟨b,o,k,e,r⟩=>⟨b,o,k,h _ _ e,r⟩
 | .sl _ _ _ _,_,⟨b,o,k,e,r⟩=>⟨b,o,k,h _ _ e,r⟩
 | .slq _ _ _ _,_,⟨b,o,k,e,r⟩=>⟨b,o,k,h _ _ e,r⟩
 | .es,_,r=>r
 | .map _,_,⟨b,o,k,e,r⟩=>⟨b,o,k,h _ _ e,r⟩
 | .func _ _ _,_,⟨f',c',e,r,q⟩=>⟨f',c',e,VRs.mono h r,VRs.mono h q⟩
 | .iface _ _,_,⟨u',e,r⟩=>⟨u',e,VR.mono h r⟩
 | .agg _,_,⟨cs,e,r⟩=>⟨cs,e,VRs.mono h r⟩
 | .tup _,_,⟨cs,e,r⟩=>⟨cs,e,VRs.mono h r⟩
theorem VRs.mono {ρ ρ' : Rn} (h:Sub ρ ρ') : ∀ {l:List AV} {us:List Value},VRs ρ l us->VRs ρ' l us
 | [],_,r=>r
 | _ :: _,_,⟨u,us',e,r,q⟩=>⟨u,us',e,VR.mono h r,VRs.mono h q⟩
end
theorem VRs.nil {ρ:Rn} : VRs ρ [] []:=rfl
theorem VRs.cons {ρ:Rn} {v:AV} {l:List AV} {u:Value} {us:List Value} (h:VR ρ v u) (k:VRs ρ l us) : VRs ρ (v :: l) (u :: us):=⟨u,us,rfl,h,k⟩
theorem VRs.length {ρ:Rn} : ∀ {l:List AV} {us:List Value},VRs ρ l us->us.length=l.length
 | [],_,h=>by cases h;rfl
 | _ :: l,_,⟨u,us',e,_,q⟩=>by subst e;simp[VRs.length q]
theorem VRs.get {ρ:Rn} : ∀ {l:List AV} {us:List Value} (i:Nat) {v:AV},VRs ρ l us->l[i]?=some v->∃ u,us[i]?=some u/\VR ρ v u
 | x :: l,_,i,v,⟨u,us',e,r,q⟩,h=>by
  subst e
  cases i with
  | zero=>grind
  | succ i=>simp at h;obtain⟨w,hw,hv⟩:=VRs.get i q h;exact⟨w,by simpa using hw,hv⟩
theorem VRs.append {ρ:Rn} : ∀ {l l' : List AV} {us us' : List Value},VRs ρ l us->VRs ρ l' us'->VRs ρ (l++l') (us++us')
 | [],_,_,_,h,k=>by cases h;exact k
 | _ :: _,_,_,_,⟨u,us',e,r,q⟩,k=>by subst e;exact⟨u,us'++_,rfl,r,VRs.append q k⟩
theorem VRs.take {ρ:Rn} : ∀ {l:List AV} {us:List Value} (n:Nat),VRs ρ l us->VRs ρ (l.take n) (us.take n)
 | [],_,n,h=>by grind[VRs]
 | _ :: _,_,0,_=>by rfl
 | _ :: _,_,n+1,⟨u,us',e,r,q⟩=>by subst e;exact⟨u,us'.take n,by simp,r,VRs.take n q⟩
theorem VRs.drop {ρ:Rn} : ∀ {l:List AV} {us:List Value} (n:Nat),VRs ρ l us->VRs ρ (l.drop n) (us.drop n)
 | [],_,n,h=>by grind[VRs]
 | _ :: _,_,0,h=>by grind
 | _ :: _,_,n+1,⟨u,us',e,r,q⟩=>by subst e;simpa using VRs.drop n q
theorem VRs.lits {ρ:Rn} : ∀ (us:List Value),VRs ρ (us.map .lit) us
 | []=>rfl
 | u :: us=>⟨u,us,rfl,rfl,VRs.lits us⟩
theorem VRs.of_get {ρ:Rn} : ∀ {l:List AV} {us:List Value},us.length=l.length->(∀ (i:Nat) (v:AV),l[i]?=some v->∃ u,us[i]?=some u/\VR ρ v u)->VRs ρ l us
 | [],[],_,_=>rfl
 | [],_ :: _,h,_=>by grind
 | _ :: _,[],h,_=>by grind
 | v :: l,u :: us,h,k=>by
  refine⟨u,us,rfl,?_,VRs.of_get (by grind) fun i v' hi=>?_⟩
  ·obtain⟨w,hw,hv⟩:=k 0 v rfl;grind
  ·simpa using k (i+1) v' (by grind)
theorem b5a {ρ:Rn} : ∀ {l:List AV} {vs:List Value} {us:List Value},litAll l=some vs->VRs ρ l us->us=vs
 | [],vs,us,h,k=>by cases h;exact k
 | v :: l,vs,us,h,⟨u,us',e,r,q⟩=>by
  subst e
  cases v with
  | lit x =>
   simp only[litAll] at h;split at h
   ·rename_i ws hw;cases h;cases r;rw[b5a hw q]
   grind
  | _=>simp[litAll] at h
theorem VR.cells {ρ:Rn} {v:AV} {u:Value} (h:VR ρ v u) : VRs ρ (cellsOf v) u.cells.toList:=by
 cases v with
 | lit x =>
  cases h;cases u<;>first|exact⟨_,_,rfl,rfl,rfl⟩|exact VRs.lits _
 | agg l=>obtain⟨cs,e,r⟩:=h;subst e;exact r
 | ptr a off=>obtain⟨b,o,k,e,r⟩:=h;subst r;exact⟨_,_,rfl,⟨b,o,k,e,rfl⟩,rfl⟩
 | sl a off n c=>obtain⟨b,o,k,e,e2,r⟩:=h;subst r;exact⟨_,_,rfl,⟨b,o,k,e,e2,rfl⟩,rfl⟩
 | slq a off n c=>obtain⟨b,o,k,e,e2,r⟩:=h;subst r;exact⟨_,_,rfl,⟨b,o,k,e,e2,rfl⟩,rfl⟩
 | es=>obtain⟨b,o,e⟩:=h;subst e;exact⟨_,_,rfl,⟨b,o,rfl⟩,rfl⟩
 | map a=>obtain⟨b,o,k,e,r⟩:=h;subst r;exact⟨_,_,rfl,⟨b,o,k,e,rfl⟩,rfl⟩
 | func fn f c=>obtain⟨f',c',e,r,q⟩:=h;subst e;exact⟨_,_,rfl,⟨f',c',rfl,r,q⟩,rfl⟩
 | iface t w=>obtain⟨u',e,r⟩:=h;subst e;exact⟨_,_,rfl,⟨u',rfl,r⟩,rfl⟩
 | tup l=>obtain⟨cs,e,r⟩:=h;subst e;exact⟨_,_,rfl,⟨cs,rfl,r⟩,rfl⟩
theorem c8y {ρ:Rn} {v:AV} {u:Value} (h:VR ρ v u) (k:oneC v=true) : u.oneCell=true:=by
 cases v with
 | lit x=>cases h;cases u<;>first|rfl|cases k
 | agg l=>cases k
 | ptr a off=>obtain⟨b,o,k,e,r⟩:=h;subst r;rfl
 | sl a off n c=>obtain⟨b,o,k,e,e2,r⟩:=h;subst r;rfl
 | slq a off n c=>obtain⟨b,o,k,e,e2,r⟩:=h;subst r;rfl
 | es=>obtain⟨b,o,e⟩:=h;subst e;rfl
 | map a=>obtain⟨b,o,k,e,r⟩:=h;subst r;rfl
 | func fn f c=>obtain⟨f',c',e,r,q⟩:=h;subst e;rfl
 | iface t w=>obtain⟨u',e,r⟩:=h;subst e;rfl
 | tup l=>cases k
def ER (ρ:Rn) : List (AV×AV×Nat)->List MapEntry->Prop
 | [],es=>es=[]
 | (k,v,b) :: l,es=>∃ e es',es=e :: es'/\VR ρ k e.key/\VR ρ v e.val/\e.born=b/\ER ρ l es'
theorem ER.mono {ρ ρ' : Rn} (h:Sub ρ ρ') : ∀ {l:List (AV×AV×Nat)} {es:List MapEntry},ER ρ l es->ER ρ' l es
 | [],_,r=>r
 | _ :: _,_,⟨e,es',q,r,s,t,z⟩=>⟨e,es',q,r.mono h,s.mono h,t,ER.mono h z⟩
def BR (B:Nat) (ρ:Rn) : Blk->Nat->Nat->Nat->World->Prop
 | .cells l own z,b,o,k,w=>∃ c e fz,w.heap[b]?=some (.cells c e fz)/\(∀ (i:Nat) (v:AV),l[i]?=some v->∃ u,c[o+i]?=some u/\VR ρ v u) /\
   (own=true->B<=b/\(∀ j,j<c.size->¬(fz.1<=j/\j<fz.2))/\o+k*z<=c.size/\(z=0\/l.length<=k*z))
 | .map es clock,b,_,_,w=>∃ es',w.heap[b]?=some (.map es' clock)/\ER ρ es es'.toList/\B<=b
 | .siter s pos,b,o,_,w=>w.heap[b]?=some (.stringIter s pos)/\B<=b/\o=0
 | .typ T l ex,b,o,k,w=>o=0/\B<=b/\∃ c,w.heap[b]?=some (.cells c T (0,0))/\(∀ (i:Nat) (v:AV),l[i]?=some v->∃ u,c[i]?=some u/\VR ρ v u)/\(ex=true->c.size=l.length)/\(ex=false->c.size=k/\l.length<=k)
def Blk.own:Blk->Bool
 | .cells _ own _=>own
 | _=>true
theorem BR.lt {B:Nat} {ρ:Rn} {x:Blk} {b o k:Nat} {w:World} (h:BR B ρ x b o k w) : b < w.heap.size:=by
 cases x with
 | cells l own z=>obtain ⟨c,e,fz,hb,_⟩:=h; grind
 | map es clock=>obtain ⟨es',hb,_⟩:=h; grind
 | siter s pos=>exact (g2y.1 h.1).1
 | typ T l ex=>obtain ⟨_,_,c,hb,_⟩:=h; grind
theorem BR.mono {B:Nat} {ρ ρ' : Rn} {x:Blk} {b o k:Nat} {w w' : World} (h:BR B ρ x b o k w) (hs:Sub ρ ρ') (hw:w'.heap[b]?=w.heap[b]?) : BR B ρ' x b o k w':=by
 cases x with
 | cells l own z =>
  obtain⟨c,e,fz,hb,hc,ho⟩:=h;exact⟨c,e,fz,hw.trans hb,fun i v hi=>let ⟨u,hu,hv⟩:=hc i v hi;⟨u,hu,hv.mono hs⟩,ho⟩
 | map es clock=>obtain⟨es',hb,he,hB⟩:=h;exact⟨es',hw.trans hb,he.mono hs,hB⟩
 | siter s pos=>exact⟨hw.trans h.1,h.2⟩
 | typ T l ex =>
  obtain⟨h0,hB,c,hb,hc,h1,h2⟩:=h;exact⟨h0,hB,c,hw.trans hb,fun i v hi=>let ⟨u,hu,hv⟩:=hc i v hi;⟨u,hu,hv.mono hs⟩,h1,h2⟩
theorem BR.above {B:Nat} {ρ:Rn} {x:Blk} {b o k:Nat} {w:World} (h:BR B ρ x b o k w) (ho:x.own=true) : B<=b:=by
 cases x with
 | cells l own z=>obtain⟨c,e,fz,hb,hc,hh⟩:=h;exact(hh ho).1
 | map es clock=>obtain⟨es',hb,he,hB⟩:=h;grind
 | siter s pos=>exact h.2.1
 | typ T l ex=>exact h.2.1
structure Sim (B G:Nat) (ρ:Rn) (H:Mem) (w:World) : Prop where
 blk:∀ a x,H.get a=some x->ρ a=none\/∃ b o k,ρ a=some (b,o,k)/\BR B ρ x b o k w
 inj:∀ a a' x x' b o k o' k',H.get a=some x->H.get a'=some x'->a≠a'->x.own=true->ρ a=some (b,o,k)->ρ a'=some (b,o',k')->False
 fresh:∀ a,H.next<=a->ρ a=none
 glob:∀ a x,a<G->H.get a=some x->ρ a=some (a,0,0)
 names:G<=H.next
 base:B<=w.heap.size
def isMk:Obj->Bool
 | .loop _=>true
 | .deferred _=>true
 | _=>false
def KD (w w' : World) : Prop:=(∀ (k:Nat) (o:Obj),w.heap[k]?=some o->isMk o=true->w'.heap[k]?=some o)/\w.drawn<=w'.drawn
theorem KD.refl (w:World) : KD w w:=⟨fun _ _ h _=>h,Dp _⟩
theorem KD.trans {a b c:World} (h:KD a b) (k:KD b c) : KD a c:=⟨fun i o hi ho=>k.1 i o (h.1 i o hi ho) ho,Ec h.2 k.2⟩
theorem KD.heap {w w' : World} (h:w'.heap=w.heap) (hd:w.drawn≤w'.drawn:=by first | exact Dp _ | exact Dy _ | assumption | omega) : KD w w':=⟨fun _ _ hk _=>by grind,hd⟩
theorem KD.push {w w' : World} {ob:Obj} (h:w'.heap=w.heap.push ob) (hd:w.drawn≤w'.drawn:=by first | exact Dp _ | exact Dy _ | assumption | omega) : KD w w':=⟨fun k o hk _=>by
 grind,hd⟩
theorem KD.turn {w w' : World} {b:Nat} {x:Obj} (hb:w.heap[b]?=some x) (hx:isMk x=false) (h:∀ j,j≠b→w'.heap[j]?=w.heap[j]?) (hd:w.drawn≤w'.drawn:=by first | exact Dp _ | exact Dy _ | assumption | omega) : KD w w':=⟨fun k o hk ho=>by
 grind,hd⟩
structure Ext (B n:Nat) (ρ:Rn) (w:World) (ρ' : Rn) (w' : World) : Prop where
 same:∀ a,a<n->ρ' a=ρ a
 keeps:KD w w'
 below:Below B w w'
theorem Ext.refl (B n:Nat) (ρ:Rn) (w:World) : Ext B n ρ w ρ w:=⟨fun _ _=>rfl,KD.refl w,Below.refl B w⟩
theorem Ext.trans {B n n' : Nat} {ρ ρ' ρ'' : Rn} {w w' w'' : World} (h:Ext B n ρ w ρ' w') (k:Ext B n' ρ' w' ρ'' w'') (hn:n≤n') : Ext B n ρ w ρ'' w'' :=
 ⟨fun a ha=>(k.same a (Et ha hn)).trans (h.same a ha),h.keeps.trans k.keeps,h.below.trans k.below⟩
theorem Ext.sub {B G:Nat} {ρ ρ' : Rn} {H:Mem} {w0 w w' : World} (h:Ext B H.next ρ w ρ' w') (s:Sim B G ρ H w0) : Sub ρ ρ':=by
 intro a x hx
 rw[h.same a ?_];· grind
 rcases Nat.lt_or_ge a H.next with k|k
 ·exact k
 ·rw[s.fresh a k] at hx;grind
end Go.Ai
end
section
namespace Go.Ai
open Go.RowKit (Below)
def upd (ρ:Rn) (n:Nat) (x:Nat×Nat×Nat) : Rn:=fun a=>if a=n then some x else ρ a
theorem a0l (ρ:Rn) (n:Nat) (x:Nat×Nat×Nat) : upd ρ n x n=some x:=by simp[upd]
theorem a0g (ρ:Rn) {n a:Nat} (x:Nat×Nat×Nat) (h:a≠n) : upd ρ n x a=ρ a:=by grind[upd]
theorem a6j {ρ:Rn} {n:Nat} {x:Nat×Nat×Nat} (h:ρ n=none) : Sub ρ (upd ρ n x):=by
 intro a y hy;grind[a0g]
variable {B G:Nat} {ρ:Rn} {H:Mem} {w w' : World}
theorem Sim.at (s:Sim B G ρ H w) {a:Nat} {x:Blk} {b o k:Nat} (h:H.get a=some x) (hr:ρ a=some (b,o,k)) : BR B ρ x b o k w:=by
 rcases s.blk a x h with hn|⟨b',o',k',hr',hb⟩
 all_goals grind
theorem Sim.none (s:Sim B G ρ H w) : ρ H.next=none:=s.fresh _ (Dp _)
theorem Sim.lt_next (s:Sim B G ρ H w) {a:Nat} {x:Nat×Nat×Nat} (h:ρ a=some x) : a<H.next:=by
 rcases g3a a H.next with k|k
 ·exact k
 ·rw[s.fresh a k] at h;cases h
theorem Sim.heap (s:Sim B G ρ H w) (h:w'.heap=w.heap) : Sim B G ρ H w' :=
 {blk:=fun a x hx=>(s.blk a x hx).imp id fun⟨b,o,k,hr,hb⟩=>⟨b,o,k,hr,hb.mono (Sub.refl _) (by rw[h])⟩
  inj:=s.inj,fresh:=s.fresh,glob:=s.glob,names:=s.names,base:=by rw[h];exact s.base }
theorem Sim.other (s:Sim B G ρ H w) (hsz:w.heap.size<=w'.heap.size) (hh:∀ a x b o k,H.get a=some x->ρ a=some (b,o,k)->w'.heap[b]?=w.heap[b]?) : Sim B G ρ H w' :=
 {blk:=fun a x hx=>(s.blk a x hx).imp id fun⟨b,o,k,hr,hb⟩=>⟨b,o,k,hr,hb.mono (Sub.refl _) (hh a x b o k hx hr)⟩
  inj:=s.inj,fresh:=s.fresh,glob:=s.glob,names:=s.names,base:=Ec s.base hsz }
theorem Sim.rm (s:Sim B G ρ H w) (a:Nat) : Sim B G ρ (H.rm a) w :=
 {blk:=fun j x hx=>s.blk j x (Mem.get_rm hx).2
  inj:=fun j j' x x' b o k o' k' h h' hne ho hr hr'=>s.inj j j' x x' b o k o' k' (Mem.get_rm h).2 (Mem.get_rm h').2 hne ho hr hr'
  fresh:=fun j hj=>s.fresh j hj
  glob:=fun j x hj hx=>s.glob j x hj (Mem.get_rm hx).2
  names:=s.names,base:=s.base }
theorem Sim.add (s:Sim B G ρ H w) {x:Blk} {b o k:Nat} (hsz:w.heap.size<=w'.heap.size)
  (hh:∀ a x b' o' k',H.get a=some x->ρ a=some (b',o',k')->b'≠b/\w'.heap[b']?=w.heap[b']?)
  (hx:BR B (upd ρ H.next (b,o,k)) x b o k w') : Sim B G (upd ρ H.next (b,o,k)) (H.add x) w':=by
 have hsub:=a6j (x:=(b,o,k)) s.none;refine⟨?_,?_,?_,?_,?_,Ec s.base hsz⟩
 ·intro a y hy;rcases Mem.get_add hy with⟨rfl,rfl⟩|⟨hne,hy⟩
  ·grind[a0l]
  ·rw[a0g _ _ hne];rcases s.blk a y hy with hn|⟨b',o',k',hr,hb⟩
   ·grind
   ·exact .inr ⟨b',o',k',hr,hb.mono hsub (hh a y b' o' k' hy hr).2⟩
 ·intro a a' y y' b1 o1 k1 o2 k2 h h' hne ho hr hr';rcases Mem.get_add h with⟨e1,e2⟩|⟨hn1,g⟩
  ·rcases Mem.get_add h' with⟨e3,e4⟩|⟨hn2,g'⟩
   ·grind
   ·rw[e1,a0l] at hr;cases hr;rw[a0g _ _ hn2] at hr';grind
  ·rw[a0g _ _ hn1] at hr;rcases Mem.get_add h' with⟨e3,e4⟩|⟨hn2,g'⟩
   ·rw[e3,a0l] at hr';grind
   ·rw[a0g _ _ hn2] at hr';exact s.inj a a' y y' b1 o1 k1 o2 k2 g g' hne ho hr hr'
 ·intro a ha;have h1:H.next+1<=a:=ha;rw[a0g _ _ (by omega)];exact s.fresh a (by omega)
 ·intro a y ha hy;have hlt:=s.names;rcases Mem.get_add hy with⟨rfl,rfl⟩|⟨hne,hy⟩
  ·omega
  ·rw[a0g _ _ hne];exact s.glob a y ha hy
 ·exact g3t s.names
theorem Sim.set (s:Sim B G ρ H w) {a:Nat} {x y:Blk} {b o k:Nat} (ha:H.get a=some x) (hr:ρ a=some (b,o,k)) (hown:x.own=true) (hy' : y.own=true)
  (hsz:w.heap.size<=w'.heap.size) (hh:∀ b',b'≠b->b' < w.heap.size->w'.heap[b']?=w.heap[b']?) (hy:BR B ρ y b o k w') : Sim B G ρ (H.upd a y) w':=by
 refine⟨?_,?_,fun j hj=>s.fresh j hj,?_,s.names,Ec s.base hsz⟩
 ·intro j z hz;rcases Mem.get_upd hz with⟨rfl,rfl⟩|⟨hne,hz⟩
  ·grind
  ·rcases s.blk j z hz with hn|⟨b',o',k',hr',hb⟩
   ·grind
   ·refine .inr ⟨b',o',k',hr',hb.mono (Sub.refl _) (hh b' ?_ hb.lt)⟩;rintro rfl;exact s.inj a j x z b' o k o' k' ha hz (Ne.symm hne) hown hr hr'
 ·intro j j' z z' b1 o1 k1 o2 k2 h h' hne ho hr1 hr2;rcases Mem.get_upd h with⟨e1,e2⟩|⟨hn1,g⟩
  ·rcases Mem.get_upd h' with⟨e3,e4⟩|⟨hn2,g'⟩
   ·grind
   ·subst e1;exact s.inj j j' x z' b1 o1 k1 o2 k2 ha g' hne hown hr1 hr2
  ·rcases Mem.get_upd h' with⟨e3,e4⟩|⟨hn2,g'⟩
   ·subst e3;exact s.inj j' j x z b1 o2 k2 o1 k1 ha g (Ne.symm hne) hown hr2 hr1
   ·exact s.inj j j' z z' b1 o1 k1 o2 k2 g g' hne ho hr1 hr2
 ·intro j z hj hz;rcases Mem.get_upd hz with⟨rfl,rfl⟩|⟨hne,hz⟩
  ·exact s.glob j x hj ha
  ·exact s.glob j z hj hz
theorem Sim.alloc (s:Sim B G ρ H w) (x:Blk) (ob:Obj) (k:Nat) (w' : World) (hw:w'.heap=w.heap.push ob)
  (hx:BR B (upd ρ H.next (w.heap.size,0,k)) x w.heap.size 0 k w') : Sim B G (upd ρ H.next (w.heap.size,0,k)) (H.add x) w':=by
 refine s.add (by grind) ?_ hx;intro a y b' o' k' hy hr;have hlt:=(s.at hy hr).lt;grind
theorem c8z (w w' : World) (ob:Obj) (hw:w'.heap=w.heap.push ob) : w'.heap[w.heap.size]?=some ob:=by grind
theorem Ext.alloc (ρ:Rn) (n:Nat) (x:Nat×Nat×Nat) (w w' : World) (ob:Obj) (hw:w'.heap=w.heap.push ob) (hos:w'.os=w.os) (ht:w'.tape=w.tape) (ho:w'.output=w.output)
  (hB:B<=w.heap.size) (hd:w.drawn<=w'.drawn:=by first|exact Dp _|exact Dy _|assumption|omega) : Ext B n ρ w (upd ρ n x) w' :=
 ⟨fun a ha=>a0g _ _ (by omega),KD.push hw,hos,ht,ho,by grind,fun k hk=>by grind⟩
end Go.Ai
end
section
namespace Go.Ai
open Go.RowKit (Below)
variable {B G:Nat} {ρ:Rn} {H:Mem} {w:World} {P:Program}
variable {t:TypeId} {b off o k:Nat} {i:TypeInfo}
theorem a2q (b x n:Nat) : Addr.add ⟨b,x,none⟩ n=⟨b,x+n,none⟩:=by
 grind[Addr.add]
theorem c9a (v:Value) : v.oneCell'=v.oneCell:=by cases v<;>rfl
theorem b7s {c:Array Value} {e:TypeId} {fz:Nat×Nat} {u:Value} (h:w.heap[b]?=some (.cells c e fz)) (hu:c[off]?=some u) : w.cell? ⟨b,off,none⟩=some u:=by
 grind[World.cell?]
theorem c9b {c:Array Value} {e:TypeId} {fz:Nat×Nat} (h:w.heap[b]?=some (.cells c e fz)) (hu:¬(fz.1<=off/\off<fz.2)) : w.frozen? ⟨b,off,none⟩=false:=by
 grind[World.frozen?]
theorem a3j (h:P.info? t=some i) (w:World) : (typeInfo t).run P w=.ok i w:=by
 simp[typeInfo,h]
theorem Cq (h:P.info? t=some i) (w:World) : (sizeOf t).run P w=.ok i.size w:=by
 simp[sizeOf,a3j h]
theorem Au {d:TypeDesc} (h:P.underlying t=some d) (w:World) : (underlying t).run P w=.ok d w:=run_underlying h w
theorem a2f {z:Value} (h:P.info? t=some i) (hz:i.zero=some z) (w:World) : (zeroValue t).run P w=.ok z w:=by
 simp_all[a3j,zeroValue]
theorem b5b {b:Bool} {n:Nat} (h:Cc P t=some (b,n)) (w:World) : (isAgg t).run P w=.ok b w/\(sizeOf t).run P w=.ok n w:=by
 unfold Cc at h;split at h
 ·rename_i d i hd hi;cases h
  (split<;>simp_all[Cq,Au,isAgg])
 grind
theorem BR.sub {l:List AV} {own:Bool} {z n:Nat} (h:BR B ρ (.cells l own z) b o k w) (hn:off+n<=l.length) :
  ∃ us:List Value,us.length=n/\VRs ρ ((l.drop off).take n) us/\∀ j v,us[j]?=some v->w.cell? ⟨b,o+off+j,none⟩=some v:=by
 obtain⟨c,e,fz,hb,hc,_⟩:=h;have hlen:((c.toList.drop (o+off)).take n).length=n:=by
  rw[Dw,g5h];rcases Nat.eq_zero_or_pos n with h0|h0
  ·omega
  ·obtain⟨u,hu,_⟩:=hc (off+n-1) (l[off+n-1]'(by omega)) (by grind);grind
 refine⟨(c.toList.drop (o+off)).take n,hlen,VRs.of_get ?_ ?_,?_⟩
 ·grind
 ·grind
 grind[b7s]
theorem b7t {x:Nat} (us:List Value) (h:∀ j v,us[j]?=some v->w.cell? ⟨b,x+j,none⟩=some v) : (loadCells ⟨b,x,none⟩ us.length).run P w=.ok us.toArray w :=
 run_loadCells_list w ⟨b,x,none⟩ us fun j v hj=>by grind[a2q]
theorem c9c {x:Blk} {v:AV} (h:Bd (Cc P t) (some x) off=some v) (hb:BR B ρ x b o k w) :
  ∃ r,(Instr.loadAt t (.pointer (some ⟨b,o+off,none⟩))).run P w=.ok r w/\VR ρ v r:=by
 unfold Bd at h;split at h
 ·rename_i l own z size hx ht;cases hx;obtain⟨ha,hs⟩:=b5b ht w;rw[a6i] at h;split at h
  ·rename_i hle;cases h;obtain⟨us,hlen,hus,hcell⟩:=hb.sub hle;subst hlen;refine⟨.agg us.toArray,?_,⟨_,rfl,by grind⟩⟩;simp_all[b7t,loadVar,Instr.sureAddr,Instr.loadAt]
  grind
 ·rename_i l own z size hx ht;cases hx;obtain⟨ha,hs⟩:=b5b ht w;rw[b1e] at h;obtain⟨c,e,fz,hbb,hc,_⟩:=hb;obtain⟨u,hu,hv⟩:=hc _ _ h;refine⟨u,?_,hv⟩;simp[Instr.loadAt,Instr.sureAddr,loadVar,ha,b7s hbb hu]
 grind
theorem c9d {t:TypeId} {p v:AV} {u:Value} (s:Sim B G ρ H w) (hG:G=P.globals.size) (h:load P H t p=some v) (hp:VR ρ p u) :
  ∃ r,(Instr.loadAt t u).run P w=.ok r w/\VR ρ v r:=by
 unfold load at h;split at h
 ·rename_i a off;obtain⟨b,o,k,hr,rfl⟩:=hp
  cases hx:H.get a with
  | none=>grind[Bd]
  | some x=>rw[hx] at h;exact c9c h (s.at hx hr)
 ·rename_i g off;cases hp;split at h
  ·rename_i hlt
   cases hx:H.get g with
   | none=>grind[Bd]
   | some x =>
    rw[hx] at h;have h9:g+1<=P.globals.size:=by grind[Nat.ble_eq,Nat.blt]
    have hr:=s.glob g x (by grind) hx;simpa using c9c h (s.at hx hr)
  grind
 grind
theorem c1z (b x:Nat) (e:TypeId) (fz:Nat×Nat) : ∀ (vs:List Value) (i:Nat) (c:Array Value) (w:World),w.heap[b]?=some (.cells c e fz) ->
  (∀ j,j<c.size->¬(fz.1<=j/\j<fz.2))->x+i+vs.length<=c.size->(∀ v∈vs,v.oneCell=true) ->
  ∃ w' c',(storeCells ⟨b,x,none⟩ vs i).run P w=.ok () w'/\w'.heap[b]?=some (.cells c' e fz)/\c'.size=c.size /\
   (∀ j,c'[j]?=if x+i<=j/\j<x+i+vs.length then vs[j-(x+i)]? else c[j]?) /\
   (∀ b',b'≠b->w'.heap[b']?=w.heap[b']?)/\(w'.heap.size=w.heap.size/\w'.drawn=w.drawn)/\w'.os=w.os/\w'.tape=w.tape/\w'.output=w.output
 | [],i,c,w,hb,hf,hl,ho=>⟨w,c,rfl,hb,rfl,fun j=>by grind,fun _ _=>rfl,⟨rfl,rfl⟩,rfl,rfl,rfl⟩
 | v :: vs,i,c,w,hb,hf,hl,ho=>by
  simp only[Ek] at hl;have hlt:x+i<c.size:=by omega
  have hcell:w.cell? ⟨b,x+i,none⟩=some c[x+i]:=b7s hb (by grind);have hfr:w.frozen? ⟨b,x+i,none⟩=false:=c9b hb (hf _ hlt);have h1:(w.setCell ⟨b,x+i,none⟩ v).heap[b]?=some (.cells (c.setIfInBounds (x+i) v) e fz):=by
   grind[World.setCell]
  obtain⟨w',c',hr,hb',hsz,hc',hoth,hs,h2,h3,h4⟩:=c1z b x e fz vs (i+1) (c.setIfInBounds (x+i) v) (w.setCell ⟨b,x+i,none⟩ v) h1 (by grind) (by grind) (fun u hu=>ho u (by grind));refine⟨w',c',?_,hb',by grind,?_,?_,?_,h2,h3,h4⟩
  ·simp_all[storeCells,a2q,c9a,run_store]
  ·intro j;rw[hc' j];grind
  ·intro b' hb2;rw[hoth b' hb2];simp[World.setCell,Array.getElem?_modify,Ne.symm hb2]
  simp_all
theorem c9e {a:Nat} {l new:List AV} {z:Nat} {vs:List Value} (s:Sim B G ρ H w) (ha:H.get a=some (.cells l true z)) (hr:ρ a=some (b,o,k))
  (hle:off+new.length<=l.length) (hv:VRs ρ new vs) (ho:∀ v∈vs,v.oneCell=true) :
  ∃ w',(storeCells ⟨b,o+off,none⟩ vs).run P w=.ok () w'/\Ext B H.next ρ w ρ w'/\Sim B G ρ (H.upd a (.cells (l.take off++new++l.drop (off+new.length)) true z)) w':=by
 have hBR:=s.at ha hr;obtain⟨c,e,fz,hb,hc,hown⟩:=hBR;obtain⟨hB,hf,hk,hz⟩:=hown rfl;have hlen:=hv.length;have hsz:o+off+vs.length<=c.size:=by
  rcases Nat.eq_zero_or_pos l.length with h0|h0
  ·
   grind
  ·obtain⟨u,hu,_⟩:=hc (l.length-1) (l[l.length-1]'(by omega)) (by grind);grind
 obtain⟨w',c',hrun,hb',hcs,hcells,hoth,hws,h2,h3,h4⟩:=c1z (P:=P) b (o+off) e fz vs 0 c w hb hf (by omega) ho;refine⟨w',hrun,⟨fun _ _=>rfl,KD.turn hb rfl (fun q hq=>hoth q hq),h2,h3,h4,by omega,fun q hq=>hoth q (by omega)⟩,?_⟩;refine s.set ha hr rfl rfl (by omega) (fun b' hb2 _=>hoth b' hb2) ⟨c',e,fz,hb',?_,fun _=>⟨hB,by grind,by grind,?_⟩⟩
 rotate_left
 ·grind
 intro i v hi;rw[hcells];by_cases h1:i<off
 ·grind
 ·by_cases h2:i<off+new.length
  ·rw[if_pos (by omega)];rw[Er,Eu (by grind),Ew (by grind)] at hi;have e1:min off l.length=off:=by omega
   simp only[Dw,e1] at hi;obtain⟨u,hu,huv⟩:=hv.get _ hi;grind
  grind
end Go.Ai
end
section
namespace Go.Ai
open Go.RowKit (Below)
variable {B G:Nat} {ρ:Rn} {H:Mem} {w:World} {P:Program}
variable {x:Operand} {t:TypeId}
def RS (B G:Nat) (P:Program) (ρ:Rn) (H:Mem) (w:World) (r:R) (m:Sem Next) : Prop :=
 match r with
 | .val v H'=>∃ ρ' u w',m.run P w=.ok (.value u) w'/\Ext B H.next ρ w ρ' w'/\Sim B G ρ' H' w'/\VR ρ' v u/\H.next<=H'.next
 | .skip H'=>∃ ρ' w',m.run P w=.ok .skip w'/\Ext B H.next ρ w ρ' w'/\Sim B G ρ' H' w'/\H.next<=H'.next
 | .enter f args H'=>∃ us:Array Value,m.run P w=.ok (.enter f us) w/\VRs ρ args us.toList/\H'=H
 | .dfr fn cap args H'=>∃ cs as:Array Value,m.run P w=.ok (.defer { target:=.fn fn cs,args:=as }) w/\VRs ρ cap cs.toList/\VRs ρ args as.toList/\H'=H
 | .panic v H'=>∃ u,m.run P w=.halt (.panic u) w/\VR ρ v u/\H'=H
 | .recover=>m.run P w=.ok .recover w
 | .bad=>True
abbrev EvR (ρ:Rn) (ev:Ev) (e:Operand->Value) : Prop:=∀ x v,ev x=some v->VR ρ v (e x)
theorem RS.quiet {v:AV} {u:Value} {m:Sem Next} (s:Sim B G ρ H w) (h:m.run P w=.ok (.value u) w) (hv:VR ρ v u) : RS B G P ρ H w (.val v H) m :=
 ⟨ρ,u,w,h,Ext.refl _ _ _ _,s,hv,Dp _⟩
theorem RS.ofOpt {r:Option AV} {m:Sem Next} (s:Sim B G ρ H w) (h:∀ v,r=some v->∃ u,m.run P w=.ok (.value u) w/\VR ρ v u) : RS B G P ρ H w (ofOpt H r) m:=by
 cases r with
 | none=>trivial
 | some v=>obtain⟨u,hu,hv⟩:=h v rfl;exact RS.quiet s hu hv
theorem b5c {α:Type} : ∀ {m:Sem α} {a:α},Ao P m=some a->∀ w,m.run P w=.ok a w:=by
 intro m
 induction m with
 | pure b=>simp[Ao]
 | program k ih=>intro a h w;simp only[Ao] at h;exact ih _ h w
 | mark m k ih=>assumption
 | choose q k ih =>
  simp_all[Ao,Sem.run]
 | _=>grind[Ao]
theorem c2a {v:AV} {x u:Value} (h:toLit v=some x) (hv:VR ρ v u) : u=x:=by
 cases v with
 | lit y=>cases h;exact hv
 | agg l =>
  obtain⟨cs,e,r⟩:=hv;simp only[toLit] at h;split at h
  ·rename_i vs hvs;cases h;subst e;rw[<- b5a hvs r]
  grind
 | tup l =>
  obtain⟨cs,e,r⟩:=hv;simp only[toLit] at h;split at h
  ·rename_i vs hvs;cases h;subst e;rw[<- b5a hvs r]
  grind
 | iface t y =>
  obtain⟨u',e,r⟩:=hv
  cases y with
  | lit z=>cases h;cases r;exact e
  | _=>cases h
 | func fn f c =>
  obtain⟨f',c',e,r,q⟩:=hv;simp only[toLit] at h;split at h
  ·rename_i x1 x2 h1 h2;cases h;subst e;rw[<- b5a h1 r,<- b5a h2 q]
  grind
 | _=>cases h
theorem a9c {ev:Ev} {e:Operand->Value} {o:Oper} {v:AV} (hs:∀ cs b,o.op≠.select cs b) (he:EvR ρ ev e) (h:Ba P ev o=some v) :
  ∃ u,(execOp e o).run P w=.ok (.value u) w/\VR ρ v u:=by
 unfold Ba at h;dsimp only at h;split at h
 ·rename_i hall;split at h
  ·rename_i u hp;cases h;refine⟨u,?_,rfl⟩;grind[execOp_congr,b5c,c2a]
  grind
 grind
section one
variable {ev:Ev} {e:Operand→Value} {o:Oper} (s:Sim B G ρ H w) (hG:G=P.globals.size) (he:EvR ρ ev e)
include s he
theorem c9f (h:execOp e o=pure (.value (e x))) : RS B G P ρ H w (a1m H (ev x)) (execOp e o):=by
 unfold a1m;split
 ·simp_all[RS.quiet]
 ·trivial
theorem e0p {c a b:Operand} (h:o.op=.pick c a b) : RS B G P ρ H w (a3u H (ev c) (ev a) (ev b)) (execOp e o):=by
 unfold a3u;split
 ·rename_i hc;have:=he _ _ hc;simp_all[RS.ofOpt,VR,asBool,execOp]
 ·rename_i hc;have:=he _ _ hc;simp_all[RS.ofOpt,VR,asBool,execOp]
 ·trivial
omit he in
theorem b7u {l:List AV} {cells:Array Value} {elem:TypeId} {m:Sem Next} {v:AV} {u:Value} (z k:Nat) (hk:k*z<=cells.size) (hz:z=0\/l.length<=k*z) (hc:VRs ρ l cells.toList)
  (hrun:m.run P w=.ok (.value u) { w with heap:=w.heap.push (.cells cells elem) }) (hv:VR (upd ρ H.next (w.heap.size,0,k)) v u) :
  RS B G P ρ H w (.val v (H.add (.cells l true z))) m:=by
 refine⟨upd ρ H.next (w.heap.size,0,k),u,_,hrun,Ext.alloc ρ _ _ w _ _ rfl rfl rfl rfl s.base,?_,hv,Dy _⟩;refine s.alloc _ _ k _ rfl ⟨cells,elem,(0,0),by simp,?_,fun _=>⟨s.base,by simp,by grind,hz⟩⟩;intro i v hi;obtain⟨u,hu,hv⟩:=hc.get i hi;exact⟨u,by grind,hv.mono (a6j s.none)⟩
theorem e0q (h:o.op=.box t x) : RS B G P ρ H w (a4f H (ev x)) (execOp e o):=by
 unfold a4f;split
 ·rename_i v hv;unfold a0k;rw[Mem.newK_eq];refine b7u s (cells:=(e x).cells) (elem:=t) 0 0 (by simp) (.inl rfl) (he _ _ hv).cells (u:=.pointer (some ⟨w.heap.size,0,none⟩)) ?_ ⟨_,_,_,a0l _ _ _,rfl⟩;simp[execOp,h,Instr.box,newVar,newRow]
 ·trivial
omit he in
theorem e0r {t:TypeId} (h:o.op=.alloc t) : RS B G P ρ H w (a6c P H t) (execOp e o):=by
 unfold a6c;split
 ·rename_i l hl;unfold a0a at hl;split at hl
  ·rename_i i hi;split at hl
   ·rename_i zv hz;cases hl;unfold a0k;rw[Mem.newK_eq];refine b7u s (cells:=zv.cells) (elem:=t) 0 0 (by simp) (.inl rfl) (VRs.lits _) (u:=.pointer (some ⟨w.heap.size,0,none⟩)) ?_ ⟨_,_,_,a0l _ _ _,rfl⟩;simp_all[a2f,newRow,newVar,Instr.alloc,execOp]
   grind
  grind
 ·trivial
include hG in
theorem e0s {t:TypeId} {x:Operand} (h:o.op=.load t x) : RS B G P ρ H w (a2n P H t (ev x)) (execOp e o):=by
 unfold a2n;split
 ·rename_i p hp;refine RS.ofOpt s fun v hv=>?_;obtain⟨r,hr,hvr⟩:=c9d s hG hv (he _ _ hp);simp_all[execOp]
 ·trivial
omit s he in
theorem allOne_VRs:∀ {l:List AV} {us:List Value},VRs ρ l us->allOne l=true->∀ v∈us,v.oneCell=true
 | [],_,h,_=>by cases h;simp
 | v :: l,_,⟨u,us',e,r,q⟩,h=>by
  subst e;simp only[allOne] at h;split at h
  ·rename_i h1;intro x hx;rcases Dz.1 hx with rfl|hx
   ·exact c8y r h1
   ·exact allOne_VRs q h x hx
  grind
theorem e0t {a:Operand} (h:o.op=.store t a x) : RS B G P ρ H w (a5e P H t (ev a) (ev x)) (execOp e o):=by
 unfold a5e;split
 ·rename_i p v hp hv;split
  ·rename_i H' hst;unfold store at hst;split at hst
   ·rename_i n off;split at hst
    ·rename_i l z bl size hb ht;split at hst
     ·rename_i hcond;rw[b3b] at hst;split at hst
      ·rename_i hle;rw[Mem.setK_eq] at hst;cases hst;simp only[Ds] at hcond;have hsz:len (cellsOf v)=size:=Eh hcond.1;rw[a0t] at hsz;obtain⟨b,q,k,hr,hu⟩:=he _ _ hp;have hcells:=(he _ _ hv).cells;obtain⟨w',hrun,hext,hsim⟩:=c9e (P:=P) s hb hr hle hcells (allOne_VRs hcells hcond.2);refine⟨ρ,w',?_,hext,hsim,Dp _⟩;have hlen:(e x).cells.size=size:=by have:=hcells.length;grind
       simp[execOp,h,Instr.storeAt,Instr.sureAddr,hu,storeVar,(b5b ht _).2,hlen,hrun]
      grind
     grind
    grind
   grind
  ·trivial
 ·trivial
theorem b1f (hs:∀ cs b,o.op≠.select cs b) : RS B G P ρ H w (ofOpt H (Ba P ev o)) (execOp e o) :=
 RS.ofOpt s fun _ hv=>a9c hs he hv
theorem e0u (h:o.op=.nilCheck x) : RS B G P ρ H w (a6d P H ev o (ev x)) (execOp e o):=by
 unfold a6d;split
 ·rename_i a off hv;obtain⟨b,q,k,hr,hu⟩:=he _ _ hv;exact RS.quiet s (u:=e x) (by simp_all[execOp]) ⟨b,q,k,hr,hu⟩
 ·rename_i f l r hv;obtain⟨f',c',hu,h1,h2⟩:=he _ _ hv;exact RS.quiet s (u:=e x) (by simp_all[execOp]) ⟨f',c',hu,h1,h2⟩
 ·rename_i t v hv;obtain⟨u',hu,h1⟩:=he _ _ hv;exact RS.quiet s (u:=e x) (by simp_all[execOp]) ⟨u',hu,h1⟩
 grind[b1f]
theorem e0v (h:o.op=.makeInterface t x) : RS B G P ρ H w (a7j P H t (ev x)) (execOp e o):=by
 unfold a7j;split
 ·trivial
 ·rename_i d v hni hd hv;refine RS.quiet s (u:=.iface t (e x)) ?_ ⟨_,rfl,he _ _ hv⟩;cases d<;>first|(simp[execOp,h,Instr.makeInterface,Au hd];done)|grind
 ·trivial
omit s in
theorem evals_VRs:∀ {l:List Operand} {vs:List AV},Bw ev l=some vs->VRs ρ vs (l.map e)
 | [],_,h=>by cases h;rfl
 | x :: l,vs,h=>by
  simp only[Bw] at h;split at h
  ·rename_i v hv;split at h
   ·rename_i ws hw;cases h;exact⟨_,_,rfl,he _ _ hv,evals_VRs hw⟩
   grind
  grind
theorem e0w {fn:Fn} {a c:Array Operand} (h:o.op=.makeFunc fn a c) : RS B G P ρ H w (a5f H fn (Bw ev a.toList) (Bw ev c.toList)) (execOp e o):=by
 unfold a5f;split
 ·rename_i x y hx hy;refine RS.quiet s (u:=.func fn (a.map e) (c.map e)) (by simp[execOp,h,Instr.makeFunc]) ⟨_,_,rfl,?_,?_⟩
  ·simpa using evals_VRs he hx
  ·simpa using evals_VRs he hy
 ·trivial
theorem e0x {i:Nat} (h:o.op=.extract x i) : RS B G P ρ H w (a5h H (ev x) i) (execOp e o):=by
 unfold a5h;split
 ·rename_i l hv;obtain⟨cs,hu,hr⟩:=he _ _ hv;refine RS.ofOpt s fun v hv=>?_;obtain⟨u,h1,h2⟩:=hr.get i hv;simp_all[Instr.extract,execOp]
 ·rename_i vs hv;have hu:=he _ _ hv;simp only[VR] at hu;split
  ·rename_i v h1;exact RS.quiet s (u:=v) (by simp_all[Instr.extract,execOp]) rfl
  ·trivial
 ·trivial
omit s in
theorem e0y {x:Operand} (h:o.op=.panic x) : RS B G P ρ H w (b4s H (ev x)) (execOp e o):=by
 unfold b4s;split
 ·rename_i t v hv;obtain⟨u',hu,h1⟩:=he _ _ hv;exact⟨e x,by simp_all[Instr.panic,execOp],⟨u',hu,h1⟩,rfl⟩
 ·rename_i t v hv;have hu:=he _ _ hv;simp only[VR] at hu;exact⟨e x,by simp_all[Instr.panic,execOp],by grind,rfl⟩
 ·trivial
end one
end Go.Ai
end
section
namespace Go.Ai
open Go.RowKit (Below)
variable {B G:Nat} {ρ:Rn} {H:Mem} {w:World} {P:Program}
section one
variable {ev:Ev} {e:Operand→Value} {o:Oper} (s:Sim B G ρ H w) (he:EvR ρ ev e)
variable {t:TypeId} {x:Operand}
theorem a7p {v:AV} {n:Nat} {u:Value} (h:natOf v=some n) (hv:VR ρ v u) : ∃ k,u=.int k n:=by
 unfold natOf at h;split at h
 ·cases h;cases hv;grind
 grind
theorem c9g {r:Option AV} (s:Sim B G ρ H w) (he:EvR ρ ev e) (hs:∀ cs b,o.op≠.select cs b) (h:∀ v,r=some v->∃ u,(execOp e o).run P w=.ok (.value u) w/\VR ρ v u) :
  RS B G P ρ H w (a3h P H ev o r) (execOp e o):=by
 unfold a3h;split
 ·rename_i v;obtain⟨u,hu,hv⟩:=h v rfl;grind[RS.quiet]
 grind[b1f]
include s he
theorem e0z {f:Nat} (h:o.op=.fieldAddr t x f) : RS B G P ρ H w (a3v P H ev o t (ev x) f) (execOp e o):=by
 unfold a3v;split
 ·rename_i v hv;refine c9g s he (by grind) fun r hr=>?_;unfold fieldAddr at hr;split at hr
  ·rename_i fields a off hd;obtain⟨b,q,k,hp,hu⟩:=he _ _ hv;split at hr
   ·rename_i fd hf;split at hr
    ·rename_i i hi;split at hr
     ·grind
     ·rename_i hz;rw[a0y] at hr;cases hr;have hz' : i.size≠0:=by intro h0;simp_all
      refine⟨.pointer (some ⟨b,q+off+fd.offset,none⟩),?_,⟨b,q,k,hp,by grind⟩⟩;simp_all[a2q,Cq,fieldPlace,Instr.sureAddr,Au,Instr.fieldAt,execOp]
    grind
   grind
  grind
 ·trivial
theorem e1a {i:Operand} (h:o.op=.indexAddr t x i) : RS B G P ρ H w (a0q P H ev o t (ev x) (ev i)) (execOp e o):=by
 unfold a0q;split
 ·rename_i v k hv hk;refine c9g s he (by grind) fun r hr=>?_;unfold indexAddr at hr;split at hr
  ·rename_i el a off n c j hd hj;obtain⟨ki,hi⟩:=a7p hj (he _ _ hk);obtain⟨b,q,kk,hp,hle,hu⟩:=he _ _ hv;split at hr
   ·rename_i info hinfo;split at hr
    ·rename_i hlt;rw[a0y] at hr;cases hr;have hlt' : j<n:=by simp_all
     refine⟨.pointer (some ⟨b,q+off+j*info.size,none⟩),?_,⟨b,q,kk,hp,by grind⟩⟩;simp[execOp,h,Instr.indexAt,hi,asIntOf,Au hd,hu,hlt',Cq hinfo,a2q]
    grind
   grind
  ·rename_i el a off n c j hd hj;obtain⟨ki,hi⟩:=a7p hj (he _ _ hk);obtain⟨b,q,kk,hp,hle,hu⟩:=he _ _ hv;split at hr
   ·rename_i info hinfo;split at hr
    ·rename_i hlt;rw[a0y] at hr;cases hr;have hlt' : j<n:=by simp_all
     refine⟨.pointer (some ⟨b,q+off+j*info.size,none⟩),?_,⟨b,q,kk,hp,by grind⟩⟩;simp[execOp,h,Instr.indexAt,hi,asIntOf,Au hd,hu,hlt',Cq hinfo,a2q]
    grind
   grind
  ·rename_i n el a off j hd hj;obtain⟨ki,hi⟩:=a7p hj (he _ _ hk);obtain⟨b,q,kk,hp,hu⟩:=he _ _ hv;split at hr
   ·rename_i info hinfo;split at hr
    ·rename_i hlt;rw[a0y] at hr;cases hr;have hlt' : j<n:=by simp_all
     refine⟨.pointer (some ⟨b,q+off+j*info.size,none⟩),?_,⟨b,q,kk,hp,by grind⟩⟩;simp[execOp,h,Instr.indexAt,hi,asIntOf,Au hd,hu,Instr.sureAddr,hlt',Cq hinfo,a2q]
    grind
   grind
  grind
 ·trivial
omit s he in
theorem c9h {v:AV} {l:List AV} {u:Value} (h:asAggL v=some l) (hv:VR ρ v u) : ∃ cs,u=.agg cs/\VRs ρ l cs.toList:=by
 unfold asAggL at h;split at h
 ·cases h;cases hv;exact⟨_,rfl,VRs.lits _⟩
 ·cases h;exact hv
 grind
omit s he in
theorem c9i {t:TypeId} {l:List AV} {cs:Array Value} {off:Nat} {v:AV} (h:b7k P t l off=some v) (hl:VRs ρ l cs.toList) (w:World) :
  ∃ u,(part t cs off).run P w=.ok u w/\VR ρ v u:=by
 unfold b7k at h;split at h
 ·rename_i size ht;obtain⟨ha,hs⟩:=b5b ht w;split at h
  ·cases h;refine⟨.agg (cs.extract off (off+size)),by simp_all[part],⟨_,rfl,?_⟩⟩;simp_all[VRs.drop,VRs.take]
  grind
 ·rename_i size ht;obtain⟨ha,hs⟩:=b5b ht w;obtain⟨u,hu,hv⟩:=hl.get _ h;simp_all[part]
 grind
theorem e1b {f:Nat} (h:o.op=.field t x f) : RS B G P ρ H w (a7k P H t (ev x) f) (execOp e o):=by
 unfold a7k;split
 ·rename_i v hv;refine RS.ofOpt s fun r hr=>?_;unfold field at hr;split at hr
  ·rename_i fields l hd hl;obtain⟨cs,hu,hcs⟩:=c9h hl (he _ _ hv);split at hr
   ·rename_i fd hf;obtain⟨u,h1,h2⟩:=c9i hr hcs w;simp_all[asAgg,Au,Instr.field,execOp]
   grind
  grind
 ·trivial
theorem e1c {i:Operand} (h:o.op=.index t x i) : RS B G P ρ H w (a6e P H ev o t (ev x) (ev i)) (execOp e o):=by
 unfold a6e;split
 ·rename_i v k hv hk;split
  ·rename_i r hr;unfold index at hr;split at hr
   ·rename_i n el l j hd hl hj;obtain⟨ki,hi⟩:=a7p hj (he _ _ hk);obtain⟨cs,hu,hcs⟩:=c9h hl (he _ _ hv);split at hr
    ·rename_i info hinfo;split at hr
     ·rename_i hlt;obtain⟨u,h1,h2⟩:=c9i hr hcs w;simp_all[Cq,Au,asIntOf,Instr.index,execOp,RS.quiet]
     grind
    grind
   grind
  ·refine RS.ofOpt s fun r hr=>?_;obtain⟨u,h1,h2⟩:=a9c (P:=P) (w:=w) (by grind) he hr;grind
 ·trivial
theorem e1d {xt:TypeId} {ok:Bool} (h:o.op=.typeAssert x xt t ok) : RS B G P ρ H w (a6f P H ev o (ev x) t ok) (execOp e o):=by
 unfold a6f;split
 ·rename_i r hr;obtain⟨u,h1,h2⟩:=a9c (P:=P) (w:=w) (by grind) he hr;grind[RS.quiet]
 ·split
  ·rename_i v hv;refine RS.ofOpt s fun r hr=>?_;unfold typeAssert at hr;split at hr
   ·rename_i want ty y hd;obtain⟨u',hu,h1⟩:=he _ _ hv;split at hr
    ·rename_i info hinfo;split at hr
     ·rename_i hm;cases hr;cases ok
      ·(simp_all[a3j,Au,Instr.typeAssert,execOp];grind)
      ·exact⟨.tuple #[e x,.bool true],by simp_all[a3j,Au,Instr.typeAssert,execOp],⟨_,rfl,_,_,rfl,⟨u',hu,h1⟩,_,_,rfl,rfl,rfl⟩⟩
     ·rename_i m hm;cases ok
      ·grind
      ·simp only[if_true] at hr;split at hr
       ·rename_i j hj;split at hr
        ·rename_i zv hz;cases hr;exact⟨.tuple #[zv,.bool false],by simp_all[a2f,a3j,Au,Instr.typeAssert,execOp],⟨_,rfl,_,_,rfl,rfl,_,_,rfl,rfl,rfl⟩⟩
        grind
       grind
    grind
   ·rename_i d ty y hni hd;obtain⟨u',hu,h1⟩:=he _ _ hv;have hd' : ∀ ms,d≠.interface ms:=fun ms hm=>by grind
    split at hr
    ·rename_i hty;cases hr;subst hty;cases ok
     ·refine⟨u',?_,h1⟩;cases d<;>first|(simp[execOp,h,Instr.typeAssert,Au hd,hu];done)|grind
     ·refine⟨.tuple #[u',.bool true],?_,⟨_,rfl,_,_,rfl,h1,_,_,rfl,rfl,rfl⟩⟩;cases d<;>first|(simp[execOp,h,Instr.typeAssert,Au hd,hu];done)|grind
    ·rename_i hty;cases ok
     ·grind
     ·simp only[if_true] at hr;have hty' : ¬(ty=t):=hty;split at hr
      ·rename_i j hj;split at hr
       ·rename_i zv hz;cases hr;refine⟨.tuple #[zv,.bool false],?_,⟨_,rfl,_,_,rfl,rfl,_,_,rfl,rfl,rfl⟩⟩;cases d<;>first|(simp[execOp,h,Instr.typeAssert,Au hd,hu,hty',a2f hj hz];done)|grind
       grind
      grind
   grind
  ·trivial
end one
end Go.Ai
end

