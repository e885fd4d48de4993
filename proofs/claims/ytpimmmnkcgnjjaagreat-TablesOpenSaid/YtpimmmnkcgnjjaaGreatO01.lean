/- A small verified interpreter over names, its proofs, and what was proved with it. No condition. -/
import GoSem.Dispatch
import Derived.Calls
import Derived.Below
import Derived.Wp
import Derived.Laws.Sem
import Derived.Laws.Cells
import Derived.Laws.Entries
import Derived.Orders
set_option linter.all false
set_option linter.deprecated false
section
namespace Go.Ai
abbrev g5m:=@Nat.add_comm
abbrev g6f:=@Bool.and_true
abbrev g4q:=@List.append_assoc
abbrev g6g:=@List.set_append_right
abbrev g4x:=@List.getElem?_take
abbrev g6h:=@Bool.or_true
abbrev g3u:=@List.drop_eq_nil_of_le
abbrev g3s:=@List.getD_eq_getElem?_getD
abbrev g4h:=@Nat.ble_eq_true_of_le
abbrev g4y:=@Nat.add_mul
abbrev g4r:=@List.length_set
abbrev g5f:=@Nat.le_add_right
abbrev g4n:=@List.take_length
abbrev Dw:=@Nat.le_trans
abbrev g3z:=@List.map_append
abbrev g5n:=@Nat.beq_refl
abbrev g4s:=@List.getElem_take
abbrev g6i:=@List.cons_append
abbrev g4i:=@List.mem_flatMap
abbrev Ei:=@List.length_map
abbrev g6j:=@List.drop_drop
abbrev Ea:=@Nat.mul_one
abbrev Dz:=@Nat.eq_of_beq_eq_true
abbrev g4c:=@List.take_succ_eq_append_getElem
abbrev g6k:=@Option.getD_some
abbrev g6l:=@Option.bind_eq_some_iff
abbrev g4k:=@Nat.lt_or_ge
abbrev Dt:=@Nat.zero_le
abbrev g6m:=@List.dropLast_concat_getLast
abbrev g4l:=@List.getElem?_map
abbrev g4t:=@List.drop_length
abbrev g4z:=@List.append_nil
abbrev g6n:=@List.all_cons
abbrev g5v:=@List.map_singleton
abbrev Dr:=@List.length_append
abbrev Ds:=@List.getElem_mem
abbrev g3r:=@List.length_eq_zero_iff
abbrev g3v:=@Option.map_eq_some_iff
abbrev g4d:=@List.mem_of_mem_take
abbrev g5w:=@List.map_congr_left
abbrev g5g:=@List.getElem_append_right
abbrev g5a:=@Option.isSome_some
abbrev g6o:=@Bool.false_eq_true
abbrev El:=@List.drop_eq_getElem_cons
abbrev Em:=@List.getElem?_append_right
abbrev g5b:=@Bool.and_false
abbrev g5o:=@Nat.succ_mul
abbrev Dq:=@Bool.and_eq_true
abbrev Eb:=@List.getElem?_eq_some_iff
abbrev g4j:=@List.map_cons
abbrev Ed:=@List.mem_append
abbrev g5p:=@Bool.false_or
abbrev g6p:=@List.mem_cons_self
abbrev Dx:=@Nat.le_succ
abbrev g6q:=@List.nil_append
abbrev Dp:=@Nat.le_of_ble_eq_true
abbrev Du:=@List.length_take
abbrev g5q:=@List.mem_or_eq_of_mem_set
abbrev g5h:=@Bool.or_false
abbrev g6r:=@List.mem_range
abbrev Dm:=@Nat.le_refl
abbrev g4a:=@Nat.min_eq_left
abbrev g5x:=@List.getElem?_drop
abbrev g5r:=@Bool.or_eq_true
abbrev g5i:=@Int.ofNat_tmod
abbrev g4e:=@List.getElem_append_left
abbrev Eg:=@List.mem_map
abbrev g5s:=@Array.getElem?_toList
abbrev Ej:=@List.length_cons
abbrev g4f:=@Int.toNat_natCast
abbrev Ek:=@List.mem_singleton
abbrev Dy:=@List.getElem?_eq_getElem
abbrev g5y:=@List.mem_of_mem_drop
abbrev g6s:=@Option.map_some
abbrev g5c:=@Bool.true_and
abbrev g4u:=@Nat.sub_self
abbrev g3t:=@List.getElem?_append_left
abbrev g5j:=@List.take_succ
abbrev g5z:=@Nat.lt_succ_of_lt
abbrev g4o:=@Nat.le_of_lt
abbrev Ec:=@List.all_eq_true
abbrev g4p:=@List.length_drop
abbrev g6a:=@Int.lt_trichotomy
abbrev Ee:=@List.take_of_length_le
abbrev g6t:=@Bool.true_or
abbrev g4b:=@List.mem_cons_of_mem
abbrev g5k:=@Nat.add_assoc
abbrev g3w:=@Nat.mul_le_mul
abbrev g6u:=@Nat.mul_le_mul_right
abbrev g4g:=@Bool.false_and
abbrev g6b:=@Nat.mod_eq_of_lt
abbrev Dv:=@List.mem_cons
abbrev g6c:=@List.replicate_succ
abbrev Eh:=@Nat.lt_of_lt_of_le
abbrev g4v:=@List.getElem_map
abbrev g6v:=@List.range_succ
abbrev g5l:=@List.drop_zero
abbrev g3y:=@List.mem_iff_getElem
abbrev g5t:=@List.mem_filter
abbrev g6w:=@List.set_cons_zero
abbrev g6d:=@Nat.ble_eq
abbrev g5d:=@Nat.le_succ_of_le
abbrev En:=@List.mem_of_getElem?
abbrev g5e:=@List.flatMap_cons
abbrev g3x:=@Array.getElem?_eq_some_iff
abbrev g4w:=@Nat.zero_add
abbrev g5u:=@List.getElem_of_mem
abbrev g6e:=@List.getElem?_set_ne
abbrev Ef:=@List.length_singleton
abbrev g4m:=@List.length_pos_of_mem
abbrev Eo:=@Nat.mod_lt
end Go.Ai
end
section
namespace Go.Ai
inductive AV where
 | lit (v:Value)
 | ptr (a off:Nat)
 | sl (a off len cap:Nat)
 | slq (a off len d:Nat)
 | es
 | map (a:Nat)
 | func (fn:Fn) (first cap:List AV)
 | iface (t:TypeId) (v:AV)
 | agg (l:List AV)
 | tup (l:List AV)
 deriving Inhabited
inductive Dg where
 | d0|d1|d2|d3|d4|d5|d6|d7|d8|d9|d10|d11|d12|d13|d14|d15
structure N (α:Type) where
 mk :: (c0 c1 c2 c3 c4 c5 c6 c7 c8 c9 c10 c11 c12 c13 c14 c15:α)
inductive Lf (α:Type) where
 | e
 | v (k:Nat) (x:α)
def gN0 {α:Type} (x:N α) : α:=x.c0
def gN1 {α:Type} (x:N α) : α:=x.c1
def gN2 {α:Type} (x:N α) : α:=x.c2
def gN3 {α:Type} (x:N α) : α:=x.c3
def gN4 {α:Type} (x:N α) : α:=x.c4
def gN5 {α:Type} (x:N α) : α:=x.c5
def gN6 {α:Type} (x:N α) : α:=x.c6
def gN7 {α:Type} (x:N α) : α:=x.c7
def gN8 {α:Type} (x:N α) : α:=x.c8
def gN9 {α:Type} (x:N α) : α:=x.c9
def gN10 {α:Type} (x:N α) : α:=x.c10
def gN11 {α:Type} (x:N α) : α:=x.c11
def gN12 {α:Type} (x:N α) : α:=x.c12
def gN13 {α:Type} (x:N α) : α:=x.c13
def gN14 {α:Type} (x:N α) : α:=x.c14
def gN15 {α:Type} (x:N α) : α:=x.c15
def sN0 {α β:Type} (c0 c1 c2 c3 c4 c5 c6 c7 c8 c9 c10 c11 c12 c13 c14 c15 v:α) (K:N α->β) : β:=K (.mk v c1 c2 c3 c4 c5 c6 c7 c8 c9 c10 c11 c12 c13 c14 c15)
def sN1 {α β:Type} (c0 c1 c2 c3 c4 c5 c6 c7 c8 c9 c10 c11 c12 c13 c14 c15 v:α) (K:N α->β) : β:=K (.mk c0 v c2 c3 c4 c5 c6 c7 c8 c9 c10 c11 c12 c13 c14 c15)
def sN2 {α β:Type} (c0 c1 c2 c3 c4 c5 c6 c7 c8 c9 c10 c11 c12 c13 c14 c15 v:α) (K:N α->β) : β:=K (.mk c0 c1 v c3 c4 c5 c6 c7 c8 c9 c10 c11 c12 c13 c14 c15)
def sN3 {α β:Type} (c0 c1 c2 c3 c4 c5 c6 c7 c8 c9 c10 c11 c12 c13 c14 c15 v:α) (K:N α->β) : β:=K (.mk c0 c1 c2 v c4 c5 c6 c7 c8 c9 c10 c11 c12 c13 c14 c15)
def sN4 {α β:Type} (c0 c1 c2 c3 c4 c5 c6 c7 c8 c9 c10 c11 c12 c13 c14 c15 v:α) (K:N α->β) : β:=K (.mk c0 c1 c2 c3 v c5 c6 c7 c8 c9 c10 c11 c12 c13 c14 c15)
def sN5 {α β:Type} (c0 c1 c2 c3 c4 c5 c6 c7 c8 c9 c10 c11 c12 c13 c14 c15 v:α) (K:N α->β) : β:=K (.mk c0 c1 c2 c3 c4 v c6 c7 c8 c9 c10 c11 c12 c13 c14 c15)
def sN6 {α β:Type} (c0 c1 c2 c3 c4 c5 c6 c7 c8 c9 c10 c11 c12 c13 c14 c15 v:α) (K:N α->β) : β:=K (.mk c0 c1 c2 c3 c4 c5 v c7 c8 c9 c10 c11 c12 c13 c14 c15)
def sN7 {α β:Type} (c0 c1 c2 c3 c4 c5 c6 c7 c8 c9 c10 c11 c12 c13 c14 c15 v:α) (K:N α->β) : β:=K (.mk c0 c1 c2 c3 c4 c5 c6 v c8 c9 c10 c11 c12 c13 c14 c15)
def sN8 {α β:Type} (c0 c1 c2 c3 c4 c5 c6 c7 c8 c9 c10 c11 c12 c13 c14 c15 v:α) (K:N α->β) : β:=K (.mk c0 c1 c2 c3 c4 c5 c6 c7 v c9 c10 c11 c12 c13 c14 c15)
def sN9 {α β:Type} (c0 c1 c2 c3 c4 c5 c6 c7 c8 c9 c10 c11 c12 c13 c14 c15 v:α) (K:N α->β) : β:=K (.mk c0 c1 c2 c3 c4 c5 c6 c7 c8 v c10 c11 c12 c13 c14 c15)
def sN10 {α β:Type} (c0 c1 c2 c3 c4 c5 c6 c7 c8 c9 c10 c11 c12 c13 c14 c15 v:α) (K:N α->β) : β:=K (.mk c0 c1 c2 c3 c4 c5 c6 c7 c8 c9 v c11 c12 c13 c14 c15)
def sN11 {α β:Type} (c0 c1 c2 c3 c4 c5 c6 c7 c8 c9 c10 c11 c12 c13 c14 c15 v:α) (K:N α->β) : β:=K (.mk c0 c1 c2 c3 c4 c5 c6 c7 c8 c9 c10 v c12 c13 c14 c15)
def sN12 {α β:Type} (c0 c1 c2 c3 c4 c5 c6 c7 c8 c9 c10 c11 c12 c13 c14 c15 v:α) (K:N α->β) : β:=K (.mk c0 c1 c2 c3 c4 c5 c6 c7 c8 c9 c10 c11 v c13 c14 c15)
def sN13 {α β:Type} (c0 c1 c2 c3 c4 c5 c6 c7 c8 c9 c10 c11 c12 c13 c14 c15 v:α) (K:N α->β) : β:=K (.mk c0 c1 c2 c3 c4 c5 c6 c7 c8 c9 c10 c11 c12 v c14 c15)
def sN14 {α β:Type} (c0 c1 c2 c3 c4 c5 c6 c7 c8 c9 c10 c11 c12 c13 c14 c15 v:α) (K:N α->β) : β:=K (.mk c0 c1 c2 c3 c4 c5 c6 c7 c8 c9 c10 c11 c12 c13 v c15)
def sN15 {α β:Type} (c0 c1 c2 c3 c4 c5 c6 c7 c8 c9 c10 c11 c12 c13 c14 c15 v:α) (K:N α->β) : β:=K (.mk c0 c1 c2 c3 c4 c5 c6 c7 c8 c9 c10 c11 c12 c13 c14 v)
noncomputable def gN {α:Type} : Dg->N α->α:=Dg.rec (motive:=fun _=>N α->α) gN0 gN1 gN2 gN3 gN4 gN5 gN6 gN7 gN8 gN9 gN10 gN11 gN12 gN13 gN14 gN15
noncomputable def sF {α β:Type} : Dg->(α->α->α->α->α->α->α->α->α->α->α->α->α->α->α->α->α->(N α->β)->β) :=
 Dg.rec (motive:=fun _=>α->α->α->α->α->α->α->α->α->α->α->α->α->α->α->α->α->(N α->β)->β) sN0 sN1 sN2 sN3 sN4 sN5 sN6 sN7 sN8 sN9 sN10 sN11 sN12 sN13 sN14 sN15
noncomputable def sN {α β:Type} (d:Dg) (x:N α) (v:α) (K:N α->β) : β:=N.rec (motive:=fun _=>α->(N α->β)->β) (sF d) x v K
def nN {α:Type} (x:α) : N α:=.mk x x x x x x x x x x x x x x x x
def dig (n:Nat) : Dg:=match n with
 | 0=>.d0
 | 1=>.d1
 | 2=>.d2
 | 3=>.d3
 | 4=>.d4
 | 5=>.d5
 | 6=>.d6
 | 7=>.d7
 | 8=>.d8
 | 9=>.d9
 | 10=>.d10
 | 11=>.d11
 | 12=>.d12
 | 13=>.d13
 | 14=>.d14
 | _=>.d15
def d0 (k:Nat) : Dg:=dig (Nat.mod k 16)
def d1 (k:Nat) : Dg:=dig (Nat.mod (Nat.div k 16) 16)
def d2 (k:Nat) : Dg:=dig (Nat.mod (Nat.div k 256) 16)
def d3 (k:Nat) : Dg:=dig (Nat.mod (Nat.div k 4096) 16)
noncomputable def b1i {α:Type} (k:Nat) (x:Lf α) : Option α :=
 Lf.rec (motive:=fun _=>Option α) none (fun j x=>Bool.rec (motive:=fun _=>Option α) none (some x) (Nat.beq j k)) x
abbrev T2 (α:Type):=N (N (Lf α))
abbrev T3 (α:Type):=N (T2 α)
abbrev T4 (α:Type):=N (T3 α)
def e2 {α:Type} : T2 α:=nN (nN .e)
def e3 {α:Type} : T3 α:=nN e2
def e4 {α:Type} : T4 α:=nN e3
noncomputable def Ct {α:Type} (t:T2 α) (k:Nat) : Option α:=b1i k (gN (d1 k) (gN (d0 k) t))
noncomputable def a5o {α:Type} (t:T3 α) (k:Nat) : Option α:=b1i k (gN (d2 k) (gN (d1 k) (gN (d0 k) t)))
noncomputable def a2c {α:Type} (t:T4 α) (k:Nat) : Option α:=b1i k (gN (d3 k) (gN (d2 k) (gN (d1 k) (gN (d0 k) t))))
noncomputable def b8e {α β:Type} (t:T2 α) (k:Nat) (x:Lf α) (K:T2 α->β) : β :=
 sN (d1 k) (gN (d0 k) t) x fun a=>sN (d0 k) t a K
noncomputable def c2c {α β:Type} (t:T3 α) (k:Nat) (x:Lf α) (K:T3 α->β) : β :=
 sN (d2 k) (gN (d1 k) (gN (d0 k) t)) x fun a=>sN (d1 k) (gN (d0 k) t) a fun a=>sN (d0 k) t a K
noncomputable def b5b {α β:Type} (t:T4 α) (k:Nat) (x:Lf α) (K:T4 α->β) : β :=
 sN (d3 k) (gN (d2 k) (gN (d1 k) (gN (d0 k) t))) x fun a=>sN (d2 k) (gN (d1 k) (gN (d0 k) t)) a fun a=>sN (d1 k) (gN (d0 k) t) a fun a=>sN (d0 k) t a K
inductive Blk where
 | cells (l:List AV) (own:Bool) (z:Nat)
 | map (es:List (AV×AV×Nat)) (clock:Nat)
 | siter (s:ByteArray) (pos:Nat)
 | typ (T:TypeId) (l:List AV) (ex:Bool)
inductive Cw where
 | tr (t:T4 Blk)
 | fn (g:Nat->Option Blk)
structure Mem where
 t:Cw
 next:Nat
def Ap (g:Nat->Option Blk) (a:Nat) (x:Option Blk) : Nat->Option Blk:=fun j=>if j=a then x else g j
noncomputable def a2q {β:Type} (n:Nat) (K:Nat->β) : β:=Nat.rec (K 0) (fun m _=>K (Nat.succ m)) n
noncomputable def b1j {β:Type} (n:Int) (K:Int->β) : β:=Int.rec (fun m=>a2q m fun m=>K (.ofNat m)) (fun m=>a2q m fun m=>K (.negSucc m)) n
noncomputable def d9b (t:Cw) (a:Nat) : Option Blk:=Cw.rec (motive:=fun _=>Nat->Option Blk) a2c (fun g a=>g a) t a
noncomputable def Mem.get (H:Mem) (a:Nat) : Option Blk:=Mem.rec (motive:=fun _=>Nat->Option Blk) (fun t _ a=>d9b t a) H a
noncomputable def c2d {β:Type} (t:T4 Blk) (a:Nat) (b:Blk) (K:Cw->β) : β:=b5b t a (.v a b) fun t=>K (.tr t)
noncomputable def c2e {β:Type} (g:Nat->Option Blk) (a:Nat) (b:Blk) (K:Cw->β) : β:=K (.fn (Ap g a (some b)))
noncomputable def c7x {β:Type} (t:T4 Blk) (a:Nat) (K:Cw->β) : β:=b5b t a .e fun t=>K (.tr t)
noncomputable def c7y {β:Type} (g:Nat->Option Blk) (a:Nat) (K:Cw->β) : β:=K (.fn (Ap g a none))
noncomputable def b8f {β:Type} (t:Cw) (a:Nat) (b:Blk) (K:Cw->β) : β:=Cw.rec (motive:=fun _=>Nat->Blk->(Cw->β)->β) c2d c2e t a b K
noncomputable def c7z {β:Type} (t:Cw) (a:Nat) (K:Cw->β) : β:=Cw.rec (motive:=fun _=>Nat->(Cw->β)->β) c7x c7y t a K
noncomputable def c8a {β:Type} (t:Cw) (n:Nat) (b:Blk) (K:Mem->β) : β:=b8f t n b fun t=>a2q (Nat.succ n) fun n=>K ⟨t,n⟩
noncomputable def c8b {β:Type} (t:Cw) (n a:Nat) (b:Blk) (K:Mem->β) : β:=b8f t a b fun t=>K ⟨t,n⟩
noncomputable def c8c {β:Type} (t:Cw) (n a:Nat) (K:Mem->β) : β:=c7z t a fun t=>K ⟨t,n⟩
noncomputable def Mem.newK {β:Type} (H:Mem) (b:Blk) (K:Mem->β) : β:=Mem.rec (motive:=fun _=>Blk->(Mem->β)->β) c8a H b K
noncomputable def Mem.setK {β:Type} (H:Mem) (a:Nat) (b:Blk) (K:Mem->β) : β:=Mem.rec (motive:=fun _=>Nat->Blk->(Mem->β)->β) c8b H a b K
noncomputable def Mem.delK {β:Type} (H:Mem) (a:Nat) (K:Mem->β) : β:=Mem.rec (motive:=fun _=>Nat->(Mem->β)->β) c8c H a K
def Ao {α:Type} (P:Program) : Sem α->Option α
 | .pure a=>some a
 | .program k=>Ao P (k P)
 | .mark _ k=>Ao P k
 | .choose q k=>if q.forced then Ao P (k 0) else none
 | _=>none
def cellsOf:AV->List AV
 | .lit (.agg cs)=>cs.toList.map .lit
 | .agg l=>l
 | v=>[v]
def asAggL:AV->Option (List AV)
 | .lit (.agg cs)=>some (cs.toList.map .lit)
 | .agg l=>some l
 | _=>none
def litAll:List AV->Option (List Value)
 | []=>some []
 | .lit v :: l=>match litAll l with|some vs=>some (v :: vs)|none=>none
 | _ :: _=>none
def Cf (P:Program) (t:TypeId) : Option (Bool×Nat) :=
 match P.underlying t,P.info? t with
 | some d,some i=>some (match d with|.struct _|.array _ _=>true|_=>false,i.size)
 | _,_=>none
noncomputable def nth {α:Type} (l:List α) (i:Nat) : Option α :=
 List.rec (motive:=fun _=>Nat->Option α) (fun _=>none) (fun x _ ih i=>Nat.rec (motive:=fun _=>Option α) (some x) (fun j _=>ih j) i) l i
noncomputable def c2f {α β:Type} (z:β) (n:Nat) (l:List α) (K:List α->β) : β :=
 Nat.rec (motive:=fun _=>List α->(List α->β)->β) (fun _ K=>K [])
  (fun _ ih l K=>List.rec (motive:=fun _=>β) z (fun x l _=>ih l fun r=>K (x :: r)) l) n l K
noncomputable def c2g {α β:Type} (z:β) (n:Nat) (l:List α) (K:List α->β) : β :=
 Nat.rec (motive:=fun _=>List α->(List α->β)->β) (fun l K=>K l)
  (fun _ ih l K=>List.rec (motive:=fun _=>β) z (fun _ l _=>ih l K) l) n l K
noncomputable def a9d {α β:Type} (l:List α) (n off:Nat) (z:β) (K:List α->β) : β:=c2g z off l fun l=>c2f z n l K
noncomputable def b8g {α β:Type} (a b:List α) (K:List α->β) : β :=
 List.rec (motive:=fun _=>(List α->β)->β) (fun K=>K b) (fun x _ ih K=>ih fun r=>K (x :: r)) a K
noncomputable def b8h {α β:Type} (z:β) (new l:List α) (K:List α->β) : β :=
 List.rec (motive:=fun _=>List α->(List α->β)->β) (fun l K=>K l)
  (fun x _ ih l K=>List.rec (motive:=fun _=>β) z (fun _ l _=>ih l fun r=>K (x :: r)) l) new l K
noncomputable def a9e {α β:Type} (z:β) (l:List α) (off:Nat) (new:List α) (K:List α->β) : β :=
 Nat.rec (motive:=fun _=>List α->(List α->β)->β) (fun l K=>b8h z new l K)
  (fun _ ih l K=>List.rec (motive:=fun _=>β) z (fun x l _=>ih l fun r=>K (x :: r)) l) off l K
noncomputable def len {α:Type} (l:List α) : Nat:=List.rec (motive:=fun _=>Nat->Nat) (fun n=>n) (fun _ _ ih n=>a2q (Nat.succ n) ih) l 0
end Go.Ai
end
section
namespace Go.Ai
def toLit:AV->Option Value
 | .lit v=>some v
 | .agg l=>match litAll l with|some vs=>some (.agg vs.toArray)|none=>none
 | .tup l=>match litAll l with|some vs=>some (.tuple vs.toArray)|none=>none
 | .iface t (.lit v)=>some (.iface t v)
 | .func f a b=>match litAll a,litAll b with|some x,some y=>some (.func f x.toArray y.toArray)|_,_=>none
 | _=>none
inductive R where
 | val (v:AV) (H:Mem)
 | skip (H:Mem)
 | enter (f:FuncId) (args:List AV) (H:Mem)
 | dfr (fn:Fn) (cap args:List AV) (H:Mem)
 | recover
 | panic (v:AV) (H:Mem)
 | bad
noncomputable def ofOpt (H:Mem) : Option AV->R
 | some v=>.val v H
 | none=>.bad
def oneC:AV->Bool
 | .lit (.agg _)=>false
 | .lit (.tuple _)=>false
 | .agg _=>false
 | .tup _=>false
 | _=>true
def allOne:List AV->Bool
 | []=>true
 | v :: l=>match oneC v with|true=>allOne l|false=>false
abbrev Ev:=Operand->Option AV
noncomputable def Bq (ev:Ev) : List Operand->Option (List AV)
 | []=>some []
 | x :: l=>match ev x with
  | some v=>match Bq ev l with|some vs=>some (v :: vs)|none=>none
  | none=>none
noncomputable def Ba (P:Program) (ev:Ev) (o:Oper) : Option AV :=
 let ρ:Operand->Value:=fun x=>match ev x with|some v=>(match toLit v with|some u=>u|none=>undef)|none=>undef
 if o.op.operands.toList.all fun x=>match ev x with|some v=>(match toLit v with|some _=>true|none=>false)|none=>false then
  match Ao P (execOp ρ o) with
  | some (.value v)=>some (.lit v)
  | _=>none
 else none
noncomputable def a7i (place:Nat->Option (Nat×Nat)) (cells:List AV) : List (Nat×AV)->Option (List AV)
 | []=>some cells
 | (i,v) :: rest=>match place i with
  | some (off,size)=>match Nat.beq (len (cellsOf v)) size with
   | true=>a9e none cells off (cellsOf v) fun cells=>a7i place cells rest
   | false=>none
  | none=>none
noncomputable def Cl (P:Program) (t:TypeId) : Option (List AV) :=
 match P.info? t with
 | some i=>match i.zero with
  | some z=>some (z.cells.toList.map .lit)
  | none=>none
 | none=>none
noncomputable def rep (l:List AV) : Nat->List AV
 | 0=>[]
 | n+1=>l++rep l n
noncomputable def a0j (H:Mem) (l:List AV) (own:Bool) (v:AV) : R:=H.newK (.cells l own 0) fun H=>.val v H
noncomputable def Dc (ev:Ev) : List (Nat×Operand)->Option (List (Nat×AV))
 | []=>some []
 | (i,x) :: l=>match ev x with
  | some v=>match Dc ev l with|some vs=>some ((i,v) :: vs)|none=>none
  | none=>none
noncomputable def c8d (P:Program) (fs:List Field) : Option (List (Nat×Nat)):=fs.mapM fun f=>(P.info? f.type).map fun i=>(f.offset,i.size)
noncomputable def b1k (l:Option (List AV)) : Option AV:=match l with|some l=>some (.agg l)|none=>none
noncomputable def build (P:Program) (t:TypeId) (parts:List (Nat×AV)) : Option AV :=
 match Cl P t,P.underlying t with
 | some zero,some (.struct fields)=>match c8d P fields.toList with
  | some pl=>b1k (a7i (nth pl) zero parts)
  | none=>none
 | some zero,some (.array _ elem)=>match P.info? elem with
  | some j=>b1k (a7i (fun i=>some (i*j.size,j.size)) zero parts)
  | none=>none
 | _,_=>none
noncomputable def Be (k:Option (Bool×Nat)) (b:Option Blk) (off:Nat) : Option AV :=
 match b,k with
 | some (.cells l _ _),some (true,size)=>a9d l size off none fun l=>some (.agg l)
 | some (.cells l _ _),some (false,_)=>nth l off
 | _,_=>none
noncomputable def load (P:Program) (H:Mem) (t:TypeId) (p:AV) : Option AV :=
 match p with
 | .ptr a off=>Be (Cf P t) (H.get a) off
 | .lit (.pointer (some ⟨g,off,none⟩))=>match Nat.blt g P.globals.size with
  | true=>Be (Cf P t) (H.get g) off
  | false=>none
 | _=>none
noncomputable def store (P:Program) (H:Mem) (t:TypeId) (p v:AV) : Option Mem :=
 match p with
 | .ptr a off=>match H.get a,Cf P t with
  | some (.cells l true z),some (_,size)=>match Nat.beq (len (cellsOf v)) size && allOne (cellsOf v) with
   | true=>a9e none l off (cellsOf v) fun l=>H.setK a (.cells l true z) some
   | false=>none
  | _,_=>none
 | _=>none
noncomputable def a3c (P:Program) (t:TypeId) : Option (TypeId×Nat×Nat) :=
 match P.underlying t with
 | some (.slice e)=>match P.info? e with
  | some i=>match i.zero with
   | some z=>match Nat.beq z.cells.size i.size with|true=>some (e,i.size,i.bytes)|false=>none
   | none=>none
  | none=>none
 | _=>none
noncomputable def natOf:AV->Option Nat
 | .lit (.int _ (.ofNat n))=>some n
 | _=>none
noncomputable def a7j (v:Option AV) (d:Nat) : Option Nat :=
 match v with
 | some v=>natOf v
 | none=>some d
noncomputable def b5c (hi mx:Option AV) : Bool:=match mx,hi with|some _,none=>false|_,_=>true
noncomputable def a0t (lo hi mx:Option AV) (n c:Nat) : Option (Nat×Nat×Nat) :=
 match a7j lo 0,a7j hi n,a7j mx c,b5c hi mx with
 | some l,some h,some m,true=>match Nat.ble l h && Nat.ble h m && Nat.ble m c with|true=>some (l,h,m)|false=>none
 | _,_,_,_=>none
noncomputable def a7k (size a off:Nat) (q:Option (Nat×Nat×Nat)) : Option AV :=
 match q with
 | some (l,h,m)=>match Nat.beq m l with
  | true=>some (.sl a off 0 0)
  | false=>a2q (off+l*size) fun x=>a2q (h-l) fun y=>a2q (m-l) fun z=>some (.sl a x y z)
 | none=>none
noncomputable def b8i (size a off n d:Nat) (q:Option (Nat×Nat×Nat)) : Option AV :=
 match q with
 | some (l,h,_)=>match Nat.blt l n with
  | true=>a2q (off+l*size) fun x=>a2q (h-l) fun y=>a2q (d+l) fun z=>some (.slq a x y z)
  | false=>some .es
 | none=>none
noncomputable def a7l (size:Nat) (lo hi mx:Option AV) : AV->Option AV
 | .sl a off n c=>a7k size a off (a0t lo hi mx n c)
 | .slq a off n d=>match mx with
  | none=>b8i size a off n d (a0t lo hi none n n)
  | some m=>a7k size a off (a0t lo hi (some m) n n)
 | .es=>match a0t lo hi mx 0 0 with|some _=>some .es|none=>none
 | _=>none
noncomputable def b8j (P:Program) (t:TypeId) (x:AV) (lo hi mx:Option AV) : Option AV :=
 match P.underlying t with
 | some (.slice e)=>match P.info? e with
  | some i=>a7l i.size lo hi mx x
  | none=>none
 | some (.pointer arr)=>match P.underlying arr,x with
  | some (.array n e),.ptr a off=>match P.info? e with
   | some i=>a7k i.size a off (a0t lo hi mx n n)
   | none=>none
  | _,_=>none
 | some (.array n e)=>match P.info? e,x with
  | some i,.ptr a off=>a7k i.size a off (a0t lo hi mx n n)
  | _,_=>none
 | _=>none
noncomputable def fieldAddr (P:Program) (s:TypeId) (x:AV) (f:Nat) : Option AV :=
 match P.underlying s,x with
 | some (.struct fields),.ptr a off=>match fields[f]? with
  | some fd=>match P.info? fd.type with
   | some i=>match Nat.beq i.size 0 with|true=>none|false=>a2q (off+fd.offset) fun q=>some (.ptr a q)
   | none=>none
  | none=>none
 | _,_=>none
noncomputable def b8k (P:Program) (t:TypeId) (cs:List AV) (off:Nat) : Option AV :=
 match Cf P t with
 | some (true,size)=>match Nat.ble (off+size) cs.length with|true=>some (.agg ((cs.drop off).take size))|false=>none
 | some (false,_)=>cs[off]?
 | none=>none
noncomputable def field (P:Program) (t:TypeId) (x:AV) (f:Nat) : Option AV :=
 match P.underlying t,asAggL x with
 | some (.struct fields),some cs=>match fields[f]? with
  | some fd=>b8k P fd.type cs fd.offset
  | none=>none
 | _,_=>none
noncomputable def indexAddr (P:Program) (t:TypeId) (x i:AV) : Option AV :=
 match P.underlying t,x,natOf i with
 | some (.slice e),.sl a off len _,some k=>match P.info? e with|some j=>(match Nat.blt k len with|true=>a2q (off+k*j.size) fun q=>some (.ptr a q)|false=>none)|none=>none
 | some (.slice e),.slq a off len _,some k=>match P.info? e with|some j=>(match Nat.blt k len with|true=>a2q (off+k*j.size) fun q=>some (.ptr a q)|false=>none)|none=>none
 | some (.array n e),.ptr a off,some k=>match P.info? e with|some j=>(match Nat.blt k n with|true=>a2q (off+k*j.size) fun q=>some (.ptr a q)|false=>none)|none=>none
 | _,_,_=>none
noncomputable def index (P:Program) (t:TypeId) (x i:AV) : Option AV :=
 match P.underlying t,asAggL x,natOf i with
 | some (.array n e),some cs,some k=>match P.info? e with|some j=>if k<n then b8k P e cs (k*j.size) else none|none=>none
 | _,_,_=>none
noncomputable def nilKind:AV->Option (Nat×Bool)
 | .ptr _ _=>some (1,false)
 | .lit (.pointer none)=>some (1,true)
 | .sl _ _ _ _=>some (2,false)
 | .slq _ _ _ _=>some (2,false)
 | .es=>some (2,false)
 | .lit (.slice none _ _)=>some (2,true)
 | .map _=>some (3,false)
 | .lit (.map none)=>some (3,true)
 | .func _ _ _=>some (4,false)
 | .lit .nilFunc=>some (4,true)
 | .iface _ _=>some (5,false)
 | .lit .nilIface=>some (5,true)
 | _=>none
noncomputable def descKind:Option TypeDesc->Nat
 | some (.pointer _)=>1
 | some (.slice _)=>2
 | some (.map _ _)=>3
 | some (.func _ _ _)=>4
 | some (.interface _)=>5
 | _=>0
noncomputable def c2h (d:Option TypeDesc) (a b:AV) : Bool :=
 match nilKind a,nilKind b with
 | some (k,true),some (l,false)=>Nat.beq k l && Nat.beq k (descKind d)
 | some (k,false),some (l,true)=>Nat.beq k l && Nat.beq k (descKind d)
 | _,_=>false
noncomputable def lenOf:AV->Option Nat
 | .sl _ _ n _|.slq _ _ n _=>some n
 | .es=>some 0
 | .lit (.slice none n _)=>some n
 | .lit (.string s)=>some s.size
 | _=>none
noncomputable def Cx (H:Mem) (size n:Nat) : AV->Option (List AV)
 | .sl a off _ _|.slq a off _ _=>match H.get a with|some (.cells l _ _)=>a9d l (n*size) off none some|_=>none
 | .es=>if n=0 then some [] else none
 | .lit (.slice none _ _)=>some []
 | .lit (.string s)=>some ((s.extract 0 n).data.toList.map fun b=>.lit (.int .u8 b.toNat))
 | _=>none
noncomputable def small (need cap bytes:Nat) : Bool:=decide (need<=1048576) && decide (cap<=1048576) && decide (bytes<=1048576)
noncomputable def a5p (H:Mem) (l:List AV) (n size:Nat) : Option (AV×Mem):=H.newK (.cells l true size) fun H'=>some (.slq H.next 0 n 0,H')
noncomputable def a7m (H:Mem) (a:Nat) (l:List AV) (z off:Nat) (new:List AV) (v:AV) : Option (AV×Mem) :=
 match allOne new with
 | true=>a9e none l off new fun l=>H.setK a (.cells l true z) fun H=>some (v,H)
 | false=>none
noncomputable def b8l (H:Mem) (size bytes n:Nat) (new:List AV) : Option (AV×Mem):=match small n 0 bytes with|true=>a5p H new n size|false=>none
noncomputable def b5d (H:Mem) (size bytes n:Nat) (new:List AV) (a off k cap:Nat) : Option (AV×Mem) :=
 match Nat.ble (k+n) cap with
 | true=>match H.get a with
  | some (.cells l true z)=>a7m H a l z (off+k*size) new (.sl a off (k+n) cap)
  | _=>none
 | false=>match H.get a,small (k+n) cap bytes with
  | some (.cells l _ _),true=>a9d l (k*size) off none fun old=>b8g old new fun l=>a5p H l (k+n) size
  | _,_=>none
noncomputable def b8m (H:Mem) (size bytes n:Nat) (new:List AV) (a off k d:Nat) : Option (AV×Mem) :=
 match H.get a with
 | some (.cells l true z)=>match Nat.beq z size && Nat.beq off (d*size),Nat.ble (off+(k+n)*size) (len l),Nat.beq (off+k*size) (len l) && small (k+n) 0 bytes && allOne new with
  | true,true,_=>a7m H a l z (off+k*size) new (.slq a off (k+n) d)
  | true,false,true=>a9d l (k*size) off none fun old=>b8g old new fun l=>H.delK a fun H=>a5p H l (k+n) size
  | _,_,_=>none
 | _=>none
noncomputable def a1c (H:Mem) (size bytes n:Nat) (s:AV) (new:List AV) : Option (AV×Mem) :=
 match Nat.beq (len new) (n*size) with
 | true=>match s with
  | .lit (.slice none 0 0)=>b8l H size bytes n new
  | .sl a off k cap=>b5d H size bytes n new a off k cap
  | .slq a off k d=>b8m H size bytes n new a off k d
  | _=>none
 | false=>none
noncomputable def isSlice:AV->Bool
 | .sl _ _ _ _|.slq _ _ _ _|.lit (.slice none 0 0)=>true
 | _=>false
noncomputable def a2d (H:Mem) (size bytes:Nat) (s x:AV) : Option (AV×Mem) :=
 match lenOf x with
 | some 0=>match isSlice s with|true=>some (s,H)|false=>none
 | some n=>match Nat.beq size 0,Cx H size n x with
  | false,some new=>a1c H size bytes n s new
  | _,_=>none
 | none=>none
noncomputable def b8n (P:Program) (xType:Option TypeId) : Bool :=
 match xType with
 | some t=>match P.underlying t with|some (.slice _)|some .string=>true|_=>false
 | none=>false
noncomputable def c2i (P:Program) (xType:Option TypeId) : Bool :=
 match xType with
 | some t=>match P.underlying t with|some (.int _)=>true|_=>false
 | none=>false
noncomputable def c2j (P:Program) (H:Mem) (e:TypeId) (size bytes:Nat) (s x:AV) : Option (AV×Mem) :=
 match natOf x with
 | some 0=>match isSlice s with|true=>some (s,H)|false=>none
 | some n=>match Nat.beq size 0,Nat.ble n 1048576 && Nat.ble bytes 1048576,Cl P e with
  | false,true,some z=>a1c H size bytes n s (rep z n)
  | _,_,_=>none
 | none=>none
noncomputable def append (P:Program) (H:Mem) (sType:TypeId) (xType:Option TypeId) (s x:AV) : Option (AV×Mem) :=
 match a3c P sType,b8n P xType with
 | some (_,size,bytes),true=>a2d H size bytes s x
 | some (e,size,bytes),false=>match c2i P xType with|true=>c2j P H e size bytes s x|false=>none
 | _,_=>none
noncomputable def c8e (H:Mem) (d:AV) (m:Nat) (l:List AV) : Option (AV×Mem) :=
 match d with
 | .sl a off _ _|.slq a off _ _=>match H.get a with
  | some (.cells c true z)=>a7m H a c z off l (.lit (goInt m))
  | _=>none
 | _=>none
noncomputable def copy (P:Program) (H:Mem) (dType:TypeId) (d s:AV) : Option (AV×Mem) :=
 match a3c P dType,lenOf s,lenOf d with
 | some (_,size,_),some n,some k =>
  match Nat.min n k with
  | 0=>match isSlice d with|true=>some (.lit (goInt 0),H)|false=>none
  | m=>match Nat.beq size 0,Cx H size m s with
   | false,some l=>c8e H d m l
   | _,_=>none
 | _,_,_=>none
noncomputable def bytesOf:List AV->Option (List UInt8)
 | []=>some []
 | .lit (.int .u8 n) :: l=>match bytesOf l with|some r=>some (UInt8.ofNat n.toNat :: r)|none=>none
 | _ :: _=>none
noncomputable def convert (P:Program) (H:Mem) (src dst:TypeId) (x:AV) : Option (AV×Mem) :=
 match P.underlying src,P.underlying dst,x with
 | some .string,some (.slice e),.lit (.string s)=>match P.underlying e with
  | some (.int .u8)=>if s.size<=1048576 then a5p H (s.data.toList.map fun b=>.lit (.int .u8 b.toNat)) s.size 1 else none
  | _=>none
 | some (.slice _),some .string,.lit (.string _)=>none
 | some (.slice e),some .string,x=>match P.underlying e with
  | some (.int .u8)=>match lenOf x with
   | some n=>match Cx H 1 n x with
    | some l=>match bytesOf l with|some b=>some (.lit (.string ⟨b.toArray⟩),H)|none=>none
    | none=>none
   | none=>none
  | _=>none
 | _,_,_=>none
noncomputable def a9f (P:Program) (keyType:TypeId) (k:Value) (es:List (AV×AV×Nat)) : Option (Option Nat) :=
 match litAll (es.map (·.1)) with
 | some ks=>match Ao P (Instr.findKey keyType k (ks.map fun q=>⟨q,undef,0⟩)) with
  | some (some (i,_))=>some (some i)
  | some none=>some none
  | none=>none
 | none=>none
noncomputable def c2k (ok:Bool) (v:AV) (b:Bool) : AV:=match ok with|true=>.tup [v,.lit (.bool b)]|false=>v
noncomputable def a9g (P:Program) (t:TypeId) : Option Value :=
 match P.info? t with
 | some i=>i.zero
 | none=>none
noncomputable def b3d (P:Program) (elem:TypeId) (es:List (AV×AV×Nat)) (ok:Bool) (i:Option Nat) : Option AV :=
 match i with
 | some i=>match nth es i with
  | some (_,v,_)=>some (c2k ok v true)
  | none=>none
 | none=>match a9g P elem with
  | some z=>some (c2k ok (.lit z) false)
  | none=>none
noncomputable def lookup (P:Program) (H:Mem) (t:TypeId) (m k:AV) (ok:Bool) : Option AV :=
 match P.underlying t,m,toLit k with
 | some (.map key elem),.map a,some k=>match H.get a with
  | some (.map es _)=>match Ao P (Instr.checkKey es.isEmpty 10000 key k),a9f P key k es with
   | some _,some i=>b3d P elem es ok i
   | _,_=>none
  | _=>none
 | _,_,_=>none
noncomputable def b8o (x:AV×AV) : List (AV×AV×Nat)->Nat->List (AV×AV×Nat)
 | [],_=>[]
 | (_,_,b) :: r,0=>(x.1,x.2,b) :: r
 | e :: r,i+1=>e :: b8o x r i
noncomputable def b8p (es:List (AV×AV×Nat)) (clock:Nat) (k:Value) (v:AV) (i:Option Nat) : Option Blk :=
 match i with
 | some i=>match nth es i with
  | some (.lit old,_,_)=>match Instr.sameBits 10000 old k with
   | true=>some (.map (b8o (.lit k,v) es i) clock)
   | false=>none
  | _=>none
 | none=>some (.map (es++[(.lit k,v,clock)]) (clock+1))
noncomputable def mapUpdate (P:Program) (H:Mem) (t:TypeId) (m k v:AV) : Option Mem :=
 match P.underlying t,m,toLit k with
 | some (.map key _),.map a,some k=>match H.get a with
  | some (.map es clock)=>match Ao P (Instr.checkKey false 10000 key k),a9f P key k es with
   | some _,some i=>match b8p es clock k v i with
    | some b=>H.setK a b some
    | none=>none
   | _,_=>none
  | _=>none
 | _,_,_=>none
noncomputable def typeAssert (P:Program) (x:AV) (asserted:TypeId) (ok:Bool) : Option AV :=
 match P.underlying asserted,x with
 | some (.interface want),.iface t _=>match P.info? t with
  | some i=>match Instr.missingMethod want i.methods with
   | none=>some (if ok then .tup [x,.lit (.bool true)] else x)
   | some _=>if ok then (match P.info? asserted with|some j=>(match j.zero with|some z=>some (.tup [.lit z,.lit (.bool false)])|none=>none)|none=>none) else none
  | none=>none
 | some _,.iface t v =>
  if t=asserted then some (if ok then .tup [v,.lit (.bool true)] else v)
  else if ok then (match P.info? asserted with|some j=>(match j.zero with|some z=>some (.tup [.lit z,.lit (.bool false)])|none=>none)|none=>none) else none
 | _,_=>none
noncomputable def Aq (P:Program) (f:FuncId) : Bool :=
 match P.funcs[f]? with
 | some fn=>fn.body.isSome && !(fn.name == "runtime.NumGoroutine")
 | none=>false
noncomputable def ifaceOf:AV->Option (TypeId×AV)
 | .iface t v=>some (t,v)
 | .lit (.iface t v)=>some (t,.lit v)
 | _=>none
noncomputable def b5e (d:Option TypeDesc) : Option Bool:=match d with
 | some (.pointer _)=>some true
 | some _=>some false
 | none=>none
noncomputable def c8f (d:Option Bool) (m:Method) : Option FuncId :=
 match m.path.isEmpty,m.func with
 | true,some (f,pr)=>match d,pr with
  | some true,true=>some f
  | some false,false=>some f
  | _,_=>none
 | _,_=>none
noncomputable def c2l (P:Program) (t:TypeId) (name:String) : Option FuncId :=
 match P.info? t with
 | some i=>match i.methods.find? (·.name == name) with
  | some m=>c8f (b5e (P.underlying t)) m
  | none=>none
 | none=>none
noncomputable def a6i (P:Program) (H:Mem) (f:FuncId) (args:List AV) : R:=if Aq P f then .enter f args H else .bad
noncomputable def b5f (P:Program) (H:Mem) (c:Call) (args:List AV) : R :=
 match args,c.argTypes[0]? with
 | [s,x],some st=>match append P H st c.argTypes[1]? s x with|some (v,H)=>.val v H|none=>.bad
 | _,_=>.bad
noncomputable def c2m (P:Program) (H:Mem) (c:Call) (args:List AV) : R :=
 match args,c.argTypes[0]? with
 | [d,s],some dt=>match copy P H dt d s with|some (v,H)=>.val v H|none=>.bad
 | _,_=>.bad
noncomputable def b8q (P:Program) (H:Mem) (el:TypeId) (d:AV) : Option (AV×Mem) :=
 match d,Cl P el with
 | .sl a off (n+1) _,some z|.slq a off (n+1) _,some z=>match H.get a with
  | some (.cells c true k)=>a7m H a c k off (rep z (n+1)) (.lit (.tuple #[]))
  | _=>none
 | _,_=>none
noncomputable def b8r (P:Program) (H:Mem) (c:Call) (args:List AV) : R :=
 match args,c.argTypes[0]? with
 | [d],some dt=>match a3c P dt with
  | some (el,_,_)=>match b8q P H el d with|some (v,H)=>.val v H|none=>.bad
  | none=>.bad
 | _,_=>.bad
noncomputable def a4r (P:Program) (H:Mem) (c:Call) (args:List AV) : R :=
 match args,(c.argTypes[0]?).bind P.underlying with
 | [.sl _ _ n _],some (.slice _)=>.val (.lit (goInt n)) H
 | [.slq _ _ n _],some (.slice _)=>.val (.lit (goInt n)) H
 | [.es],some (.slice _)=>.val (.lit (goInt 0)) H
 | [.map a],some (.map _ _)=>match H.get a with|some (.map es _)=>.val (.lit (goInt es.length)) H|_=>.bad
 | [.lit (.string s)],some .string=>.val (.lit (goInt s.size)) H
 | _,_=>.bad
noncomputable def a5q (P:Program) (H:Mem) (ev:Ev) (o:Oper) (c:Call) (args:List AV) : R :=
 match a4r P H c args with
 | .bad=>ofOpt H (Ba P ev o)
 | r=>r
noncomputable def a9h (P:Program) (H:Mem) (ev:Ev) (o:Oper) (c:Call) (args:List AV) : R :=
 match Ba P ev o with
 | some v=>.val v H
 | none=>match args,(c.argTypes[0]?).bind P.underlying with
  | [.sl _ _ _ n],some (.slice _)=>.val (.lit (goInt n)) H
  | _,_=>.bad
noncomputable def a3d (P:Program) (H:Mem) (ev:Ev) (o:Oper) (c:Call) (args:List AV) (b:Builtin) : R :=
 match b with
 | .append=>b5f P H c args
 | .copy=>c2m P H c args
 | .clear=>b8r P H c args
 | .len=>a5q P H ev o c args
 | .cap=>a9h P H ev o c args
 | .recover=>.recover
 | _=>ofOpt H (Ba P ev o)
noncomputable def b8s (P:Program) (H:Mem) (ev:Ev) (args:List AV) (recv:Operand) (name:String) : R :=
 match ev recv with
 | some r=>match ifaceOf r with
  | some (t,v)=>match c2l P t name with
   | some f=>a6i P H f (v :: args)
   | none=>.bad
  | none=>.bad
 | none=>.bad
noncomputable def a9i (P:Program) (H:Mem) (args:List AV) (f:Option AV) : R :=
 match f with
 | some (.lit (.func (.func f) first cap))=>a6i P H f (first.toList.map .lit++args++cap.toList.map .lit)
 | some (.func (.func f) first cap)=>a6i P H f (first++args++cap)
 | _=>.bad
noncomputable def Cb (P:Program) (H:Mem) (ev:Ev) (o:Oper) (c:Call) : R :=
 match Bq ev c.args.toList with
 | none=>.bad
 | some args=>match c.callee with
  | .builtin b=>a3d P H ev o c args b
  | .invoke recv name=>b8s P H ev args recv name
  | .value f=>a9i P H args (ev f)
noncomputable def b3e (H:Mem) (ev:Ev) (c:Call) : R :=
 match Bq ev c.args.toList,c.callee with
 | some args,.value f=>match ev f with
  | some (.func fn first cap)=>.dfr fn cap (first++args) H
  | some (.lit (.func fn first cap))=>.dfr fn (cap.toList.map .lit) (first.toList.map .lit++args) H
  | _=>.bad
 | _,_=>.bad
noncomputable def c8g (n:Int) : Bool:=match n with|.ofNat m=>Nat.ble m 9223372036854775807|.negSucc m=>Nat.ble m 9223372036854775807
noncomputable def b1l (k:IntKind) (n:Int) : Option AV:=match k with
 | .i64=>match c8g n with|true=>some (.lit (.int .i64 n))|false=>none
 | .u8=>match n with|.ofNat m=>(match Nat.ble m 255 with|true=>some (.lit (.int .u8 (.ofNat m)))|false=>none)|_=>none
 | _=>none
noncomputable def iEq:Int->Int->Bool
 | .ofNat a,.ofNat b=>Nat.beq a b
 | .negSucc a,.negSucc b=>Nat.beq a b
 | _,_=>false
noncomputable def iLt:Int->Int->Bool
 | .ofNat a,.ofNat b=>Nat.blt a b
 | .negSucc _,.ofNat _=>true
 | .ofNat _,.negSucc _=>false
 | .negSucc a,.negSucc b=>Nat.blt b a
noncomputable def kEq:IntKind->IntKind->Bool
 | .i64,.i64=>true
 | .u8,.u8=>true
 | _,_=>false
noncomputable def bv (b:Bool) : Option AV:=match b with|true=>some (.lit (.bool true))|false=>some (.lit (.bool false))
noncomputable def Cq (op:BinOp) (x y:AV) : Option AV :=
 match x,y with
 | .lit (.int k a),.lit (.int k' b)=>match kEq k k' with
  | true=>match op with
   | .add=>b1j (Int.add a b) (b1l k)
   | .sub=>b1j (Int.sub a b) (b1l k)
   | .mul=>b1j (Int.mul a b) (b1l k)
   | .eql=>bv (iEq a b)
   | .neq=>bv (!iEq a b)
   | .lss=>bv (iLt a b)
   | .leq=>bv (!iLt b a)
   | .gtr=>bv (iLt b a)
   | .geq=>bv (!iLt a b)
   | _=>none
  | false=>none
 | _,_=>none
noncomputable def b5g (a:Option AV) (b:Unit->Option AV) : Option AV:=match a with|some v=>some v|none=>b ()
noncomputable def a4e (H:Mem) (c a b:Option AV) : R :=
 match c with
 | some (.lit (.bool true))=>ofOpt H a
 | some (.lit (.bool false))=>ofOpt H b
 | _=>.bad
noncomputable def a6j (P:Program) (H:Mem) (t:TypeId) : R :=
 match Cl P t with|some l=>a0j H l true (.ptr H.next 0)|none=>.bad
noncomputable def a4s (H:Mem) (x:Option AV) : R :=
 match x with|some v=>a0j H (cellsOf v) true (.ptr H.next 0)|none=>.bad
noncomputable def a4t (P:Program) (H:Mem) (t:TypeId) (ps:Option (List (Nat×AV))) : R :=
 match ps with
 | some ps=>ofOpt H (build P t ps)
 | none=>.bad
noncomputable def a1o (P:Program) (e:TypeId) (n:Nat) : Option (List AV):=match Nat.beq n 0 with|true=>some []|false=>Cl P e
noncomputable def a3e (P:Program) (H:Mem) (t:TypeId) (len:Nat) (ps:Option (List (Nat×AV))) : R :=
 match a3c P t,ps with
 | some (e,size,_),some ps =>
  match Nat.ble (len*size) 1048576,a1o P e (len*size) with
  | true,some z=>match a7i (fun i=>some (i*size,size)) (rep z len) ps with
   | some l=>a0j H l true (.sl H.next 0 len len)
   | none=>.bad
  | _,_=>.bad
 | _,_=>.bad
noncomputable def a3f (P:Program) (H:Mem) (t:TypeId) (a:Option AV) : R :=
 match a with|some p=>ofOpt H (load P H t p)|none=>.bad
noncomputable def a5r (P:Program) (H:Mem) (t:TypeId) (a x:Option AV) : R :=
 match a,x with
 | some p,some v=>match store P H t p v with|some H=>.skip H|none=>.bad
 | _,_=>.bad
noncomputable def a6k (P:Program) (H:Mem) (ev:Ev) (o:Oper) (x:Option AV) : R :=
 match x with
 | some (.ptr a off)=>.val (.ptr a off) H
 | some (.func (.func f) x y)=>.val (.func (.func f) x y) H
 | some (.iface t v)=>.val (.iface t v) H
 | _=>ofOpt H (Ba P ev o)
noncomputable def b3f (P:Program) (H:Mem) (op:BinOp) (t:TypeId) (x y:Option AV) : R :=
 match x,y with
 | some a,some b=>match op,c2h (P.underlying t) a b with
  | .eql,true=>.val (.lit (.bool false)) H
  | .neq,true=>.val (.lit (.bool true)) H
  | _,_=>.bad
 | _,_=>.bad
noncomputable def b5h (op:BinOp) (x y:Option AV) : Option AV :=
 match x,y with
 | some a,some b=>Cq op a b
 | _,_=>none
noncomputable def Bo (P:Program) (H:Mem) (ev:Ev) (o:Oper) (op:BinOp) (t:TypeId) (x y:Option AV) : R :=
 match b5h op x y with
 | some v=>.val v H
 | none=>match Ba P ev o with
  | some v=>.val v H
  | none=>b3f P H op t x y
noncomputable def a1p (P:Program) (H:Mem) (ev:Ev) (o:Oper) (src dst:TypeId) (x:Option AV) : R :=
 match Ba P ev o with
 | some v=>.val v H
 | none=>match x with
  | some v=>match convert P H src dst v with|some (v,H)=>.val v H|none=>.bad
  | none=>.bad
noncomputable def a7n (P:Program) (H:Mem) (t:TypeId) (x:Option AV) : R :=
 match P.underlying t,x with
 | some (.interface _),_=>.bad
 | some _,some v=>.val (.iface t v) H
 | _,_=>.bad
noncomputable def a5s (H:Mem) (fn:Fn) (a b:Option (List AV)) : R :=
 match a,b with
 | some a,some b=>.val (.func fn a b) H
 | _,_=>.bad
noncomputable def a3o (P:Program) (H:Mem) (ev:Ev) (t:TypeId) (r:Option Operand) : R :=
 match r with
 | none=>H.newK (.map [] 0) (fun H2=>.val (.map H.next) H2)
 | some x=>match P.underlying t,ev x with
  | some (.map _ _),some (.lit (.int _ _))=>H.newK (.map [] 0) (fun H2=>.val (.map H.next) H2)
  | _,_=>.bad
noncomputable def a2r (P:Program) (H:Mem) (t:TypeId) (l c:Option AV) : R :=
 match a3c P t,l.bind natOf,c.bind natOf with
 | some (e,size,bytes),some l,some c =>
  match Nat.ble l c && Nat.ble c 1048576 && Nat.ble bytes 1048576,a1o P e (c*size) with
  | true,some z=>a0j H (rep z c) true (.sl H.next 0 l c)
  | _,_=>.bad
 | _,_,_=>.bad
noncomputable def a2s (ev:Ev) (y:Option Operand) : Option (Option AV) :=
 match y with|none=>some none|some y=>match ev y with|some v=>some (some v)|none=>none
noncomputable def a4f (P:Program) (H:Mem) (ev:Ev) (t:TypeId) (x:Option AV) (lo hi mx:Option Operand) : R :=
 match x with
 | some v=>match a2s ev lo,a2s ev hi,a2s ev mx with
  | some lo,some hi,some mx=>ofOpt H (b8j P t v lo hi mx)
  | _,_,_=>.bad
 | none=>.bad
noncomputable def a0k (P:Program) (H:Mem) (ev:Ev) (o:Oper) (t:TypeId) (x:Option AV) (lo hi mx:Option Operand) : R :=
 match Ba P ev o with
 | some v=>.val v H
 | none=>a4f P H ev t x lo hi mx
noncomputable def a3p (P:Program) (H:Mem) (ev:Ev) (o:Oper) (r:Option AV) : R :=
 match r with
 | some v=>.val v H
 | none=>ofOpt H (Ba P ev o)
noncomputable def a4g (P:Program) (H:Mem) (ev:Ev) (o:Oper) (s:TypeId) (x:Option AV) (f:Nat) : R :=
 match x with|some v=>a3p P H ev o (fieldAddr P s v f)|none=>.bad
noncomputable def a7o (P:Program) (H:Mem) (t:TypeId) (x:Option AV) (f:Nat) : R :=
 match x with|some v=>ofOpt H (field P t v f)|none=>.bad
noncomputable def a0u (P:Program) (H:Mem) (ev:Ev) (o:Oper) (t:TypeId) (x i:Option AV) : R :=
 match x,i with|some v,some k=>a3p P H ev o (indexAddr P t v k)|_,_=>.bad
noncomputable def a6l (P:Program) (H:Mem) (ev:Ev) (o:Oper) (t:TypeId) (x i:Option AV) : R :=
 match x,i with
 | some v,some k=>match index P t v k with
  | some v=>.val v H
  | none=>ofOpt H (Ba P ev o)
 | _,_=>.bad
noncomputable def a2t (P:Program) (H:Mem) (ev:Ev) (o:Oper) (t:TypeId) (m k:Option AV) (ok:Bool) : R :=
 match m,k with
 | some m,some k=>ofOpt H (b5g (Ba P ev o) fun _=>lookup P H t m k ok)
 | _,_=>.bad
noncomputable def a4h (P:Program) (H:Mem) (t:TypeId) (m k x:Option AV) : R :=
 match m,k,x with
 | some m,some k,some v=>match mapUpdate P H t m k v with|some H=>.skip H|none=>.bad
 | _,_,_=>.bad
noncomputable def b5i (P:Program) (H:Mem) (t:TypeId) (x:Option AV) : R :=
 match P.underlying t,x with
 | some .string,some (.lit (.string s))=>H.newK (.siter s 0) (fun H2=>.val (.ptr H.next 0) H2)
 | _,_=>.bad
noncomputable def c8h (H:Mem) (a:Nat) (s:ByteArray) (pos:Nat) (q:Nat×Nat) : R :=
 H.setK a (.siter s (pos+q.2)) (fun H=>.val (.tup [.lit (.bool true),.lit (goInt pos),.lit (.int .i32 q.1)]) H)
noncomputable def b5j (H:Mem) (it:Option AV) : R :=
 match it with
 | some (.ptr a 0)=>match H.get a with
  | some (.siter s pos) =>
   match Nat.blt pos s.size with
   | true=>c8h H a s pos (Utf8.decode s pos)
   | false=>.val (.tup [.lit (.bool false)]) H
  | _=>.bad
 | _=>.bad
noncomputable def a6m (P:Program) (H:Mem) (ev:Ev) (o:Oper) (x:Option AV) (asserted:TypeId) (ok:Bool) : R :=
 match Ba P ev o with
 | some v=>.val v H
 | none=>match x with|some v=>ofOpt H (typeAssert P v asserted ok)|none=>.bad
noncomputable def a5t (H:Mem) (t:Option AV) (i:Nat) : R :=
 match t with
 | some (.tup l)=>ofOpt H l[i]?
 | some (.lit (.tuple vs))=>match vs[i]? with|some v=>.val (.lit v) H|none=>.bad
 | _=>.bad
noncomputable def b5k (H:Mem) (x:Option AV) : R :=
 match x with
 | some (.iface t v)=>.panic (.iface t v) H
 | some (.lit (.iface t v))=>.panic (.lit (.iface t v)) H
 | _=>.bad
noncomputable def a1q (H:Mem) (x:Option AV) : R :=
 match x with|some v=>.val v H|none=>.bad
abbrev Hd:=Program->Mem->Ev->Oper->R
noncomputable def c8i (x:Operand) : Hd:=fun _ H ev _=>a1q H (ev x)
noncomputable def d9c (c a b:Operand) : Hd:=fun _ H ev _=>a4e H (ev c) (ev a) (ev b)
noncomputable def d9d (t:TypeId) : Hd:=fun P H _ _=>a6j P H t
noncomputable def hBox (_:TypeId) (x:Operand) : Hd:=fun _ H ev _=>a4s H (ev x)
noncomputable def d9e (t:TypeId) (parts:Array (Nat×Operand)) : Hd:=fun P H ev _=>a4t P H t (Dc ev parts.toList)
noncomputable def d9f (t:TypeId) (len:Nat) (parts:Array (Nat×Operand)) : Hd:=fun P H ev _=>a3e P H t len (Dc ev parts.toList)
noncomputable def c8j (t:TypeId) (m k x:Operand) : Hd:=fun P H ev _=>a4h P H t (ev m) (ev k) (ev x)
noncomputable def d9g (t:TypeId) (a:Operand) : Hd:=fun P H ev _=>a3f P H t (ev a)
noncomputable def d9h (t:TypeId) (a x:Operand) : Hd:=fun P H ev _=>a5r P H t (ev a) (ev x)
noncomputable def hN (_:Nat) : Hd:=fun _ _ _ _=>.bad
noncomputable def d9i (x:Operand) : Hd:=fun P H ev o=>a6k P H ev o (ev x)
noncomputable def hBin (op:BinOp) (t:TypeId) (x y:Operand) (_:TypeId) : Hd:=fun P H ev o=>Bo P H ev o op t (ev x) (ev y)
noncomputable def hUn (_:UnOp) (_:TypeId) (_:Operand) : Hd:=fun P H ev o=>ofOpt H (Ba P ev o)
noncomputable def d9j (src dst:TypeId) (x:Operand) : Hd:=fun P H ev o=>a1p P H ev o src dst (ev x)
noncomputable def hTX (_:TypeId) (_:Operand) : Hd:=fun _ _ _ _=>.bad
noncomputable def d9k (t:TypeId) (x:Operand) : Hd:=fun P H ev _=>a7n P H t (ev x)
noncomputable def d9l (fn:Fn) (first captured:Array Operand) : Hd:=fun _ H ev _=>a5s H fn (Bq ev first.toList) (Bq ev captured.toList)
noncomputable def d9m (t:TypeId) (r:Option Operand) : Hd:=fun P H ev _=>a3o P H ev t r
noncomputable def d9n (t:TypeId) (l c:Operand) : Hd:=fun P H ev _=>a2r P H t (ev l) (ev c)
noncomputable def d9o (t:TypeId) (x:Operand) (lo hi mx:Option Operand) : Hd:=fun P H ev o=>a0k P H ev o t (ev x) lo hi mx
noncomputable def d9p (s:TypeId) (x:Operand) (f:Nat) : Hd:=fun P H ev o=>a4g P H ev o s (ev x) f
noncomputable def d9q (t:TypeId) (x:Operand) (f:Nat) : Hd:=fun P H ev _=>a7o P H t (ev x) f
noncomputable def d9r (t:TypeId) (x i:Operand) : Hd:=fun P H ev o=>a0u P H ev o t (ev x) (ev i)
noncomputable def d9s (t:TypeId) (x i:Operand) : Hd:=fun P H ev o=>a6l P H ev o t (ev x) (ev i)
noncomputable def d9t (t:TypeId) (m k:Operand) (ok:Bool) : Hd:=fun P H ev o=>a2t P H ev o t (ev m) (ev k) ok
noncomputable def hTXX (_:TypeId) (_ _:Operand) : Hd:=fun _ _ _ _=>.bad
noncomputable def d9u (_:TypeId) (_ _ _:Operand) : Hd:=fun _ _ _ _=>.bad
noncomputable def d9v (t:TypeId) (x:Operand) : Hd:=fun P H ev _=>b5i P H t (ev x)
noncomputable def d9w (it:Operand) (b:Bool) : Hd:=fun _ H ev _=>match b with|true=>b5j H (ev it)|false=>.bad
noncomputable def hX (_:Operand) : Hd:=fun _ _ _ _=>.bad
noncomputable def hXX (_ _:Operand) : Hd:=fun _ _ _ _=>.bad
noncomputable def d9x (x:Operand) (_ asserted:TypeId) (ok:Bool) : Hd:=fun P H ev o=>a6m P H ev o (ev x) asserted ok
noncomputable def d9y (t:Operand) (i:Nat) : Hd:=fun _ H ev _=>a5t H (ev t) i
noncomputable def d9z (c:Call) : Hd:=fun P H ev o=>Cb P H ev o c
noncomputable def hC (_:Call) : Hd:=fun _ _ _ _=>.bad
noncomputable def e0a (c:Call) : Hd:=fun _ H ev _=>b3e H ev c
noncomputable def e0b (x:Operand) : Hd:=fun _ H ev _=>b5k H (ev x)
noncomputable def e0c (_:TypeId) (_:Operand) (_:Bool) : Hd:=fun _ _ _ _=>.bad
noncomputable def e0d (_:Array SelectCase) (_:Bool) : Hd:=fun _ _ _ _=>.bad
noncomputable def handler:Op->Hd:=Op.rec (motive:=fun _=>Hd)
 c8i c8i d9c d9d hBox d9e d9f c8j d9g d9h hN hN d9i hBin hUn d9j hTX d9k d9l d9m hTX d9n d9o d9p d9q d9r d9s d9t c8j hTXX d9u d9v d9w hX d9x d9y d9z hC e0a e0b hXX e0c e0d
noncomputable def opV (P:Program) (H:Mem) (ev:Ev) (o:Oper) : R:=handler o.op P H ev o
end Go.Ai
end
section
namespace Go.Ai
def freeOp:Op->Bool
 | .move _|.assign _|.pick _ _ _|.build _ _|.nilCheck _|.binOp _ _ _ _ _|.unOp _ _ _|.makeInterface _ _|.makeFunc _ _ _
 | .slice _ _ _ _ _|.fieldAddr _ _ _|.field _ _ _|.indexAddr _ _ _|.index _ _ _|.typeAssert _ _ _ _|.extract _ _=>true
 | _=>false
def eqV:Nat->Value->Value->Bool
 | _,.bool a,.bool b=>a == b
 | _,.int j a,.int k b=>decide (j=k) && decide (a=b)
 | _,.string a,.string b=>decide (a=b)
 | _,.pointer a,.pointer b=>decide (a=b)
 | _,.slice a n c,.slice b m d=>decide (a=b) && decide (n=m) && decide (c=d)
 | _,.map a,.map b=>decide (a=b)
 | _,.nilFunc,.nilFunc=>true
 | _,.nilIface,.nilIface=>true
 | n+1,.iface t v,.iface u x=>decide (t=u) && eqV n v x
 | _,.func f ⟨[]⟩ ⟨[]⟩,.func g ⟨[]⟩ ⟨[]⟩=>decide (f=g)
 | _,_,_=>false
def c2n (acc:List Nat) (o:Oper) : Nat :=
 o.after.toList.foldl (fun s e=>match Region.binds .any e with|true=>s ||| 2 ^ e.on ||| acc.getD e.on 0|false=>s) 0
def ancs:List Nat->List Oper->List Nat
 | acc,[]=>acc
 | acc,o :: l=>ancs (acc++[c2n acc o]) l
def Aw (tab:List Nat) (i j:Nat) : Bool:=(tab.getD i 0).testBit j
mutual
def eqAV:AV->AV->Bool
 | .lit a,.lit b=>eqV 4 a b
 | .ptr a i,.ptr b j=>decide (a=b) && decide (i=j)
 | .sl a i n c,.sl b j m d=>decide (a=b) && decide (i=j) && decide (n=m) && decide (c=d)
 | .slq a i n c,.slq b j m d=>decide (a=b) && decide (i=j) && decide (n=m) && decide (c=d)
 | .es,.es=>true
 | .map a,.map b=>decide (a=b)
 | .func f x y,.func g u v=>decide (f=g) && eqAVs x u && eqAVs y v
 | .iface t x,.iface u y=>decide (t=u) && eqAV x y
 | .agg l,.agg m=>eqAVs l m
 | .tup l,.tup m=>eqAVs l m
 | _,_=>false
def eqAVs:List AV->List AV->Bool
 | [],[]=>true
 | x :: l,y :: m=>eqAV x y && eqAVs l m
 | _,_=>false
end
inductive Cls where
 | free|read|gen|alloc|chain|no
def cls (op:Op) : Cls :=
 match freeOp op with
 | true=>.free
 | false=>match op with
  | .load _ _|.lookup _ _ _ _=>.read
  | .convert _ _ _=>.gen
  | .alloc _|.box _ _|.buildSlice _ _ _|.makeSlice _ _ _|.makeMap _ _=>.alloc
  | .store _ _ _|.mapUpdate _ _ _ _|.insert _ _ _ _=>.chain
  | .call c=>match c.callee with
   | .builtin .append|.builtin .copy|.builtin .clear=>.chain
   | .builtin .len|.builtin .cap=>.read
   | .builtin .recover=>.no
   | .builtin _=>.gen
   | _=>.chain
  | _=>.no
def Cy (op:Op) : Bool:=match cls op with|.chain=>true|_=>false
def a4i (t:Nat) : List Oper->Nat->Option Nat
 | [],_=>none
 | o :: l,i=>match (match o.dst with|some d=>Nat.beq d t|none=>false) with
  | true=>some i
  | false=>a4i t l (i+1)
def chainOf:List Oper->Nat->List Nat
 | [],_=>[]
 | o :: l,i=>match Cy o.op with|true=>i :: chainOf l (i+1)|false=>chainOf l (i+1)
def a5u (tab:List Nat) : List Nat->Bool
 | i :: j :: l=>Aw tab j i && a5u tab (j :: l)
 | _=>true
def a1r (tab:List Nat) (i:Nat) : List Nat->Nat
 | []=>0
 | c :: cs=>match Aw tab i c with|true=>a1r tab i cs+1|false=>a1r tab i cs
def a2e (tab:List Nat) (cs:List Nat) (k:Nat) : List Oper->Nat->List Nat
 | [],_=>[]
 | o :: l,i=>match !Cy o.op && Nat.beq (a1r tab i cs) k with
  | true=>i :: a2e tab cs k l (i+1)
  | false=>a2e tab cs k l (i+1)
def a7p (ops:List Oper) (o:Oper) (i:Nat) : Bool :=
 (match o.dst with|some d=>(match a4i d ops 0 with|some j=>Nat.beq i j|none=>false)|none=>true) &&
 (match cls o.op with|.no=>false|_=>true) &&
 o.after.toList.all (fun e=>match Region.binds .any e with|true=>Nat.blt e.on i|false=>true) &&
 (match o.guard with|some g=>(match ops[g.1]? with|some p=>p.dst.isSome|none=>false)|none=>true)
def fit (ops:List Oper) : List Oper->Nat->Bool
 | [],_=>true
 | o :: l,i=>a7p ops o i && fit ops l (i+1)
def b3g (ops:List Oper) : Bool:=Nat.ble ops.length 256 && a5u (ancs [] ops) (chainOf ops 0) && fit ops ops 0
end Go.Ai
end
section
namespace Go.Ai
abbrev Dfr:=Fn×List AV×List AV
inductive Fr where
 | s (t:T2 AV) (ds:List Dfr)
 | g (t:T3 AV) (ds:List Dfr)
 | f (g:Nat->Option AV) (ds:List Dfr)
def a2u (g:Nat->Option AV) (d:Nat) (v:AV) : Nat->Option AV:=fun t=>if t=d then some v else g t
noncomputable def fgS (t:T2 AV) (_:List Dfr) (k:Nat) : Option AV:=Ct t k
noncomputable def fgG (t:T3 AV) (_:List Dfr) (k:Nat) : Option AV:=a5o t k
noncomputable def fpS {β:Type} (t:T2 AV) (ds:List Dfr) (d:Tmp) (v:AV) (K:Fr->β) : β:=b8e t d (.v d v) fun t=>K (.s t ds)
noncomputable def fpG {β:Type} (t:T3 AV) (ds:List Dfr) (d:Tmp) (v:AV) (K:Fr->β) : β:=c2c t d (.v d v) fun t=>K (.g t ds)
noncomputable def fgF (g:Nat->Option AV) (_:List Dfr) (k:Nat) : Option AV:=g k
noncomputable def fpF {β:Type} (g:Nat->Option AV) (ds:List Dfr) (d:Tmp) (v:AV) (K:Fr->β) : β:=K (.f (a2u g d v) ds)
noncomputable def Fr.get (fr:Fr) (t:Nat) : Option AV:=Fr.rec (motive:=fun _=>Nat->Option AV) fgS fgG fgF fr t
noncomputable def Fr.set {β:Type} (fr:Fr) (d:Tmp) (v:AV) (K:Fr->β) : β:=Fr.rec (motive:=fun _=>Tmp->AV->(Fr->β)->β) fpS fpG fpF fr d v K
noncomputable def Fr.defer (fr:Fr) (x:Dfr) : Fr:=Fr.rec (motive:=fun _=>Fr) (fun t ds=>.s t (x :: ds)) (fun t ds=>.g t (x :: ds)) (fun t ds=>.f t (x :: ds)) fr
noncomputable def Fr.defers (fr:Fr) : List Dfr:=Fr.rec (motive:=fun _=>List Dfr) (fun _ ds=>ds) (fun _ ds=>ds) (fun _ ds=>ds) fr
noncomputable def evT (t:Tmp) (fr:Fr) : Option AV:=fr.get t
noncomputable def evC (v:Value) (_:Fr) : Option AV:=some (.lit v)
noncomputable def evG (g:Nat) (_:Fr) : Option AV:=some (.lit (.pointer (some ⟨g,0,none⟩)))
noncomputable def evF (f:FuncId) (_:Fr) : Option AV:=some (.lit (.func (.func f) #[] #[]))
noncomputable def Fr.ev (fr:Fr) (x:Operand) : Option AV:=Operand.rec (motive:=fun _=>Fr->Option AV) evT evC evG evF x fr
noncomputable def putN {β:Type} (fr:Fr) (_:AV) (K:Fr->β) : β:=K fr
noncomputable def putS {β:Type} (d:Tmp) (fr:Fr) (v:AV) (K:Fr->β) : β:=fr.set d v K
noncomputable def Fr.putK {β:Type} (fr:Fr) (d:Option Tmp) (v:AV) (K:Fr->β) : β :=
 Option.rec (motive:=fun _=>Fr->AV->(Fr->β)->β) putN putS d fr v K
inductive Out where
 | norm (fr:Fr) (H:Mem)
 | exit (id:Nat) (fr:Fr) (H:Mem)
 | ret (fr:Fr) (H:Mem)
 | panic (v:AV) (fr:Fr) (H:Mem)
 | bad
inductive Ar where
 | ret (v:AV) (H:Mem)
 | panic (v:AV) (H:Mem)
 | bad
noncomputable def c2o (ops:Array Oper) (fr:Fr) (j:Nat) : Option Bool :=
 match ops[j]? with
 | some o=>match o.dst with
  | some d=>match fr.get d with
   | some (.lit (.bool b))=>some b
   | _=>none
  | none=>none
 | none=>none
noncomputable def a9j (ops:Array Oper) (fr:Fr) (g:Nat×Bool) : Option Bool :=
 match c2o ops fr g.1 with
 | some b=>match b,g.2 with
  | true,true=>some true
  | false,false=>some true
  | _,_=>some false
 | none=>match ops[g.1]? with
  | some p=>match p.dst with
   | some d=>match fr.get d with
    | some (.lit (.tuple _))=>some false
    | _=>none
   | none=>none
  | none=>none
abbrev CallF:=FuncId->List AV->Mem->Ar
abbrev LoopF:=Code->Fr->Mem->Out
abbrev AfterF:=CallF->Oper->Fr->(Fr->Mem->Out)->Out
noncomputable def aVal (v:AV) (H:Mem) : AfterF:=fun _ o fr k=>fr.putK o.dst v fun fr=>k fr H
noncomputable def e0e (H:Mem) : AfterF:=fun _ o fr k=>fr.putK o.dst (.lit undef) fun fr=>k fr H
noncomputable def e0f (f:FuncId) (args:List AV) (H:Mem) : AfterF:=fun callf o fr k =>
 match callf f args H with
 | .ret v H=>fr.putK o.dst v fun fr=>k fr H
 | .panic v H=>.panic v fr H
 | .bad=>.bad
noncomputable def aDfr (fn:Fn) (cap args:List AV) (H:Mem) : AfterF:=fun _ o fr k=>Fr.putK (fr.defer (fn,cap,args)) o.dst (.lit undef) fun fr=>k fr H
noncomputable def aBad:AfterF:=fun _ _ _ _=>.bad
noncomputable def e0g (v:AV) (H:Mem) : AfterF:=fun _ _ fr _=>.panic v fr H
noncomputable def after (callf:CallF) (o:Oper) (fr:Fr) (k:Fr->Mem->Out) (r:R) : Out :=
 R.rec (motive:=fun _=>AfterF) aVal e0e e0f aDfr aBad e0g aBad r callf o fr k
noncomputable def b5l (P:Program) (callf:CallF) (ops:Array Oper) (o:Oper) (fr:Fr) (H:Mem) (k:Fr->Mem->Out) (g:Nat×Bool) : Out :=
 match a9j ops fr g with
 | some true=>after callf o fr k (opV P H fr.ev o)
 | some false=>fr.putK o.dst (.lit undef) fun fr=>k fr H
 | none=>.bad
abbrev OneF:=Program->CallF->Array Oper->Oper->Fr->Mem->(Fr->Mem->Out)->Out
noncomputable def oneN:OneF:=fun P callf _ o fr H k=>after callf o fr k (opV P H fr.ev o)
noncomputable def oneG (g:Nat×Bool) : OneF:=fun P callf ops o fr H k=>b5l P callf ops o fr H k g
noncomputable def a9k (P:Program) (callf:CallF) (ops:Array Oper) (o:Oper) (fr:Fr) (H:Mem) (k:Fr->Mem->Out) : Out :=
 Option.rec (motive:=fun _=>OneF) oneN oneG o.guard P callf ops o fr H k
abbrev SeqF:=Program->CallF->Array Oper->Fr->Mem->Out
noncomputable def seqN:SeqF:=fun _ _ _ fr H=>.norm fr H
noncomputable def seqC (o:Oper) (_:List Oper) (ih:SeqF) : SeqF:=fun P callf ops fr H=>a9k P callf ops o fr H (ih P callf ops)
noncomputable def b3h (P:Program) (callf:CallF) (ops:Array Oper) (l:List Oper) (fr:Fr) (H:Mem) : Out :=
 List.rec (motive:=fun _=>SeqF) seqN seqC l P callf ops fr H
noncomputable def a9l (r:Out) (k:Fr->Mem->Out) : Out:=match r with
 | .norm fr H=>k fr H
 | r=>r
noncomputable def b5m (c:Option AV) (a b:Fr->Mem->Out) (fr:Fr) (H:Mem) : Out:=match c with
 | some (.lit (.bool true))=>a fr H
 | some (.lit (.bool false))=>b fr H
 | _=>.bad
noncomputable def b5n (id:Nat) (r:Out) : Out:=match r with
 | .exit id' fr H=>(match Nat.beq id' id with|true=>.norm fr H|false=>.exit id' fr H)
 | r=>r
abbrev XF:=Program->CallF->LoopF->Fr->Mem->Out
noncomputable def xSkip:XF:=fun _ _ _ fr H=>.norm fr H
noncomputable def c2p (ops:Array Oper) (tab:List Nat) (fr:Fr) (res:T2 AV) (i t:Nat) : Option AV :=
 match a4i t ops.toList 0 with
 | none=>fr.get t
 | some j=>match Aw tab i j with
  | true=>Ct res j
  | false=>match Aw tab j i || Nat.beq i j with
   | true=>fr.get t
   | false=>none
noncomputable def env (ops:Array Oper) (tab:List Nat) (fr:Fr) (res:T2 AV) (i:Nat) : Ev:=fun x=>match x with
 | .tmp t=>c2p ops tab fr res i t
 | .const v=>some (.lit v)
 | .global g=>some (.lit (.pointer (some ⟨g,0,none⟩)))
 | .func f=>some (.lit (.func (.func f) #[] #[]))
noncomputable def c8k (tab:List Nat) (res:T2 AV) (i:Nat) (g:Nat×Bool) : Option Bool :=
 match Aw tab i g.1,Ct res g.1 with
 | true,some (.lit (.bool b))=>(match b,g.2 with|true,true=>some true|false,false=>some true|_,_=>some false)
 | true,some (.lit (.tuple _))=>some false
 | _,_=>none
noncomputable def b3i (tab:List Nat) (res:T2 AV) (i:Nat) (o:Oper) : Option Bool:=match o.guard with|none=>some true|some g=>c8k tab res i g
noncomputable def quiet (P:Program) (H:Mem) (ev:Ev) (o:Oper) : Option AV :=
 match cls o.op with
 | .gen=>Ba P ev o
 | _=>match opV P H ev o with|.val v _=>some v|_=>none
abbrev Als:=List (Nat×Nat×Blk)
noncomputable def c8l (t:T2 AV) (k:Nat) : Bool:=Lf.rec (motive:=fun _=>Bool) true (fun _ _=>false) (gN (d1 k) (gN (d0 k) t))
noncomputable def a6n (res:T2 AV) (i:Nat) (v:AV) (K:T2 AV->Out) : Out:=match c8l res i with|true=>b8e res i (.v i v) K|false=>.bad
abbrev StF:=T2 AV->Mem->List Nat->Als->Out
noncomputable def c2q (P:Program) (ops:Array Oper) (tab:List Nat) (fr:Fr) (i:Nat) (res:T2 AV) (H:Mem) (held:List Nat) (als:Als) (K:StF) : Out :=
 match ops[i]? with
 | none=>.bad
 | some o=>match b3i tab res i o with
  | some false=>a6n res i (.lit undef) fun res=>K res H held als
  | some true=>match cls o.op with
   | .alloc=>match opV P H (env ops tab fr res i) o with
    | .val v H'=>match H'.get H.next with
     | some b=>a6n res i v fun res=>K res H' held ((i,H.next,b) :: als)
     | none=>.bad
    | _=>.bad
   | .read=>match quiet P H (env ops tab fr res i) o with
    | some v=>a6n res i v fun res=>K res H (i :: held) als
    | none=>.bad
   | _=>match quiet P H (env ops tab fr res i) o with
    | some v=>a6n res i v fun res=>K res H held als
    | none=>.bad
  | none=>.bad
noncomputable def b5o (P:Program) (ops:Array Oper) (tab:List Nat) (fr:Fr) : List Nat->T2 AV->Mem->List Nat->Als->StF->Out
 | [],res,H,held,als,K=>K res H held als
 | i :: l,res,H,held,als,K=>c2q P ops tab fr i res H held als fun res H held als=>b5o P ops tab fr l res H held als K
noncomputable def eqBlk:Blk->Blk->Bool
 | .cells l own z,.cells m own' z'=>eqAVs l m && (own == own') && Nat.beq z z'
 | .map [] c,.map [] c'=>Nat.beq c c'
 | _,_=>false
noncomputable def b1m (P:Program) (ops:Array Oper) (tab:List Nat) (fr:Fr) (res:T2 AV) (H:Mem) : List Nat->Bool
 | []=>true
 | i :: l=>match ops[i]?,Ct res i with
  | some o,some v=>match quiet P H (env ops tab fr res i) o with
   | some v'=>match eqAV v' v with|true=>b1m P ops tab fr res H l|false=>false
   | none=>false
  | _,_=>false
noncomputable def b1n (H:Mem) : Als->Bool
 | []=>true
 | (_,a,b) :: l=>match H.get a with
  | some b'=>match eqBlk b' b with|true=>b1n H l|false=>false
  | none=>false
noncomputable def a4u (tab:List Nat) (c:Nat) : List Nat->List Nat
 | []=>[]
 | i :: l=>match Aw tab c i with|true=>a4u tab c l|false=>i :: a4u tab c l
noncomputable def a3q (tab:List Nat) (c:Nat) : Als->Als
 | []=>[]
 | x :: l=>match Aw tab c x.1 with|true=>a3q tab c l|false=>x :: a3q tab c l
noncomputable def Fr.clear (fr:Fr) : Fr:=Fr.rec (motive:=fun _=>Fr) (fun _ ds=>.s e2 ds) (fun _ ds=>.s e2 ds) (fun _ ds=>.s e2 ds) fr
noncomputable def fin (res:T2 AV) (H:Mem) : List Oper->Nat->Fr->Out
 | [],_,fr=>.norm fr H
 | o :: l,i,fr=>match Ct res i with
  | some v=>fr.putK o.dst v fun fr=>fin res H l (i+1) fr
  | none=>.bad
noncomputable def act (P:Program) (callf:CallF) (ops:Array Oper) (tab:List Nat) (fr:Fr) (c:Nat) (res:T2 AV) (H:Mem) (K:T2 AV->Mem->Out) : Out :=
 match ops[c]? with
 | none=>.bad
 | some o=>match b3i tab res c o with
  | some false=>a6n res c (.lit undef) fun res=>K res H
  | some true=>match opV P H (env ops tab fr res c) o with
   | .val v H'=>a6n res c v fun res=>K res H'
   | .skip H'=>a6n res c (.lit undef) fun res=>K res H'
   | .enter f args H'=>match callf f args H' with
    | .ret v H''=>a6n res c v fun res=>K res H''
    | .panic v H''=>.panic v fr.clear H''
    | .bad=>.bad
   | _=>.bad
  | none=>.bad
noncomputable def b5p (P:Program) (callf:CallF) (ops:Array Oper) (tab:List Nat) (fr:Fr) (all:List Nat) : Nat->List Nat->T2 AV->Mem->List Nat->Als->Out
 | k,cs,res,H,held,als=>match cs with
  | []=>b5o P ops tab fr (a2e tab all k ops.toList 0) res H held als fun res H held als =>
   match b1m P ops tab fr res H held && b1n H als with
   | true=>fin res H ops.toList 0 fr
   | false=>.bad
  | c :: cs=>b5o P ops tab fr (a2e tab all k ops.toList 0) res H held als fun res H held als =>
   match b1m P ops tab fr res H held && b1n H als with
   | true=>act P callf ops tab fr c res H fun res H=>b5p P callf ops tab fr all (k+1) cs res H (a4u tab c held) (a3q tab c als)
   | false=>.bad
noncomputable def drawn (P:Program) (callf:CallF) (ops:Array Oper) (fr:Fr) (H:Mem) : Out :=
 match b3g ops.toList && Tables.follows P.toTables .mixedOrders with
 | true=>b5p P callf ops (ancs [] ops.toList) fr (chainOf ops.toList 0) 0 (chainOf ops.toList 0) e2 H [] []
 | false=>.bad
noncomputable def e0h (_:Nat) (ops:Array Oper) (draw:Bool) : XF:=fun P callf _ fr H=>match draw with
 | false=>b3h P callf ops ops.toList fr H
 | true=>drawn P callf ops fr H
noncomputable def c8m (_ _:Code) (a b:XF) : XF:=fun P callf loopf fr H=>a9l (a P callf loopf fr H) (b P callf loopf)
noncomputable def c8n (c:Operand) (_ _:Code) (a b:XF) : XF:=fun P callf loopf fr H=>b5m (fr.ev c) (a P callf loopf) (b P callf loopf) fr H
noncomputable def c8o (id:Nat) (_:Code) (a:XF) : XF:=fun P callf loopf fr H=>b5n id (a P callf loopf fr H)
noncomputable def c8p (b:Code) (a:XF) : XF:=fun P callf loopf fr H=>a9l (a P callf loopf fr H) (loopf (.loop b))
noncomputable def c8q (_:Operand) (_:Array Tmp) (_ _:Code) (_ _:XF) : XF:=fun _ _ _ _ _=>.bad
noncomputable def c8r (id:Nat) : XF:=fun _ _ _ fr H=>.exit id fr H
noncomputable def c8s (_:Code) (_:XF) : XF:=fun _ _ _ _ _=>.bad
noncomputable def c8t (_:Nat) : XF:=fun _ _ _ fr H=>.norm fr H
noncomputable def c8u (_:Nat) : XF:=fun _ _ _ _ _=>.bad
noncomputable def xRet:XF:=fun _ _ _ fr H=>.ret fr H
noncomputable def c8v (_:String) : XF:=fun _ _ _ _ _=>.bad
noncomputable def execC:Code->XF:=Code.rec (motive:=fun _=>XF) xSkip e0h c8m c8n c8o c8p c8q c8r c8s c8t c8u xRet c8v
noncomputable def Dd (P:Program) (callf:CallF) (loopf:LoopF) (c:Code) (fr:Fr) (H:Mem) : Out:=execC c P callf loopf fr H
inductive Mode where
 | returning
 | panicking (v:AV)
 | recovered (v:AV)
inductive a7q where
 | norm (fr:Fr) (u:Mode) (H:Mem)
 | ret (fr:Fr) (u:Mode) (H:Mem)
 | bad
noncomputable def c2r (callf:CallF) (o:Oper) (fr:Fr) (u:Mode) (k:Fr->Mode->Mem->a7q) (H:Mem) (r:R) : a7q :=
 match r with
 | .val v H=>fr.putK o.dst v fun fr=>k fr u H
 | .skip H=>fr.putK o.dst (.lit undef) fun fr=>k fr u H
 | .enter f args H=>match callf f args H with
  | .ret v H=>fr.putK o.dst v fun fr=>k fr u H
  | _=>.bad
 | .recover=>match u with
  | .panicking v=>fr.putK o.dst v fun fr=>k fr (.recovered v) H
  | _=>fr.putK o.dst (.lit .nilIface) fun fr=>k fr u H
 | _=>.bad
noncomputable def b1o (P:Program) (callf:CallF) (ops:Array Oper) : List Oper->Fr->Mode->Mem->a7q
 | [],fr,u,H=>.norm fr u H
 | o :: l,fr,u,H=>match (match o.guard with|none=>some true|some g=>a9j ops fr g) with
  | some true=>c2r callf o fr u (b1o P callf ops l) H (opV P H fr.ev o)
  | some false=>fr.putK o.dst (.lit undef) fun fr=>b1o P callf ops l fr u H
  | none=>.bad
noncomputable def b8t (u:Mode) (r:Out) : a7q:=match r with
 | .norm fr H=>.norm fr u H
 | .ret fr H=>.ret fr u H
 | _=>.bad
noncomputable def a4j (P:Program) (callf:CallF) (loopf:LoopF) : Code->Fr->Mode->Mem->a7q
 | .seq a b,fr,u,H=>match a4j P callf loopf a fr u H with
  | .norm fr u H=>a4j P callf loopf b fr u H
  | r=>r
 | .cond c a b,fr,u,H=>match fr.ev c with
  | some (.lit (.bool true))=>a4j P callf loopf a fr u H
  | some (.lit (.bool false))=>a4j P callf loopf b fr u H
  | _=>.bad
 | .region id ops true,fr,u,H=>b8t u (Dd P callf loopf (.region id ops true) fr H)
 | .region _ ops false,fr,u,H=>b1o P callf ops ops.toList fr u H
 | c,fr,u,H=>b8t u (Dd P callf loopf c fr H)
noncomputable def b5q {β:Type} (l:List AV) (fr:Fr) (K:Fr->β) : β :=
 List.rec (motive:=fun _=>Fr->Nat->β) (fun fr _=>K fr) (fun v _ ih fr i=>fr.set i v fun fr=>ih fr (Nat.succ i)) l fr 0
noncomputable def a6o (P:Program) (fr:Fr) (H:Mem) : ResultVar->Option AV
 | .tmp t=>fr.get t
 | .cell a t=>match fr.get a with
  | some p=>load P H t p
  | none=>none
noncomputable def a7r (P:Program) (fr:Fr) (H:Mem) : List ResultVar->Option (List AV)
 | []=>some []
 | r :: l=>match a6o P fr H r with
  | some v=>match a7r P fr H l with|some vs=>some (v :: vs)|none=>none
  | none=>none
noncomputable def a2f (P:Program) (fn:Func) (fr:Fr) (H:Mem) : Option AV :=
 match a7r P fr H fn.results.toList with
 | some [v]=>some v
 | some vs=>some (.tup vs)
 | none=>none
noncomputable def Cz (n:Nat) : Fr:=match Nat.ble n 256 with|true=>.s e2 []|false=>.g e3 []
def Cr (n:Nat) (o:Oper) : Bool:=match o.dst with|some t=>Nat.blt t n|none=>true
def Au (n:Nat) : Code->Bool
 | .region _ ops _=>ops.toList.all (Cr n)
 | .seq a b=>Au n a && Au n b
 | .cond _ a b=>Au n a && Au n b
 | .block _ b=>Au n b
 | .loop b=>Au n b
 | .scope b=>Au n b
 | _=>true
noncomputable def e0i (P:Program) (g:Func) (k:Mode->Mem->Ar) (r:a7q) : Ar :=
 match r with
 | .norm fr u H=>match fr.defers,a2f P g fr H,u with
  | [],some _,.recovered _=>k .returning H
  | [],some _,.returning=>k .returning H
  | [],some _,.panicking v=>k (.panicking v) H
  | _,_,_=>.bad
 | .ret fr u H=>match fr.defers,a2f P g fr H,u with
  | [],some _,.recovered _=>k .returning H
  | [],some _,.returning=>k .returning H
  | [],some _,.panicking v=>k (.panicking v) H
  | _,_,_=>.bad
 | .bad=>.bad
noncomputable def c8w (P:Program) (callf:CallF) (loopf:LoopF) (f:FuncId) (args:List AV) (u:Mode) (H:Mem) (k:Mode->Mem->Ar) : Ar :=
 match P.funcs[f]? with
 | some g=>match g.body,Aq P f with
  | some c,true=>match Au g.ntmps c,Nat.ble (len args) g.ntmps with
   | true,true=>e0i P g k (b5q args (Cz g.ntmps) fun fr=>a4j P callf loopf c fr u H)
   | _,_=>.bad
  | _,_=>.bad
 | none=>.bad
noncomputable def De (P:Program) (callf:CallF) (loopf:LoopF) (fn:Func) (fr:Fr) : List Dfr->Mode->Mem->Ar
 | [],.returning,H=>match a2f P fn fr H with
  | some v=>.ret v H
  | none=>.bad
 | [],.panicking v,H=>.panic v H
 | [],.recovered _,_=>.bad
 | (.func f,cap,args) :: ds,u,H=>c8w P callf loopf f (args++cap) u H (De P callf loopf fn fr ds)
 | _ :: _,_,_=>.bad
noncomputable def c8x (P:Program) (callf:CallF) (loopf:LoopF) (fn:Func) (r:Out) : Ar:=match r with
 | .norm fr H=>De P callf loopf fn fr fr.defers .returning H
 | .ret fr H=>De P callf loopf fn fr fr.defers .returning H
 | .panic v fr H=>De P callf loopf fn fr fr.defers (.panicking v) H
 | _=>.bad
noncomputable def e0j (P:Program) (callf:CallF) (loopf:LoopF) (fn:Func) (c:Code) (args:List AV) (H:Mem) : Ar :=
 match Au fn.ntmps c,Nat.ble (len args) fn.ntmps with
 | true,true=>c8x P callf loopf fn (b5q args (Cz fn.ntmps) fun fr=>Dd P callf loopf c fr H)
 | _,_=>.bad
noncomputable def enter (P:Program) (callf:CallF) (loopf:LoopF) (f:FuncId) (args:List AV) (H:Mem) : Ar :=
 match P.funcs[f]? with
 | some fn=>match fn.body with
  | some c=>e0j P callf loopf fn c args H
  | none=>.bad
 | none=>.bad
noncomputable def both (P:Program) (n:Nat) : CallF×LoopF :=
 Nat.rec (motive:=fun _=>CallF×LoopF) (fun _ _ _=>.bad,fun _ _ _=>.bad) (fun _ ih=>(enter P ih.1 ih.2,Dd P ih.1 ih.2)) n
noncomputable def call (P:Program) (n:Nat) : CallF:=(both P n).1
end Go.Ai
end
section
namespace Go.Ai
variable {α β:Type} {j a:Nat} {y b:Blk} {H:Mem}
noncomputable def uN {α:Type} (d:Dg) (x:N α) (v:α) : N α:=sN d x v id
theorem c2s (d:Dg) (x:N α) (v:α) (K:N α->β) : sN d x v K=K (uN d x v):=by
 cases x;cases d<;>rfl
theorem a2v (d:Dg) (x:N α) (v:α) : gN d (uN d x v)=v:=by
 cases x;cases d<;>rfl
theorem a2w (d d' : Dg) (x:N α) (v:α) (h:d'≠d) : gN d' (uN d x v)=gN d' x:=by
 cases x;cases d<;>cases d'<;>first|rfl|exact absurd rfl h
theorem Dg.em (d d' : Dg) : d'=d\/d'≠d:=Classical.em _
theorem b3j (k j:Nat) (x y:α) (h:b1i k (.v j x)=some y) : j=k/\x=y:=by
 have h' : Bool.rec (motive:=fun _=>Option α) none (some x) (Nat.beq j k)=some y:=h
 cases hb:Nat.beq j k with
 | true=>simp_all
 | false=>simp_all
noncomputable def u2 {α:Type} (t:T2 α) (k:Nat) (x:Lf α) : T2 α:=uN (d0 k) t (uN (d1 k) (gN (d0 k) t) x)
theorem b1p (t:T2 α) (k:Nat) (x:Lf α) (K:T2 α->β) : b8e t k x K=K (u2 t k x):=by
 grind[u2,b8e,c2s]
noncomputable def u3 {α:Type} (t:T3 α) (k:Nat) (x:Lf α) : T3 α:=uN (d0 k) t (uN (d1 k) (gN (d0 k) t) (uN (d2 k) (gN (d1 k) (gN (d0 k) t)) x))
theorem b3k (t:T3 α) (k:Nat) (x:Lf α) (K:T3 α->β) : c2c t k x K=K (u3 t k x):=by
 grind[u3,c2c,c2s]
noncomputable def u4 {α:Type} (t:T4 α) (k:Nat) (x:Lf α) : T4 α :=
 uN (d0 k) t (uN (d1 k) (gN (d0 k) t) (uN (d2 k) (gN (d1 k) (gN (d0 k) t)) (uN (d3 k) (gN (d2 k) (gN (d1 k) (gN (d0 k) t))) x)))
theorem b8u (t:T4 α) (k:Nat) (x:Lf α) (K:T4 α->β) : b5b t k x K=K (u4 t k x):=by
 grind[u4,b5b,c2s]
theorem at2 (t:T2 α) (k j:Nat) (x:Lf α) :
  gN (d1 j) (gN (d0 j) (u2 t k x))=x\/gN (d1 j) (gN (d0 j) (u2 t k x))=gN (d1 j) (gN (d0 j) t):=by
 unfold u2;rcases Dg.em (d0 k) (d0 j) with h0|h0
 ·rw[h0,a2v];rcases Dg.em (d1 k) (d1 j) with h1|h1
  ·rw[h1,a2v];grind
  ·rw[a2w _ _ _ _ h1];grind
 ·rw[a2w _ _ _ _ h0];grind
theorem c2t (t:T2 α) (k:Nat) (x:Lf α) : gN (d1 k) (gN (d0 k) (u2 t k x))=x:=by
 grind[u2,a2v]
theorem at3 (t:T3 α) (k j:Nat) (x:Lf α) :
  gN (d2 j) (gN (d1 j) (gN (d0 j) (u3 t k x)))=x\/gN (d2 j) (gN (d1 j) (gN (d0 j) (u3 t k x)))=gN (d2 j) (gN (d1 j) (gN (d0 j) t)):=by
 unfold u3;rcases Dg.em (d0 k) (d0 j) with h0|h0
 ·rw[h0,a2v];rcases Dg.em (d1 k) (d1 j) with h1|h1
  ·rw[h1,a2v];rcases Dg.em (d2 k) (d2 j) with h2|h2
   ·rw[h2,a2v];grind
   ·rw[a2w _ _ _ _ h2];grind
  ·rw[a2w _ _ _ _ h1];grind
 ·rw[a2w _ _ _ _ h0];grind
theorem c8y (t:T3 α) (k:Nat) (x:Lf α) : gN (d2 k) (gN (d1 k) (gN (d0 k) (u3 t k x)))=x:=by
 grind[u3,a2v]
theorem at4 (t:T4 α) (k j:Nat) (x:Lf α) :
  gN (d3 j) (gN (d2 j) (gN (d1 j) (gN (d0 j) (u4 t k x))))=x\/gN (d3 j) (gN (d2 j) (gN (d1 j) (gN (d0 j) (u4 t k x))))=gN (d3 j) (gN (d2 j) (gN (d1 j) (gN (d0 j) t))):=by
 unfold u4;rcases Dg.em (d0 k) (d0 j) with h0|h0
 ·rw[h0,a2v];rcases Dg.em (d1 k) (d1 j) with h1|h1
  ·rw[h1,a2v];rcases Dg.em (d2 k) (d2 j) with h2|h2
   ·rw[h2,a2v];rcases Dg.em (d3 k) (d3 j) with h3|h3
    ·rw[h3,a2v];grind
    ·rw[a2w _ _ _ _ h3];grind
   ·rw[a2w _ _ _ _ h2];grind
  ·rw[a2w _ _ _ _ h1];grind
 ·rw[a2w _ _ _ _ h0];grind
theorem c2u (t:T4 α) (k:Nat) (x:Lf α) : gN (d3 k) (gN (d2 k) (gN (d1 k) (gN (d0 k) (u4 t k x))))=x:=by
 grind[u4,a2v]
theorem e0k (t:T2 α) (k j:Nat) (v y:α) (h:Ct (u2 t k (.v k v)) j=some y) : (j=k/\y=v)\/(j≠k/\Ct t j=some y):=by
 by_cases hj:j=k
 ·subst hj;unfold Ct at h;rw[c2t] at h;exact .inl ⟨rfl,(b3j _ _ _ _ h).2.symm⟩
 grind[b3j,at2,Ct]
theorem e0l (t:T3 α) (k j:Nat) (v y:α) (h:a5o (u3 t k (.v k v)) j=some y) : (j=k/\y=v)\/(j≠k/\a5o t j=some y):=by
 by_cases hj:j=k
 ·subst hj;unfold a5o at h;rw[c8y] at h;exact .inl ⟨rfl,(b3j _ _ _ _ h).2.symm⟩
 grind[b3j,at3,a5o]
theorem c2v (t:T4 α) (k j:Nat) (v y:α) (h:a2c (u4 t k (.v k v)) j=some y) : (j=k/\y=v)\/(j≠k/\a2c t j=some y):=by
 by_cases hj:j=k
 ·subst hj;unfold a2c at h;rw[c2u] at h;exact .inl ⟨rfl,(b3j _ _ _ _ h).2.symm⟩
 grind[b3j,at4,a2c]
theorem e0m (t:T4 α) (k j:Nat) (y:α) (h:a2c (u4 t k .e) j=some y) : j≠k/\a2c t j=some y:=by
 by_cases hj:j=k
 ·subst hj;unfold a2c at h;rw[c2u] at h;cases h
 ·refine⟨hj,?_⟩;unfold a2c at h |-;rcases at4 t k j (.e:Lf α) with e|e
  ·rw[e] at h;cases h
  grind
theorem a7s (d:Dg) (x:α) : gN d (nN x)=x:=by cases d<;>rfl
theorem c8z (k:Nat) : Ct (e2:T2 α) k=none:=by unfold Ct e2;rw[a7s,a7s];rfl
theorem e0n (k:Nat) : a5o (e3:T3 α) k=none:=by unfold a5o e3 e2;rw[a7s,a7s,a7s];rfl
theorem b8v (k:Nat) : a2c (e4:T4 α) k=none:=by unfold a2c e4 e3 e2;rw[a7s,a7s,a7s,a7s];rfl
theorem a1s (n:Nat) (K:Nat->β) : a2q n K=K n:=by cases n<;>rfl
theorem c9a (n:Int) (K:Int->β) : b1j n K=K n:=by cases n<;>simp[b1j,a1s]
noncomputable def Cw.upd (t:Cw) (a:Nat) (b:Blk) : Cw:=match t with|.tr t=>.tr (u4 t a (.v a b))|.fn g=>.fn (Ap g a (some b))
noncomputable def Cw.rm (t:Cw) (a:Nat) : Cw:=match t with|.tr t=>.tr (u4 t a .e)|.fn g=>.fn (Ap g a none)
noncomputable def Mem.upd (H:Mem) (a:Nat) (b:Blk) : Mem:=⟨H.t.upd a b,H.next⟩
noncomputable def Mem.rm (H:Mem) (a:Nat) : Mem:=⟨H.t.rm a,H.next⟩
noncomputable def Mem.add (H:Mem) (b:Blk) : Mem:=⟨H.t.upd H.next b,H.next+1⟩
theorem Mem.newK_eq (H:Mem) (b:Blk) (K:Mem->β) : H.newK b K=K (H.add b):=by
 obtain⟨t,n⟩:=H;cases t<;>simp[Mem.newK,c8a,b8f,c2d,c2e,b8u,a1s,Mem.add,Cw.upd]
theorem Mem.setK_eq (H:Mem) (a:Nat) (b:Blk) (K:Mem->β) : H.setK a b K=K (H.upd a b):=by
 obtain⟨t,n⟩:=H;cases t<;>simp[Mem.setK,c8b,b8f,c2d,c2e,b8u,Mem.upd,Cw.upd]
theorem Mem.delK_eq (H:Mem) (a:Nat) (K:Mem->β) : H.delK a K=K (H.rm a):=by
 obtain⟨t,n⟩:=H;cases t<;>simp[Mem.delK,c8c,c7z,c7x,c7y,b8u,Mem.rm,Cw.rm]
theorem c2w {g:Nat->Option Blk} {a j:Nat} {b y:Blk} (h:Ap g a (some b) j=some y) : (j=a/\y=b)\/(j≠a/\g j=some y):=by
 unfold Ap at h;grind
theorem e0o {g:Nat->Option Blk} {a j:Nat} {y:Blk} (h:Ap g a none j=some y) : j≠a/\g j=some y:=by
 simp_all[Ap]
theorem Mem.get_upd (h:(H.upd a b).get j=some y) : (j=a/\y=b)\/(j≠a/\H.get j=some y):=by
 obtain⟨t,n⟩:=H
 cases t with
 | tr t=>exact c2v _ _ _ _ _ h
 | fn g=>exact c2w h
theorem Mem.get_rm (h:(H.rm a).get j=some y) : j≠a/\H.get j=some y:=by
 obtain⟨t,n⟩:=H
 cases t with
 | tr t=>exact e0m _ _ _ _ h
 | fn g=>exact e0o h
theorem Mem.get_add (h:(H.add b).get j=some y) : (j=H.next/\y=b)\/(j≠H.next/\H.get j=some y):=by
 obtain⟨t,n⟩:=H
 cases t with
 | tr t=>exact c2v _ _ _ _ _ h
 | fn g=>exact c2w h
noncomputable def Fr.upd (fr:Fr) (d:Tmp) (v:AV) : Fr:=fr.set d v id
theorem Fr.set_eq (fr:Fr) (d:Tmp) (v:AV) (K:Fr->β) : fr.set d v K=K (fr.upd d v):=by
 cases fr<;>simp[Fr.set,Fr.upd,fpS,fpG,fpF,b1p,b3k]
theorem Fr.get_upd {fr:Fr} {d j:Tmp} {v y:AV} (h:(fr.upd d v).get j=some y) : (j=d/\y=v)\/(j≠d/\fr.get j=some y):=by
 cases fr with
 | s t ds=>simp_all[fgS,Fr.get,b1p,fpS,Fr.set,Fr.upd,e0k]
 | g t ds=>simp_all[fgG,Fr.get,b3k,fpG,Fr.set,Fr.upd,e0l]
 | f g ds =>
  have h' : a2u g d v j=some y:=h;unfold a2u at h';by_cases e:j=d
  ·grind
  ·rw[if_neg e] at h';exact .inr ⟨e,h'⟩
theorem Fr.defers_upd (fr:Fr) (d:Tmp) (v:AV) : (fr.upd d v).defers=fr.defers:=by
 cases fr<;>simp[Fr.upd,Fr.set,fpS,fpG,fpF,b1p,b3k,Fr.defers]
theorem Fr.get_defer (fr:Fr) (x:Dfr) (j:Tmp) : (fr.defer x).get j=fr.get j:=by cases fr<;>rfl
theorem Fr.defers_defer (fr:Fr) (x:Dfr) : (fr.defer x).defers=x :: fr.defers:=by cases fr<;>rfl
noncomputable def Fr.put (fr:Fr) (d:Option Tmp) (v:AV) : Fr:=match d with|some d=>fr.upd d v|none=>fr
theorem Fr.putK_eq (fr:Fr) (d:Option Tmp) (v:AV) (K:Fr->β) : fr.putK d v K=K (fr.put d v):=by
 cases d with
 | none=>rfl
 | some d=>exact Fr.set_eq fr d v K
theorem c9b (n j:Nat) : (Cz n).get j=none:=by
 unfold Cz;split
 ·exact c8z j
 ·exact e0n j
theorem c9c (n:Nat) : (Cz n).defers=[]:=by unfold Cz;split<;>rfl
theorem a9m (l:List α) (i:Nat) : nth l i=l[i]?:=by
 induction l generalizing i with
 | nil=>rfl
 | cons x l ih=>cases i with
  | zero=>rfl
  | succ i=>grind[nth]
theorem a0b (l:List α) : len l=l.length:=by
 have:∀ n,List.rec (motive:=fun _=>Nat->Nat) (fun n=>n) (fun _ _ ih n=>a2q (Nat.succ n) ih) l n=n+l.length:=by
  induction l with
  | nil=>grind
  | cons x l ih=>grind[a1s]
 grind[len]
theorem e0p (z:β) (n:Nat) (l:List α) (K:List α->β) : c2f z n l K=if n<=l.length then K (l.take n) else z:=by
 induction n generalizing l K with
 | zero=>rfl
 | succ n ih=>cases l with
  | nil=>rfl
  | cons x l =>
   simp_all[c2f]
theorem e0q (z:β) (n:Nat) (l:List α) (K:List α->β) : c2g z n l K=if n<=l.length then K (l.drop n) else z:=by
 induction n generalizing l K with
 | zero=>rfl
 | succ n ih=>cases l with
  | nil=>rfl
  | cons x l =>
   simp_all[c2g]
theorem a6p (l:List α) (n off:Nat) (z:β) (K:List α->β) : a9d l n off z K=if off+n<=l.length then K ((l.drop off).take n) else z:=by
 (simp_all[a9d,e0q,e0p];grind)
theorem b5r (a b:List α) (K:List α->β) : b8g a b K=K (a++b):=by
 induction a generalizing K with
 | nil=>rfl
 | cons x a ih =>
  simp_all[b8g]
theorem e0r (z:β) (new l:List α) (K:List α->β) : b8h z new l K=if new.length<=l.length then K (new++l.drop new.length) else z:=by
 induction new generalizing l K with
 | nil=>rfl
 | cons x new ih=>cases l with
  | nil=>rfl
  | cons y l =>
   simp_all[b8h]
theorem a9n (z:β) (l:List α) (off:Nat) (new:List α) (K:List α->β) :
  a9e z l off new K=if off+new.length<=l.length then K (l.take off++new++l.drop (off+new.length)) else z:=by
 induction off generalizing l K with
 | zero =>
  have:a9e z l 0 new K=b8h z new l K:=rfl;grind[e0r]
 | succ off ih=>cases l with
  | nil=>simp[a9e]
  | cons x l =>
   (simp_all[a9e];grind)
end Go.Ai
end
section
namespace Go.Ai
open Go.RowKit (Below)
abbrev Rn:=Nat->Option (Nat×Nat×Nat)
mutual
def VR (ρ:Rn) : AV->Value->Prop
 | .lit v,u=>u=v
 | .ptr a off,u=>∃ b o k,ρ a=some (b,o,k)/\u=.pointer (some ⟨b,o+off,none⟩)
 | .sl a off n c,u=>∃ b o k,ρ a=some (b,o,k)/\n<=c/\u=.slice (some ⟨b,o+off,none⟩) n c
 | .slq a off n d,u=>∃ b o k,ρ a=some (b,o,k)/\d+n<=k/\u=.slice (some ⟨b,o+off,none⟩) n (k-d)
 | .es,u=>∃ ad c,u=.slice (some ad) 0 c
 | .map a,u=>∃ b o k,ρ a=some (b,o,k)/\u=.map (some b)
 | .func fn f c,u=>∃ f' c',u=.func fn f' c'/\VRs ρ f f'.toList/\VRs ρ c c'.toList
 | .iface t v,u=>∃ u',u=.iface t u'/\VR ρ v u'
 | .agg l,u=>∃ cs,u=.agg cs/\VRs ρ l cs.toList
 | .tup l,u=>∃ cs,u=.tuple cs/\VRs ρ l cs.toList
def VRs (ρ:Rn) : List AV->List Value->Prop
 | [],us=>us=[]
 | v :: l,us=>∃ u us',us=u :: us'/\VR ρ v u/\VRs ρ l us'
end
def Sub (ρ ρ' : Rn) : Prop:=∀ a x,ρ a=some x->ρ' a=some x
theorem Sub.refl (ρ:Rn) : Sub ρ ρ:=fun _ _ h=>h
theorem Sub.trans {a b c:Rn} (h:Sub a b) (k:Sub b c) : Sub a c:=fun x y e=>k x y (h x y e)
mutual
theorem VR.mono {ρ ρ' : Rn} (h:Sub ρ ρ') : ∀ {v:AV} {u:Value},VR ρ v u->VR ρ' v u
 | .lit _,_,r=>r
 | .ptr _ _,_,⟨b,o,k,e,r⟩=>⟨b,o,k,h _ _ e,r⟩
 | .sl _ _ _ _,_,⟨b,o,k,e,r⟩=>⟨b,o,k,h _ _ e,r⟩
 | .slq _ _ _ _,_,⟨b,o,k,e,r⟩=>⟨b,o,k,h _ _ e,r⟩
 | .es,_,r=>r
 | .map _,_,⟨b,o,k,e,r⟩=>⟨b,o,k,h _ _ e,r⟩
 | .func _ _ _,_,⟨f',c',e,r,q⟩=>⟨f',c',e,VRs.mono h r,VRs.mono h q⟩
 | .iface _ _,_,⟨u',e,r⟩=>⟨u',e,VR.mono h r⟩
 | .agg _,_,⟨cs,e,r⟩=>⟨cs,e,VRs.mono h r⟩
 | .tup _,_,⟨cs,e,r⟩=>⟨cs,e,VRs.mono h r⟩
theorem VRs.mono {ρ ρ' : Rn} (h:Sub ρ ρ') : ∀ {l:List AV} {us:List Value},VRs ρ l us->VRs ρ' l us
 | [],_,r=>r
 | _ :: _,_,⟨u,us',e,r,q⟩=>⟨u,us',e,VR.mono h r,VRs.mono h q⟩
end
theorem VRs.nil {ρ:Rn} : VRs ρ [] []:=rfl
theorem VRs.cons {ρ:Rn} {v:AV} {l:List AV} {u:Value} {us:List Value} (h:VR ρ v u) (k:VRs ρ l us) : VRs ρ (v :: l) (u :: us):=⟨u,us,rfl,h,k⟩
theorem VRs.length {ρ:Rn} : ∀ {l:List AV} {us:List Value},VRs ρ l us->us.length=l.length
 | [],_,h=>by cases h;rfl
 | _ :: l,_,⟨u,us',e,_,q⟩=>by subst e;simp[VRs.length q]
theorem VRs.get {ρ:Rn} : ∀ {l:List AV} {us:List Value} (i:Nat) {v:AV},VRs ρ l us->l[i]?=some v->∃ u,us[i]?=some u/\VR ρ v u
 | x :: l,_,i,v,⟨u,us',e,r,q⟩,h=>by
  subst e
  cases i with
  | zero=>grind
  | succ i=>simp at h;obtain⟨w,hw,hv⟩:=VRs.get i q h;exact⟨w,by simpa using hw,hv⟩
theorem VRs.append {ρ:Rn} : ∀ {l l' : List AV} {us us' : List Value},VRs ρ l us->VRs ρ l' us'->VRs ρ (l++l') (us++us')
 | [],_,_,_,h,k=>by cases h;exact k
 | _ :: _,_,_,_,⟨u,us',e,r,q⟩,k=>by subst e;exact⟨u,us'++_,rfl,r,VRs.append q k⟩
theorem VRs.take {ρ:Rn} : ∀ {l:List AV} {us:List Value} (n:Nat),VRs ρ l us->VRs ρ (l.take n) (us.take n)
 | [],_,n,h=>by grind[VRs]
 | _ :: _,_,0,_=>by rfl
 | _ :: _,_,n+1,⟨u,us',e,r,q⟩=>by subst e;exact⟨u,us'.take n,by simp,r,VRs.take n q⟩
theorem VRs.drop {ρ:Rn} : ∀ {l:List AV} {us:List Value} (n:Nat),VRs ρ l us->VRs ρ (l.drop n) (us.drop n)
 | [],_,n,h=>by grind[VRs]
 | _ :: _,_,0,h=>by grind
 | _ :: _,_,n+1,⟨u,us',e,r,q⟩=>by subst e;simpa using VRs.drop n q
theorem VRs.lits {ρ:Rn} : ∀ (us:List Value),VRs ρ (us.map .lit) us
 | []=>rfl
 | u :: us=>⟨u,us,rfl,rfl,VRs.lits us⟩
theorem VRs.of_get {ρ:Rn} : ∀ {l:List AV} {us:List Value},us.length=l.length->(∀ (i:Nat) (v:AV),l[i]?=some v->∃ u,us[i]?=some u/\VR ρ v u)->VRs ρ l us
 | [],[],_,_=>rfl
 | [],_ :: _,h,_=>by grind
 | _ :: _,[],h,_=>by grind
 | v :: l,u :: us,h,k=>by
  refine⟨u,us,rfl,?_,VRs.of_get (by grind) fun i v' hi=>?_⟩
  ·obtain⟨w,hw,hv⟩:=k 0 v rfl;grind
  ·simpa using k (i+1) v' (by grind)
theorem b5s {ρ:Rn} : ∀ {l:List AV} {vs:List Value} {us:List Value},litAll l=some vs->VRs ρ l us->us=vs
 | [],vs,us,h,k=>by cases h;exact k
 | v :: l,vs,us,h,⟨u,us',e,r,q⟩=>by
  subst e
  cases v with
  | lit x =>
   simp only[litAll] at h;split at h
   ·rename_i ws hw;cases h;cases r;rw[b5s hw q]
   grind
  | _=>simp[litAll] at h
theorem VR.cells {ρ:Rn} {v:AV} {u:Value} (h:VR ρ v u) : VRs ρ (cellsOf v) u.cells.toList:=by
 cases v with
 | lit x =>
  cases h;cases u<;>first|exact⟨_,_,rfl,rfl,rfl⟩|exact VRs.lits _
 | agg l=>obtain⟨cs,e,r⟩:=h;subst e;exact r
 | ptr a off=>obtain⟨b,o,k,e,r⟩:=h;subst r;exact⟨_,_,rfl,⟨b,o,k,e,rfl⟩,rfl⟩
 | sl a off n c=>obtain⟨b,o,k,e,e2,r⟩:=h;subst r;exact⟨_,_,rfl,⟨b,o,k,e,e2,rfl⟩,rfl⟩
 | slq a off n c=>obtain⟨b,o,k,e,e2,r⟩:=h;subst r;exact⟨_,_,rfl,⟨b,o,k,e,e2,rfl⟩,rfl⟩
 | es=>obtain⟨b,o,e⟩:=h;subst e;exact⟨_,_,rfl,⟨b,o,rfl⟩,rfl⟩
 | map a=>obtain⟨b,o,k,e,r⟩:=h;subst r;exact⟨_,_,rfl,⟨b,o,k,e,rfl⟩,rfl⟩
 | func fn f c=>obtain⟨f',c',e,r,q⟩:=h;subst e;exact⟨_,_,rfl,⟨f',c',rfl,r,q⟩,rfl⟩
 | iface t w=>obtain⟨u',e,r⟩:=h;subst e;exact⟨_,_,rfl,⟨u',rfl,r⟩,rfl⟩
 | tup l=>obtain⟨cs,e,r⟩:=h;subst e;exact⟨_,_,rfl,⟨cs,rfl,r⟩,rfl⟩
theorem c9d {ρ:Rn} {v:AV} {u:Value} (h:VR ρ v u) (k:oneC v=true) : u.oneCell=true:=by
 cases v with
 | lit x=>cases h;cases u<;>first|rfl|cases k
 | agg l=>cases k
 | ptr a off=>obtain⟨b,o,k,e,r⟩:=h;subst r;rfl
 | sl a off n c=>obtain⟨b,o,k,e,e2,r⟩:=h;subst r;rfl
 | slq a off n c=>obtain⟨b,o,k,e,e2,r⟩:=h;subst r;rfl
 | es=>obtain⟨b,o,e⟩:=h;subst e;rfl
 | map a=>obtain⟨b,o,k,e,r⟩:=h;subst r;rfl
 | func fn f c=>obtain⟨f',c',e,r,q⟩:=h;subst e;rfl
 | iface t w=>obtain⟨u',e,r⟩:=h;subst e;rfl
 | tup l=>cases k
def ER (ρ:Rn) : List (AV×AV×Nat)->List MapEntry->Prop
 | [],es=>es=[]
 | (k,v,b) :: l,es=>∃ e es',es=e :: es'/\VR ρ k e.key/\VR ρ v e.val/\e.born=b/\ER ρ l es'
theorem ER.mono {ρ ρ' : Rn} (h:Sub ρ ρ') : ∀ {l:List (AV×AV×Nat)} {es:List MapEntry},ER ρ l es->ER ρ' l es
 | [],_,r=>r
 | _ :: _,_,⟨e,es',q,r,s,t,z⟩=>⟨e,es',q,r.mono h,s.mono h,t,ER.mono h z⟩
def BR (B:Nat) (ρ:Rn) : Blk->Nat->Nat->Nat->World->Prop
 | .cells l own z,b,o,k,w=>∃ c e fz,w.heap[b]?=some (.cells c e fz)/\(∀ (i:Nat) (v:AV),l[i]?=some v->∃ u,c[o+i]?=some u/\VR ρ v u) /\
   (own=true->B<=b/\(∀ j,j<c.size->¬(fz.1<=j/\j<fz.2))/\o+k*z<=c.size/\(z=0\/l.length<=k*z))
 | .map es clock,b,_,_,w=>∃ es',w.heap[b]?=some (.map es' clock)/\ER ρ es es'.toList/\B<=b
 | .siter s pos,b,o,_,w=>w.heap[b]?=some (.stringIter s pos)/\B<=b/\o=0
 | .typ T l ex,b,o,k,w=>o=0/\B<=b/\∃ c,w.heap[b]?=some (.cells c T (0,0))/\(∀ (i:Nat) (v:AV),l[i]?=some v->∃ u,c[i]?=some u/\VR ρ v u)/\(ex=true->c.size=l.length)/\(ex=false->c.size=k/\l.length<=k)
def Blk.own:Blk->Bool
 | .cells _ own _=>own
 | _=>true
theorem BR.lt {B:Nat} {ρ:Rn} {x:Blk} {b o k:Nat} {w:World} (h:BR B ρ x b o k w) : b<w.heap.size:=by
 cases x with
 | cells l own z=>obtain⟨c,e,fz,hb,_⟩:=h;grind
 | map es clock=>obtain⟨es',hb,_⟩:=h;grind
 | siter s pos=>exact(Array.getElem?_eq_some_iff.1 h.1).1
 | typ T l ex=>obtain⟨_,_,c,hb,_⟩:=h;grind
theorem BR.mono {B:Nat} {ρ ρ' : Rn} {x:Blk} {b o k:Nat} {w w' : World} (h:BR B ρ x b o k w) (hs:Sub ρ ρ') (hw:w'.heap[b]?=w.heap[b]?) : BR B ρ' x b o k w':=by
 cases x with
 | cells l own z =>
  obtain⟨c,e,fz,hb,hc,ho⟩:=h;exact⟨c,e,fz,hw.trans hb,fun i v hi=>let ⟨u,hu,hv⟩:=hc i v hi;⟨u,hu,hv.mono hs⟩,ho⟩
 | map es clock=>obtain⟨es',hb,he,hB⟩:=h;exact⟨es',hw.trans hb,he.mono hs,hB⟩
 | siter s pos=>exact⟨hw.trans h.1,h.2⟩
 | typ T l ex =>
  obtain⟨h0,hB,c,hb,hc,h1,h2⟩:=h;exact⟨h0,hB,c,hw.trans hb,fun i v hi=>let ⟨u,hu,hv⟩:=hc i v hi;⟨u,hu,hv.mono hs⟩,h1,h2⟩
theorem BR.above {B:Nat} {ρ:Rn} {x:Blk} {b o k:Nat} {w:World} (h:BR B ρ x b o k w) (ho:x.own=true) : B<=b:=by
 cases x with
 | cells l own z=>obtain⟨c,e,fz,hb,hc,hh⟩:=h;exact(hh ho).1
 | map es clock=>obtain⟨es',hb,he,hB⟩:=h;grind
 | siter s pos=>exact h.2.1
 | typ T l ex=>exact h.2.1
structure Sim (B G:Nat) (ρ:Rn) (H:Mem) (w:World) : Prop where
 blk:∀ a x,H.get a=some x->ρ a=none\/∃ b o k,ρ a=some (b,o,k)/\BR B ρ x b o k w
 inj:∀ a a' x x' b o k o' k',H.get a=some x->H.get a'=some x'->a≠a'->x.own=true->ρ a=some (b,o,k)->ρ a'=some (b,o',k')->False
 fresh:∀ a,H.next<=a->ρ a=none
 glob:∀ a x,a<G->H.get a=some x->ρ a=some (a,0,0)
 names:G<=H.next
 base:B<=w.heap.size
def isMk:Obj->Bool
 | .loop _=>true
 | .deferred _=>true
 | _=>false
def KD (w w' : World) : Prop:=(∀ (k:Nat) (o:Obj),w.heap[k]?=some o->isMk o=true->w'.heap[k]?=some o)/\w.drawn<=w'.drawn
theorem KD.refl (w:World) : KD w w:=⟨fun _ _ h _=>h,Dm _⟩
theorem KD.trans {a b c:World} (h:KD a b) (k:KD b c) : KD a c:=⟨fun i o hi ho=>k.1 i o (h.1 i o hi ho) ho,Dw h.2 k.2⟩
theorem KD.heap {w w' : World} (h:w'.heap=w.heap) (hd:w.drawn≤w'.drawn:=by first | exact Dm _ | exact Dx _ | assumption | omega) : KD w w':=⟨fun _ _ hk _=>by grind,hd⟩
theorem KD.push {w w' : World} {ob:Obj} (h:w'.heap=w.heap.push ob) (hd:w.drawn≤w'.drawn:=by first | exact Dm _ | exact Dx _ | assumption | omega) : KD w w':=⟨fun k o hk _=>by
 grind,hd⟩
theorem KD.turn {w w' : World} {b:Nat} {x:Obj} (hb:w.heap[b]?=some x) (hx:isMk x=false) (h:∀ j,j≠b→w'.heap[j]?=w.heap[j]?) (hd:w.drawn≤w'.drawn:=by first | exact Dm _ | exact Dx _ | assumption | omega) : KD w w':=⟨fun k o hk ho=>by
 grind,hd⟩
structure Ext (B n:Nat) (ρ:Rn) (w:World) (ρ' : Rn) (w' : World) : Prop where
 same:∀ a,a<n->ρ' a=ρ a
 keeps:KD w w'
 below:Below B w w'
theorem Ext.refl (B n:Nat) (ρ:Rn) (w:World) : Ext B n ρ w ρ w:=⟨fun _ _=>rfl,KD.refl w,Below.refl B w⟩
theorem Ext.trans {B n n' : Nat} {ρ ρ' ρ'' : Rn} {w w' w'' : World} (h:Ext B n ρ w ρ' w') (k:Ext B n' ρ' w' ρ'' w'') (hn:n<=n') : Ext B n ρ w ρ'' w'' :=
 ⟨fun a ha=>(k.same a (Nat.lt_of_lt_of_le ha hn)).trans (h.same a ha),h.keeps.trans k.keeps,h.below.trans k.below⟩
theorem Ext.sub {B G:Nat} {ρ ρ' : Rn} {H:Mem} {w0 w w' : World} (h:Ext B H.next ρ w ρ' w') (s:Sim B G ρ H w0) : Sub ρ ρ':=by
 intro a x hx
 rw[h.same a ?_];· grind
 rcases Nat.lt_or_ge a H.next with k|k
 ·exact k
 ·rw[s.fresh a k] at hx;grind
end Go.Ai
end
section
namespace Go.Ai
open Go.RowKit (Below)
def upd (ρ:Rn) (n:Nat) (x:Nat×Nat×Nat) : Rn:=fun a=>if a=n then some x else ρ a
theorem a0l (ρ:Rn) (n:Nat) (x:Nat×Nat×Nat) : upd ρ n x n=some x:=by simp[upd]
theorem a0c (ρ:Rn) {n a:Nat} (x:Nat×Nat×Nat) (h:a≠n) : upd ρ n x a=ρ a:=by grind[upd]
theorem a6q {ρ:Rn} {n:Nat} {x:Nat×Nat×Nat} (h:ρ n=none) : Sub ρ (upd ρ n x):=by
 intro a y hy;grind[a0c]
variable {B G:Nat} {ρ:Rn} {H:Mem} {w w' : World}
theorem Sim.at (s:Sim B G ρ H w) {a:Nat} {x:Blk} {b o k:Nat} (h:H.get a=some x) (hr:ρ a=some (b,o,k)) : BR B ρ x b o k w:=by
 rcases s.blk a x h with hn|⟨b',o',k',hr',hb⟩
 all_goals grind
theorem Sim.none (s:Sim B G ρ H w) : ρ H.next=none:=s.fresh _ (Dm _)
theorem Sim.lt_next (s:Sim B G ρ H w) {a:Nat} {x:Nat×Nat×Nat} (h:ρ a=some x) : a<H.next:=by
 rcases g4k a H.next with k|k
 ·exact k
 ·rw[s.fresh a k] at h;cases h
theorem Sim.heap (s:Sim B G ρ H w) (h:w'.heap=w.heap) : Sim B G ρ H w' :=
 {blk:=fun a x hx=>(s.blk a x hx).imp id fun⟨b,o,k,hr,hb⟩=>⟨b,o,k,hr,hb.mono (Sub.refl _) (by rw[h])⟩
  inj:=s.inj,fresh:=s.fresh,glob:=s.glob,names:=s.names,base:=by rw[h];exact s.base }
theorem Sim.other (s:Sim B G ρ H w) (hsz:w.heap.size<=w'.heap.size) (hh:∀ a x b o k,H.get a=some x->ρ a=some (b,o,k)->w'.heap[b]?=w.heap[b]?) : Sim B G ρ H w' :=
 {blk:=fun a x hx=>(s.blk a x hx).imp id fun⟨b,o,k,hr,hb⟩=>⟨b,o,k,hr,hb.mono (Sub.refl _) (hh a x b o k hx hr)⟩
  inj:=s.inj,fresh:=s.fresh,glob:=s.glob,names:=s.names,base:=Dw s.base hsz }
theorem Sim.rm (s:Sim B G ρ H w) (a:Nat) : Sim B G ρ (H.rm a) w :=
 {blk:=fun j x hx=>s.blk j x (Mem.get_rm hx).2
  inj:=fun j j' x x' b o k o' k' h h' hne ho hr hr'=>s.inj j j' x x' b o k o' k' (Mem.get_rm h).2 (Mem.get_rm h').2 hne ho hr hr'
  fresh:=fun j hj=>s.fresh j hj
  glob:=fun j x hj hx=>s.glob j x hj (Mem.get_rm hx).2
  names:=s.names,base:=s.base }
theorem Sim.add (s:Sim B G ρ H w) {x:Blk} {b o k:Nat} (hsz:w.heap.size<=w'.heap.size)
  (hh:∀ a x b' o' k',H.get a=some x->ρ a=some (b',o',k')->b'≠b/\w'.heap[b']?=w.heap[b']?)
  (hx:BR B (upd ρ H.next (b,o,k)) x b o k w') : Sim B G (upd ρ H.next (b,o,k)) (H.add x) w':=by
 have hsub:=a6q (x:=(b,o,k)) s.none;refine⟨?_,?_,?_,?_,?_,Nat.le_trans s.base hsz⟩
 ·intro a y hy;rcases Mem.get_add hy with⟨rfl,rfl⟩|⟨hne,hy⟩
  ·grind[a0l]
  ·rw[a0c _ _ hne];rcases s.blk a y hy with hn|⟨b',o',k',hr,hb⟩
   ·grind
   ·exact .inr ⟨b',o',k',hr,hb.mono hsub (hh a y b' o' k' hy hr).2⟩
 ·intro a a' y y' b1 o1 k1 o2 k2 h h' hne ho hr hr';rcases Mem.get_add h with⟨e1,e2⟩|⟨hn1,g⟩
  ·rcases Mem.get_add h' with⟨e3,e4⟩|⟨hn2,g'⟩
   ·grind
   ·rw[e1,a0l] at hr;cases hr;rw[a0c _ _ hn2] at hr';grind
  ·rw[a0c _ _ hn1] at hr;rcases Mem.get_add h' with⟨e3,e4⟩|⟨hn2,g'⟩
   ·rw[e3,a0l] at hr';grind
   ·rw[a0c _ _ hn2] at hr';exact s.inj a a' y y' b1 o1 k1 o2 k2 g g' hne ho hr hr'
 ·intro a ha;have h1:H.next+1<=a:=ha;rw[a0c _ _ (by omega)];exact s.fresh a (by omega)
 ·intro a y ha hy;have hlt:=s.names;rcases Mem.get_add hy with⟨rfl,rfl⟩|⟨hne,hy⟩
  ·omega
  ·rw[a0c _ _ hne];exact s.glob a y ha hy
 ·exact Nat.le_succ_of_le s.names
theorem Sim.set (s:Sim B G ρ H w) {a:Nat} {x y:Blk} {b o k:Nat} (ha:H.get a=some x) (hr:ρ a=some (b,o,k)) (hown:x.own=true) (hy' : y.own=true)
  (hsz:w.heap.size<=w'.heap.size) (hh:∀ b',b'≠b->b' < w.heap.size->w'.heap[b']?=w.heap[b']?) (hy:BR B ρ y b o k w') : Sim B G ρ (H.upd a y) w':=by
 refine⟨?_,?_,fun j hj=>s.fresh j hj,?_,s.names,Dw s.base hsz⟩
 ·intro j z hz;rcases Mem.get_upd hz with⟨rfl,rfl⟩|⟨hne,hz⟩
  ·grind
  ·rcases s.blk j z hz with hn|⟨b',o',k',hr',hb⟩
   ·grind
   ·refine .inr ⟨b',o',k',hr',hb.mono (Sub.refl _) (hh b' ?_ hb.lt)⟩;rintro rfl;exact s.inj a j x z b' o k o' k' ha hz (Ne.symm hne) hown hr hr'
 ·intro j j' z z' b1 o1 k1 o2 k2 h h' hne ho hr1 hr2;rcases Mem.get_upd h with⟨e1,e2⟩|⟨hn1,g⟩
  ·rcases Mem.get_upd h' with⟨e3,e4⟩|⟨hn2,g'⟩
   ·grind
   ·subst e1;exact s.inj j j' x z' b1 o1 k1 o2 k2 ha g' hne hown hr1 hr2
  ·rcases Mem.get_upd h' with⟨e3,e4⟩|⟨hn2,g'⟩
   ·subst e3;exact s.inj j' j x z b1 o2 k2 o1 k1 ha g (Ne.symm hne) hown hr2 hr1
   ·exact s.inj j j' z z' b1 o1 k1 o2 k2 g g' hne ho hr1 hr2
 ·intro j z hj hz;rcases Mem.get_upd hz with⟨rfl,rfl⟩|⟨hne,hz⟩
  ·exact s.glob j x hj ha
  ·exact s.glob j z hj hz
theorem Sim.alloc (s:Sim B G ρ H w) (x:Blk) (ob:Obj) (k:Nat) (w' : World) (hw:w'.heap=w.heap.push ob)
  (hx:BR B (upd ρ H.next (w.heap.size,0,k)) x w.heap.size 0 k w') : Sim B G (upd ρ H.next (w.heap.size,0,k)) (H.add x) w':=by
 refine s.add (by grind) ?_ hx;intro a y b' o' k' hy hr;have hlt:=(s.at hy hr).lt;grind
theorem c9e (w w' : World) (ob:Obj) (hw:w'.heap=w.heap.push ob) : w'.heap[w.heap.size]?=some ob:=by grind
theorem Ext.alloc (ρ:Rn) (n:Nat) (x:Nat×Nat×Nat) (w w' : World) (ob:Obj) (hw:w'.heap=w.heap.push ob) (hos:w'.os=w.os) (ht:w'.tape=w.tape) (ho:w'.output=w.output)
  (hB:B<=w.heap.size) (hd:w.drawn<=w'.drawn:=by first|exact Dm _|exact Dx _|assumption|omega) : Ext B n ρ w (upd ρ n x) w' :=
 ⟨fun a ha=>a0c _ _ (by omega),KD.push hw,hos,ht,ho,by grind,fun k hk=>by grind⟩
end Go.Ai
end
section
namespace Go.Ai
open Go.RowKit (Below)
variable {B G:Nat} {ρ:Rn} {H:Mem} {w:World} {P:Program}
variable {t:TypeId} {b off o k:Nat} {i:TypeInfo}
theorem a3g (b x n:Nat) : Addr.add ⟨b,x,none⟩ n=⟨b,x+n,none⟩:=by
 grind[Addr.add]
theorem c9f (v:Value) : v.oneCell'=v.oneCell:=by cases v<;>rfl
theorem b8w {c:Array Value} {e:TypeId} {fz:Nat×Nat} {u:Value} (h:w.heap[b]?=some (.cells c e fz)) (hu:c[off]?=some u) : w.cell? ⟨b,off,none⟩=some u:=by
 grind[World.cell?]
theorem c9g {c:Array Value} {e:TypeId} {fz:Nat×Nat} (h:w.heap[b]?=some (.cells c e fz)) (hu:¬(fz.1<=off/\off<fz.2)) : w.frozen? ⟨b,off,none⟩=false:=by
 grind[World.frozen?]
theorem a3r (h:P.info? t=some i) (w:World) : (typeInfo t).run P w=.ok i w:=by
 simp[typeInfo,h]
theorem Cu (h:P.info? t=some i) (w:World) : (sizeOf t).run P w=.ok i.size w:=by
 simp[sizeOf,a3r h]
theorem Av {d:TypeDesc} (h:P.underlying t=some d) (w:World) : (underlying t).run P w=.ok d w:=run_underlying h w
theorem a2g {z:Value} (h:P.info? t=some i) (hz:i.zero=some z) (w:World) : (zeroValue t).run P w=.ok z w:=by
 simp_all[a3r,zeroValue]
theorem b5t {b:Bool} {n:Nat} (h:Cf P t=some (b,n)) (w:World) : (isAgg t).run P w=.ok b w/\(sizeOf t).run P w=.ok n w:=by
 unfold Cf at h;split at h
 ·rename_i d i hd hi;cases h
  (split<;>simp_all[Cu,Av,isAgg])
 grind
theorem BR.sub {l:List AV} {own:Bool} {z b o k off n:Nat} (h:BR B ρ (.cells l own z) b o k w) (hn:off+n<=l.length) :
  ∃ us:List Value,us.length=n/\VRs ρ ((l.drop off).take n) us/\∀ j v,us[j]?=some v->w.cell? ⟨b,o+off+j,none⟩=some v:=by
 obtain⟨c,e,fz,hb,hc,_⟩:=h;have hlen:((c.toList.drop (o+off)).take n).length=n:=by
  rw[List.length_take,List.length_drop];rcases Nat.eq_zero_or_pos n with h0|h0
  ·omega
  ·obtain⟨u,hu,_⟩:=hc (off+n-1) (l[off+n-1]'(by omega)) (by grind);grind
 refine⟨(c.toList.drop (o+off)).take n,hlen,VRs.of_get ?_ ?_,?_⟩
 ·grind
 ·grind
 grind[b8w]
theorem b8x {x:Nat} (us:List Value) (h:∀ j v,us[j]?=some v->w.cell? ⟨b,x+j,none⟩=some v) : (loadCells ⟨b,x,none⟩ us.length).run P w=.ok us.toArray w :=
 run_loadCells_list w ⟨b,x,none⟩ us fun j v hj=>by grind[a3g]
theorem c9h {x:Blk} {v:AV} (h:Be (Cf P t) (some x) off=some v) (hb:BR B ρ x b o k w) :
  ∃ r,(Instr.loadAt t (.pointer (some ⟨b,o+off,none⟩))).run P w=.ok r w/\VR ρ v r:=by
 unfold Be at h;split at h
 ·rename_i l own z size hx ht;cases hx;obtain⟨ha,hs⟩:=b5t ht w;rw[a6p] at h;split at h
  ·rename_i hle;cases h;obtain⟨us,hlen,hus,hcell⟩:=hb.sub hle;subst hlen;refine⟨.agg us.toArray,?_,⟨_,rfl,by grind⟩⟩;simp_all[b8x,loadVar,Instr.sureAddr,Instr.loadAt]
  grind
 ·rename_i l own z size hx ht;cases hx;obtain⟨ha,hs⟩:=b5t ht w;rw[a9m] at h;obtain⟨c,e,fz,hbb,hc,_⟩:=hb;obtain⟨u,hu,hv⟩:=hc _ _ h;refine⟨u,?_,hv⟩;simp[Instr.loadAt,Instr.sureAddr,loadVar,ha,b8w hbb hu]
 grind
theorem c9i {t:TypeId} {p v:AV} {u:Value} (s:Sim B G ρ H w) (hG:G=P.globals.size) (h:load P H t p=some v) (hp:VR ρ p u) :
  ∃ r,(Instr.loadAt t u).run P w=.ok r w/\VR ρ v r:=by
 unfold load at h;split at h
 ·rename_i a off;obtain⟨b,o,k,hr,rfl⟩:=hp
  cases hx:H.get a with
  | none=>grind[Be]
  | some x=>rw[hx] at h;exact c9h h (s.at hx hr)
 ·rename_i g off;cases hp;split at h
  ·rename_i hlt
   cases hx:H.get g with
   | none=>grind[Be]
   | some x =>
    rw[hx] at h;have h9:g+1<=P.globals.size:=by grind[Nat.ble_eq,Nat.blt]
    have hr:=s.glob g x (by grind) hx;simpa using c9h h (s.at hx hr)
  grind
 grind
theorem c2x (b x:Nat) (e:TypeId) (fz:Nat×Nat) : ∀ (vs:List Value) (i:Nat) (c:Array Value) (w:World),w.heap[b]?=some (.cells c e fz) ->
  (∀ j,j<c.size->¬(fz.1<=j/\j<fz.2))->x+i+vs.length<=c.size->(∀ v∈vs,v.oneCell=true) ->
  ∃ w' c',(storeCells ⟨b,x,none⟩ vs i).run P w=.ok () w'/\w'.heap[b]?=some (.cells c' e fz)/\c'.size=c.size /\
   (∀ j,c'[j]?=if x+i<=j/\j<x+i+vs.length then vs[j-(x+i)]? else c[j]?) /\
   (∀ b',b'≠b->w'.heap[b']?=w.heap[b']?)/\(w'.heap.size=w.heap.size/\w'.drawn=w.drawn)/\w'.os=w.os/\w'.tape=w.tape/\w'.output=w.output
 | [],i,c,w,hb,hf,hl,ho=>⟨w,c,rfl,hb,rfl,fun j=>by grind,fun _ _=>rfl,⟨rfl,rfl⟩,rfl,rfl,rfl⟩
 | v :: vs,i,c,w,hb,hf,hl,ho=>by
  simp only[Ej] at hl;have hlt:x+i<c.size:=by omega
  have hcell:w.cell? ⟨b,x+i,none⟩=some c[x+i]:=b8w hb (by grind);have hfr:w.frozen? ⟨b,x+i,none⟩=false:=c9g hb (hf _ hlt);have h1:(w.setCell ⟨b,x+i,none⟩ v).heap[b]?=some (.cells (c.setIfInBounds (x+i) v) e fz):=by
   grind[World.setCell]
  obtain⟨w',c',hr,hb',hsz,hc',hoth,hs,h2,h3,h4⟩:=c2x b x e fz vs (i+1) (c.setIfInBounds (x+i) v) (w.setCell ⟨b,x+i,none⟩ v) h1 (by grind) (by grind) (fun u hu=>ho u (by grind));refine⟨w',c',?_,hb',by grind,?_,?_,?_,h2,h3,h4⟩
  ·simp_all[storeCells,a3g,c9f,run_store]
  ·intro j;rw[hc' j];grind
  ·intro b' hb2;rw[hoth b' hb2];simp[World.setCell,Array.getElem?_modify,Ne.symm hb2]
  simp_all
theorem c9j {a:Nat} {l new:List AV} {z:Nat} {vs:List Value} (s:Sim B G ρ H w) (ha:H.get a=some (.cells l true z)) (hr:ρ a=some (b,o,k))
  (hle:off+new.length<=l.length) (hv:VRs ρ new vs) (ho:∀ v∈vs,v.oneCell=true) :
  ∃ w',(storeCells ⟨b,o+off,none⟩ vs).run P w=.ok () w'/\Ext B H.next ρ w ρ w'/\Sim B G ρ (H.upd a (.cells (l.take off++new++l.drop (off+new.length)) true z)) w':=by
 have hBR:=s.at ha hr;obtain⟨c,e,fz,hb,hc,hown⟩:=hBR;obtain⟨hB,hf,hk,hz⟩:=hown rfl;have hlen:=hv.length;have hsz:o+off+vs.length<=c.size:=by
  rcases Nat.eq_zero_or_pos l.length with h0|h0
  ·
   grind
  ·obtain⟨u,hu,_⟩:=hc (l.length-1) (l[l.length-1]'(by omega)) (by grind);grind
 obtain⟨w',c',hrun,hb',hcs,hcells,hoth,hws,h2,h3,h4⟩:=c2x (P:=P) b (o+off) e fz vs 0 c w hb hf (by omega) ho;refine⟨w',hrun,⟨fun _ _=>rfl,KD.turn hb rfl (fun q hq=>hoth q hq),h2,h3,h4,by omega,fun q hq=>hoth q (by omega)⟩,?_⟩;refine s.set ha hr rfl rfl (by omega) (fun b' hb2 _=>hoth b' hb2) ⟨c',e,fz,hb',?_,fun _=>⟨hB,by grind,by grind,?_⟩⟩
 rotate_left
 ·grind
 intro i v hi;rw[hcells];by_cases h1:i<off
 ·grind
 ·by_cases h2:i<off+new.length
  ·rw[if_pos (by omega)];rw[g4q,Em (by grind),g3t (by grind)] at hi;have e1:min off l.length=off:=by omega
   simp only[Du,e1] at hi;obtain⟨u,hu,huv⟩:=hv.get _ hi;grind
  grind
end Go.Ai
end
section
namespace Go.Ai
open Go.RowKit (Below)
variable {B G:Nat} {ρ:Rn} {H:Mem} {w:World} {P:Program}
variable {x:Operand} {v:AV} {t:TypeId}
def RS (B G:Nat) (P:Program) (ρ:Rn) (H:Mem) (w:World) (r:R) (m:Sem Next) : Prop :=
 match r with
 | .val v H'=>∃ ρ' u w',m.run P w=.ok (.value u) w'/\Ext B H.next ρ w ρ' w'/\Sim B G ρ' H' w'/\VR ρ' v u/\H.next<=H'.next
 | .skip H'=>∃ ρ' w',m.run P w=.ok .skip w'/\Ext B H.next ρ w ρ' w'/\Sim B G ρ' H' w'/\H.next<=H'.next
 | .enter f args H'=>∃ us:Array Value,m.run P w=.ok (.enter f us) w/\VRs ρ args us.toList/\H'=H
 | .dfr fn cap args H'=>∃ cs as:Array Value,m.run P w=.ok (.defer { target:=.fn fn cs,args:=as }) w/\VRs ρ cap cs.toList/\VRs ρ args as.toList/\H'=H
 | .panic v H'=>∃ u,m.run P w=.halt (.panic u) w/\VR ρ v u/\H'=H
 | .recover=>m.run P w=.ok .recover w
 | .bad=>True
abbrev EvR (ρ:Rn) (ev:Ev) (e:Operand->Value) : Prop:=∀ x v,ev x=some v->VR ρ v (e x)
theorem RS.quiet {u:Value} {m:Sem Next} (s:Sim B G ρ H w) (h:m.run P w=.ok (.value u) w) (hv:VR ρ v u) : RS B G P ρ H w (.val v H) m :=
 ⟨ρ,u,w,h,Ext.refl _ _ _ _,s,hv,Dm _⟩
theorem RS.ofOpt {r:Option AV} {m:Sem Next} (s:Sim B G ρ H w) (h:∀ v,r=some v->∃ u,m.run P w=.ok (.value u) w/\VR ρ v u) : RS B G P ρ H w (ofOpt H r) m:=by
 cases r with
 | none=>trivial
 | some v=>obtain⟨u,hu,hv⟩:=h v rfl;exact RS.quiet s hu hv
theorem b5u {α:Type} : ∀ {m:Sem α} {a:α},Ao P m=some a->∀ w,m.run P w=.ok a w:=by
 intro m
 induction m with
 | pure b=>simp[Ao]
 | program k ih=>intro a h w;simp only[Ao] at h;exact ih _ h w
 | mark m k ih=>assumption
 | choose q k ih =>
  simp_all[Ao,Sem.run]
 | _=>grind[Ao]
theorem c2y {x u:Value} (h:toLit v=some x) (hv:VR ρ v u) : u=x:=by
 cases v with
 | lit y=>cases h;exact hv
 | agg l =>
  obtain⟨cs,e,r⟩:=hv;simp only[toLit] at h;split at h
  ·rename_i vs hvs;cases h;subst e;rw[<- b5s hvs r]
  grind
 | tup l =>
  obtain⟨cs,e,r⟩:=hv;simp only[toLit] at h;split at h
  ·rename_i vs hvs;cases h;subst e;rw[<- b5s hvs r]
  grind
 | iface t y =>
  obtain⟨u',e,r⟩:=hv
  cases y with
  | lit z=>cases h;cases r;exact e
  | _=>cases h
 | func fn f c =>
  obtain⟨f',c',e,r,q⟩:=hv;simp only[toLit] at h;split at h
  ·rename_i x1 x2 h1 h2;cases h;subst e;rw[<- b5s h1 r,<- b5s h2 q]
  grind
 | _=>cases h
theorem a9o {ev:Ev} {e:Operand->Value} {o:Oper} (hs:∀ cs b,o.op≠.select cs b) (he:EvR ρ ev e) (h:Ba P ev o=some v) :
  ∃ u,(execOp e o).run P w=.ok (.value u) w/\VR ρ v u:=by
 unfold Ba at h;dsimp only at h;split at h
 ·rename_i hall;split at h
  ·rename_i u hp;cases h;refine⟨u,?_,rfl⟩;grind[execOp_congr,b5u,c2y]
  grind
 grind
section one
variable {ev:Ev} {e:Operand→Value} {o:Oper} (s:Sim B G ρ H w) (hG:G=P.globals.size) (he:EvR ρ ev e)
include s he
theorem c9k (h:execOp e o=pure (.value (e x))) : RS B G P ρ H w (a1q H (ev x)) (execOp e o):=by
 unfold a1q;split
 ·simp_all[RS.quiet]
 ·trivial
theorem e0s {c a b:Operand} (h:o.op=.pick c a b) : RS B G P ρ H w (a4e H (ev c) (ev a) (ev b)) (execOp e o):=by
 unfold a4e;split
 ·rename_i hc;have:=he _ _ hc;simp_all[RS.ofOpt,VR,asBool,execOp]
 ·rename_i hc;have:=he _ _ hc;simp_all[RS.ofOpt,VR,asBool,execOp]
 ·trivial
omit he in
theorem b8y {l:List AV} {cells:Array Value} {elem:TypeId} {m:Sem Next} {v:AV} {u:Value} (z k:Nat) (hk:k*z<=cells.size) (hz:z=0\/l.length<=k*z) (hc:VRs ρ l cells.toList)
  (hrun:m.run P w=.ok (.value u) { w with heap:=w.heap.push (.cells cells elem) }) (hv:VR (upd ρ H.next (w.heap.size,0,k)) v u) :
  RS B G P ρ H w (.val v (H.add (.cells l true z))) m:=by
 refine⟨upd ρ H.next (w.heap.size,0,k),u,_,hrun,Ext.alloc ρ _ _ w _ _ rfl rfl rfl rfl s.base,?_,hv,Dx _⟩;refine s.alloc _ _ k _ rfl ⟨cells,elem,(0,0),by simp,?_,fun _=>⟨s.base,by simp,by grind,hz⟩⟩;intro i v hi;obtain⟨u,hu,hv⟩:=hc.get i hi;exact⟨u,by grind,hv.mono (a6q s.none)⟩
theorem e0t (h:o.op=.box t x) : RS B G P ρ H w (a4s H (ev x)) (execOp e o):=by
 unfold a4s;split
 ·rename_i v hv;unfold a0j;rw[Mem.newK_eq];refine b8y s (cells:=(e x).cells) (elem:=t) 0 0 (by simp) (.inl rfl) (he _ _ hv).cells (u:=.pointer (some ⟨w.heap.size,0,none⟩)) ?_ ⟨_,_,_,a0l _ _ _,rfl⟩;simp[execOp,h,Instr.box,newVar,newRow]
 ·trivial
omit he in
theorem e0u {t:TypeId} (h:o.op=.alloc t) : RS B G P ρ H w (a6j P H t) (execOp e o):=by
 unfold a6j;split
 ·rename_i l hl;unfold Cl at hl;split at hl
  ·rename_i i hi;split at hl
   ·rename_i zv hz;cases hl;unfold a0j;rw[Mem.newK_eq];refine b8y s (cells:=zv.cells) (elem:=t) 0 0 (by simp) (.inl rfl) (VRs.lits _) (u:=.pointer (some ⟨w.heap.size,0,none⟩)) ?_ ⟨_,_,_,a0l _ _ _,rfl⟩;simp_all[a2g,newRow,newVar,Instr.alloc,execOp]
   grind
  grind
 ·trivial
include hG in
theorem e0v {t:TypeId} {x:Operand} (h:o.op=.load t x) : RS B G P ρ H w (a3f P H t (ev x)) (execOp e o):=by
 unfold a3f;split
 ·rename_i p hp;refine RS.ofOpt s fun v hv=>?_;obtain⟨r,hr,hvr⟩:=c9i s hG hv (he _ _ hp);simp_all[execOp]
 ·trivial
omit s he in
theorem allOne_VRs:∀ {l:List AV} {us:List Value},VRs ρ l us->allOne l=true->∀ v∈us,v.oneCell=true
 | [],_,h,_=>by cases h;simp
 | v :: l,_,⟨u,us',e,r,q⟩,h=>by
  subst e;simp only[allOne] at h;split at h
  ·rename_i h1;intro x hx;rcases List.mem_cons.1 hx with rfl|hx
   ·exact c9d r h1
   ·exact allOne_VRs q h x hx
  grind
theorem e0w {a:Operand} (h:o.op=.store t a x) : RS B G P ρ H w (a5r P H t (ev a) (ev x)) (execOp e o):=by
 unfold a5r;split
 ·rename_i p v hp hv;split
  ·rename_i H' hst;unfold store at hst;split at hst
   ·rename_i n off;split at hst
    ·rename_i l z bl size hb ht;split at hst
     ·rename_i hcond;rw[a9n] at hst;split at hst
      ·rename_i hle;rw[Mem.setK_eq] at hst;cases hst;simp only[Dq] at hcond;have hsz:len (cellsOf v)=size:=Dz hcond.1;rw[a0b] at hsz;obtain⟨b,q,k,hr,hu⟩:=he _ _ hp;have hcells:=(he _ _ hv).cells;obtain⟨w',hrun,hext,hsim⟩:=c9j (P:=P) s hb hr hle hcells (allOne_VRs hcells hcond.2);refine⟨ρ,w',?_,hext,hsim,Dm _⟩;have hlen:(e x).cells.size=size:=by have:=hcells.length;grind
       simp[execOp,h,Instr.storeAt,Instr.sureAddr,hu,storeVar,(b5t ht _).2,hlen,hrun]
      grind
     grind
    grind
   grind
  ·trivial
 ·trivial
theorem b1q (hs:∀ cs b,o.op≠.select cs b) : RS B G P ρ H w (ofOpt H (Ba P ev o)) (execOp e o) :=
 RS.ofOpt s fun _ hv=>a9o hs he hv
theorem e0x (h:o.op=.nilCheck x) : RS B G P ρ H w (a6k P H ev o (ev x)) (execOp e o):=by
 unfold a6k;split
 ·rename_i a off hv;obtain⟨b,q,k,hr,hu⟩:=he _ _ hv;exact RS.quiet s (u:=e x) (by simp_all[execOp]) ⟨b,q,k,hr,hu⟩
 ·rename_i f l r hv;obtain⟨f',c',hu,h1,h2⟩:=he _ _ hv;exact RS.quiet s (u:=e x) (by simp_all[execOp]) ⟨f',c',hu,h1,h2⟩
 ·rename_i t v hv;obtain⟨u',hu,h1⟩:=he _ _ hv;exact RS.quiet s (u:=e x) (by simp_all[execOp]) ⟨u',hu,h1⟩
 grind[b1q]
theorem e0y (h:o.op=.makeInterface t x) : RS B G P ρ H w (a7n P H t (ev x)) (execOp e o):=by
 unfold a7n;split
 ·trivial
 ·rename_i d v hni hd hv;refine RS.quiet s (u:=.iface t (e x)) ?_ ⟨_,rfl,he _ _ hv⟩;cases d<;>first|(simp[execOp,h,Instr.makeInterface,Av hd];done)|grind
 ·trivial
omit s in
theorem evals_VRs:∀ {l:List Operand} {vs:List AV},Bq ev l=some vs->VRs ρ vs (l.map e)
 | [],_,h=>by cases h;rfl
 | x :: l,vs,h=>by
  simp only[Bq] at h;split at h
  ·rename_i v hv;split at h
   ·rename_i ws hw;cases h;exact⟨_,_,rfl,he _ _ hv,evals_VRs hw⟩
   grind
  grind
theorem e0z {fn:Fn} {a c:Array Operand} (h:o.op=.makeFunc fn a c) : RS B G P ρ H w (a5s H fn (Bq ev a.toList) (Bq ev c.toList)) (execOp e o):=by
 unfold a5s;split
 ·rename_i x y hx hy;refine RS.quiet s (u:=.func fn (a.map e) (c.map e)) (by simp[execOp,h,Instr.makeFunc]) ⟨_,_,rfl,?_,?_⟩
  ·simpa using evals_VRs he hx
  ·simpa using evals_VRs he hy
 ·trivial
theorem e1a {i:Nat} (h:o.op=.extract x i) : RS B G P ρ H w (a5t H (ev x) i) (execOp e o):=by
 unfold a5t;split
 ·rename_i l hv;obtain⟨cs,hu,hr⟩:=he _ _ hv;refine RS.ofOpt s fun v hv=>?_;obtain⟨u,h1,h2⟩:=hr.get i hv;simp_all[Instr.extract,execOp]
 ·rename_i vs hv;have hu:=he _ _ hv;simp only[VR] at hu;split
  ·rename_i v h1;exact RS.quiet s (u:=v) (by simp_all[Instr.extract,execOp]) rfl
  ·trivial
 ·trivial
omit s in
theorem e1b {x:Operand} (h:o.op=.panic x) : RS B G P ρ H w (b5k H (ev x)) (execOp e o):=by
 unfold b5k;split
 ·rename_i t v hv;obtain⟨u',hu,h1⟩:=he _ _ hv;exact⟨e x,by simp_all[Instr.panic,execOp],⟨u',hu,h1⟩,rfl⟩
 ·rename_i t v hv;have hu:=he _ _ hv;simp only[VR] at hu;exact⟨e x,by simp_all[Instr.panic,execOp],by grind,rfl⟩
 ·trivial
end one
end Go.Ai
end
section
namespace Go.Ai
open Go.RowKit (Below)
variable {B G:Nat} {ρ:Rn} {H:Mem} {w:World} {P:Program}
section one
variable {ev:Ev} {e:Operand→Value} {o:Oper} (s:Sim B G ρ H w) (he:EvR ρ ev e)
variable {t:TypeId} {x:Operand}
theorem a7t {v:AV} {n:Nat} {u:Value} (h:natOf v=some n) (hv:VR ρ v u) : ∃ k,u=.int k n:=by
 unfold natOf at h;split at h
 ·cases h;cases hv;grind
 grind
theorem c9l {r:Option AV} (s:Sim B G ρ H w) (he:EvR ρ ev e) (hs:∀ cs b,o.op≠.select cs b) (h:∀ v,r=some v->∃ u,(execOp e o).run P w=.ok (.value u) w/\VR ρ v u) :
  RS B G P ρ H w (a3p P H ev o r) (execOp e o):=by
 unfold a3p;split
 ·rename_i v;obtain⟨u,hu,hv⟩:=h v rfl;grind[RS.quiet]
 grind[b1q]
include s he
theorem e1c {f:Nat} (h:o.op=.fieldAddr t x f) : RS B G P ρ H w (a4g P H ev o t (ev x) f) (execOp e o):=by
 unfold a4g;split
 ·rename_i v hv;refine c9l s he (by grind) fun r hr=>?_;unfold fieldAddr at hr;split at hr
  ·rename_i fields a off hd;obtain⟨b,q,k,hp,hu⟩:=he _ _ hv;split at hr
   ·rename_i fd hf;split at hr
    ·rename_i i hi;split at hr
     ·grind
     ·rename_i hz;rw[a1s] at hr;cases hr;have hz' : i.size≠0:=by intro h0;simp_all
      refine⟨.pointer (some ⟨b,q+off+fd.offset,none⟩),?_,⟨b,q,k,hp,by grind⟩⟩;simp_all[a3g,Cu,fieldPlace,Instr.sureAddr,Av,Instr.fieldAt,execOp]
    grind
   grind
  grind
 ·trivial
theorem e1d {i:Operand} (h:o.op=.indexAddr t x i) : RS B G P ρ H w (a0u P H ev o t (ev x) (ev i)) (execOp e o):=by
 unfold a0u;split
 ·rename_i v k hv hk;refine c9l s he (by grind) fun r hr=>?_;unfold indexAddr at hr;split at hr
  ·rename_i el a off n c j hd hj;obtain⟨ki,hi⟩:=a7t hj (he _ _ hk);obtain⟨b,q,kk,hp,hle,hu⟩:=he _ _ hv;split at hr
   ·rename_i info hinfo;split at hr
    ·rename_i hlt;rw[a1s] at hr;cases hr;have hlt' : j<n:=by simp_all
     refine⟨.pointer (some ⟨b,q+off+j*info.size,none⟩),?_,⟨b,q,kk,hp,by grind⟩⟩;simp[execOp,h,Instr.indexAt,hi,asIntOf,Av hd,hu,hlt',Cu hinfo,a3g]
    grind
   grind
  ·rename_i el a off n c j hd hj;obtain⟨ki,hi⟩:=a7t hj (he _ _ hk);obtain⟨b,q,kk,hp,hle,hu⟩:=he _ _ hv;split at hr
   ·rename_i info hinfo;split at hr
    ·rename_i hlt;rw[a1s] at hr;cases hr;have hlt' : j<n:=by simp_all
     refine⟨.pointer (some ⟨b,q+off+j*info.size,none⟩),?_,⟨b,q,kk,hp,by grind⟩⟩;simp[execOp,h,Instr.indexAt,hi,asIntOf,Av hd,hu,hlt',Cu hinfo,a3g]
    grind
   grind
  ·rename_i n el a off j hd hj;obtain⟨ki,hi⟩:=a7t hj (he _ _ hk);obtain⟨b,q,kk,hp,hu⟩:=he _ _ hv;split at hr
   ·rename_i info hinfo;split at hr
    ·rename_i hlt;rw[a1s] at hr;cases hr;have hlt' : j<n:=by simp_all
     refine⟨.pointer (some ⟨b,q+off+j*info.size,none⟩),?_,⟨b,q,kk,hp,by grind⟩⟩;simp[execOp,h,Instr.indexAt,hi,asIntOf,Av hd,hu,Instr.sureAddr,hlt',Cu hinfo,a3g]
    grind
   grind
  grind
 ·trivial
omit s he in
theorem c9m {v:AV} {l:List AV} {u:Value} (h:asAggL v=some l) (hv:VR ρ v u) : ∃ cs,u=.agg cs/\VRs ρ l cs.toList:=by
 unfold asAggL at h;split at h
 ·cases h;cases hv;exact⟨_,rfl,VRs.lits _⟩
 ·cases h;exact hv
 grind
omit s he in
theorem c9n {t:TypeId} {l:List AV} {cs:Array Value} {off:Nat} {v:AV} (h:b8k P t l off=some v) (hl:VRs ρ l cs.toList) (w:World) :
  ∃ u,(part t cs off).run P w=.ok u w/\VR ρ v u:=by
 unfold b8k at h;split at h
 ·rename_i size ht;obtain⟨ha,hs⟩:=b5t ht w;split at h
  ·cases h;refine⟨.agg (cs.extract off (off+size)),by simp_all[part],⟨_,rfl,?_⟩⟩;simp_all[VRs.drop,VRs.take]
  grind
 ·rename_i size ht;obtain⟨ha,hs⟩:=b5t ht w;obtain⟨u,hu,hv⟩:=hl.get _ h;simp_all[part]
 grind
theorem e1e {f:Nat} (h:o.op=.field t x f) : RS B G P ρ H w (a7o P H t (ev x) f) (execOp e o):=by
 unfold a7o;split
 ·rename_i v hv;refine RS.ofOpt s fun r hr=>?_;unfold field at hr;split at hr
  ·rename_i fields l hd hl;obtain⟨cs,hu,hcs⟩:=c9m hl (he _ _ hv);split at hr
   ·rename_i fd hf;obtain⟨u,h1,h2⟩:=c9n hr hcs w;simp_all[asAgg,Av,Instr.field,execOp]
   grind
  grind
 ·trivial
theorem e1f {i:Operand} (h:o.op=.index t x i) : RS B G P ρ H w (a6l P H ev o t (ev x) (ev i)) (execOp e o):=by
 unfold a6l;split
 ·rename_i v k hv hk;split
  ·rename_i r hr;unfold index at hr;split at hr
   ·rename_i n el l j hd hl hj;obtain⟨ki,hi⟩:=a7t hj (he _ _ hk);obtain⟨cs,hu,hcs⟩:=c9m hl (he _ _ hv);split at hr
    ·rename_i info hinfo;split at hr
     ·rename_i hlt;obtain⟨u,h1,h2⟩:=c9n hr hcs w;simp_all[Cu,Av,asIntOf,Instr.index,execOp,RS.quiet]
     grind
    grind
   grind
  ·refine RS.ofOpt s fun r hr=>?_;obtain⟨u,h1,h2⟩:=a9o (P:=P) (w:=w) (by grind) he hr;grind
 ·trivial
theorem e1g {xt:TypeId} {ok:Bool} (h:o.op=.typeAssert x xt t ok) : RS B G P ρ H w (a6m P H ev o (ev x) t ok) (execOp e o):=by
 unfold a6m;split
 ·rename_i r hr;obtain⟨u,h1,h2⟩:=a9o (P:=P) (w:=w) (by grind) he hr;grind[RS.quiet]
 ·split
  ·rename_i v hv;refine RS.ofOpt s fun r hr=>?_;unfold typeAssert at hr;split at hr
   ·rename_i want ty y hd;obtain⟨u',hu,h1⟩:=he _ _ hv;split at hr
    ·rename_i info hinfo;split at hr
     ·rename_i hm;cases hr;cases ok
      ·(simp_all[a3r,Av,Instr.typeAssert,execOp];grind)
      ·exact⟨.tuple #[e x,.bool true],by simp_all[a3r,Av,Instr.typeAssert,execOp],⟨_,rfl,_,_,rfl,⟨u',hu,h1⟩,_,_,rfl,rfl,rfl⟩⟩
     ·rename_i m hm;cases ok
      ·grind
      ·simp only[if_true] at hr;split at hr
       ·rename_i j hj;split at hr
        ·rename_i zv hz;cases hr;exact⟨.tuple #[zv,.bool false],by simp_all[a2g,a3r,Av,Instr.typeAssert,execOp],⟨_,rfl,_,_,rfl,rfl,_,_,rfl,rfl,rfl⟩⟩
        grind
       grind
    grind
   ·rename_i d ty y hni hd;obtain⟨u',hu,h1⟩:=he _ _ hv;have hd' : ∀ ms,d≠.interface ms:=fun ms hm=>by grind
    split at hr
    ·rename_i hty;cases hr;subst hty;cases ok
     ·refine⟨u',?_,h1⟩;cases d<;>first|(simp[execOp,h,Instr.typeAssert,Av hd,hu];done)|grind
     ·refine⟨.tuple #[u',.bool true],?_,⟨_,rfl,_,_,rfl,h1,_,_,rfl,rfl,rfl⟩⟩;cases d<;>first|(simp[execOp,h,Instr.typeAssert,Av hd,hu];done)|grind
    ·rename_i hty;cases ok
     ·grind
     ·simp only[if_true] at hr;have hty' : ¬(ty=t):=hty;split at hr
      ·rename_i j hj;split at hr
       ·rename_i zv hz;cases hr;refine⟨.tuple #[zv,.bool false],?_,⟨_,rfl,_,_,rfl,rfl,_,_,rfl,rfl,rfl⟩⟩;cases d<;>first|(simp[execOp,h,Instr.typeAssert,Av hd,hu,hty',a2g hj hz];done)|grind
       grind
      grind
   grind
  ·trivial
end one
end Go.Ai
end
section
namespace Go.Ai
open Go.RowKit (Below)
variable {B G:Nat} {ρ:Rn} {H:Mem} {w:World} {P:Program}
variable {t:TypeId} {k:Nat} {u u':Value} {n:Int} {x y:Operand} {b:Bool}
theorem c2z (a b:Int) : iEq a b=(a == b):=by
 cases a<;>cases b<;>refine Bool.eq_iff_iff.2 ?_<;>simp[iEq]<;>omega
theorem b5v (a b:Int) : iLt a b=decide (a<b):=by
 cases a<;>cases b<;>refine Bool.eq_iff_iff.2 ?_<;>simp only[iLt,Nat.blt,Nat.ble_eq,decide_eq_true_eq]<;>first|omega|grind
theorem c9o (a b:Int) : decide (a<=b) = !decide (b<a):=by
 grind
theorem e1h (h:c8g n=true) : -9223372036854775808<=n/\n<=9223372036854775807:=by
 cases n with
 | ofNat m=>have:m<=9223372036854775807:=Dp h;grind
 | negSucc m=>have:m<=9223372036854775807:=Dp h;grind
theorem b1r (h : -9223372036854775808<=n/\n<=9223372036854775807) : IntKind.i64.wrap n=n:=by
 (simp_all[IntKind.signed,IntKind.bits,IntKind.wrap];grind)
theorem c9p {m:Nat} (h:m<=255) : IntKind.u8.wrap (Int.ofNat m)=Int.ofNat m:=by
 (simp_all[IntKind.signed,IntKind.bits,IntKind.wrap];grind)
theorem c9q {k:IntKind} {n:Int} {v:AV} (h:b1l k n=some v) : v=.lit (.int k (k.wrap n)):=by
 unfold b1l at h;split at h
 ·grind[e1h,b1r]
 ·split at h
  all_goals grind[Nat.le_of_ble_eq_true,c9p]
 grind
theorem b1s (b:Bool) : bv b=some (.lit (.bool b)):=by cases b<;>rfl
theorem e1i {k k': IntKind} (h:kEq k k'=true) : k=k':=by
 (simp_all[kEq];grind)
theorem e1j {op:BinOp} {x y v:AV} (t:TypeId) (h:Cq op x y=some v) (hx:VR ρ x u) (hy:VR ρ y u') :
  ∃ r,(binOp op t u u').run P w=.ok r w/\VR ρ v r/\∃ k k' a b,u=.int k a/\u'=.int k' b:=by
 unfold Cq at h;split at h
 ·rename_i k a k' b;cases hx;cases hy;split at h
  ·rename_i hk;have:=e1i hk;subst this;have ar:∀ n,b1j n (b1l k)=some v->(binOp op t (.int k a) (.int k b)).run P w=.ok (.int k (k.wrap n)) w ->
     ∃ r,(binOp op t (.int k a) (.int k b)).run P w=.ok r w/\VR ρ v r/\∃ k0 k' a' b',Value.int k a=.int k0 a'/\Value.int k b=.int k' b':=fun n hn hr=>by
    rw[c9a] at hn;exact⟨_,hr,(c9q hn) ▸ rfl,_,_,_,_,rfl,rfl⟩
   have cp:∀ c,bv c=some v->(binOp op t (.int k a) (.int k b)).run P w=.ok (.bool c) w ->
     ∃ r,(binOp op t (.int k a) (.int k b)).run P w=.ok r w/\VR ρ v r/\∃ k0 k' a' b',Value.int k a=.int k0 a'/\Value.int k b=.int k' b':=fun c hc hr=>by
    rw[b1s] at hc;cases hc;exact⟨_,hr,rfl,_,_,_,_,rfl,rfl⟩
   cases op
   case add=>simp_all[Op.intArith,binOp]
   case sub=>(simp_all[Op.intArith,binOp];grind)
   case mul=>simp_all[Op.intArith,binOp]
   case eql=>exact cp _ h (by simp[binOp,Op.intCmp,c2z])
   case neq=>exact cp _ h (by simp[binOp,Op.intCmp,c2z];rfl)
   case lss=>exact cp _ h (by simp[binOp,Op.intCmp,b5v])
   case leq=>exact cp _ h (by simp[c9o,b5v,Op.intCmp,binOp])
   case gtr=>exact cp _ h (by simp[binOp,Op.intCmp,b5v])
   case geq=>exact cp _ h (by simp[c9o,b5v,Op.intCmp,binOp])
   all_goals cases h
  grind
 grind
section one
variable {ev:Ev} {e:Operand→Value} {o:Oper} (s:Sim B G ρ H w) (he:EvR ρ ev e)
theorem c9r {op:BinOp} {a b:Value} (h1:¬(a=.nilIface/\b=.nilIface)) (h2:∀ c d,¬(a=.agg c/\b=.agg d)) (w:World) : (eqGuard op t x y a b).run P w=.ok () w:=by
  cases op<;>first
    | rfl
    | (simp only[eqGuard,Bool.not_true,g6o,if_false]
       simp_all)
theorem c9s {l:Nat} {d:Option TypeDesc} (h:(Nat.beq k l && Nat.beq k (descKind d))=true) : k=l/\k=descKind d:=by
 (simp_all;grind)
inductive NK:Nat->Bool->Value->Prop
 | p1 (a) : NK 1 false (.pointer (some a))
 | n1:NK 1 true (.pointer none)
 | p2 (a n c) : NK 2 false (.slice (some a) n c)
 | n2 (n c) : NK 2 true (.slice none n c)
 | p3 (r) : NK 3 false (.map (some r))
 | n3:NK 3 true (.map none)
 | p4 (f a b) : NK 4 false (.func f a b)
 | n4:NK 4 true .nilFunc
 | p5 (t v) : NK 5 false (.iface t v)
 | n5:NK 5 true .nilIface
theorem b8z {a:AV} (h:nilKind a=some (k,b)) (ha:VR ρ a u) : NK k b u:=by
 unfold nilKind at h;split at h<;>cases h
 ·obtain⟨_,_,_,_,rfl⟩:=ha;exact .p1 _
 ·cases ha;exact .n1
 ·obtain⟨_,_,_,_,_,rfl⟩:=ha;exact .p2 _ _ _
 ·obtain⟨_,_,_,_,_,rfl⟩:=ha;exact .p2 _ _ _
 ·obtain⟨_,_,rfl⟩:=ha;exact .p2 _ _ _
 ·cases ha;exact .n2 _ _
 ·obtain⟨_,_,_,_,rfl⟩:=ha;exact .p3 _
 ·cases ha;exact .n3
 ·obtain⟨_,_,rfl,_⟩:=ha;exact .p4 _ _ _
 ·cases ha;exact .n4
 ·obtain⟨_,rfl,_⟩:=ha;exact .p5 _ _
 ·cases ha;exact .n5
theorem e1k {d:Option TypeDesc} (h:k=descKind d) (h0:k≠0) : ∃ t,d=some t/\(match k,t with|1,.pointer _=>True|2,.slice _=>True|3,.map _ _=>True|4,.func _ _ _=>True|5,.interface _=>True|_,_=>False):=by
 subst h;unfold descKind at h0 |-;grind
theorem e1l (n:Nat) (hd:k=descKind (P.underlying t)) (h1:NK k b u) (h2:NK k (!b) u') (w:World) :
  (Op.equalIn (n+1) t u u').run P w=.ok false w:=by
 have h0:k≠0:=by cases h1<;>simp
 obtain⟨d,hdd,hm⟩:=e1k hd h0;have hu:=Av hdd w;cases h1<;>cases h2<;>cases d<;>first
  | exact hm.elim
  | simp[Op.equalIn,hu]
theorem c9t (hd:k=descKind (P.underlying t)) (h1:NK k b u) (h2:NK k (!b) u') (w:World) :
  (Op.equal t u u').run P w=.ok false w/\¬(u=.nilIface/\u'=.nilIface)/\(∀ c d,¬(u=.agg c/\u'=.agg d)) /\
   (binOp .eql t u u'=do pure (.bool (<- Op.equal t u u')))/\(binOp .neq t u u'=do pure (.bool (!(<- Op.equal t u u')))):=by
 have he:(Op.equal t u u').run P w=.ok false w:=e1l 9999 hd h1 h2 w;refine⟨he,?_⟩;clear he;cases h1<;>cases h2<;>exact⟨by simp,by simp,rfl,rfl⟩
include s he
theorem e1m {op:BinOp} {ty:TypeId} (h:o.op=.binOp op t x y ty) : RS B G P ρ H w (b3f P H op t (ev x) (ev y)) (execOp e o):=by
 unfold b3f;split
 ·rename_i a b ha hb;have key:c2h (P.underlying t) a b=true->(Op.equal t (e x) (e y)).run P w=.ok false w/\¬(e x=.nilIface/\e y=.nilIface)/\(∀ c d,¬(e x=.agg c/\e y=.agg d)) /\
   (binOp .eql t (e x) (e y)=do pure (.bool (<- Op.equal t (e x) (e y))))/\(binOp .neq t (e x) (e y)=do pure (.bool (!(<- Op.equal t (e x) (e y))))):=by
   intro hn;unfold c2h at hn;split at hn
   ·rename_i k l h1 h2;obtain⟨rfl,hk⟩:=c9s hn;exact c9t hk (b8z h1 (he _ _ ha)) (b8z h2 (he _ _ hb)) w
   ·rename_i k l h1 h2;obtain⟨rfl,hk⟩:=c9s hn;exact c9t hk (b8z h1 (he _ _ ha)) (b8z h2 (he _ _ hb)) w
   grind
  split
  ·rename_i hn;obtain⟨h1,h2,h3,h4,h5⟩:=key hn;exact RS.quiet s (u:=.bool false) (by simp_all[c9r,execOp]) rfl
  ·rename_i hn;obtain⟨h1,h2,h3,h4,h5⟩:=key hn;exact RS.quiet s (u:=.bool true) (by simp_all[c9r,execOp]) rfl
  ·trivial
 ·trivial
theorem e1n {op:BinOp} {ty:TypeId} (h:o.op=.binOp op t x y ty) : RS B G P ρ H w (Bo P H ev o op t (ev x) (ev y)) (execOp e o):=by
 unfold Bo;split
 ·rename_i v hv;unfold b5h at hv;split at hv
  ·rename_i a b ha hb;obtain⟨r,hr,hvr,k,k',n,m,hu,hu'⟩:=e1j (P:=P) (w:=w) t hv (he _ _ ha) (he _ _ hb);simp_all[RS.quiet,eqGuard,execOp]
  grind
 ·split
  ·rename_i r hr;obtain⟨u,h1,h2⟩:=a9o (P:=P) (w:=w) (by grind) he hr;grind[RS.quiet]
  ·exact e1m s he h
end one
end Go.Ai
end

