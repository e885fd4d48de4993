/- A small verified interpreter over names, its proofs, and what was proved with it. No condition. -/
import GoSem.Dispatch
import Derived.Calls
import Derived.Below
import Derived.Wp
import Derived.Laws.Sem
import Derived.Laws.Cells
import Derived.Laws.Entries
import Derived.Orders
set_option linter.all false
set_option linter.deprecated false
section
namespace Go.Ai
inductive AV where
 | lit (v:Value)
 | ptr (a off:Nat)
 | sl (a off len cap:Nat)
 | slq (a off len d:Nat)
 | es
 | map (a:Nat)
 | func (fn:Fn) (first cap:List AV)
 | iface (t:TypeId) (v:AV)
 | agg (l:List AV)
 | tup (l:List AV)
 deriving Inhabited
inductive Dg where
 | d0 | d1 | d2 | d3 | d4 | d5 | d6 | d7 | d8 | d9 | d10 | d11 | d12 | d13 | d14 | d15
structure N (α:Type) where
 mk :: (c0 c1 c2 c3 c4 c5 c6 c7 c8 c9 c10 c11 c12 c13 c14 c15:α)
inductive Lf (α:Type) where
 | e
 | v (k:Nat) (x:α)
def gN0 {α:Type} (x:N α) : α:=x.c0
def gN1 {α:Type} (x:N α) : α:=x.c1
def gN2 {α:Type} (x:N α) : α:=x.c2
def gN3 {α:Type} (x:N α) : α:=x.c3
def gN4 {α:Type} (x:N α) : α:=x.c4
def gN5 {α:Type} (x:N α) : α:=x.c5
def gN6 {α:Type} (x:N α) : α:=x.c6
def gN7 {α:Type} (x:N α) : α:=x.c7
def gN8 {α:Type} (x:N α) : α:=x.c8
def gN9 {α:Type} (x:N α) : α:=x.c9
def gN10 {α:Type} (x:N α) : α:=x.c10
def gN11 {α:Type} (x:N α) : α:=x.c11
def gN12 {α:Type} (x:N α) : α:=x.c12
def gN13 {α:Type} (x:N α) : α:=x.c13
def gN14 {α:Type} (x:N α) : α:=x.c14
def gN15 {α:Type} (x:N α) : α:=x.c15
def sN0 {α β:Type} (c0 c1 c2 c3 c4 c5 c6 c7 c8 c9 c10 c11 c12 c13 c14 c15 v:α) (K:N α→β) : β:=K (.mk v c1 c2 c3 c4 c5 c6 c7 c8 c9 c10 c11 c12 c13 c14 c15)
def sN1 {α β:Type} (c0 c1 c2 c3 c4 c5 c6 c7 c8 c9 c10 c11 c12 c13 c14 c15 v:α) (K:N α→β) : β:=K (.mk c0 v c2 c3 c4 c5 c6 c7 c8 c9 c10 c11 c12 c13 c14 c15)
def sN2 {α β:Type} (c0 c1 c2 c3 c4 c5 c6 c7 c8 c9 c10 c11 c12 c13 c14 c15 v:α) (K:N α→β) : β:=K (.mk c0 c1 v c3 c4 c5 c6 c7 c8 c9 c10 c11 c12 c13 c14 c15)
def sN3 {α β:Type} (c0 c1 c2 c3 c4 c5 c6 c7 c8 c9 c10 c11 c12 c13 c14 c15 v:α) (K:N α→β) : β:=K (.mk c0 c1 c2 v c4 c5 c6 c7 c8 c9 c10 c11 c12 c13 c14 c15)
def sN4 {α β:Type} (c0 c1 c2 c3 c4 c5 c6 c7 c8 c9 c10 c11 c12 c13 c14 c15 v:α) (K:N α→β) : β:=K (.mk c0 c1 c2 c3 v c5 c6 c7 c8 c9 c10 c11 c12 c13 c14 c15)
def sN5 {α β:Type} (c0 c1 c2 c3 c4 c5 c6 c7 c8 c9 c10 c11 c12 c13 c14 c15 v:α) (K:N α→β) : β:=K (.mk c0 c1 c2 c3 c4 v c6 c7 c8 c9 c10 c11 c12 c13 c14 c15)
def sN6 {α β:Type} (c0 c1 c2 c3 c4 c5 c6 c7 c8 c9 c10 c11 c12 c13 c14 c15 v:α) (K:N α→β) : β:=K (.mk c0 c1 c2 c3 c4 c5 v c7 c8 c9 c10 c11 c12 c13 c14 c15)
def sN7 {α β:Type} (c0 c1 c2 c3 c4 c5 c6 c7 c8 c9 c10 c11 c12 c13 c14 c15 v:α) (K:N α→β) : β:=K (.mk c0 c1 c2 c3 c4 c5 c6 v c8 c9 c10 c11 c12 c13 c14 c15)
def sN8 {α β:Type} (c0 c1 c2 c3 c4 c5 c6 c7 c8 c9 c10 c11 c12 c13 c14 c15 v:α) (K:N α→β) : β:=K (.mk c0 c1 c2 c3 c4 c5 c6 c7 v c9 c10 c11 c12 c13 c14 c15)
def sN9 {α β:Type} (c0 c1 c2 c3 c4 c5 c6 c7 c8 c9 c10 c11 c12 c13 c14 c15 v:α) (K:N α→β) : β:=K (.mk c0 c1 c2 c3 c4 c5 c6 c7 c8 v c10 c11 c12 c13 c14 c15)
def sN10 {α β:Type} (c0 c1 c2 c3 c4 c5 c6 c7 c8 c9 c10 c11 c12 c13 c14 c15 v:α) (K:N α→β) : β:=K (.mk c0 c1 c2 c3 c4 c5 c6 c7 c8 c9 v c11 c12 c13 c14 c15)
def sN11 {α β:Type} (c0 c1 c2 c3 c4 c5 c6 c7 c8 c9 c10 c11 c12 c13 c14 c15 v:α) (K:N α→β) : β:=K (.mk c0 c1 c2 c3 c4 c5 c6 c7 c8 c9 c10 v c12 c13 c14 c15)
def sN12 {α β:Type} (c0 c1 c2 c3 c4 c5 c6 c7 c8 c9 c10 c11 c12 c13 c14 c15 v:α) (K:N α→β) : β:=K (.mk c0 c1 c2 c3 c4 c5 c6 c7 c8 c9 c10 c11 v c13 c14 c15)
def sN13 {α β:Type} (c0 c1 c2 c3 c4 c5 c6 c7 c8 c9 c10 c11 c12 c13 c14 c15 v:α) (K:N α→β) : β:=K (.mk c0 c1 c2 c3 c4 c5 c6 c7 c8 c9 c10 c11 c12 v c14 c15)
def sN14 {α β:Type} (c0 c1 c2 c3 c4 c5 c6 c7 c8 c9 c10 c11 c12 c13 c14 c15 v:α) (K:N α→β) : β:=K (.mk c0 c1 c2 c3 c4 c5 c6 c7 c8 c9 c10 c11 c12 c13 v c15)
def sN15 {α β:Type} (c0 c1 c2 c3 c4 c5 c6 c7 c8 c9 c10 c11 c12 c13 c14 c15 v:α) (K:N α→β) : β:=K (.mk c0 c1 c2 c3 c4 c5 c6 c7 c8 c9 c10 c11 c12 c13 c14 v)
noncomputable def gN {α:Type} : Dg→N α→α:=Dg.rec (motive:=fun _=>N α→α) gN0 gN1 gN2 gN3 gN4 gN5 gN6 gN7 gN8 gN9 gN10 gN11 gN12 gN13 gN14 gN15
noncomputable def sF {α β:Type} : Dg→(α→α→α→α→α→α→α→α→α→α→α→α→α→α→α→α→α→(N α→β)→β) :=
 Dg.rec (motive:=fun _=>α→α→α→α→α→α→α→α→α→α→α→α→α→α→α→α→α→(N α→β)→β) sN0 sN1 sN2 sN3 sN4 sN5 sN6 sN7 sN8 sN9 sN10 sN11 sN12 sN13 sN14 sN15
noncomputable def sN {α β:Type} (d:Dg) (x:N α) (v:α) (K:N α→β) : β:=N.rec (motive:=fun _=>α→(N α→β)→β) (sF d) x v K
def nN {α:Type} (x:α) : N α:=.mk x x x x x x x x x x x x x x x x
def dig (n:Nat) : Dg:=match n with
 | 0=>.d0
 | 1=>.d1
 | 2=>.d2
 | 3=>.d3
 | 4=>.d4
 | 5=>.d5
 | 6=>.d6
 | 7=>.d7
 | 8=>.d8
 | 9=>.d9
 | 10=>.d10
 | 11=>.d11
 | 12=>.d12
 | 13=>.d13
 | 14=>.d14
 | _=>.d15
def d0 (k:Nat) : Dg:=dig (Nat.mod k 16)
def d1 (k:Nat) : Dg:=dig (Nat.mod (Nat.div k 16) 16)
def d2 (k:Nat) : Dg:=dig (Nat.mod (Nat.div k 256) 16)
def d3 (k:Nat) : Dg:=dig (Nat.mod (Nat.div k 4096) 16)
noncomputable def leaf {α:Type} (k:Nat) (x:Lf α) : Option α :=
 Lf.rec (motive:=fun _=>Option α) none (fun j x=>Bool.rec (motive:=fun _=>Option α) none (some x) (Nat.beq j k)) x
abbrev T2 (α:Type):=N (N (Lf α))
abbrev T3 (α:Type):=N (T2 α)
abbrev T4 (α:Type):=N (T3 α)
def e2 {α:Type} : T2 α:=nN (nN .e)
def e3 {α:Type} : T3 α:=nN e2
def e4 {α:Type} : T4 α:=nN e3
noncomputable def get2 {α:Type} (t:T2 α) (k:Nat) : Option α:=leaf k (gN (d1 k) (gN (d0 k) t))
noncomputable def get3 {α:Type} (t:T3 α) (k:Nat) : Option α:=leaf k (gN (d2 k) (gN (d1 k) (gN (d0 k) t)))
noncomputable def get4 {α:Type} (t:T4 α) (k:Nat) : Option α:=leaf k (gN (d3 k) (gN (d2 k) (gN (d1 k) (gN (d0 k) t))))
noncomputable def put2 {α β:Type} (t:T2 α) (k:Nat) (x:Lf α) (K:T2 α→β) : β :=
 sN (d1 k) (gN (d0 k) t) x fun a=>sN (d0 k) t a K
noncomputable def put3 {α β:Type} (t:T3 α) (k:Nat) (x:Lf α) (K:T3 α→β) : β :=
 sN (d2 k) (gN (d1 k) (gN (d0 k) t)) x fun a=>sN (d1 k) (gN (d0 k) t) a fun a=>sN (d0 k) t a K
noncomputable def put4 {α β:Type} (t:T4 α) (k:Nat) (x:Lf α) (K:T4 α→β) : β :=
 sN (d3 k) (gN (d2 k) (gN (d1 k) (gN (d0 k) t))) x fun a=>sN (d2 k) (gN (d1 k) (gN (d0 k) t)) a fun a=>sN (d1 k) (gN (d0 k) t) a fun a=>sN (d0 k) t a K
inductive Blk where
 | cells (l:List AV) (own:Bool) (z:Nat)
 | map (es:List (AV×AV×Nat)) (clock:Nat)
 | siter (s:ByteArray) (pos:Nat)
 | typ (T:TypeId) (l:List AV) (ex:Bool)
inductive Store where
 | tr (t:T4 Blk)
 | fn (g:Nat→Option Blk)
structure Mem where
 t:Store
 next:Nat
def gput (g:Nat→Option Blk) (a:Nat) (x:Option Blk) : Nat→Option Blk:=fun j=>if j=a then x else g j
noncomputable def natK {β:Type} (n:Nat) (K:Nat→β) : β:=Nat.rec (K 0) (fun m _=>K (Nat.succ m)) n
noncomputable def intK {β:Type} (n:Int) (K:Int→β) : β:=Int.rec (fun m=>natK m fun m=>K (.ofNat m)) (fun m=>natK m fun m=>K (.negSucc m)) n
noncomputable def stGet (t:Store) (a:Nat) : Option Blk:=Store.rec (motive:=fun _=>Nat→Option Blk) get4 (fun g a=>g a) t a
noncomputable def Mem.get (H:Mem) (a:Nat) : Option Blk:=Mem.rec (motive:=fun _=>Nat→Option Blk) (fun t _ a=>stGet t a) H a
noncomputable def stPutT {β:Type} (t:T4 Blk) (a:Nat) (b:Blk) (K:Store→β) : β:=put4 t a (.v a b) fun t=>K (.tr t)
noncomputable def stPutF {β:Type} (g:Nat→Option Blk) (a:Nat) (b:Blk) (K:Store→β) : β:=K (.fn (gput g a (some b)))
noncomputable def stDelT {β:Type} (t:T4 Blk) (a:Nat) (K:Store→β) : β:=put4 t a .e fun t=>K (.tr t)
noncomputable def stDelF {β:Type} (g:Nat→Option Blk) (a:Nat) (K:Store→β) : β:=K (.fn (gput g a none))
noncomputable def stPut {β:Type} (t:Store) (a:Nat) (b:Blk) (K:Store→β) : β:=Store.rec (motive:=fun _=>Nat→Blk→(Store→β)→β) stPutT stPutF t a b K
noncomputable def stDel {β:Type} (t:Store) (a:Nat) (K:Store→β) : β:=Store.rec (motive:=fun _=>Nat→(Store→β)→β) stDelT stDelF t a K
noncomputable def memNew {β:Type} (t:Store) (n:Nat) (b:Blk) (K:Mem→β) : β:=stPut t n b fun t=>natK (Nat.succ n) fun n=>K ⟨t,n⟩
noncomputable def memSet {β:Type} (t:Store) (n a:Nat) (b:Blk) (K:Mem→β) : β:=stPut t a b fun t=>K ⟨t,n⟩
noncomputable def memDel {β:Type} (t:Store) (n a:Nat) (K:Mem→β) : β:=stDel t a fun t=>K ⟨t,n⟩
noncomputable def Mem.newK {β:Type} (H:Mem) (b:Blk) (K:Mem→β) : β:=Mem.rec (motive:=fun _=>Blk→(Mem→β)→β) memNew H b K
noncomputable def Mem.setK {β:Type} (H:Mem) (a:Nat) (b:Blk) (K:Mem→β) : β:=Mem.rec (motive:=fun _=>Nat→Blk→(Mem→β)→β) memSet H a b K
noncomputable def Mem.delK {β:Type} (H:Mem) (a:Nat) (K:Mem→β) : β:=Mem.rec (motive:=fun _=>Nat→(Mem→β)→β) memDel H a K
def pureV {α:Type} (P:Program) : Sem α→Option α
 | .pure a=>some a
 | .program k=>pureV P (k P)
 | .mark _ k=>pureV P k
 | .choose q k=>if q.forced then pureV P (k 0) else none
 | _=>none
def cellsOf:AV→List AV
 | .lit (.agg cs)=>cs.toList.map .lit
 | .agg l=>l
 | v=>[v]
def asAggL:AV→Option (List AV)
 | .lit (.agg cs)=>some (cs.toList.map .lit)
 | .agg l=>some l
 | _=>none
def litAll:List AV→Option (List Value)
 | []=>some []
 | .lit v :: l=>match litAll l with | some vs=>some (v :: vs) | none=>none
 | _ :: _=>none
def tIsAgg (P:Program) (t:TypeId) : Option (Bool×Nat) :=
 match P.underlying t,P.info? t with
 | some d,some i=>some (match d with | .struct _ | .array _ _=>true | _=>false,i.size)
 | _,_=>none
noncomputable def nth {α:Type} (l:List α) (i:Nat) : Option α :=
 List.rec (motive:=fun _=>Nat→Option α) (fun _=>none) (fun x _ ih i=>Nat.rec (motive:=fun _=>Option α) (some x) (fun j _=>ih j) i) l i
noncomputable def takeK {α β:Type} (z:β) (n:Nat) (l:List α) (K:List α→β) : β :=
 Nat.rec (motive:=fun _=>List α→(List α→β)→β) (fun _ K=>K [])
  (fun _ ih l K=>List.rec (motive:=fun _=>β) z (fun x l _=>ih l fun r=>K (x :: r)) l) n l K
noncomputable def dropK {α β:Type} (z:β) (n:Nat) (l:List α) (K:List α→β) : β :=
 Nat.rec (motive:=fun _=>List α→(List α→β)→β) (fun l K=>K l)
  (fun _ ih l K=>List.rec (motive:=fun _=>β) z (fun _ l _=>ih l K) l) n l K
noncomputable def sliceK {α β:Type} (l:List α) (n off:Nat) (z:β) (K:List α→β) : β:=dropK z off l fun l=>takeK z n l K
noncomputable def appK {α β:Type} (a b:List α) (K:List α→β) : β :=
 List.rec (motive:=fun _=>(List α→β)→β) (fun K=>K b) (fun x _ ih K=>ih fun r=>K (x :: r)) a K
noncomputable def overK {α β:Type} (z:β) (new l:List α) (K:List α→β) : β :=
 List.rec (motive:=fun _=>List α→(List α→β)→β) (fun l K=>K l)
  (fun x _ ih l K=>List.rec (motive:=fun _=>β) z (fun _ l _=>ih l fun r=>K (x :: r)) l) new l K
noncomputable def putCellsK {α β:Type} (z:β) (l:List α) (off:Nat) (new:List α) (K:List α→β) : β :=
 Nat.rec (motive:=fun _=>List α→(List α→β)→β) (fun l K=>overK z new l K)
  (fun _ ih l K=>List.rec (motive:=fun _=>β) z (fun x l _=>ih l fun r=>K (x :: r)) l) off l K
noncomputable def len {α:Type} (l:List α) : Nat:=List.rec (motive:=fun _=>Nat→Nat) (fun n=>n) (fun _ _ ih n=>natK (Nat.succ n) ih) l 0
def toLit:AV→Option Value
 | .lit v=>some v
 | .agg l=>match litAll l with | some vs=>some (.agg vs.toArray) | none=>none
 | .tup l=>match litAll l with | some vs=>some (.tuple vs.toArray) | none=>none
 | .iface t (.lit v)=>some (.iface t v)
 | .func f a b=>match litAll a,litAll b with | some x,some y=>some (.func f x.toArray y.toArray) | _,_=>none
 | _=>none
inductive R where
 | val (v:AV) (H:Mem)
 | skip (H:Mem)
 | enter (f:FuncId) (args:List AV) (H:Mem)
 | dfr (fn:Fn) (cap args:List AV) (H:Mem)
 | recover
 | panic (v:AV) (H:Mem)
 | bad
noncomputable def ofOpt (H:Mem) : Option AV→R
 | some v=>.val v H
 | none=>.bad
def oneC:AV→Bool
 | .lit (.agg _)=>false
 | .lit (.tuple _)=>false
 | .agg _=>false
 | .tup _=>false
 | _=>true
def allOne:List AV→Bool
 | []=>true
 | v :: l=>match oneC v with | true=>allOne l | false=>false
abbrev Ev:=Operand→Option AV
noncomputable def evals (ev:Ev) : List Operand→Option (List AV)
 | []=>some []
 | x :: l=>match ev x with
  | some v=>match evals ev l with | some vs=>some (v :: vs) | none=>none
  | none=>none
noncomputable def generic (P:Program) (ev:Ev) (o:Oper) : Option AV :=
 let ρ:Operand→Value:=fun x=>match ev x with | some v=>(match toLit v with | some u=>u | none=>undef) | none=>undef
 if o.op.operands.toList.all fun x=>match ev x with | some v=>(match toLit v with | some _=>true | none=>false) | none=>false then
  match pureV P (execOp ρ o) with
  | some (.value v)=>some (.lit v)
  | _=>none
 else none
noncomputable def afill (place:Nat→Option (Nat×Nat)) (cells:List AV) : List (Nat×AV)→Option (List AV)
 | []=>some cells
 | (i,v) :: rest=>match place i with
  | some (off,size)=>match Nat.beq (len (cellsOf v)) size with
   | true=>putCellsK none cells off (cellsOf v) fun cells=>afill place cells rest
   | false=>none
  | none=>none
noncomputable def zeroL (P:Program) (t:TypeId) : Option (List AV) :=
 match P.info? t with
 | some i=>match i.zero with
  | some z=>some (z.cells.toList.map .lit)
  | none=>none
 | none=>none
noncomputable def rep (l:List AV) : Nat→List AV
 | 0=>[]
 | n+1=>l++rep l n
noncomputable def newBlk (H:Mem) (l:List AV) (own:Bool) (v:AV) : R:=H.newK (.cells l own 0) fun H=>.val v H
noncomputable def evalParts (ev:Ev) : List (Nat×Operand)→Option (List (Nat×AV))
 | []=>some []
 | (i,x) :: l=>match ev x with
  | some v=>match evalParts ev l with | some vs=>some ((i,v) :: vs) | none=>none
  | none=>none
noncomputable def placesOf (P:Program) (fs:List Field) : Option (List (Nat×Nat)):=fs.mapM fun f=>(P.info? f.type).map fun i=>(f.offset,i.size)
noncomputable def aggOf (l:Option (List AV)) : Option AV:=match l with | some l=>some (.agg l) | none=>none
noncomputable def build (P:Program) (t:TypeId) (parts:List (Nat×AV)) : Option AV :=
 match zeroL P t,P.underlying t with
 | some zero,some (.struct fields)=>match placesOf P fields.toList with
  | some pl=>aggOf (afill (nth pl) zero parts)
  | none=>none
 | some zero,some (.array _ elem)=>match P.info? elem with
  | some j=>aggOf (afill (fun i=>some (i * j.size,j.size)) zero parts)
  | none=>none
 | _,_=>none
noncomputable def loadB (k:Option (Bool×Nat)) (b:Option Blk) (off:Nat) : Option AV :=
 match b,k with
 | some (.cells l _ _),some (true,size)=>sliceK l size off none fun l=>some (.agg l)
 | some (.cells l _ _),some (false,_)=>nth l off
 | _,_=>none
noncomputable def load (P:Program) (H:Mem) (t:TypeId) (p:AV) : Option AV :=
 match p with
 | .ptr a off=>loadB (tIsAgg P t) (H.get a) off
 | .lit (.pointer (some ⟨g,off,none⟩))=>match Nat.blt g P.globals.size with
  | true=>loadB (tIsAgg P t) (H.get g) off
  | false=>none
 | _=>none
noncomputable def store (P:Program) (H:Mem) (t:TypeId) (p v:AV) : Option Mem :=
 match p with
 | .ptr a off=>match H.get a,tIsAgg P t with
  | some (.cells l true z),some (_,size)=>match Nat.beq (len (cellsOf v)) size && allOne (cellsOf v) with
   | true=>putCellsK none l off (cellsOf v) fun l=>H.setK a (.cells l true z) some
   | false=>none
  | _,_=>none
 | _=>none
noncomputable def elemOfSlice (P:Program) (t:TypeId) : Option (TypeId×Nat×Nat) :=
 match P.underlying t with
 | some (.slice e)=>match P.info? e with
  | some i=>match i.zero with
   | some z=>match Nat.beq z.cells.size i.size with | true=>some (e,i.size,i.bytes) | false=>none
   | none=>none
  | none=>none
 | _=>none
noncomputable def natOf:AV→Option Nat
 | .lit (.int _ (.ofNat n))=>some n
 | _=>none
noncomputable def natOr (v:Option AV) (d:Nat) : Option Nat :=
 match v with
 | some v=>natOf v
 | none=>some d
noncomputable def okMx (hi mx:Option AV) : Bool:=match mx,hi with | some _,none=>false | _,_=>true
noncomputable def bounds (lo hi mx:Option AV) (n c:Nat) : Option (Nat×Nat×Nat) :=
 match natOr lo 0,natOr hi n,natOr mx c,okMx hi mx with
 | some l,some h,some m,true=>match Nat.ble l h && Nat.ble h m && Nat.ble m c with | true=>some (l,h,m) | false=>none
 | _,_,_,_=>none
noncomputable def sliceSl (size a off:Nat) (q:Option (Nat×Nat×Nat)) : Option AV :=
 match q with
 | some (l,h,m)=>match Nat.beq m l with
  | true=>some (.sl a off 0 0)
  | false=>natK (off+l * size) fun x=>natK (h - l) fun y=>natK (m - l) fun z=>some (.sl a x y z)
 | none=>none
noncomputable def sliceSlq (size a off n d:Nat) (q:Option (Nat×Nat×Nat)) : Option AV :=
 match q with
 | some (l,h,_)=>match Nat.blt l n with
  | true=>natK (off+l * size) fun x=>natK (h - l) fun y=>natK (d+l) fun z=>some (.slq a x y z)
  | false=>some .es
 | none=>none
noncomputable def sliceN (size:Nat) (lo hi mx:Option AV) : AV→Option AV
 | .sl a off n c=>sliceSl size a off (bounds lo hi mx n c)
 | .slq a off n d=>match mx with
  | none=>sliceSlq size a off n d (bounds lo hi none n n)
  | some m=>sliceSl size a off (bounds lo hi (some m) n n)
 | .es=>match bounds lo hi mx 0 0 with | some _=>some .es | none=>none
 | _=>none
noncomputable def sliceOp (P:Program) (t:TypeId) (x:AV) (lo hi mx:Option AV) : Option AV :=
 match P.underlying t with
 | some (.slice e)=>match P.info? e with
  | some i=>sliceN i.size lo hi mx x
  | none=>none
 | some (.pointer arr)=>match P.underlying arr,x with
  | some (.array n e),.ptr a off=>match P.info? e with
   | some i=>sliceSl i.size a off (bounds lo hi mx n n)
   | none=>none
  | _,_=>none
 | some (.array n e)=>match P.info? e,x with
  | some i,.ptr a off=>sliceSl i.size a off (bounds lo hi mx n n)
  | _,_=>none
 | _=>none
noncomputable def fieldAddr (P:Program) (s:TypeId) (x:AV) (f:Nat) : Option AV :=
 match P.underlying s,x with
 | some (.struct fields),.ptr a off=>match fields[f]? with
  | some fd=>match P.info? fd.type with
   | some i=>match Nat.beq i.size 0 with | true=>none | false=>natK (off+fd.offset) fun q=>some (.ptr a q)
   | none=>none
  | none=>none
 | _,_=>none
noncomputable def partL (P:Program) (t:TypeId) (cs:List AV) (off:Nat) : Option AV :=
 match tIsAgg P t with
 | some (true,size)=>match Nat.ble (off+size) cs.length with | true=>some (.agg ((cs.drop off).take size)) | false=>none
 | some (false,_)=>cs[off]?
 | none=>none
noncomputable def field (P:Program) (t:TypeId) (x:AV) (f:Nat) : Option AV :=
 match P.underlying t,asAggL x with
 | some (.struct fields),some cs=>match fields[f]? with
  | some fd=>partL P fd.type cs fd.offset
  | none=>none
 | _,_=>none
noncomputable def indexAddr (P:Program) (t:TypeId) (x i:AV) : Option AV :=
 match P.underlying t,x,natOf i with
 | some (.slice e),.sl a off len _,some k=>match P.info? e with | some j=>(match Nat.blt k len with | true=>natK (off+k * j.size) fun q=>some (.ptr a q) | false=>none) | none=>none
 | some (.slice e),.slq a off len _,some k=>match P.info? e with | some j=>(match Nat.blt k len with | true=>natK (off+k * j.size) fun q=>some (.ptr a q) | false=>none) | none=>none
 | some (.array n e),.ptr a off,some k=>match P.info? e with | some j=>(match Nat.blt k n with | true=>natK (off+k * j.size) fun q=>some (.ptr a q) | false=>none) | none=>none
 | _,_,_=>none
noncomputable def index (P:Program) (t:TypeId) (x i:AV) : Option AV :=
 match P.underlying t,asAggL x,natOf i with
 | some (.array n e),some cs,some k=>match P.info? e with | some j=>if k < n then partL P e cs (k * j.size) else none | none=>none
 | _,_,_=>none
noncomputable def nilKind:AV→Option (Nat×Bool)
 | .ptr _ _=>some (1,false)
 | .lit (.pointer none)=>some (1,true)
 | .sl _ _ _ _=>some (2,false)
 | .slq _ _ _ _=>some (2,false)
 | .es=>some (2,false)
 | .lit (.slice none _ _)=>some (2,true)
 | .map _=>some (3,false)
 | .lit (.map none)=>some (3,true)
 | .func _ _ _=>some (4,false)
 | .lit .nilFunc=>some (4,true)
 | .iface _ _=>some (5,false)
 | .lit .nilIface=>some (5,true)
 | _=>none
noncomputable def descKind:Option TypeDesc→Nat
 | some (.pointer _)=>1
 | some (.slice _)=>2
 | some (.map _ _)=>3
 | some (.func _ _ _)=>4
 | some (.interface _)=>5
 | _=>0
noncomputable def nilEq (d:Option TypeDesc) (a b:AV) : Bool :=
 match nilKind a,nilKind b with
 | some (k,true),some (l,false)=>Nat.beq k l && Nat.beq k (descKind d)
 | some (k,false),some (l,true)=>Nat.beq k l && Nat.beq k (descKind d)
 | _,_=>false
noncomputable def lenOf:AV→Option Nat
 | .sl _ _ n _ | .slq _ _ n _=>some n
 | .es=>some 0
 | .lit (.slice none n _)=>some n
 | .lit (.string s)=>some s.size
 | _=>none
noncomputable def firstL (H:Mem) (size n:Nat) : AV→Option (List AV)
 | .sl a off _ _ | .slq a off _ _=>match H.get a with | some (.cells l _ _)=>sliceK l (n * size) off none some | _=>none
 | .es=>if n=0 then some [] else none
 | .lit (.slice none _ _)=>some []
 | .lit (.string s)=>some ((s.extract 0 n).data.toList.map fun b=>.lit (.int .u8 b.toNat))
 | _=>none
noncomputable def small (need cap bytes:Nat) : Bool:=decide (need≤1048576) && decide (cap≤1048576) && decide (bytes≤1048576)
noncomputable def newSlq (H:Mem) (l:List AV) (n size:Nat) : Option (AV×Mem):=H.newK (.cells l true size) fun H'=>some (.slq H.next 0 n 0,H')
noncomputable def setCells (H:Mem) (a:Nat) (l:List AV) (z off:Nat) (new:List AV) (v:AV) : Option (AV×Mem) :=
 match allOne new with
 | true=>putCellsK none l off new fun l=>H.setK a (.cells l true z) fun H=>some (v,H)
 | false=>none
noncomputable def appNil (H:Mem) (size bytes n:Nat) (new:List AV) : Option (AV×Mem):=match small n 0 bytes with | true=>newSlq H new n size | false=>none
noncomputable def appSl (H:Mem) (size bytes n:Nat) (new:List AV) (a off k cap:Nat) : Option (AV×Mem) :=
 match Nat.ble (k+n) cap with
 | true=>match H.get a with
  | some (.cells l true z)=>setCells H a l z (off+k * size) new (.sl a off (k+n) cap)
  | _=>none
 | false=>match H.get a,small (k+n) cap bytes with
  | some (.cells l _ _),true=>sliceK l (k * size) off none fun old=>appK old new fun l=>newSlq H l (k+n) size
  | _,_=>none
noncomputable def appSlq (H:Mem) (size bytes n:Nat) (new:List AV) (a off k d:Nat) : Option (AV×Mem) :=
 match H.get a with
 | some (.cells l true z)=>match Nat.beq z size && Nat.beq off (d * size),Nat.ble (off+(k+n) * size) (len l),Nat.beq (off+k * size) (len l) && small (k+n) 0 bytes && allOne new with
  | true,true,_=>setCells H a l z (off+k * size) new (.slq a off (k+n) d)
  | true,false,true=>sliceK l (k * size) off none fun old=>appK old new fun l=>H.delK a fun H=>newSlq H l (k+n) size
  | _,_,_=>none
 | _=>none
noncomputable def appTo (H:Mem) (size bytes n:Nat) (s:AV) (new:List AV) : Option (AV×Mem) :=
 match Nat.beq (len new) (n * size) with
 | true=>match s with
  | .lit (.slice none 0 0)=>appNil H size bytes n new
  | .sl a off k cap=>appSl H size bytes n new a off k cap
  | .slq a off k d=>appSlq H size bytes n new a off k d
  | _=>none
 | false=>none
noncomputable def isSlice:AV→Bool
 | .sl _ _ _ _ | .slq _ _ _ _ | .lit (.slice none 0 0)=>true
 | _=>false
noncomputable def appendN (H:Mem) (size bytes:Nat) (s x:AV) : Option (AV×Mem) :=
 match lenOf x with
 | some 0=>match isSlice s with | true=>some (s,H) | false=>none
 | some n=>match Nat.beq size 0,firstL H size n x with
  | false,some new=>appTo H size bytes n s new
  | _,_=>none
 | none=>none
noncomputable def appended (P:Program) (xType:Option TypeId) : Bool :=
 match xType with
 | some t=>match P.underlying t with | some (.slice _) | some .string=>true | _=>false
 | none=>false
noncomputable def isIntT (P:Program) (xType:Option TypeId) : Bool :=
 match xType with
 | some t=>match P.underlying t with | some (.int _)=>true | _=>false
 | none=>false
noncomputable def appendZ (P:Program) (H:Mem) (e:TypeId) (size bytes:Nat) (s x:AV) : Option (AV×Mem) :=
 match natOf x with
 | some 0=>match isSlice s with | true=>some (s,H) | false=>none
 | some n=>match Nat.beq size 0,Nat.ble n 1048576 && Nat.ble bytes 1048576,zeroL P e with
  | false,true,some z=>appTo H size bytes n s (rep z n)
  | _,_,_=>none
 | none=>none
noncomputable def append (P:Program) (H:Mem) (sType:TypeId) (xType:Option TypeId) (s x:AV) : Option (AV×Mem) :=
 match elemOfSlice P sType,appended P xType with
 | some (_,size,bytes),true=>appendN H size bytes s x
 | some (e,size,bytes),false=>match isIntT P xType with | true=>appendZ P H e size bytes s x | false=>none
 | _,_=>none
noncomputable def copyTo (H:Mem) (d:AV) (m:Nat) (l:List AV) : Option (AV×Mem) :=
 match d with
 | .sl a off _ _ | .slq a off _ _=>match H.get a with
  | some (.cells c true z)=>setCells H a c z off l (.lit (goInt m))
  | _=>none
 | _=>none
noncomputable def copy (P:Program) (H:Mem) (dType:TypeId) (d s:AV) : Option (AV×Mem) :=
 match elemOfSlice P dType,lenOf s,lenOf d with
 | some (_,size,_),some n,some k =>
  match Nat.min n k with
  | 0=>match isSlice d with | true=>some (.lit (goInt 0),H) | false=>none
  | m=>match Nat.beq size 0,firstL H size m s with
   | false,some l=>copyTo H d m l
   | _,_=>none
 | _,_,_=>none
noncomputable def bytesOf:List AV→Option (List UInt8)
 | []=>some []
 | .lit (.int .u8 n) :: l=>match bytesOf l with | some r=>some (UInt8.ofNat n.toNat :: r) | none=>none
 | _ :: _=>none
noncomputable def convert (P:Program) (H:Mem) (src dst:TypeId) (x:AV) : Option (AV×Mem) :=
 match P.underlying src,P.underlying dst,x with
 | some .string,some (.slice e),.lit (.string s)=>match P.underlying e with
  | some (.int .u8)=>if s.size≤1048576 then newSlq H (s.data.toList.map fun b=>.lit (.int .u8 b.toNat)) s.size 1 else none
  | _=>none
 | some (.slice _),some .string,.lit (.string _)=>none
 | some (.slice e),some .string,x=>match P.underlying e with
  | some (.int .u8)=>match lenOf x with
   | some n=>match firstL H 1 n x with
    | some l=>match bytesOf l with | some b=>some (.lit (.string ⟨b.toArray⟩),H) | none=>none
    | none=>none
   | none=>none
  | _=>none
 | _,_,_=>none
noncomputable def findK (P:Program) (keyType:TypeId) (k:Value) (es:List (AV×AV×Nat)) : Option (Option Nat) :=
 match litAll (es.map (·.1)) with
 | some ks=>match pureV P (Instr.findKey keyType k (ks.map fun q=>⟨q,undef,0⟩)) with
  | some (some (i,_))=>some (some i)
  | some none=>some none
  | none=>none
 | none=>none
noncomputable def withOk (ok:Bool) (v:AV) (b:Bool) : AV:=match ok with | true=>.tup [v,.lit (.bool b)] | false=>v
noncomputable def zeroV (P:Program) (t:TypeId) : Option Value :=
 match P.info? t with
 | some i=>i.zero
 | none=>none
noncomputable def lookupIn (P:Program) (elem:TypeId) (es:List (AV×AV×Nat)) (ok:Bool) (i:Option Nat) : Option AV :=
 match i with
 | some i=>match nth es i with
  | some (_,v,_)=>some (withOk ok v true)
  | none=>none
 | none=>match zeroV P elem with
  | some z=>some (withOk ok (.lit z) false)
  | none=>none
noncomputable def lookup (P:Program) (H:Mem) (t:TypeId) (m k:AV) (ok:Bool) : Option AV :=
 match P.underlying t,m,toLit k with
 | some (.map key elem),.map a,some k=>match H.get a with
  | some (.map es _)=>match pureV P (Instr.checkKey es.isEmpty 10000 key k),findK P key k es with
   | some _,some i=>lookupIn P elem es ok i
   | _,_=>none
  | _=>none
 | _,_,_=>none
noncomputable def setNth (x:AV×AV) : List (AV×AV×Nat)→Nat→List (AV×AV×Nat)
 | [],_=>[]
 | (_,_,b) :: r,0=>(x.1,x.2,b) :: r
 | e :: r,i+1=>e :: setNth x r i
noncomputable def updIn (es:List (AV×AV×Nat)) (clock:Nat) (k:Value) (v:AV) (i:Option Nat) : Option Blk :=
 match i with
 | some i=>match nth es i with
  | some (.lit old,_,_)=>match Instr.sameBits 10000 old k with
   | true=>some (.map (setNth (.lit k,v) es i) clock)
   | false=>none
  | _=>none
 | none=>some (.map (es++[(.lit k,v,clock)]) (clock+1))
noncomputable def mapUpdate (P:Program) (H:Mem) (t:TypeId) (m k v:AV) : Option Mem :=
 match P.underlying t,m,toLit k with
 | some (.map key _),.map a,some k=>match H.get a with
  | some (.map es clock)=>match pureV P (Instr.checkKey false 10000 key k),findK P key k es with
   | some _,some i=>match updIn es clock k v i with
    | some b=>H.setK a b some
    | none=>none
   | _,_=>none
  | _=>none
 | _,_,_=>none
noncomputable def typeAssert (P:Program) (x:AV) (asserted:TypeId) (ok:Bool) : Option AV :=
 match P.underlying asserted,x with
 | some (.interface want),.iface t _=>match P.info? t with
  | some i=>match Instr.missingMethod want i.methods with
   | none=>some (if ok then .tup [x,.lit (.bool true)] else x)
   | some _=>if ok then (match P.info? asserted with | some j=>(match j.zero with | some z=>some (.tup [.lit z,.lit (.bool false)]) | none=>none) | none=>none) else none
  | none=>none
 | some _,.iface t v =>
  if t=asserted then some (if ok then .tup [v,.lit (.bool true)] else v)
  else if ok then (match P.info? asserted with | some j=>(match j.zero with | some z=>some (.tup [.lit z,.lit (.bool false)]) | none=>none) | none=>none) else none
 | _,_=>none
noncomputable def hasBody (P:Program) (f:FuncId) : Bool :=
 match P.funcs[f]? with
 | some fn=>fn.body.isSome && !(fn.name == "runtime.NumGoroutine")
 | none=>false
noncomputable def ifaceOf:AV→Option (TypeId×AV)
 | .iface t v=>some (t,v)
 | .lit (.iface t v)=>some (t,.lit v)
 | _=>none
noncomputable def isPtr (d:Option TypeDesc) : Option Bool:=match d with
 | some (.pointer _)=>some true
 | some _=>some false
 | none=>none
noncomputable def methodAt (d:Option Bool) (m:Method) : Option FuncId :=
 match m.path.isEmpty,m.func with
 | true,some (f,pr)=>match d,pr with
  | some true,true=>some f
  | some false,false=>some f
  | _,_=>none
 | _,_=>none
noncomputable def methodOf (P:Program) (t:TypeId) (name:String) : Option FuncId :=
 match P.info? t with
 | some i=>match i.methods.find? (·.name == name) with
  | some m=>methodAt (isPtr (P.underlying t)) m
  | none=>none
 | none=>none
noncomputable def enterF (P:Program) (H:Mem) (f:FuncId) (args:List AV) : R:=if hasBody P f then .enter f args H else .bad
noncomputable def oAppend (P:Program) (H:Mem) (c:Call) (args:List AV) : R :=
 match args,c.argTypes[0]? with
 | [s,x],some st=>match append P H st c.argTypes[1]? s x with | some (v,H)=>.val v H | none=>.bad
 | _,_=>.bad
noncomputable def oCopy (P:Program) (H:Mem) (c:Call) (args:List AV) : R :=
 match args,c.argTypes[0]? with
 | [d,s],some dt=>match copy P H dt d s with | some (v,H)=>.val v H | none=>.bad
 | _,_=>.bad
noncomputable def oLenN (P:Program) (H:Mem) (c:Call) (args:List AV) : R :=
 match args,(c.argTypes[0]?).bind P.underlying with
 | [.sl _ _ n _],some (.slice _)=>.val (.lit (goInt n)) H
 | [.slq _ _ n _],some (.slice _)=>.val (.lit (goInt n)) H
 | [.es],some (.slice _)=>.val (.lit (goInt 0)) H
 | [.map a],some (.map _ _)=>match H.get a with | some (.map es _)=>.val (.lit (goInt es.length)) H | _=>.bad
 | [.lit (.string s)],some .string=>.val (.lit (goInt s.size)) H
 | _,_=>.bad
noncomputable def oLen (P:Program) (H:Mem) (ev:Ev) (o:Oper) (c:Call) (args:List AV) : R :=
 match oLenN P H c args with
 | .bad=>ofOpt H (generic P ev o)
 | r=>r
noncomputable def oCap (P:Program) (H:Mem) (ev:Ev) (o:Oper) (c:Call) (args:List AV) : R :=
 match generic P ev o with
 | some v=>.val v H
 | none=>match args,(c.argTypes[0]?).bind P.underlying with
  | [.sl _ _ _ n],some (.slice _)=>.val (.lit (goInt n)) H
  | _,_=>.bad
noncomputable def oBuiltin (P:Program) (H:Mem) (ev:Ev) (o:Oper) (c:Call) (args:List AV) (b:Builtin) : R :=
 match b with
 | .append=>oAppend P H c args
 | .copy=>oCopy P H c args
 | .len=>oLen P H ev o c args
 | .cap=>oCap P H ev o c args
 | .recover=>.recover
 | _=>ofOpt H (generic P ev o)
noncomputable def oInvoke (P:Program) (H:Mem) (ev:Ev) (args:List AV) (recv:Operand) (name:String) : R :=
 match ev recv with
 | some r=>match ifaceOf r with
  | some (t,v)=>match methodOf P t name with
   | some f=>enterF P H f (v :: args)
   | none=>.bad
  | none=>.bad
 | none=>.bad
noncomputable def oValue (P:Program) (H:Mem) (args:List AV) (f:Option AV) : R :=
 match f with
 | some (.lit (.func (.func f) first cap))=>enterF P H f (first.toList.map .lit++args++cap.toList.map .lit)
 | some (.func (.func f) first cap)=>enterF P H f (first++args++cap)
 | _=>.bad
noncomputable def callOp (P:Program) (H:Mem) (ev:Ev) (o:Oper) (c:Call) : R :=
 match evals ev c.args.toList with
 | none=>.bad
 | some args=>match c.callee with
  | .builtin b=>oBuiltin P H ev o c args b
  | .invoke recv name=>oInvoke P H ev args recv name
  | .value f=>oValue P H args (ev f)
noncomputable def deferOp (H:Mem) (ev:Ev) (c:Call) : R :=
 match evals ev c.args.toList,c.callee with
 | some args,.value f=>match ev f with
  | some (.func fn first cap)=>.dfr fn cap (first++args) H
  | some (.lit (.func fn first cap))=>.dfr fn (cap.toList.map .lit) (first.toList.map .lit++args) H
  | _=>.bad
 | _,_=>.bad
noncomputable def inI64 (n:Int) : Bool:=match n with | .ofNat m=>Nat.ble m 9223372036854775807 | .negSucc m=>Nat.ble m 9223372036854775807
noncomputable def intV (k:IntKind) (n:Int) : Option AV:=match k with
 | .i64=>match inI64 n with | true=>some (.lit (.int .i64 n)) | false=>none
 | .u8=>match n with | .ofNat m=>(match Nat.ble m 255 with | true=>some (.lit (.int .u8 (.ofNat m))) | false=>none) | _=>none
 | _=>none
noncomputable def iEq:Int→Int→Bool
 | .ofNat a,.ofNat b=>Nat.beq a b
 | .negSucc a,.negSucc b=>Nat.beq a b
 | _,_=>false
noncomputable def iLt:Int→Int→Bool
 | .ofNat a,.ofNat b=>Nat.blt a b
 | .negSucc _,.ofNat _=>true
 | .ofNat _,.negSucc _=>false
 | .negSucc a,.negSucc b=>Nat.blt b a
noncomputable def kEq:IntKind→IntKind→Bool
 | .i64,.i64=>true
 | .u8,.u8=>true
 | _,_=>false
noncomputable def bv (b:Bool) : Option AV:=match b with | true=>some (.lit (.bool true)) | false=>some (.lit (.bool false))
noncomputable def fastBin (op:BinOp) (x y:AV) : Option AV :=
 match x,y with
 | .lit (.int k a),.lit (.int k' b)=>match kEq k k' with
  | true=>match op with
   | .add=>intK (Int.add a b) (intV k)
   | .sub=>intK (Int.sub a b) (intV k)
   | .mul=>intK (Int.mul a b) (intV k)
   | .eql=>bv (iEq a b)
   | .neq=>bv (!iEq a b)
   | .lss=>bv (iLt a b)
   | .leq=>bv (!iLt b a)
   | .gtr=>bv (iLt b a)
   | .geq=>bv (!iLt a b)
   | _=>none
  | false=>none
 | _,_=>none
noncomputable def orElse (a:Option AV) (b:Unit→Option AV) : Option AV:=match a with | some v=>some v | none=>b ()
noncomputable def oPick (H:Mem) (c a b:Option AV) : R :=
 match c with
 | some (.lit (.bool true))=>ofOpt H a
 | some (.lit (.bool false))=>ofOpt H b
 | _=>.bad
noncomputable def oAlloc (P:Program) (H:Mem) (t:TypeId) : R :=
 match zeroL P t with | some l=>newBlk H l true (.ptr H.next 0) | none=>.bad
noncomputable def oBox (H:Mem) (x:Option AV) : R :=
 match x with | some v=>newBlk H (cellsOf v) true (.ptr H.next 0) | none=>.bad
noncomputable def oBuild (P:Program) (H:Mem) (t:TypeId) (ps:Option (List (Nat×AV))) : R :=
 match ps with
 | some ps=>ofOpt H (build P t ps)
 | none=>.bad
noncomputable def zeroFor (P:Program) (e:TypeId) (n:Nat) : Option (List AV):=match Nat.beq n 0 with | true=>some [] | false=>zeroL P e
noncomputable def oBuildSlice (P:Program) (H:Mem) (t:TypeId) (len:Nat) (ps:Option (List (Nat×AV))) : R :=
 match elemOfSlice P t,ps with
 | some (e,size,_),some ps =>
  match Nat.ble (len * size) 1048576,zeroFor P e (len * size) with
  | true,some z=>match afill (fun i=>some (i * size,size)) (rep z len) ps with
   | some l=>newBlk H l true (.sl H.next 0 len len)
   | none=>.bad
  | _,_=>.bad
 | _,_=>.bad
noncomputable def oLoad (P:Program) (H:Mem) (t:TypeId) (a:Option AV) : R :=
 match a with | some p=>ofOpt H (load P H t p) | none=>.bad
noncomputable def oStore (P:Program) (H:Mem) (t:TypeId) (a x:Option AV) : R :=
 match a,x with
 | some p,some v=>match store P H t p v with | some H=>.skip H | none=>.bad
 | _,_=>.bad
noncomputable def oNilCheck (P:Program) (H:Mem) (ev:Ev) (o:Oper) (x:Option AV) : R :=
 match x with
 | some (.ptr a off)=>.val (.ptr a off) H
 | some (.func (.func f) x y)=>.val (.func (.func f) x y) H
 | some (.iface t v)=>.val (.iface t v) H
 | _=>ofOpt H (generic P ev o)
noncomputable def oNilEq (P:Program) (H:Mem) (op:BinOp) (t:TypeId) (x y:Option AV) : R :=
 match x,y with
 | some a,some b=>match op,nilEq (P.underlying t) a b with
  | .eql,true=>.val (.lit (.bool false)) H
  | .neq,true=>.val (.lit (.bool true)) H
  | _,_=>.bad
 | _,_=>.bad
noncomputable def fast2 (op:BinOp) (x y:Option AV) : Option AV :=
 match x,y with
 | some a,some b=>fastBin op a b
 | _,_=>none
noncomputable def oBin (P:Program) (H:Mem) (ev:Ev) (o:Oper) (op:BinOp) (t:TypeId) (x y:Option AV) : R :=
 match fast2 op x y with
 | some v=>.val v H
 | none=>match generic P ev o with
  | some v=>.val v H
  | none=>oNilEq P H op t x y
noncomputable def oConvert (P:Program) (H:Mem) (ev:Ev) (o:Oper) (src dst:TypeId) (x:Option AV) : R :=
 match generic P ev o with
 | some v=>.val v H
 | none=>match x with
  | some v=>match convert P H src dst v with | some (v,H)=>.val v H | none=>.bad
  | none=>.bad
noncomputable def oMakeInterface (P:Program) (H:Mem) (t:TypeId) (x:Option AV) : R :=
 match P.underlying t,x with
 | some (.interface _),_=>.bad
 | some _,some v=>.val (.iface t v) H
 | _,_=>.bad
noncomputable def oMakeFunc (H:Mem) (fn:Fn) (a b:Option (List AV)) : R :=
 match a,b with
 | some a,some b=>.val (.func fn a b) H
 | _,_=>.bad
noncomputable def oMakeMap (P:Program) (H:Mem) (ev:Ev) (t:TypeId) (r:Option Operand) : R :=
 match r with
 | none=>H.newK (.map [] 0) (fun H2=>.val (.map H.next) H2)
 | some x=>match P.underlying t,ev x with
  | some (.map _ _),some (.lit (.int _ _))=>H.newK (.map [] 0) (fun H2=>.val (.map H.next) H2)
  | _,_=>.bad
noncomputable def oMakeSlice (P:Program) (H:Mem) (t:TypeId) (l c:Option AV) : R :=
 match elemOfSlice P t,l.bind natOf,c.bind natOf with
 | some (e,size,bytes),some l,some c =>
  match Nat.ble l c && Nat.ble c 1048576 && Nat.ble bytes 1048576,zeroFor P e (c * size) with
  | true,some z=>newBlk H (rep z c) true (.sl H.next 0 l c)
  | _,_=>.bad
 | _,_,_=>.bad
noncomputable def evOpt (ev:Ev) (y:Option Operand) : Option (Option AV) :=
 match y with | none=>some none | some y=>match ev y with | some v=>some (some v) | none=>none
noncomputable def oSliceN (P:Program) (H:Mem) (ev:Ev) (t:TypeId) (x:Option AV) (lo hi mx:Option Operand) : R :=
 match x with
 | some v=>match evOpt ev lo,evOpt ev hi,evOpt ev mx with
  | some lo,some hi,some mx=>ofOpt H (sliceOp P t v lo hi mx)
  | _,_,_=>.bad
 | none=>.bad
noncomputable def oSlice (P:Program) (H:Mem) (ev:Ev) (o:Oper) (t:TypeId) (x:Option AV) (lo hi mx:Option Operand) : R :=
 match generic P ev o with
 | some v=>.val v H
 | none=>oSliceN P H ev t x lo hi mx
noncomputable def orGen (P:Program) (H:Mem) (ev:Ev) (o:Oper) (r:Option AV) : R :=
 match r with
 | some v=>.val v H
 | none=>ofOpt H (generic P ev o)
noncomputable def oFieldAddr (P:Program) (H:Mem) (ev:Ev) (o:Oper) (s:TypeId) (x:Option AV) (f:Nat) : R :=
 match x with | some v=>orGen P H ev o (fieldAddr P s v f) | none=>.bad
noncomputable def oField (P:Program) (H:Mem) (t:TypeId) (x:Option AV) (f:Nat) : R :=
 match x with | some v=>ofOpt H (field P t v f) | none=>.bad
noncomputable def oIndexAddr (P:Program) (H:Mem) (ev:Ev) (o:Oper) (t:TypeId) (x i:Option AV) : R :=
 match x,i with | some v,some k=>orGen P H ev o (indexAddr P t v k) | _,_=>.bad
noncomputable def oIndex (P:Program) (H:Mem) (ev:Ev) (o:Oper) (t:TypeId) (x i:Option AV) : R :=
 match x,i with
 | some v,some k=>match index P t v k with
  | some v=>.val v H
  | none=>ofOpt H (generic P ev o)
 | _,_=>.bad
noncomputable def oLookup (P:Program) (H:Mem) (ev:Ev) (o:Oper) (t:TypeId) (m k:Option AV) (ok:Bool) : R :=
 match m,k with
 | some m,some k=>ofOpt H (orElse (generic P ev o) fun _=>lookup P H t m k ok)
 | _,_=>.bad
noncomputable def oMapUpdate (P:Program) (H:Mem) (t:TypeId) (m k x:Option AV) : R :=
 match m,k,x with
 | some m,some k,some v=>match mapUpdate P H t m k v with | some H=>.skip H | none=>.bad
 | _,_,_=>.bad
noncomputable def oRange (P:Program) (H:Mem) (t:TypeId) (x:Option AV) : R :=
 match P.underlying t,x with
 | some .string,some (.lit (.string s))=>H.newK (.siter s 0) (fun H2=>.val (.ptr H.next 0) H2)
 | _,_=>.bad
noncomputable def oNextS (H:Mem) (a:Nat) (s:ByteArray) (pos:Nat) (q:Nat×Nat) : R :=
 H.setK a (.siter s (pos+q.2)) (fun H=>.val (.tup [.lit (.bool true),.lit (goInt pos),.lit (.int .i32 q.1)]) H)
noncomputable def oNext (H:Mem) (it:Option AV) : R :=
 match it with
 | some (.ptr a 0)=>match H.get a with
  | some (.siter s pos) =>
   match Nat.blt pos s.size with
   | true=>oNextS H a s pos (Utf8.decode s pos)
   | false=>.val (.tup [.lit (.bool false)]) H
  | _=>.bad
 | _=>.bad
noncomputable def oTypeAssert (P:Program) (H:Mem) (ev:Ev) (o:Oper) (x:Option AV) (asserted:TypeId) (ok:Bool) : R :=
 match generic P ev o with
 | some v=>.val v H
 | none=>match x with | some v=>ofOpt H (typeAssert P v asserted ok) | none=>.bad
noncomputable def oExtract (H:Mem) (t:Option AV) (i:Nat) : R :=
 match t with
 | some (.tup l)=>ofOpt H l[i]?
 | some (.lit (.tuple vs))=>match vs[i]? with | some v=>.val (.lit v) H | none=>.bad
 | _=>.bad
noncomputable def oPanic (H:Mem) (x:Option AV) : R :=
 match x with
 | some (.iface t v)=>.panic (.iface t v) H
 | some (.lit (.iface t v))=>.panic (.lit (.iface t v)) H
 | _=>.bad
noncomputable def oMove (H:Mem) (x:Option AV) : R :=
 match x with | some v=>.val v H | none=>.bad
abbrev Hd:=Program→Mem→Ev→Oper→R
noncomputable def hMove (x:Operand) : Hd:=fun _ H ev _=>oMove H (ev x)
noncomputable def hPick (c a b:Operand) : Hd:=fun _ H ev _=>oPick H (ev c) (ev a) (ev b)
noncomputable def hAlloc (t:TypeId) : Hd:=fun P H _ _=>oAlloc P H t
noncomputable def hBox (_:TypeId) (x:Operand) : Hd:=fun _ H ev _=>oBox H (ev x)
noncomputable def hBuild (t:TypeId) (parts:Array (Nat×Operand)) : Hd:=fun P H ev _=>oBuild P H t (evalParts ev parts.toList)
noncomputable def hBuildSlice (t:TypeId) (len:Nat) (parts:Array (Nat×Operand)) : Hd:=fun P H ev _=>oBuildSlice P H t len (evalParts ev parts.toList)
noncomputable def hInsert (t:TypeId) (m k x:Operand) : Hd:=fun P H ev _=>oMapUpdate P H t (ev m) (ev k) (ev x)
noncomputable def hLoad (t:TypeId) (a:Operand) : Hd:=fun P H ev _=>oLoad P H t (ev a)
noncomputable def hStore (t:TypeId) (a x:Operand) : Hd:=fun P H ev _=>oStore P H t (ev a) (ev x)
noncomputable def hN (_:Nat) : Hd:=fun _ _ _ _=>.bad
noncomputable def hNilCheck (x:Operand) : Hd:=fun P H ev o=>oNilCheck P H ev o (ev x)
noncomputable def hBin (op:BinOp) (t:TypeId) (x y:Operand) (_:TypeId) : Hd:=fun P H ev o=>oBin P H ev o op t (ev x) (ev y)
noncomputable def hUn (_:UnOp) (_:TypeId) (_:Operand) : Hd:=fun P H ev o=>ofOpt H (generic P ev o)
noncomputable def hConvert (src dst:TypeId) (x:Operand) : Hd:=fun P H ev o=>oConvert P H ev o src dst (ev x)
noncomputable def hTX (_:TypeId) (_:Operand) : Hd:=fun _ _ _ _=>.bad
noncomputable def hMakeInterface (t:TypeId) (x:Operand) : Hd:=fun P H ev _=>oMakeInterface P H t (ev x)
noncomputable def hMakeFunc (fn:Fn) (first captured:Array Operand) : Hd:=fun _ H ev _=>oMakeFunc H fn (evals ev first.toList) (evals ev captured.toList)
noncomputable def hMakeMap (t:TypeId) (r:Option Operand) : Hd:=fun P H ev _=>oMakeMap P H ev t r
noncomputable def hMakeSlice (t:TypeId) (l c:Operand) : Hd:=fun P H ev _=>oMakeSlice P H t (ev l) (ev c)
noncomputable def hSlice (t:TypeId) (x:Operand) (lo hi mx:Option Operand) : Hd:=fun P H ev o=>oSlice P H ev o t (ev x) lo hi mx
noncomputable def hFieldAddr (s:TypeId) (x:Operand) (f:Nat) : Hd:=fun P H ev o=>oFieldAddr P H ev o s (ev x) f
noncomputable def hField (t:TypeId) (x:Operand) (f:Nat) : Hd:=fun P H ev _=>oField P H t (ev x) f
noncomputable def hIndexAddr (t:TypeId) (x i:Operand) : Hd:=fun P H ev o=>oIndexAddr P H ev o t (ev x) (ev i)
noncomputable def hIndex (t:TypeId) (x i:Operand) : Hd:=fun P H ev o=>oIndex P H ev o t (ev x) (ev i)
noncomputable def hLookup (t:TypeId) (m k:Operand) (ok:Bool) : Hd:=fun P H ev o=>oLookup P H ev o t (ev m) (ev k) ok
noncomputable def hTXX (_:TypeId) (_ _:Operand) : Hd:=fun _ _ _ _=>.bad
noncomputable def hTXXX (_:TypeId) (_ _ _:Operand) : Hd:=fun _ _ _ _=>.bad
noncomputable def hRange (t:TypeId) (x:Operand) : Hd:=fun P H ev _=>oRange P H t (ev x)
noncomputable def hNext (it:Operand) (b:Bool) : Hd:=fun _ H ev _=>match b with | true=>oNext H (ev it) | false=>.bad
noncomputable def hX (_:Operand) : Hd:=fun _ _ _ _=>.bad
noncomputable def hXX (_ _:Operand) : Hd:=fun _ _ _ _=>.bad
noncomputable def hTypeAssert (x:Operand) (_ asserted:TypeId) (ok:Bool) : Hd:=fun P H ev o=>oTypeAssert P H ev o (ev x) asserted ok
noncomputable def hExtract (t:Operand) (i:Nat) : Hd:=fun _ H ev _=>oExtract H (ev t) i
noncomputable def hCall (c:Call) : Hd:=fun P H ev o=>callOp P H ev o c
noncomputable def hC (_:Call) : Hd:=fun _ _ _ _=>.bad
noncomputable def hDefer (c:Call) : Hd:=fun _ H ev _=>deferOp H ev c
noncomputable def hPanic (x:Operand) : Hd:=fun _ H ev _=>oPanic H (ev x)
noncomputable def hRecv (_:TypeId) (_:Operand) (_:Bool) : Hd:=fun _ _ _ _=>.bad
noncomputable def hSelect (_:Array SelectCase) (_:Bool) : Hd:=fun _ _ _ _=>.bad
noncomputable def handler:Op→Hd:=Op.rec (motive:=fun _=>Hd)
 hMove hMove hPick hAlloc hBox hBuild hBuildSlice hInsert hLoad hStore hN hN hNilCheck hBin hUn hConvert hTX hMakeInterface hMakeFunc hMakeMap hTX hMakeSlice hSlice hFieldAddr hField hIndexAddr hIndex hLookup hInsert hTXX hTXXX hRange hNext hX hTypeAssert hExtract hCall hC hDefer hPanic hXX hRecv hSelect
noncomputable def opV (P:Program) (H:Mem) (ev:Ev) (o:Oper) : R:=handler o.op P H ev o
def freeOp:Op→Bool
 | .move _ | .assign _ | .pick _ _ _ | .build _ _ | .nilCheck _ | .binOp _ _ _ _ _ | .unOp _ _ _ | .makeInterface _ _ | .makeFunc _ _ _
 | .slice _ _ _ _ _ | .fieldAddr _ _ _ | .field _ _ _ | .indexAddr _ _ _ | .index _ _ _ | .typeAssert _ _ _ _ | .extract _ _=>true
 | _=>false
def eqV:Nat→Value→Value→Bool
 | _,.bool a,.bool b=>a == b
 | _,.int j a,.int k b=>decide (j=k) && decide (a=b)
 | _,.string a,.string b=>decide (a=b)
 | _,.pointer a,.pointer b=>decide (a=b)
 | _,.slice a n c,.slice b m d=>decide (a=b) && decide (n=m) && decide (c=d)
 | _,.map a,.map b=>decide (a=b)
 | _,.nilFunc,.nilFunc=>true
 | _,.nilIface,.nilIface=>true
 | n+1,.iface t v,.iface u x=>decide (t=u) && eqV n v x
 | _,.func f ⟨[]⟩ ⟨[]⟩,.func g ⟨[]⟩ ⟨[]⟩=>decide (f=g)
 | _,_,_=>false
def bitsOf (acc:List Nat) (o:Oper) : Nat :=
 o.after.toList.foldl (fun s e=>match Region.binds .any e with | true=>s ||| 2 ^ e.on ||| acc.getD e.on 0 | false=>s) 0
def ancs:List Nat→List Oper→List Nat
 | acc,[]=>acc
 | acc,o :: l=>ancs (acc++[bitsOf acc o]) l
def isAnc (tab:List Nat) (i j:Nat) : Bool:=(tab.getD i 0).testBit j
mutual
def eqAV:AV→AV→Bool
 | .lit a,.lit b=>eqV 4 a b
 | .ptr a i,.ptr b j=>decide (a=b) && decide (i=j)
 | .sl a i n c,.sl b j m d=>decide (a=b) && decide (i=j) && decide (n=m) && decide (c=d)
 | .slq a i n c,.slq b j m d=>decide (a=b) && decide (i=j) && decide (n=m) && decide (c=d)
 | .es,.es=>true
 | .map a,.map b=>decide (a=b)
 | .func f x y,.func g u v=>decide (f=g) && eqAVs x u && eqAVs y v
 | .iface t x,.iface u y=>decide (t=u) && eqAV x y
 | .agg l,.agg m=>eqAVs l m
 | .tup l,.tup m=>eqAVs l m
 | _,_=>false
def eqAVs:List AV→List AV→Bool
 | [],[]=>true
 | x :: l,y :: m=>eqAV x y && eqAVs l m
 | _,_=>false
end
inductive Cls where
 | free | read | gen | alloc | chain | no
def cls (op:Op) : Cls :=
 match freeOp op with
 | true=>.free
 | false=>match op with
  | .load _ _ | .lookup _ _ _ _=>.read
  | .convert _ _ _=>.gen
  | .alloc _ | .box _ _ | .buildSlice _ _ _ | .makeSlice _ _ _ | .makeMap _ _=>.alloc
  | .store _ _ _ | .mapUpdate _ _ _ _ | .insert _ _ _ _=>.chain
  | .call c=>match c.callee with
   | .builtin .append | .builtin .copy=>.chain
   | .builtin .len | .builtin .cap=>.read
   | .builtin .recover=>.no
   | .builtin _=>.gen
   | _=>.chain
  | _=>.no
def isChain (op:Op) : Bool:=match cls op with | .chain=>true | _=>false
def writer (t:Nat) : List Oper→Nat→Option Nat
 | [],_=>none
 | o :: l,i=>match (match o.dst with | some d=>Nat.beq d t | none=>false) with
  | true=>some i
  | false=>writer t l (i+1)
def chainOf:List Oper→Nat→List Nat
 | [],_=>[]
 | o :: l,i=>match isChain o.op with | true=>i :: chainOf l (i+1) | false=>chainOf l (i+1)
def ordered (tab:List Nat) : List Nat→Bool
 | i :: j :: l=>isAnc tab j i && ordered tab (j :: l)
 | _=>true
def countAnc (tab:List Nat) (i:Nat) : List Nat→Nat
 | []=>0
 | c :: cs=>match isAnc tab i c with | true=>countAnc tab i cs+1 | false=>countAnc tab i cs
def stageOf (tab:List Nat) (cs:List Nat) (k:Nat) : List Oper→Nat→List Nat
 | [],_=>[]
 | o :: l,i=>match !isChain o.op && Nat.beq (countAnc tab i cs) k with
  | true=>i :: stageOf tab cs k l (i+1)
  | false=>stageOf tab cs k l (i+1)
def fitOne (ops:List Oper) (o:Oper) (i:Nat) : Bool :=
 (match o.dst with | some d=>(match writer d ops 0 with | some j=>Nat.beq i j | none=>false) | none=>true) &&
 (match cls o.op with | .no=>false | _=>true) &&
 o.after.toList.all (fun e=>match Region.binds .any e with | true=>Nat.blt e.on i | false=>true) &&
 (match o.guard with | some g=>(match ops[g.1]? with | some p=>p.dst.isSome | none=>false) | none=>true)
def fit (ops:List Oper) : List Oper→Nat→Bool
 | [],_=>true
 | o :: l,i=>fitOne ops o i && fit ops l (i+1)
def planOk (ops:List Oper) : Bool:=Nat.ble ops.length 256 && ordered (ancs [] ops) (chainOf ops 0) && fit ops ops 0
abbrev Dfr:=Fn×List AV×List AV
inductive Fr where
 | s (t:T2 AV) (ds:List Dfr)
 | g (t:T3 AV) (ds:List Dfr)
 | f (g:Nat→Option AV) (ds:List Dfr)
def fput (g:Nat→Option AV) (d:Nat) (v:AV) : Nat→Option AV:=fun t=>if t=d then some v else g t
noncomputable def fgS (t:T2 AV) (_:List Dfr) (k:Nat) : Option AV:=get2 t k
noncomputable def fgG (t:T3 AV) (_:List Dfr) (k:Nat) : Option AV:=get3 t k
noncomputable def fpS {β:Type} (t:T2 AV) (ds:List Dfr) (d:Tmp) (v:AV) (K:Fr→β) : β:=put2 t d (.v d v) fun t=>K (.s t ds)
noncomputable def fpG {β:Type} (t:T3 AV) (ds:List Dfr) (d:Tmp) (v:AV) (K:Fr→β) : β:=put3 t d (.v d v) fun t=>K (.g t ds)
noncomputable def fgF (g:Nat→Option AV) (_:List Dfr) (k:Nat) : Option AV:=g k
noncomputable def fpF {β:Type} (g:Nat→Option AV) (ds:List Dfr) (d:Tmp) (v:AV) (K:Fr→β) : β:=K (.f (fput g d v) ds)
noncomputable def Fr.get (fr:Fr) (t:Nat) : Option AV:=Fr.rec (motive:=fun _=>Nat→Option AV) fgS fgG fgF fr t
noncomputable def Fr.set {β:Type} (fr:Fr) (d:Tmp) (v:AV) (K:Fr→β) : β:=Fr.rec (motive:=fun _=>Tmp→AV→(Fr→β)→β) fpS fpG fpF fr d v K
noncomputable def Fr.defer (fr:Fr) (x:Dfr) : Fr:=Fr.rec (motive:=fun _=>Fr) (fun t ds=>.s t (x :: ds)) (fun t ds=>.g t (x :: ds)) (fun t ds=>.f t (x :: ds)) fr
noncomputable def Fr.defers (fr:Fr) : List Dfr:=Fr.rec (motive:=fun _=>List Dfr) (fun _ ds=>ds) (fun _ ds=>ds) (fun _ ds=>ds) fr
noncomputable def evT (t:Tmp) (fr:Fr) : Option AV:=fr.get t
noncomputable def evC (v:Value) (_:Fr) : Option AV:=some (.lit v)
noncomputable def evG (g:Nat) (_:Fr) : Option AV:=some (.lit (.pointer (some ⟨g,0,none⟩)))
noncomputable def evF (f:FuncId) (_:Fr) : Option AV:=some (.lit (.func (.func f) #[] #[]))
noncomputable def Fr.ev (fr:Fr) (x:Operand) : Option AV:=Operand.rec (motive:=fun _=>Fr→Option AV) evT evC evG evF x fr
noncomputable def putN {β:Type} (fr:Fr) (_:AV) (K:Fr→β) : β:=K fr
noncomputable def putS {β:Type} (d:Tmp) (fr:Fr) (v:AV) (K:Fr→β) : β:=fr.set d v K
noncomputable def Fr.putK {β:Type} (fr:Fr) (d:Option Tmp) (v:AV) (K:Fr→β) : β :=
 Option.rec (motive:=fun _=>Fr→AV→(Fr→β)→β) putN putS d fr v K
inductive Out where
 | norm (fr:Fr) (H:Mem)
 | exit (id:Nat) (fr:Fr) (H:Mem)
 | ret (fr:Fr) (H:Mem)
 | panic (v:AV) (fr:Fr) (H:Mem)
 | bad
inductive COut where
 | ret (v:AV) (H:Mem)
 | panic (v:AV) (H:Mem)
 | bad
noncomputable def yieldedA (ops:Array Oper) (fr:Fr) (j:Nat) : Option Bool :=
 match ops[j]? with
 | some o=>match o.dst with
  | some d=>match fr.get d with
   | some (.lit (.bool b))=>some b
   | _=>none
  | none=>none
 | none=>none
noncomputable def wantedG (ops:Array Oper) (fr:Fr) (g:Nat×Bool) : Option Bool :=
 match yieldedA ops fr g.1 with
 | some b=>match b,g.2 with
  | true,true=>some true
  | false,false=>some true
  | _,_=>some false
 | none=>match ops[g.1]? with
  | some p=>match p.dst with
   | some d=>match fr.get d with
    | some (.lit (.tuple _))=>some false
    | _=>none
   | none=>none
  | none=>none
abbrev CallF:=FuncId→List AV→Mem→COut
abbrev LoopF:=Code→Fr→Mem→Out
abbrev AfterF:=CallF→Oper→Fr→(Fr→Mem→Out)→Out
noncomputable def aVal (v:AV) (H:Mem) : AfterF:=fun _ o fr k=>fr.putK o.dst v fun fr=>k fr H
noncomputable def aSkip (H:Mem) : AfterF:=fun _ o fr k=>fr.putK o.dst (.lit undef) fun fr=>k fr H
noncomputable def aEnter (f:FuncId) (args:List AV) (H:Mem) : AfterF:=fun callf o fr k =>
 match callf f args H with
 | .ret v H=>fr.putK o.dst v fun fr=>k fr H
 | .panic v H=>.panic v fr H
 | .bad=>.bad
noncomputable def aDfr (fn:Fn) (cap args:List AV) (H:Mem) : AfterF:=fun _ o fr k=>Fr.putK (fr.defer (fn,cap,args)) o.dst (.lit undef) fun fr=>k fr H
noncomputable def aBad:AfterF:=fun _ _ _ _=>.bad
noncomputable def aPanic (v:AV) (H:Mem) : AfterF:=fun _ _ fr _=>.panic v fr H
noncomputable def after (callf:CallF) (o:Oper) (fr:Fr) (k:Fr→Mem→Out) (r:R) : Out :=
 R.rec (motive:=fun _=>AfterF) aVal aSkip aEnter aDfr aBad aPanic aBad r callf o fr k
noncomputable def guarded (P:Program) (callf:CallF) (ops:Array Oper) (o:Oper) (fr:Fr) (H:Mem) (k:Fr→Mem→Out) (g:Nat×Bool) : Out :=
 match wantedG ops fr g with
 | some true=>after callf o fr k (opV P H fr.ev o)
 | some false=>fr.putK o.dst (.lit undef) fun fr=>k fr H
 | none=>.bad
abbrev OneF:=Program→CallF→Array Oper→Oper→Fr→Mem→(Fr→Mem→Out)→Out
noncomputable def oneN:OneF:=fun P callf _ o fr H k=>after callf o fr k (opV P H fr.ev o)
noncomputable def oneG (g:Nat×Bool) : OneF:=fun P callf ops o fr H k=>guarded P callf ops o fr H k g
noncomputable def oneOp (P:Program) (callf:CallF) (ops:Array Oper) (o:Oper) (fr:Fr) (H:Mem) (k:Fr→Mem→Out) : Out :=
 Option.rec (motive:=fun _=>OneF) oneN oneG o.guard P callf ops o fr H k
abbrev SeqF:=Program→CallF→Array Oper→Fr→Mem→Out
noncomputable def seqN:SeqF:=fun _ _ _ fr H=>.norm fr H
noncomputable def seqC (o:Oper) (_:List Oper) (ih:SeqF) : SeqF:=fun P callf ops fr H=>oneOp P callf ops o fr H (ih P callf ops)
noncomputable def seqOps (P:Program) (callf:CallF) (ops:Array Oper) (l:List Oper) (fr:Fr) (H:Mem) : Out :=
 List.rec (motive:=fun _=>SeqF) seqN seqC l P callf ops fr H
noncomputable def thenO (r:Out) (k:Fr→Mem→Out) : Out:=match r with
 | .norm fr H=>k fr H
 | r=>r
noncomputable def condO (c:Option AV) (a b:Fr→Mem→Out) (fr:Fr) (H:Mem) : Out:=match c with
 | some (.lit (.bool true))=>a fr H
 | some (.lit (.bool false))=>b fr H
 | _=>.bad
noncomputable def blockO (id:Nat) (r:Out) : Out:=match r with
 | .exit id' fr H=>(match Nat.beq id' id with | true=>.norm fr H | false=>.exit id' fr H)
 | r=>r
abbrev XF:=Program→CallF→LoopF→Fr→Mem→Out
noncomputable def xSkip:XF:=fun _ _ _ fr H=>.norm fr H
noncomputable def envT (ops:Array Oper) (tab:List Nat) (fr:Fr) (res:T2 AV) (i t:Nat) : Option AV :=
 match writer t ops.toList 0 with
 | none=>fr.get t
 | some j=>match isAnc tab i j with
  | true=>get2 res j
  | false=>match isAnc tab j i || Nat.beq i j with
   | true=>fr.get t
   | false=>none
noncomputable def env (ops:Array Oper) (tab:List Nat) (fr:Fr) (res:T2 AV) (i:Nat) : Ev:=fun x=>match x with
 | .tmp t=>envT ops tab fr res i t
 | .const v=>some (.lit v)
 | .global g=>some (.lit (.pointer (some ⟨g,0,none⟩)))
 | .func f=>some (.lit (.func (.func f) #[] #[]))
noncomputable def wantedR (tab:List Nat) (res:T2 AV) (i:Nat) (g:Nat×Bool) : Option Bool :=
 match isAnc tab i g.1,get2 res g.1 with
 | true,some (.lit (.bool b))=>(match b,g.2 with | true,true=>some true | false,false=>some true | _,_=>some false)
 | true,some (.lit (.tuple _))=>some false
 | _,_=>none
noncomputable def wantedD (tab:List Nat) (res:T2 AV) (i:Nat) (o:Oper) : Option Bool:=match o.guard with | none=>some true | some g=>wantedR tab res i g
noncomputable def quiet (P:Program) (H:Mem) (ev:Ev) (o:Oper) : Option AV :=
 match cls o.op with
 | .gen=>generic P ev o
 | _=>match opV P H ev o with | .val v _=>some v | _=>none
abbrev Als:=List (Nat×Nat×Blk)
noncomputable def emptyAt (t:T2 AV) (k:Nat) : Bool:=Lf.rec (motive:=fun _=>Bool) true (fun _ _=>false) (gN (d1 k) (gN (d0 k) t))
noncomputable def setRes (res:T2 AV) (i:Nat) (v:AV) (K:T2 AV→Out) : Out:=match emptyAt res i with | true=>put2 res i (.v i v) K | false=>.bad
abbrev StF:=T2 AV→Mem→List Nat→Als→Out
noncomputable def stepQ (P:Program) (ops:Array Oper) (tab:List Nat) (fr:Fr) (i:Nat) (res:T2 AV) (H:Mem) (held:List Nat) (als:Als) (K:StF) : Out :=
 match ops[i]? with
 | none=>.bad
 | some o=>match wantedD tab res i o with
  | some false=>setRes res i (.lit undef) fun res=>K res H held als
  | some true=>match cls o.op with
   | .alloc=>match opV P H (env ops tab fr res i) o with
    | .val v H'=>match H'.get H.next with
     | some b=>setRes res i v fun res=>K res H' held ((i,H.next,b) :: als)
     | none=>.bad
    | _=>.bad
   | .read=>match quiet P H (env ops tab fr res i) o with
    | some v=>setRes res i v fun res=>K res H (i :: held) als
    | none=>.bad
   | _=>match quiet P H (env ops tab fr res i) o with
    | some v=>setRes res i v fun res=>K res H held als
    | none=>.bad
  | none=>.bad
noncomputable def stage (P:Program) (ops:Array Oper) (tab:List Nat) (fr:Fr) : List Nat→T2 AV→Mem→List Nat→Als→StF→Out
 | [],res,H,held,als,K=>K res H held als
 | i :: l,res,H,held,als,K=>stepQ P ops tab fr i res H held als fun res H held als=>stage P ops tab fr l res H held als K
noncomputable def eqBlk:Blk→Blk→Bool
 | .cells l own z,.cells m own' z'=>eqAVs l m && (own == own') && Nat.beq z z'
 | .map [] c,.map [] c'=>Nat.beq c c'
 | _,_=>false
noncomputable def recheck (P:Program) (ops:Array Oper) (tab:List Nat) (fr:Fr) (res:T2 AV) (H:Mem) : List Nat→Bool
 | []=>true
 | i :: l=>match ops[i]?,get2 res i with
  | some o,some v=>match quiet P H (env ops tab fr res i) o with
   | some v'=>match eqAV v' v with | true=>recheck P ops tab fr res H l | false=>false
   | none=>false
  | _,_=>false
noncomputable def stays (H:Mem) : Als→Bool
 | []=>true
 | (_,a,b) :: l=>match H.get a with
  | some b'=>match eqBlk b' b with | true=>stays H l | false=>false
  | none=>false
noncomputable def still (tab:List Nat) (c:Nat) : List Nat→List Nat
 | []=>[]
 | i :: l=>match isAnc tab c i with | true=>still tab c l | false=>i :: still tab c l
noncomputable def stillA (tab:List Nat) (c:Nat) : Als→Als
 | []=>[]
 | x :: l=>match isAnc tab c x.1 with | true=>stillA tab c l | false=>x :: stillA tab c l
noncomputable def Fr.clear (fr:Fr) : Fr:=Fr.rec (motive:=fun _=>Fr) (fun _ ds=>.s e2 ds) (fun _ ds=>.s e2 ds) (fun _ ds=>.s e2 ds) fr
noncomputable def fin (res:T2 AV) (H:Mem) : List Oper→Nat→Fr→Out
 | [],_,fr=>.norm fr H
 | o :: l,i,fr=>match get2 res i with
  | some v=>fr.putK o.dst v fun fr=>fin res H l (i+1) fr
  | none=>.bad
noncomputable def act (P:Program) (callf:CallF) (ops:Array Oper) (tab:List Nat) (fr:Fr) (c:Nat) (res:T2 AV) (H:Mem) (K:T2 AV→Mem→Out) : Out :=
 match ops[c]? with
 | none=>.bad
 | some o=>match wantedD tab res c o with
  | some false=>setRes res c (.lit undef) fun res=>K res H
  | some true=>match opV P H (env ops tab fr res c) o with
   | .val v H'=>setRes res c v fun res=>K res H'
   | .skip H'=>setRes res c (.lit undef) fun res=>K res H'
   | .enter f args H'=>match callf f args H' with
    | .ret v H''=>setRes res c v fun res=>K res H''
    | .panic v H''=>.panic v fr.clear H''
    | .bad=>.bad
   | _=>.bad
  | none=>.bad
noncomputable def stages (P:Program) (callf:CallF) (ops:Array Oper) (tab:List Nat) (fr:Fr) (all:List Nat) : Nat→List Nat→T2 AV→Mem→List Nat→Als→Out
 | k,cs,res,H,held,als=>match cs with
  | []=>stage P ops tab fr (stageOf tab all k ops.toList 0) res H held als fun res H held als =>
   match recheck P ops tab fr res H held && stays H als with
   | true=>fin res H ops.toList 0 fr
   | false=>.bad
  | c :: cs=>stage P ops tab fr (stageOf tab all k ops.toList 0) res H held als fun res H held als =>
   match recheck P ops tab fr res H held && stays H als with
   | true=>act P callf ops tab fr c res H fun res H=>stages P callf ops tab fr all (k+1) cs res H (still tab c held) (stillA tab c als)
   | false=>.bad
noncomputable def drawn (P:Program) (callf:CallF) (ops:Array Oper) (fr:Fr) (H:Mem) : Out :=
 match planOk ops.toList && Tables.follows P.toTables .mixedOrders with
 | true=>stages P callf ops (ancs [] ops.toList) fr (chainOf ops.toList 0) 0 (chainOf ops.toList 0) e2 H [] []
 | false=>.bad
noncomputable def xRegion (_:Nat) (ops:Array Oper) (draw:Bool) : XF:=fun P callf _ fr H=>match draw with
 | false=>seqOps P callf ops ops.toList fr H
 | true=>drawn P callf ops fr H
noncomputable def xSeq (_ _:Code) (a b:XF) : XF:=fun P callf loopf fr H=>thenO (a P callf loopf fr H) (b P callf loopf)
noncomputable def xCond (c:Operand) (_ _:Code) (a b:XF) : XF:=fun P callf loopf fr H=>condO (fr.ev c) (a P callf loopf) (b P callf loopf) fr H
noncomputable def xBlock (id:Nat) (_:Code) (a:XF) : XF:=fun P callf loopf fr H=>blockO id (a P callf loopf fr H)
noncomputable def xLoop (b:Code) (a:XF) : XF:=fun P callf loopf fr H=>thenO (a P callf loopf fr H) (loopf (.loop b))
noncomputable def xRangeFunc (_:Operand) (_:Array Tmp) (_ _:Code) (_ _:XF) : XF:=fun _ _ _ _ _=>.bad
noncomputable def xExit (id:Nat) : XF:=fun _ _ _ fr H=>.exit id fr H
noncomputable def xScope (_:Code) (_:XF) : XF:=fun _ _ _ _ _=>.bad
noncomputable def xLabel (_:Nat) : XF:=fun _ _ _ fr H=>.norm fr H
noncomputable def xGoto (_:Nat) : XF:=fun _ _ _ _ _=>.bad
noncomputable def xRet:XF:=fun _ _ _ fr H=>.ret fr H
noncomputable def xRefuse (_:String) : XF:=fun _ _ _ _ _=>.bad
noncomputable def execC:Code→XF:=Code.rec (motive:=fun _=>XF) xSkip xRegion xSeq xCond xBlock xLoop xRangeFunc xExit xScope xLabel xGoto xRet xRefuse
noncomputable def exec (P:Program) (callf:CallF) (loopf:LoopF) (c:Code) (fr:Fr) (H:Mem) : Out:=execC c P callf loopf fr H
inductive Mode where
 | returning
 | panicking (v:AV)
 | recovered (v:AV)
inductive OutD where
 | norm (fr:Fr) (u:Mode) (H:Mem)
 | ret (fr:Fr) (u:Mode) (H:Mem)
 | bad
noncomputable def afterD (callf:CallF) (o:Oper) (fr:Fr) (u:Mode) (k:Fr→Mode→Mem→OutD) (H:Mem) (r:R) : OutD :=
 match r with
 | .val v H=>fr.putK o.dst v fun fr=>k fr u H
 | .skip H=>fr.putK o.dst (.lit undef) fun fr=>k fr u H
 | .enter f args H=>match callf f args H with
  | .ret v H=>fr.putK o.dst v fun fr=>k fr u H
  | _=>.bad
 | .recover=>match u with
  | .panicking v=>fr.putK o.dst v fun fr=>k fr (.recovered v) H
  | _=>fr.putK o.dst (.lit .nilIface) fun fr=>k fr u H
 | _=>.bad
noncomputable def seqOpsD (P:Program) (callf:CallF) (ops:Array Oper) : List Oper→Fr→Mode→Mem→OutD
 | [],fr,u,H=>.norm fr u H
 | o :: l,fr,u,H=>match (match o.guard with | none=>some true | some g=>wantedG ops fr g) with
  | some true=>afterD callf o fr u (seqOpsD P callf ops l) H (opV P H fr.ev o)
  | some false=>fr.putK o.dst (.lit undef) fun fr=>seqOpsD P callf ops l fr u H
  | none=>.bad
noncomputable def liftD (u:Mode) (r:Out) : OutD:=match r with
 | .norm fr H=>.norm fr u H
 | .ret fr H=>.ret fr u H
 | _=>.bad
noncomputable def execD (P:Program) (callf:CallF) (loopf:LoopF) : Code→Fr→Mode→Mem→OutD
 | .seq a b,fr,u,H=>match execD P callf loopf a fr u H with
  | .norm fr u H=>execD P callf loopf b fr u H
  | r=>r
 | .cond c a b,fr,u,H=>match fr.ev c with
  | some (.lit (.bool true))=>execD P callf loopf a fr u H
  | some (.lit (.bool false))=>execD P callf loopf b fr u H
  | _=>.bad
 | .region id ops true,fr,u,H=>liftD u (exec P callf loopf (.region id ops true) fr H)
 | .region _ ops false,fr,u,H=>seqOpsD P callf ops ops.toList fr u H
 | c,fr,u,H=>liftD u (exec P callf loopf c fr H)
noncomputable def putArgsK {β:Type} (l:List AV) (fr:Fr) (K:Fr→β) : β :=
 List.rec (motive:=fun _=>Fr→Nat→β) (fun fr _=>K fr) (fun v _ ih fr i=>fr.set i v fun fr=>ih fr (Nat.succ i)) l fr 0
noncomputable def resVar (P:Program) (fr:Fr) (H:Mem) : ResultVar→Option AV
 | .tmp t=>fr.get t
 | .cell a t=>match fr.get a with
  | some p=>load P H t p
  | none=>none
noncomputable def resVars (P:Program) (fr:Fr) (H:Mem) : List ResultVar→Option (List AV)
 | []=>some []
 | r :: l=>match resVar P fr H r with
  | some v=>match resVars P fr H l with | some vs=>some (v :: vs) | none=>none
  | none=>none
noncomputable def resultsA (P:Program) (fn:Func) (fr:Fr) (H:Mem) : Option AV :=
 match resVars P fr H fn.results.toList with
 | some [v]=>some v
 | some vs=>some (.tup vs)
 | none=>none
noncomputable def frame0 (n:Nat) : Fr:=match Nat.ble n 256 with | true=>.s e2 [] | false=>.g e3 []
def dstOk (n:Nat) (o:Oper) : Bool:=match o.dst with | some t=>Nat.blt t n | none=>true
def dstsOk (n:Nat) : Code→Bool
 | .region _ ops _=>ops.toList.all (dstOk n)
 | .seq a b=>dstsOk n a && dstsOk n b
 | .cond _ a b=>dstsOk n a && dstsOk n b
 | .block _ b=>dstsOk n b
 | .loop b=>dstsOk n b
 | .scope b=>dstsOk n b
 | _=>true
noncomputable def leaveD (P:Program) (g:Func) (k:Mode→Mem→COut) (r:OutD) : COut :=
 match r with
 | .norm fr u H=>match fr.defers,resultsA P g fr H,u with
  | [],some _,.recovered _=>k .returning H
  | [],some _,.returning=>k .returning H
  | [],some _,.panicking v=>k (.panicking v) H
  | _,_,_=>.bad
 | .ret fr u H=>match fr.defers,resultsA P g fr H,u with
  | [],some _,.recovered _=>k .returning H
  | [],some _,.returning=>k .returning H
  | [],some _,.panicking v=>k (.panicking v) H
  | _,_,_=>.bad
 | .bad=>.bad
noncomputable def leaveF (P:Program) (callf:CallF) (loopf:LoopF) (f:FuncId) (args:List AV) (u:Mode) (H:Mem) (k:Mode→Mem→COut) : COut :=
 match P.funcs[f]? with
 | some g=>match g.body,hasBody P f with
  | some c,true=>match dstsOk g.ntmps c,Nat.ble (len args) g.ntmps with
   | true,true=>leaveD P g k (putArgsK args (frame0 g.ntmps) fun fr=>execD P callf loopf c fr u H)
   | _,_=>.bad
  | _,_=>.bad
 | none=>.bad
noncomputable def leave (P:Program) (callf:CallF) (loopf:LoopF) (fn:Func) (fr:Fr) : List Dfr→Mode→Mem→COut
 | [],.returning,H=>match resultsA P fn fr H with
  | some v=>.ret v H
  | none=>.bad
 | [],.panicking v,H=>.panic v H
 | [],.recovered _,_=>.bad
 | (.func f,cap,args) :: ds,u,H=>leaveF P callf loopf f (args++cap) u H (leave P callf loopf fn fr ds)
 | _ :: _,_,_=>.bad
noncomputable def finish (P:Program) (callf:CallF) (loopf:LoopF) (fn:Func) (r:Out) : COut:=match r with
 | .norm fr H=>leave P callf loopf fn fr fr.defers .returning H
 | .ret fr H=>leave P callf loopf fn fr fr.defers .returning H
 | .panic v fr H=>leave P callf loopf fn fr fr.defers (.panicking v) H
 | _=>.bad
noncomputable def enterB (P:Program) (callf:CallF) (loopf:LoopF) (fn:Func) (c:Code) (args:List AV) (H:Mem) : COut :=
 match dstsOk fn.ntmps c,Nat.ble (len args) fn.ntmps with
 | true,true=>finish P callf loopf fn (putArgsK args (frame0 fn.ntmps) fun fr=>exec P callf loopf c fr H)
 | _,_=>.bad
noncomputable def enter (P:Program) (callf:CallF) (loopf:LoopF) (f:FuncId) (args:List AV) (H:Mem) : COut :=
 match P.funcs[f]? with
 | some fn=>match fn.body with
  | some c=>enterB P callf loopf fn c args H
  | none=>.bad
 | none=>.bad
noncomputable def both (P:Program) (n:Nat) : CallF×LoopF :=
 Nat.rec (motive:=fun _=>CallF×LoopF) (fun _ _ _=>.bad,fun _ _ _=>.bad) (fun _ ih=>(enter P ih.1 ih.2,exec P ih.1 ih.2)) n
noncomputable def call (P:Program) (n:Nat) : CallF:=(both P n).1
noncomputable def uN {α:Type} (d:Dg) (x:N α) (v:α) : N α:=sN d x v id
theorem sN_eq {α β:Type} (d:Dg) (x:N α) (v:α) (K:N α→β) : sN d x v K=K (uN d x v):=by
 cases x; cases d <;> rfl
theorem gN_same {α:Type} (d:Dg) (x:N α) (v:α) : gN d (uN d x v)=v:=by
 cases x; cases d <;> rfl
theorem gN_ne {α:Type} (d d' : Dg) (x:N α) (v:α) (h:d'≠d) : gN d' (uN d x v)=gN d' x:=by
 cases x; cases d <;> cases d' <;> first | rfl | exact absurd rfl h
theorem Dg.em (d d' : Dg) : d'=d∨d'≠d:=Classical.em _
theorem leaf_v {α:Type} (k j:Nat) (x y:α) (h:leaf k (.v j x)=some y) : j=k∧x=y:=by
 have h' : Bool.rec (motive:=fun _=>Option α) none (some x) (Nat.beq j k)=some y:=h
 cases hb:Nat.beq j k with
 | true=>simp_all
 | false=>simp_all
noncomputable def u2 {α:Type} (t:T2 α) (k:Nat) (x:Lf α) : T2 α:=uN (d0 k) t (uN (d1 k) (gN (d0 k) t) x)
theorem put2_eq {α β:Type} (t:T2 α) (k:Nat) (x:Lf α) (K:T2 α→β) : put2 t k x K=K (u2 t k x):=by
 grind [u2,put2,sN_eq]
noncomputable def u3 {α:Type} (t:T3 α) (k:Nat) (x:Lf α) : T3 α:=uN (d0 k) t (uN (d1 k) (gN (d0 k) t) (uN (d2 k) (gN (d1 k) (gN (d0 k) t)) x))
theorem put3_eq {α β:Type} (t:T3 α) (k:Nat) (x:Lf α) (K:T3 α→β) : put3 t k x K=K (u3 t k x):=by
 grind [u3,put3,sN_eq]
noncomputable def u4 {α:Type} (t:T4 α) (k:Nat) (x:Lf α) : T4 α :=
 uN (d0 k) t (uN (d1 k) (gN (d0 k) t) (uN (d2 k) (gN (d1 k) (gN (d0 k) t)) (uN (d3 k) (gN (d2 k) (gN (d1 k) (gN (d0 k) t))) x)))
theorem put4_eq {α β:Type} (t:T4 α) (k:Nat) (x:Lf α) (K:T4 α→β) : put4 t k x K=K (u4 t k x):=by
 grind [u4,put4,sN_eq]
theorem at2 {α:Type} (t:T2 α) (k j:Nat) (x:Lf α) :
  gN (d1 j) (gN (d0 j) (u2 t k x))=x∨gN (d1 j) (gN (d0 j) (u2 t k x))=gN (d1 j) (gN (d0 j) t):=by
 unfold u2
 rcases Dg.em (d0 k) (d0 j) with h0 | h0
 ·rw [h0,gN_same]
  rcases Dg.em (d1 k) (d1 j) with h1 | h1
  ·rw [h1,gN_same]; grind
  ·rw [gN_ne _ _ _ _ h1]; grind
 ·rw [gN_ne _ _ _ _ h0]; grind
theorem at2_same {α:Type} (t:T2 α) (k:Nat) (x:Lf α) : gN (d1 k) (gN (d0 k) (u2 t k x))=x:=by
 grind [u2,gN_same]
theorem at3 {α:Type} (t:T3 α) (k j:Nat) (x:Lf α) :
  gN (d2 j) (gN (d1 j) (gN (d0 j) (u3 t k x)))=x∨gN (d2 j) (gN (d1 j) (gN (d0 j) (u3 t k x)))=gN (d2 j) (gN (d1 j) (gN (d0 j) t)):=by
 unfold u3
 rcases Dg.em (d0 k) (d0 j) with h0 | h0
 ·rw [h0,gN_same]
  rcases Dg.em (d1 k) (d1 j) with h1 | h1
  ·rw [h1,gN_same]
   rcases Dg.em (d2 k) (d2 j) with h2 | h2
   ·rw [h2,gN_same]; grind
   ·rw [gN_ne _ _ _ _ h2]; grind
  ·rw [gN_ne _ _ _ _ h1]; grind
 ·rw [gN_ne _ _ _ _ h0]; grind
theorem at3_same {α:Type} (t:T3 α) (k:Nat) (x:Lf α) : gN (d2 k) (gN (d1 k) (gN (d0 k) (u3 t k x)))=x:=by
 grind [u3,gN_same]
theorem at4 {α:Type} (t:T4 α) (k j:Nat) (x:Lf α) :
  gN (d3 j) (gN (d2 j) (gN (d1 j) (gN (d0 j) (u4 t k x))))=x∨gN (d3 j) (gN (d2 j) (gN (d1 j) (gN (d0 j) (u4 t k x))))=gN (d3 j) (gN (d2 j) (gN (d1 j) (gN (d0 j) t))):=by
 unfold u4
 rcases Dg.em (d0 k) (d0 j) with h0 | h0
 ·rw [h0,gN_same]
  rcases Dg.em (d1 k) (d1 j) with h1 | h1
  ·rw [h1,gN_same]
   rcases Dg.em (d2 k) (d2 j) with h2 | h2
   ·rw [h2,gN_same]
    rcases Dg.em (d3 k) (d3 j) with h3 | h3
    ·rw [h3,gN_same]; grind
    ·rw [gN_ne _ _ _ _ h3]; grind
   ·rw [gN_ne _ _ _ _ h2]; grind
  ·rw [gN_ne _ _ _ _ h1]; grind
 ·rw [gN_ne _ _ _ _ h0]; grind
theorem at4_same {α:Type} (t:T4 α) (k:Nat) (x:Lf α) : gN (d3 k) (gN (d2 k) (gN (d1 k) (gN (d0 k) (u4 t k x))))=x:=by
 grind [u4,gN_same]
theorem get2_v {α:Type} (t:T2 α) (k j:Nat) (v y:α) (h:get2 (u2 t k (.v k v)) j=some y) : (j=k∧y=v)∨(j≠k∧get2 t j=some y):=by
 by_cases hj:j=k
 ·subst hj; unfold get2 at h; rw [at2_same] at h; exact .inl ⟨rfl,(leaf_v _ _ _ _ h).2.symm⟩
 grind [leaf_v,at2,get2]
theorem get3_v {α:Type} (t:T3 α) (k j:Nat) (v y:α) (h:get3 (u3 t k (.v k v)) j=some y) : (j=k∧y=v)∨(j≠k∧get3 t j=some y):=by
 by_cases hj:j=k
 ·subst hj; unfold get3 at h; rw [at3_same] at h; exact .inl ⟨rfl,(leaf_v _ _ _ _ h).2.symm⟩
 grind [leaf_v,at3,get3]
theorem get4_v {α:Type} (t:T4 α) (k j:Nat) (v y:α) (h:get4 (u4 t k (.v k v)) j=some y) : (j=k∧y=v)∨(j≠k∧get4 t j=some y):=by
 by_cases hj:j=k
 ·subst hj; unfold get4 at h; rw [at4_same] at h; exact .inl ⟨rfl,(leaf_v _ _ _ _ h).2.symm⟩
 grind [leaf_v,at4,get4]
theorem get4_e {α:Type} (t:T4 α) (k j:Nat) (y:α) (h:get4 (u4 t k .e) j=some y) : j≠k∧get4 t j=some y:=by
 by_cases hj:j=k
 ·subst hj; unfold get4 at h; rw [at4_same] at h; cases h
 ·refine ⟨hj,?_⟩
  unfold get4 at h ⊢
  rcases at4 t k j (.e:Lf α) with e | e
  ·rw [e] at h; cases h
  grind
theorem gN_nN {α:Type} (d:Dg) (x:α) : gN d (nN x)=x:=by cases d <;> rfl
theorem get2_e2 {α:Type} (k:Nat) : get2 (e2:T2 α) k=none:=by unfold get2 e2; rw [gN_nN,gN_nN]; rfl
theorem get3_e3 {α:Type} (k:Nat) : get3 (e3:T3 α) k=none:=by unfold get3 e3 e2; rw [gN_nN,gN_nN,gN_nN]; rfl
theorem get4_e4 {α:Type} (k:Nat) : get4 (e4:T4 α) k=none:=by unfold get4 e4 e3 e2; rw [gN_nN,gN_nN,gN_nN,gN_nN]; rfl
theorem natK_eq {β:Type} (n:Nat) (K:Nat→β) : natK n K=K n:=by cases n <;> rfl
theorem intK_eq {β:Type} (n:Int) (K:Int→β) : intK n K=K n:=by cases n <;> simp [intK,natK_eq]
noncomputable def Store.upd (t:Store) (a:Nat) (b:Blk) : Store:=match t with | .tr t=>.tr (u4 t a (.v a b)) | .fn g=>.fn (gput g a (some b))
noncomputable def Store.rm (t:Store) (a:Nat) : Store:=match t with | .tr t=>.tr (u4 t a .e) | .fn g=>.fn (gput g a none)
noncomputable def Mem.upd (H:Mem) (a:Nat) (b:Blk) : Mem:=⟨H.t.upd a b,H.next⟩
noncomputable def Mem.rm (H:Mem) (a:Nat) : Mem:=⟨H.t.rm a,H.next⟩
noncomputable def Mem.add (H:Mem) (b:Blk) : Mem:=⟨H.t.upd H.next b,H.next+1⟩
theorem Mem.newK_eq {β:Type} (H:Mem) (b:Blk) (K:Mem→β) : H.newK b K=K (H.add b):=by
 obtain ⟨t,n⟩:=H
 cases t <;> simp [Mem.newK,memNew,stPut,stPutT,stPutF,put4_eq,natK_eq,Mem.add,Store.upd]
theorem Mem.setK_eq {β:Type} (H:Mem) (a:Nat) (b:Blk) (K:Mem→β) : H.setK a b K=K (H.upd a b):=by
 obtain ⟨t,n⟩:=H
 cases t <;> simp [Mem.setK,memSet,stPut,stPutT,stPutF,put4_eq,Mem.upd,Store.upd]
theorem Mem.delK_eq {β:Type} (H:Mem) (a:Nat) (K:Mem→β) : H.delK a K=K (H.rm a):=by
 obtain ⟨t,n⟩:=H
 cases t <;> simp [Mem.delK,memDel,stDel,stDelT,stDelF,put4_eq,Mem.rm,Store.rm]
theorem gput_v {g:Nat→Option Blk} {a j:Nat} {b y:Blk} (h:gput g a (some b) j=some y) : (j=a∧y=b)∨(j≠a∧g j=some y):=by
 unfold gput at h
 grind
theorem gput_e {g:Nat→Option Blk} {a j:Nat} {y:Blk} (h:gput g a none j=some y) : j≠a∧g j=some y:=by
 simp_all [gput]
theorem Mem.get_upd {H:Mem} {a j:Nat} {b y:Blk} (h:(H.upd a b).get j=some y) : (j=a∧y=b)∨(j≠a∧H.get j=some y):=by
 obtain ⟨t,n⟩:=H
 cases t with
 | tr t=>exact get4_v _ _ _ _ _ h
 | fn g=>exact gput_v h
theorem Mem.get_rm {H:Mem} {a j:Nat} {y:Blk} (h:(H.rm a).get j=some y) : j≠a∧H.get j=some y:=by
 obtain ⟨t,n⟩:=H
 cases t with
 | tr t=>exact get4_e _ _ _ _ h
 | fn g=>exact gput_e h
theorem Mem.get_add {H:Mem} {j:Nat} {b y:Blk} (h:(H.add b).get j=some y) : (j=H.next∧y=b)∨(j≠H.next∧H.get j=some y):=by
 obtain ⟨t,n⟩:=H
 cases t with
 | tr t=>exact get4_v _ _ _ _ _ h
 | fn g=>exact gput_v h
noncomputable def Fr.upd (fr:Fr) (d:Tmp) (v:AV) : Fr:=fr.set d v id
theorem Fr.set_eq {β:Type} (fr:Fr) (d:Tmp) (v:AV) (K:Fr→β) : fr.set d v K=K (fr.upd d v):=by
 cases fr <;> simp [Fr.set,Fr.upd,fpS,fpG,fpF,put2_eq,put3_eq]
theorem Fr.get_upd {fr:Fr} {d j:Tmp} {v y:AV} (h:(fr.upd d v).get j=some y) : (j=d∧y=v)∨(j≠d∧fr.get j=some y):=by
 cases fr with
 | s t ds=>simp_all [fgS,Fr.get,put2_eq,fpS,Fr.set,Fr.upd,get2_v]
 | g t ds=>simp_all [fgG,Fr.get,put3_eq,fpG,Fr.set,Fr.upd,get3_v]
 | f g ds =>
  have h' : fput g d v j=some y:=h
  unfold fput at h'
  by_cases e:j=d
  ·grind
  ·rw [if_neg e] at h'; exact .inr ⟨e,h'⟩
theorem Fr.defers_upd (fr:Fr) (d:Tmp) (v:AV) : (fr.upd d v).defers=fr.defers:=by
 cases fr <;> simp [Fr.upd,Fr.set,fpS,fpG,fpF,put2_eq,put3_eq,Fr.defers]
theorem Fr.get_defer (fr:Fr) (x:Dfr) (j:Tmp) : (fr.defer x).get j=fr.get j:=by cases fr <;> rfl
theorem Fr.defers_defer (fr:Fr) (x:Dfr) : (fr.defer x).defers=x :: fr.defers:=by cases fr <;> rfl
noncomputable def Fr.put (fr:Fr) (d:Option Tmp) (v:AV) : Fr:=match d with | some d=>fr.upd d v | none=>fr
theorem Fr.putK_eq {β:Type} (fr:Fr) (d:Option Tmp) (v:AV) (K:Fr→β) : fr.putK d v K=K (fr.put d v):=by
 cases d with
 | none=>rfl
 | some d=>exact Fr.set_eq fr d v K
theorem get_frame0 (n j:Nat) : (frame0 n).get j=none:=by
 unfold frame0; split
 ·exact get2_e2 j
 ·exact get3_e3 j
theorem defers_frame0 (n:Nat) : (frame0 n).defers=[]:=by unfold frame0; split <;> rfl
theorem nth_eq {α:Type} (l:List α) (i:Nat) : nth l i=l[i]?:=by
 induction l generalizing i with
 | nil=>rfl
 | cons x l ih=>cases i with
  | zero=>rfl
  | succ i=>grind [nth]
theorem len_eq {α:Type} (l:List α) : len l=l.length:=by
 have:∀ n,List.rec (motive:=fun _=>Nat→Nat) (fun n=>n) (fun _ _ ih n=>natK (Nat.succ n) ih) l n=n+l.length:=by
  induction l with
  | nil=>grind
  | cons x l ih=>grind [natK_eq]
 grind [len]
theorem takeK_eq {α β:Type} (z:β) (n:Nat) (l:List α) (K:List α→β) : takeK z n l K=if n≤l.length then K (l.take n) else z:=by
 induction n generalizing l K with
 | zero=>rfl
 | succ n ih=>cases l with
  | nil=>rfl
  | cons x l =>
   simp_all [takeK]
theorem dropK_eq {α β:Type} (z:β) (n:Nat) (l:List α) (K:List α→β) : dropK z n l K=if n≤l.length then K (l.drop n) else z:=by
 induction n generalizing l K with
 | zero=>rfl
 | succ n ih=>cases l with
  | nil=>rfl
  | cons x l =>
   simp_all [dropK]
theorem sliceK_eq {α β:Type} (l:List α) (n off:Nat) (z:β) (K:List α→β) : sliceK l n off z K=if off+n≤l.length then K ((l.drop off).take n) else z:=by
 (simp_all [sliceK,dropK_eq,takeK_eq]; grind)
theorem appK_eq {α β:Type} (a b:List α) (K:List α→β) : appK a b K=K (a++b):=by
 induction a generalizing K with
 | nil=>rfl
 | cons x a ih =>
  simp_all [appK]
theorem overK_eq {α β:Type} (z:β) (new l:List α) (K:List α→β) : overK z new l K=if new.length≤l.length then K (new++l.drop new.length) else z:=by
 induction new generalizing l K with
 | nil=>rfl
 | cons x new ih=>cases l with
  | nil=>rfl
  | cons y l =>
   simp_all [overK]
theorem putCellsK_eq {α β:Type} (z:β) (l:List α) (off:Nat) (new:List α) (K:List α→β) :
  putCellsK z l off new K=if off+new.length≤l.length then K (l.take off++new++l.drop (off+new.length)) else z:=by
 induction off generalizing l K with
 | zero =>
  have:putCellsK z l 0 new K=overK z new l K:=rfl
  grind [overK_eq]
 | succ off ih=>cases l with
  | nil=>simp [putCellsK]
  | cons x l =>
   (simp_all [putCellsK]; grind)
end Go.Ai
end
section
namespace Go.Ai
open Go.RowKit (Below)
abbrev Rn:=Nat→Option (Nat×Nat×Nat)
mutual
def VR (ρ:Rn) : AV→Value→Prop
 | .lit v,u=>u=v
 | .ptr a off,u=>∃ b o k,ρ a=some (b,o,k)∧u=.pointer (some ⟨b,o+off,none⟩)
 | .sl a off n c,u=>∃ b o k,ρ a=some (b,o,k)∧n≤c∧u=.slice (some ⟨b,o+off,none⟩) n c
 | .slq a off n d,u=>∃ b o k,ρ a=some (b,o,k)∧d+n≤k∧u=.slice (some ⟨b,o+off,none⟩) n (k - d)
 | .es,u=>∃ ad c,u=.slice (some ad) 0 c
 | .map a,u=>∃ b o k,ρ a=some (b,o,k)∧u=.map (some b)
 | .func fn f c,u=>∃ f' c',u=.func fn f' c'∧VRs ρ f f'.toList∧VRs ρ c c'.toList
 | .iface t v,u=>∃ u',u=.iface t u'∧VR ρ v u'
 | .agg l,u=>∃ cs,u=.agg cs∧VRs ρ l cs.toList
 | .tup l,u=>∃ cs,u=.tuple cs∧VRs ρ l cs.toList
def VRs (ρ:Rn) : List AV→List Value→Prop
 | [],us=>us=[]
 | v :: l,us=>∃ u us',us=u :: us'∧VR ρ v u∧VRs ρ l us'
end
def Sub (ρ ρ' : Rn) : Prop:=∀ a x,ρ a=some x→ρ' a=some x
theorem Sub.refl (ρ:Rn) : Sub ρ ρ:=fun _ _ h=>h
theorem Sub.trans {a b c:Rn} (h:Sub a b) (k:Sub b c) : Sub a c:=fun x y e=>k x y (h x y e)
mutual
theorem VR.mono {ρ ρ' : Rn} (h:Sub ρ ρ') : ∀ {v:AV} {u:Value},VR ρ v u→VR ρ' v u
 | .lit _,_,r=>r
 | .ptr _ _,_,⟨b,o,k,e,r⟩=>⟨b,o,k,h _ _ e,r⟩
 | .sl _ _ _ _,_,⟨b,o,k,e,r⟩=>⟨b,o,k,h _ _ e,r⟩
 | .slq _ _ _ _,_,⟨b,o,k,e,r⟩=>⟨b,o,k,h _ _ e,r⟩
 | .es,_,r=>r
 | .map _,_,⟨b,o,k,e,r⟩=>⟨b,o,k,h _ _ e,r⟩
 | .func _ _ _,_,⟨f',c',e,r,q⟩=>⟨f',c',e,VRs.mono h r,VRs.mono h q⟩
 | .iface _ _,_,⟨u',e,r⟩=>⟨u',e,VR.mono h r⟩
 | .agg _,_,⟨cs,e,r⟩=>⟨cs,e,VRs.mono h r⟩
 | .tup _,_,⟨cs,e,r⟩=>⟨cs,e,VRs.mono h r⟩
theorem VRs.mono {ρ ρ' : Rn} (h:Sub ρ ρ') : ∀ {l:List AV} {us:List Value},VRs ρ l us→VRs ρ' l us
 | [],_,r=>r
 | _ :: _,_,⟨u,us',e,r,q⟩=>⟨u,us',e,VR.mono h r,VRs.mono h q⟩
end
theorem VRs.nil {ρ:Rn} : VRs ρ [] []:=rfl
theorem VRs.cons {ρ:Rn} {v:AV} {l:List AV} {u:Value} {us:List Value} (h:VR ρ v u) (k:VRs ρ l us) : VRs ρ (v :: l) (u :: us):=⟨u,us,rfl,h,k⟩
theorem VRs.length {ρ:Rn} : ∀ {l:List AV} {us:List Value},VRs ρ l us→us.length=l.length
 | [],_,h=>by cases h; rfl
 | _ :: l,_,⟨u,us',e,_,q⟩=>by subst e; simp [VRs.length q]
theorem VRs.get {ρ:Rn} : ∀ {l:List AV} {us:List Value} (i:Nat) {v:AV},VRs ρ l us→l[i]?=some v→∃ u,us[i]?=some u∧VR ρ v u
 | x :: l,_,i,v,⟨u,us',e,r,q⟩,h=>by
  subst e
  cases i with
  | zero=>grind
  | succ i=>simp at h; obtain ⟨w,hw,hv⟩:=VRs.get i q h; exact ⟨w,by simpa using hw,hv⟩
theorem VRs.append {ρ:Rn} : ∀ {l l' : List AV} {us us' : List Value},VRs ρ l us→VRs ρ l' us'→VRs ρ (l++l') (us++us')
 | [],_,_,_,h,k=>by cases h; exact k
 | _ :: _,_,_,_,⟨u,us',e,r,q⟩,k=>by subst e; exact ⟨u,us'++_,rfl,r,VRs.append q k⟩
theorem VRs.take {ρ:Rn} : ∀ {l:List AV} {us:List Value} (n:Nat),VRs ρ l us→VRs ρ (l.take n) (us.take n)
 | [],_,n,h=>by grind [VRs]
 | _ :: _,_,0,_=>by rfl
 | _ :: _,_,n+1,⟨u,us',e,r,q⟩=>by subst e; exact ⟨u,us'.take n,by simp,r,VRs.take n q⟩
theorem VRs.drop {ρ:Rn} : ∀ {l:List AV} {us:List Value} (n:Nat),VRs ρ l us→VRs ρ (l.drop n) (us.drop n)
 | [],_,n,h=>by grind [VRs]
 | _ :: _,_,0,h=>by grind
 | _ :: _,_,n+1,⟨u,us',e,r,q⟩=>by subst e; simpa using VRs.drop n q
theorem VRs.lits {ρ:Rn} : ∀ (us:List Value),VRs ρ (us.map .lit) us
 | []=>rfl
 | u :: us=>⟨u,us,rfl,rfl,VRs.lits us⟩
theorem VRs.of_get {ρ:Rn} : ∀ {l:List AV} {us:List Value},us.length=l.length→(∀ (i:Nat) (v:AV),l[i]?=some v→∃ u,us[i]?=some u∧VR ρ v u)→VRs ρ l us
 | [],[],_,_=>rfl
 | [],_ :: _,h,_=>by grind
 | _ :: _,[],h,_=>by grind
 | v :: l,u :: us,h,k=>by
  refine ⟨u,us,rfl,?_,VRs.of_get (by grind) fun i v' hi=>?_⟩
  ·obtain ⟨w,hw,hv⟩:=k 0 v rfl; grind
  ·simpa using k (i+1) v' (by grind)
theorem litAll_VRs {ρ:Rn} : ∀ {l:List AV} {vs:List Value} {us:List Value},litAll l=some vs→VRs ρ l us→us=vs
 | [],vs,us,h,k=>by cases h; exact k
 | v :: l,vs,us,h,⟨u,us',e,r,q⟩=>by
  subst e
  cases v with
  | lit x =>
   simp only [litAll] at h
   split at h
   ·rename_i ws hw; cases h; cases r; rw [litAll_VRs hw q]
   grind
  | _=>simp [litAll] at h
theorem VR.cells {ρ:Rn} {v:AV} {u:Value} (h:VR ρ v u) : VRs ρ (cellsOf v) u.cells.toList:=by
 cases v with
 | lit x =>
  cases h
  cases u <;> first | exact ⟨_,_,rfl,rfl,rfl⟩ | exact VRs.lits _
 | agg l=>obtain ⟨cs,e,r⟩:=h; subst e; exact r
 | ptr a off=>obtain ⟨b,o,k,e,r⟩:=h; subst r; exact ⟨_,_,rfl,⟨b,o,k,e,rfl⟩,rfl⟩
 | sl a off n c=>obtain ⟨b,o,k,e,e2,r⟩:=h; subst r; exact ⟨_,_,rfl,⟨b,o,k,e,e2,rfl⟩,rfl⟩
 | slq a off n c=>obtain ⟨b,o,k,e,e2,r⟩:=h; subst r; exact ⟨_,_,rfl,⟨b,o,k,e,e2,rfl⟩,rfl⟩
 | es=>obtain ⟨b,o,e⟩:=h; subst e; exact ⟨_,_,rfl,⟨b,o,rfl⟩,rfl⟩
 | map a=>obtain ⟨b,o,k,e,r⟩:=h; subst r; exact ⟨_,_,rfl,⟨b,o,k,e,rfl⟩,rfl⟩
 | func fn f c=>obtain ⟨f',c',e,r,q⟩:=h; subst e; exact ⟨_,_,rfl,⟨f',c',rfl,r,q⟩,rfl⟩
 | iface t w=>obtain ⟨u',e,r⟩:=h; subst e; exact ⟨_,_,rfl,⟨u',rfl,r⟩,rfl⟩
 | tup l=>obtain ⟨cs,e,r⟩:=h; subst e; exact ⟨_,_,rfl,⟨cs,rfl,r⟩,rfl⟩
theorem oneC_VR {ρ:Rn} {v:AV} {u:Value} (h:VR ρ v u) (k:oneC v=true) : u.oneCell=true:=by
 cases v with
 | lit x=>cases h; cases u <;> first | rfl | cases k
 | agg l=>cases k
 | ptr a off=>obtain ⟨b,o,k,e,r⟩:=h; subst r; rfl
 | sl a off n c=>obtain ⟨b,o,k,e,e2,r⟩:=h; subst r; rfl
 | slq a off n c=>obtain ⟨b,o,k,e,e2,r⟩:=h; subst r; rfl
 | es=>obtain ⟨b,o,e⟩:=h; subst e; rfl
 | map a=>obtain ⟨b,o,k,e,r⟩:=h; subst r; rfl
 | func fn f c=>obtain ⟨f',c',e,r,q⟩:=h; subst e; rfl
 | iface t w=>obtain ⟨u',e,r⟩:=h; subst e; rfl
 | tup l=>cases k
def ER (ρ:Rn) : List (AV×AV×Nat)→List MapEntry→Prop
 | [],es=>es=[]
 | (k,v,b) :: l,es=>∃ e es',es=e :: es'∧VR ρ k e.key∧VR ρ v e.val∧e.born=b∧ER ρ l es'
theorem ER.mono {ρ ρ' : Rn} (h:Sub ρ ρ') : ∀ {l:List (AV×AV×Nat)} {es:List MapEntry},ER ρ l es→ER ρ' l es
 | [],_,r=>r
 | _ :: _,_,⟨e,es',q,r,s,t,z⟩=>⟨e,es',q,r.mono h,s.mono h,t,ER.mono h z⟩
def BR (B:Nat) (ρ:Rn) : Blk→Nat→Nat→Nat→World→Prop
 | .cells l own z,b,o,k,w=>∃ c e fz,w.heap[b]?=some (.cells c e fz)∧(∀ (i:Nat) (v:AV),l[i]?=some v→∃ u,c[o+i]?=some u∧VR ρ v u) ∧
   (own=true→B≤b∧(∀ j,j < c.size→¬(fz.1≤j∧j < fz.2))∧o+k * z≤c.size∧(z=0∨l.length≤k * z))
 | .map es clock,b,_,_,w=>∃ es',w.heap[b]?=some (.map es' clock)∧ER ρ es es'.toList∧B≤b
 | .siter s pos,b,o,_,w=>w.heap[b]?=some (.stringIter s pos)∧B≤b∧o=0
 | .typ T l ex,b,o,k,w=>o=0∧B≤b∧∃ c,w.heap[b]?=some (.cells c T (0,0))∧(∀ (i:Nat) (v:AV),l[i]?=some v→∃ u,c[i]?=some u∧VR ρ v u)∧(ex=true→c.size=l.length)∧(ex=false→c.size=k∧l.length≤k)
def Blk.own:Blk→Bool
 | .cells _ own _=>own
 | _=>true
theorem BR.lt {B:Nat} {ρ:Rn} {x:Blk} {b o k:Nat} {w:World} (h:BR B ρ x b o k w) : b < w.heap.size:=by
 cases x with
 | cells l own z=>obtain ⟨c,e,fz,hb,_⟩:=h; grind
 | map es clock=>obtain ⟨es',hb,_⟩:=h; grind
 | siter s pos=>exact (Array.getElem?_eq_some_iff.1 h.1).1
 | typ T l ex=>obtain ⟨_,_,c,hb,_⟩:=h; grind
theorem BR.mono {B:Nat} {ρ ρ' : Rn} {x:Blk} {b o k:Nat} {w w' : World} (h:BR B ρ x b o k w) (hs:Sub ρ ρ') (hw:w'.heap[b]?=w.heap[b]?) : BR B ρ' x b o k w':=by
 cases x with
 | cells l own z =>
  obtain ⟨c,e,fz,hb,hc,ho⟩:=h
  exact ⟨c,e,fz,hw.trans hb,fun i v hi=>let ⟨u,hu,hv⟩:=hc i v hi; ⟨u,hu,hv.mono hs⟩,ho⟩
 | map es clock=>obtain ⟨es',hb,he,hB⟩:=h; exact ⟨es',hw.trans hb,he.mono hs,hB⟩
 | siter s pos=>exact ⟨hw.trans h.1,h.2⟩
 | typ T l ex =>
  obtain ⟨h0,hB,c,hb,hc,h1,h2⟩:=h
  exact ⟨h0,hB,c,hw.trans hb,fun i v hi=>let ⟨u,hu,hv⟩:=hc i v hi; ⟨u,hu,hv.mono hs⟩,h1,h2⟩
theorem BR.above {B:Nat} {ρ:Rn} {x:Blk} {b o k:Nat} {w:World} (h:BR B ρ x b o k w) (ho:x.own=true) : B≤b:=by
 cases x with
 | cells l own z=>obtain ⟨c,e,fz,hb,hc,hh⟩:=h; exact (hh ho).1
 | map es clock=>obtain ⟨es',hb,he,hB⟩:=h; grind
 | siter s pos=>exact h.2.1
 | typ T l ex=>exact h.2.1
structure Sim (B G:Nat) (ρ:Rn) (H:Mem) (w:World) : Prop where
 blk:∀ a x,H.get a=some x→ρ a=none∨∃ b o k,ρ a=some (b,o,k)∧BR B ρ x b o k w
 inj:∀ a a' x x' b o k o' k',H.get a=some x→H.get a'=some x'→a≠a'→x.own=true→ρ a=some (b,o,k)→ρ a'=some (b,o',k')→False
 fresh:∀ a,H.next≤a→ρ a=none
 glob:∀ a x,a < G→H.get a=some x→ρ a=some (a,0,0)
 names:G≤H.next
 base:B≤w.heap.size
def isMk:Obj→Bool
 | .loop _=>true
 | .deferred _=>true
 | _=>false
def KD (w w' : World) : Prop:=(∀ (k:Nat) (o:Obj),w.heap[k]?=some o→isMk o=true→w'.heap[k]?=some o)∧w.drawn≤w'.drawn
theorem KD.refl (w:World) : KD w w:=⟨fun _ _ h _=>h,Nat.le_refl _⟩
theorem KD.trans {a b c:World} (h:KD a b) (k:KD b c) : KD a c:=⟨fun i o hi ho=>k.1 i o (h.1 i o hi ho) ho,Nat.le_trans h.2 k.2⟩
theorem KD.heap {w w' : World} (h:w'.heap=w.heap) (hd:w.drawn≤w'.drawn:=by first | exact Nat.le_refl _ | exact Nat.le_succ _ | assumption | omega) : KD w w':=⟨fun _ _ hk _=>by grind,hd⟩
theorem KD.push {w w' : World} {ob:Obj} (h:w'.heap=w.heap.push ob) (hd:w.drawn≤w'.drawn:=by first | exact Nat.le_refl _ | exact Nat.le_succ _ | assumption | omega) : KD w w':=⟨fun k o hk _=>by
 grind,hd⟩
theorem KD.turn {w w' : World} {b:Nat} {x:Obj} (hb:w.heap[b]?=some x) (hx:isMk x=false) (h:∀ j,j≠b→w'.heap[j]?=w.heap[j]?) (hd:w.drawn≤w'.drawn:=by first | exact Nat.le_refl _ | exact Nat.le_succ _ | assumption | omega) : KD w w':=⟨fun k o hk ho=>by
 grind,hd⟩
structure Ext (B n:Nat) (ρ:Rn) (w:World) (ρ' : Rn) (w' : World) : Prop where
 same:∀ a,a < n→ρ' a=ρ a
 keeps:KD w w'
 below:Below B w w'
theorem Ext.refl (B n:Nat) (ρ:Rn) (w:World) : Ext B n ρ w ρ w:=⟨fun _ _=>rfl,KD.refl w,Below.refl B w⟩
theorem Ext.trans {B n n' : Nat} {ρ ρ' ρ'' : Rn} {w w' w'' : World} (h:Ext B n ρ w ρ' w') (k:Ext B n' ρ' w' ρ'' w'') (hn:n≤n') : Ext B n ρ w ρ'' w'' :=
 ⟨fun a ha=>(k.same a (Nat.lt_of_lt_of_le ha hn)).trans (h.same a ha),h.keeps.trans k.keeps,h.below.trans k.below⟩
theorem Ext.sub {B G:Nat} {ρ ρ' : Rn} {H:Mem} {w0 w w' : World} (h:Ext B H.next ρ w ρ' w') (s:Sim B G ρ H w0) : Sub ρ ρ':=by
 intro a x hx
 rw [h.same a ?_]; · grind
 rcases Nat.lt_or_ge a H.next with k | k
 ·exact k
 ·rw [s.fresh a k] at hx; grind
def upd (ρ:Rn) (n:Nat) (x:Nat×Nat×Nat) : Rn:=fun a=>if a=n then some x else ρ a
theorem upd_same (ρ:Rn) (n:Nat) (x:Nat×Nat×Nat) : upd ρ n x n=some x:=by simp [upd]
theorem upd_ne (ρ:Rn) {n a:Nat} (x:Nat×Nat×Nat) (h:a≠n) : upd ρ n x a=ρ a:=by grind [upd]
theorem sub_upd {ρ:Rn} {n:Nat} {x:Nat×Nat×Nat} (h:ρ n=none) : Sub ρ (upd ρ n x):=by
 intro a y hy
 grind [upd_ne]
variable {B G:Nat} {ρ:Rn} {H:Mem} {w w' : World}
theorem Sim.at (s:Sim B G ρ H w) {a:Nat} {x:Blk} {b o k:Nat} (h:H.get a=some x) (hr:ρ a=some (b,o,k)) : BR B ρ x b o k w:=by
 rcases s.blk a x h with hn | ⟨b',o',k',hr',hb⟩
 all_goals grind
theorem Sim.none (s:Sim B G ρ H w) : ρ H.next=none:=s.fresh _ (Nat.le_refl _)
theorem Sim.lt_next (s:Sim B G ρ H w) {a:Nat} {x:Nat×Nat×Nat} (h:ρ a=some x) : a < H.next:=by
 rcases Nat.lt_or_ge a H.next with k | k
 ·exact k
 ·rw [s.fresh a k] at h; cases h
theorem Sim.heap (s:Sim B G ρ H w) (h:w'.heap=w.heap) : Sim B G ρ H w' :=
 {blk:=fun a x hx=>(s.blk a x hx).imp id fun ⟨b,o,k,hr,hb⟩=>⟨b,o,k,hr,hb.mono (Sub.refl _) (by rw [h])⟩
  inj:=s.inj,fresh:=s.fresh,glob:=s.glob,names:=s.names,base:=by rw [h]; exact s.base }
theorem Sim.other (s:Sim B G ρ H w) (hsz:w.heap.size≤w'.heap.size) (hh:∀ a x b o k,H.get a=some x→ρ a=some (b,o,k)→w'.heap[b]?=w.heap[b]?) : Sim B G ρ H w' :=
 {blk:=fun a x hx=>(s.blk a x hx).imp id fun ⟨b,o,k,hr,hb⟩=>⟨b,o,k,hr,hb.mono (Sub.refl _) (hh a x b o k hx hr)⟩
  inj:=s.inj,fresh:=s.fresh,glob:=s.glob,names:=s.names,base:=Nat.le_trans s.base hsz }
theorem Sim.rm (s:Sim B G ρ H w) (a:Nat) : Sim B G ρ (H.rm a) w :=
 {blk:=fun j x hx=>s.blk j x (Mem.get_rm hx).2
  inj:=fun j j' x x' b o k o' k' h h' hne ho hr hr'=>s.inj j j' x x' b o k o' k' (Mem.get_rm h).2 (Mem.get_rm h').2 hne ho hr hr'
  fresh:=fun j hj=>s.fresh j hj
  glob:=fun j x hj hx=>s.glob j x hj (Mem.get_rm hx).2
  names:=s.names,base:=s.base }
theorem Sim.add (s:Sim B G ρ H w) {x:Blk} {b o k:Nat} (hsz:w.heap.size≤w'.heap.size)
  (hh:∀ a x b' o' k',H.get a=some x→ρ a=some (b',o',k')→b'≠b∧w'.heap[b']?=w.heap[b']?)
  (hx:BR B (upd ρ H.next (b,o,k)) x b o k w') : Sim B G (upd ρ H.next (b,o,k)) (H.add x) w':=by
 have hsub:=sub_upd (x:=(b,o,k)) s.none
 refine ⟨?_,?_,?_,?_,?_,Nat.le_trans s.base hsz⟩
 ·intro a y hy
  rcases Mem.get_add hy with ⟨rfl,rfl⟩ | ⟨hne,hy⟩
  ·grind [upd_same]
  ·rw [upd_ne _ _ hne]
   rcases s.blk a y hy with hn | ⟨b',o',k',hr,hb⟩
   ·grind
   ·exact .inr ⟨b',o',k',hr,hb.mono hsub (hh a y b' o' k' hy hr).2⟩
 ·intro a a' y y' b1 o1 k1 o2 k2 h h' hne ho hr hr'
  rcases Mem.get_add h with ⟨e1,e2⟩ | ⟨hn1,g⟩
  ·rcases Mem.get_add h' with ⟨e3,e4⟩ | ⟨hn2,g'⟩
   ·grind
   ·rw [e1,upd_same] at hr; cases hr
    rw [upd_ne _ _ hn2] at hr'
    grind
  ·rw [upd_ne _ _ hn1] at hr
   rcases Mem.get_add h' with ⟨e3,e4⟩ | ⟨hn2,g'⟩
   ·rw [e3,upd_same] at hr'; grind
   ·rw [upd_ne _ _ hn2] at hr'
    exact s.inj a a' y y' b1 o1 k1 o2 k2 g g' hne ho hr hr'
 ·intro a ha
  have h1:H.next+1≤a:=ha
  rw [upd_ne _ _ (by omega)]
  exact s.fresh a (by omega)
 ·intro a y ha hy
  have hlt:=s.names
  rcases Mem.get_add hy with ⟨rfl,rfl⟩ | ⟨hne,hy⟩
  ·omega
  ·rw [upd_ne _ _ hne]; exact s.glob a y ha hy
 ·exact Nat.le_succ_of_le s.names
theorem Sim.set (s:Sim B G ρ H w) {a:Nat} {x y:Blk} {b o k:Nat} (ha:H.get a=some x) (hr:ρ a=some (b,o,k)) (hown:x.own=true) (hy' : y.own=true)
  (hsz:w.heap.size≤w'.heap.size) (hh:∀ b',b'≠b→b' < w.heap.size→w'.heap[b']?=w.heap[b']?) (hy:BR B ρ y b o k w') : Sim B G ρ (H.upd a y) w':=by
 refine ⟨?_,?_,fun j hj=>s.fresh j hj,?_,s.names,Nat.le_trans s.base hsz⟩
 ·intro j z hz
  rcases Mem.get_upd hz with ⟨rfl,rfl⟩ | ⟨hne,hz⟩
  ·grind
  ·rcases s.blk j z hz with hn | ⟨b',o',k',hr',hb⟩
   ·grind
   ·refine .inr ⟨b',o',k',hr',hb.mono (Sub.refl _) (hh b' ?_ hb.lt)⟩
    rintro rfl
    exact s.inj a j x z b' o k o' k' ha hz (Ne.symm hne) hown hr hr'
 ·intro j j' z z' b1 o1 k1 o2 k2 h h' hne ho hr1 hr2
  rcases Mem.get_upd h with ⟨e1,e2⟩ | ⟨hn1,g⟩
  ·rcases Mem.get_upd h' with ⟨e3,e4⟩ | ⟨hn2,g'⟩
   ·grind
   ·subst e1; exact s.inj j j' x z' b1 o1 k1 o2 k2 ha g' hne hown hr1 hr2
  ·rcases Mem.get_upd h' with ⟨e3,e4⟩ | ⟨hn2,g'⟩
   ·subst e3; exact s.inj j' j x z b1 o2 k2 o1 k1 ha g (Ne.symm hne) hown hr2 hr1
   ·exact s.inj j j' z z' b1 o1 k1 o2 k2 g g' hne ho hr1 hr2
 ·intro j z hj hz
  rcases Mem.get_upd hz with ⟨rfl,rfl⟩ | ⟨hne,hz⟩
  ·exact s.glob j x hj ha
  ·exact s.glob j z hj hz
theorem Sim.alloc (s:Sim B G ρ H w) (x:Blk) (ob:Obj) (k:Nat) (w' : World) (hw:w'.heap=w.heap.push ob)
  (hx:BR B (upd ρ H.next (w.heap.size,0,k)) x w.heap.size 0 k w') : Sim B G (upd ρ H.next (w.heap.size,0,k)) (H.add x) w':=by
 refine s.add (by grind) ?_ hx
 intro a y b' o' k' hy hr
 have hlt:=(s.at hy hr).lt
 grind
theorem alloc_at (w w' : World) (ob:Obj) (hw:w'.heap=w.heap.push ob) : w'.heap[w.heap.size]?=some ob:=by grind
theorem Ext.alloc (ρ:Rn) (n:Nat) (x:Nat×Nat×Nat) (w w' : World) (ob:Obj) (hw:w'.heap=w.heap.push ob) (hos:w'.os=w.os) (ht:w'.tape=w.tape) (ho:w'.output=w.output)
  (hB:B≤w.heap.size) (hd:w.drawn≤w'.drawn:=by first | exact Nat.le_refl _ | exact Nat.le_succ _ | assumption | omega) : Ext B n ρ w (upd ρ n x) w' :=
 ⟨fun a ha=>upd_ne _ _ (by omega),KD.push hw,hos,ht,ho,by grind,fun k hk=>by grind⟩
end Go.Ai
end
section
namespace Go.Ai
open Go.RowKit (Below)
variable {B G:Nat} {ρ:Rn} {H:Mem} {w:World} {P:Program}
theorem add_none (b x n:Nat) : Addr.add ⟨b,x,none⟩ n=⟨b,x+n,none⟩:=by
 grind [Addr.add]
theorem one_eq (v:Value) : v.oneCell'=v.oneCell:=by cases v <;> rfl
theorem cell_of {b off:Nat} {c:Array Value} {e:TypeId} {fz:Nat×Nat} {u:Value} (h:w.heap[b]?=some (.cells c e fz)) (hu:c[off]?=some u) : w.cell? ⟨b,off,none⟩=some u:=by
 grind [World.cell?]
theorem frozen_of {b off:Nat} {c:Array Value} {e:TypeId} {fz:Nat×Nat} (h:w.heap[b]?=some (.cells c e fz)) (hu:¬(fz.1≤off∧off < fz.2)) : w.frozen? ⟨b,off,none⟩=false:=by
 grind [World.frozen?]
theorem run_info {t:TypeId} {i:TypeInfo} (h:P.info? t=some i) (w:World) : (typeInfo t).run P w=.ok i w:=by
 simp [typeInfo,h]
theorem run_size {t:TypeId} {i:TypeInfo} (h:P.info? t=some i) (w:World) : (sizeOf t).run P w=.ok i.size w:=by
 simp [sizeOf,run_info h]
theorem run_und {t:TypeId} {d:TypeDesc} (h:P.underlying t=some d) (w:World) : (underlying t).run P w=.ok d w:=run_underlying h w
theorem run_zero {t:TypeId} {i:TypeInfo} {z:Value} (h:P.info? t=some i) (hz:i.zero=some z) (w:World) : (zeroValue t).run P w=.ok z w:=by
 simp_all [run_info,zeroValue]
theorem run_agg {t:TypeId} {b:Bool} {n:Nat} (h:tIsAgg P t=some (b,n)) (w:World) : (isAgg t).run P w=.ok b w∧(sizeOf t).run P w=.ok n w:=by
 unfold tIsAgg at h
 split at h
 ·rename_i d i hd hi
  cases h
  (split <;> simp_all [run_size,run_und,isAgg])
 grind
theorem BR.sub {l:List AV} {own:Bool} {z b o k off n:Nat} (h:BR B ρ (.cells l own z) b o k w) (hn:off+n≤l.length) :
  ∃ us:List Value,us.length=n∧VRs ρ ((l.drop off).take n) us∧∀ j v,us[j]?=some v→w.cell? ⟨b,o+off+j,none⟩=some v:=by
 obtain ⟨c,e,fz,hb,hc,_⟩:=h
 have hlen:((c.toList.drop (o+off)).take n).length=n:=by
  rw [List.length_take,List.length_drop]
  rcases Nat.eq_zero_or_pos n with h0 | h0
  ·omega
  ·obtain ⟨u,hu,_⟩:=hc (off+n - 1) (l[off+n - 1]'(by omega)) (by grind)
   grind
 refine ⟨(c.toList.drop (o+off)).take n,hlen,VRs.of_get ?_ ?_,?_⟩
 ·grind
 ·grind
 grind [cell_of]
theorem run_loadAll {b x:Nat} (us:List Value) (h:∀ j v,us[j]?=some v→w.cell? ⟨b,x+j,none⟩=some v) : (loadCells ⟨b,x,none⟩ us.length).run P w=.ok us.toArray w :=
 run_loadCells_list w ⟨b,x,none⟩ us fun j v hj=>by grind [add_none]
theorem loadB_sound {t:TypeId} {x:Blk} {off b o k:Nat} {v:AV} (h:loadB (tIsAgg P t) (some x) off=some v) (hb:BR B ρ x b o k w) :
  ∃ r,(Instr.loadAt t (.pointer (some ⟨b,o+off,none⟩))).run P w=.ok r w∧VR ρ v r:=by
 unfold loadB at h
 split at h
 ·rename_i l own z size hx ht
  cases hx
  obtain ⟨ha,hs⟩:=run_agg ht w
  rw [sliceK_eq] at h
  split at h
  ·rename_i hle
   cases h
   obtain ⟨us,hlen,hus,hcell⟩:=hb.sub hle
   subst hlen
   refine ⟨.agg us.toArray,?_,⟨_,rfl,by grind⟩⟩
   simp_all [run_loadAll,loadVar,Instr.sureAddr,Instr.loadAt]
  grind
 ·rename_i l own z size hx ht
  cases hx
  obtain ⟨ha,hs⟩:=run_agg ht w
  rw [nth_eq] at h
  obtain ⟨c,e,fz,hbb,hc,_⟩:=hb
  obtain ⟨u,hu,hv⟩:=hc _ _ h
  refine ⟨u,?_,hv⟩
  simp [Instr.loadAt,Instr.sureAddr,loadVar,ha,cell_of hbb hu]
 grind
theorem load_sound {t:TypeId} {p v:AV} {u:Value} (s:Sim B G ρ H w) (hG:G=P.globals.size) (h:load P H t p=some v) (hp:VR ρ p u) :
  ∃ r,(Instr.loadAt t u).run P w=.ok r w∧VR ρ v r:=by
 unfold load at h
 split at h
 ·rename_i a off
  obtain ⟨b,o,k,hr,rfl⟩:=hp
  cases hx:H.get a with
  | none=>grind [loadB]
  | some x=>rw [hx] at h; exact loadB_sound h (s.at hx hr)
 ·rename_i g off
  cases hp
  split at h
  ·rename_i hlt
   cases hx:H.get g with
   | none=>grind [loadB]
   | some x =>
    rw [hx] at h
    have h9:g+1≤P.globals.size:=by grind [Nat.ble_eq,Nat.blt]
    have hr:=s.glob g x (by grind) hx
    simpa using loadB_sound h (s.at hx hr)
  grind
 grind
theorem run_storeAll (b x:Nat) (e:TypeId) (fz:Nat×Nat) : ∀ (vs:List Value) (i:Nat) (c:Array Value) (w:World),w.heap[b]?=some (.cells c e fz) →
  (∀ j,j < c.size→¬(fz.1≤j∧j < fz.2))→x+i+vs.length≤c.size→(∀ v∈vs,v.oneCell=true) →
  ∃ w' c',(storeCells ⟨b,x,none⟩ vs i).run P w=.ok () w'∧w'.heap[b]?=some (.cells c' e fz)∧c'.size=c.size ∧
   (∀ j,c'[j]?=if x+i≤j∧j < x+i+vs.length then vs[j - (x+i)]? else c[j]?) ∧
   (∀ b',b'≠b→w'.heap[b']?=w.heap[b']?)∧(w'.heap.size=w.heap.size∧w'.drawn=w.drawn)∧w'.os=w.os∧w'.tape=w.tape∧w'.output=w.output
 | [],i,c,w,hb,hf,hl,ho=>⟨w,c,rfl,hb,rfl,fun j=>by grind,fun _ _=>rfl,⟨rfl,rfl⟩,rfl,rfl,rfl⟩
 | v :: vs,i,c,w,hb,hf,hl,ho=>by
  simp only [List.length_cons] at hl
  have hlt:x+i < c.size:=by omega
  have hcell:w.cell? ⟨b,x+i,none⟩=some c[x+i]:=cell_of hb (by grind)
  have hfr:w.frozen? ⟨b,x+i,none⟩=false:=frozen_of hb (hf _ hlt)
  have h1:(w.setCell ⟨b,x+i,none⟩ v).heap[b]?=some (.cells (c.setIfInBounds (x+i) v) e fz):=by
   grind [World.setCell]
  obtain ⟨w',c',hr,hb',hsz,hc',hoth,hs,h2,h3,h4⟩:=run_storeAll b x e fz vs (i+1) (c.setIfInBounds (x+i) v) (w.setCell ⟨b,x+i,none⟩ v) h1 (by grind) (by grind) (fun u hu=>ho u (by grind))
  refine ⟨w',c',?_,hb',by grind,?_,?_,?_,h2,h3,h4⟩
  ·simp_all [storeCells,add_none,one_eq,run_store]
  ·intro j
   rw [hc' j]
   grind
  ·intro b' hb2
   rw [hoth b' hb2]
   simp [World.setCell,Array.getElem?_modify,Ne.symm hb2]
  simp_all
theorem set_sound {a:Nat} {l new:List AV} {z b o k off:Nat} {vs:List Value} (s:Sim B G ρ H w) (ha:H.get a=some (.cells l true z)) (hr:ρ a=some (b,o,k))
  (hle:off+new.length≤l.length) (hv:VRs ρ new vs) (ho:∀ v∈vs,v.oneCell=true) :
  ∃ w',(storeCells ⟨b,o+off,none⟩ vs).run P w=.ok () w'∧Ext B H.next ρ w ρ w'∧Sim B G ρ (H.upd a (.cells (l.take off++new++l.drop (off+new.length)) true z)) w':=by
 have hBR:=s.at ha hr
 obtain ⟨c,e,fz,hb,hc,hown⟩:=hBR
 obtain ⟨hB,hf,hk,hz⟩:=hown rfl
 have hlen:=hv.length
 have hsz:o+off+vs.length≤c.size:=by
  rcases Nat.eq_zero_or_pos l.length with h0 | h0
  ·
   grind
  ·obtain ⟨u,hu,_⟩:=hc (l.length - 1) (l[l.length - 1]'(by omega)) (by grind)
   grind
 obtain ⟨w',c',hrun,hb',hcs,hcells,hoth,hws,h2,h3,h4⟩:=run_storeAll (P:=P) b (o+off) e fz vs 0 c w hb hf (by omega) ho
 refine ⟨w',hrun,⟨fun _ _=>rfl,KD.turn hb rfl (fun q hq=>hoth q hq),h2,h3,h4,by omega,fun q hq=>hoth q (by omega)⟩,?_⟩
 refine s.set ha hr rfl rfl (by omega) (fun b' hb2 _=>hoth b' hb2) ⟨c',e,fz,hb',?_,fun _=>⟨hB,by grind,by grind,?_⟩⟩
 rotate_left
 ·grind
 intro i v hi
 rw [hcells]
 by_cases h1:i < off
 ·grind
 ·by_cases h2:i < off+new.length
  ·rw [if_pos (by omega)]
   rw [List.append_assoc,List.getElem?_append_right (by grind),List.getElem?_append_left (by grind)] at hi
   have e1:min off l.length=off:=by omega
   simp only [List.length_take,e1] at hi
   obtain ⟨u,hu,huv⟩:=hv.get _ hi
   grind
  grind
end Go.Ai
end
section
namespace Go.Ai
open Go.RowKit (Below)
variable {B G:Nat} {ρ:Rn} {H:Mem} {w:World} {P:Program}
def RS (B G:Nat) (P:Program) (ρ:Rn) (H:Mem) (w:World) (r:R) (m:Sem Next) : Prop :=
 match r with
 | .val v H'=>∃ ρ' u w',m.run P w=.ok (.value u) w'∧Ext B H.next ρ w ρ' w'∧Sim B G ρ' H' w'∧VR ρ' v u∧H.next≤H'.next
 | .skip H'=>∃ ρ' w',m.run P w=.ok .skip w'∧Ext B H.next ρ w ρ' w'∧Sim B G ρ' H' w'∧H.next≤H'.next
 | .enter f args H'=>∃ us:Array Value,m.run P w=.ok (.enter f us) w∧VRs ρ args us.toList∧H'=H
 | .dfr fn cap args H'=>∃ cs as:Array Value,m.run P w=.ok (.defer { target:=.fn fn cs,args:=as }) w∧VRs ρ cap cs.toList∧VRs ρ args as.toList∧H'=H
 | .panic v H'=>∃ u,m.run P w=.halt (.panic u) w∧VR ρ v u∧H'=H
 | .recover=>m.run P w=.ok .recover w
 | .bad=>True
abbrev EvR (ρ:Rn) (ev:Ev) (e:Operand→Value) : Prop:=∀ x v,ev x=some v→VR ρ v (e x)
theorem RS.quiet {v:AV} {u:Value} {m:Sem Next} (s:Sim B G ρ H w) (h:m.run P w=.ok (.value u) w) (hv:VR ρ v u) : RS B G P ρ H w (.val v H) m :=
 ⟨ρ,u,w,h,Ext.refl _ _ _ _,s,hv,Nat.le_refl _⟩
theorem RS.ofOpt {r:Option AV} {m:Sem Next} (s:Sim B G ρ H w) (h:∀ v,r=some v→∃ u,m.run P w=.ok (.value u) w∧VR ρ v u) : RS B G P ρ H w (ofOpt H r) m:=by
 cases r with
 | none=>trivial
 | some v=>obtain ⟨u,hu,hv⟩:=h v rfl; exact RS.quiet s hu hv
theorem pureV_run {α:Type} : ∀ {m:Sem α} {a:α},pureV P m=some a→∀ w,m.run P w=.ok a w:=by
 intro m
 induction m with
 | pure b=>simp [pureV]
 | program k ih=>intro a h w; simp only [pureV] at h; exact ih _ h w
 | mark m k ih=>assumption
 | choose q k ih =>
  simp_all [pureV,Sem.run]
 | _=>grind [pureV]
theorem toLit_VR {v:AV} {x u:Value} (h:toLit v=some x) (hv:VR ρ v u) : u=x:=by
 cases v with
 | lit y=>cases h; exact hv
 | agg l =>
  obtain ⟨cs,e,r⟩:=hv
  simp only [toLit] at h
  split at h
  ·rename_i vs hvs; cases h; subst e; rw [← litAll_VRs hvs r]
  grind
 | tup l =>
  obtain ⟨cs,e,r⟩:=hv
  simp only [toLit] at h
  split at h
  ·rename_i vs hvs; cases h; subst e; rw [← litAll_VRs hvs r]
  grind
 | iface t y =>
  obtain ⟨u',e,r⟩:=hv
  cases y with
  | lit z=>cases h; cases r; exact e
  | _=>cases h
 | func fn f c =>
  obtain ⟨f',c',e,r,q⟩:=hv
  simp only [toLit] at h
  split at h
  ·rename_i x1 x2 h1 h2; cases h; subst e; rw [← litAll_VRs h1 r,← litAll_VRs h2 q]
  grind
 | _=>cases h
theorem generic_sound {ev:Ev} {e:Operand→Value} {o:Oper} {v:AV} (hs:∀ cs b,o.op≠.select cs b) (he:EvR ρ ev e) (h:generic P ev o=some v) :
  ∃ u,(execOp e o).run P w=.ok (.value u) w∧VR ρ v u:=by
 unfold generic at h
 dsimp only at h
 split at h
 ·rename_i hall
  split at h
  ·rename_i u hp
   cases h
   refine ⟨u,?_,rfl⟩
   grind [execOp_congr,pureV_run,toLit_VR]
  grind
 grind
section one
variable {ev:Ev} {e:Operand→Value} {o:Oper} (s:Sim B G ρ H w) (hG:G=P.globals.size) (he:EvR ρ ev e)
include s he
theorem s_move {x:Operand} (h:execOp e o=pure (.value (e x))) : RS B G P ρ H w (oMove H (ev x)) (execOp e o):=by
 unfold oMove
 split
 ·simp_all [RS.quiet]
 ·trivial
theorem s_pick {c a b:Operand} (h:o.op=.pick c a b) : RS B G P ρ H w (oPick H (ev c) (ev a) (ev b)) (execOp e o):=by
 unfold oPick
 split
 ·rename_i hc
  have:=he _ _ hc
  simp_all [RS.ofOpt,VR,asBool,execOp]
 ·rename_i hc
  have:=he _ _ hc
  simp_all [RS.ofOpt,VR,asBool,execOp]
 ·trivial
omit he in
theorem s_newBlk {l:List AV} {cells:Array Value} {elem:TypeId} {m:Sem Next} {v:AV} {u:Value} (z k:Nat) (hk:k * z≤cells.size) (hz:z=0∨l.length≤k * z) (hc:VRs ρ l cells.toList)
  (hrun:m.run P w=.ok (.value u) { w with heap:=w.heap.push (.cells cells elem) }) (hv:VR (upd ρ H.next (w.heap.size,0,k)) v u) :
  RS B G P ρ H w (.val v (H.add (.cells l true z))) m:=by
 refine ⟨upd ρ H.next (w.heap.size,0,k),u,_,hrun,Ext.alloc ρ _ _ w _ _ rfl rfl rfl rfl s.base,?_,hv,Nat.le_succ _⟩
 refine s.alloc _ _ k _ rfl ⟨cells,elem,(0,0),by simp,?_,fun _=>⟨s.base,by simp,by grind,hz⟩⟩
 intro i v hi
 obtain ⟨u,hu,hv⟩:=hc.get i hi
 exact ⟨u,by grind,hv.mono (sub_upd s.none)⟩
theorem s_box {t:TypeId} {x:Operand} (h:o.op=.box t x) : RS B G P ρ H w (oBox H (ev x)) (execOp e o):=by
 unfold oBox
 split
 ·rename_i v hv
  unfold newBlk
  rw [Mem.newK_eq]
  refine s_newBlk s (cells:=(e x).cells) (elem:=t) 0 0 (by simp) (.inl rfl) (he _ _ hv).cells (u:=.pointer (some ⟨w.heap.size,0,none⟩)) ?_ ⟨_,_,_,upd_same _ _ _,rfl⟩
  simp [execOp,h,Instr.box,newVar,newRow]
 ·trivial
omit he in
theorem s_alloc {t:TypeId} (h:o.op=.alloc t) : RS B G P ρ H w (oAlloc P H t) (execOp e o):=by
 unfold oAlloc
 split
 ·rename_i l hl
  unfold zeroL at hl
  split at hl
  ·rename_i i hi
   split at hl
   ·rename_i zv hz
    cases hl
    unfold newBlk
    rw [Mem.newK_eq]
    refine s_newBlk s (cells:=zv.cells) (elem:=t) 0 0 (by simp) (.inl rfl) (VRs.lits _) (u:=.pointer (some ⟨w.heap.size,0,none⟩)) ?_ ⟨_,_,_,upd_same _ _ _,rfl⟩
    simp_all [run_zero,newRow,newVar,Instr.alloc,execOp]
   grind
  grind
 ·trivial
include hG in
theorem s_load {t:TypeId} {x:Operand} (h:o.op=.load t x) : RS B G P ρ H w (oLoad P H t (ev x)) (execOp e o):=by
 unfold oLoad
 split
 ·rename_i p hp
  refine RS.ofOpt s fun v hv=>?_
  obtain ⟨r,hr,hvr⟩:=load_sound s hG hv (he _ _ hp)
  simp_all [execOp]
 ·trivial
omit s he in
theorem allOne_VRs:∀ {l:List AV} {us:List Value},VRs ρ l us→allOne l=true→∀ v∈us,v.oneCell=true
 | [],_,h,_=>by cases h; simp
 | v :: l,_,⟨u,us',e,r,q⟩,h=>by
  subst e
  simp only [allOne] at h
  split at h
  ·rename_i h1
   intro x hx
   rcases List.mem_cons.1 hx with rfl | hx
   ·exact oneC_VR r h1
   ·exact allOne_VRs q h x hx
  grind
theorem s_store {t:TypeId} {a x:Operand} (h:o.op=.store t a x) : RS B G P ρ H w (oStore P H t (ev a) (ev x)) (execOp e o):=by
 unfold oStore
 split
 ·rename_i p v hp hv
  split
  ·rename_i H' hst
   unfold store at hst
   split at hst
   ·rename_i n off
    split at hst
    ·rename_i l z bl size hb ht
     split at hst
     ·rename_i hcond
      rw [putCellsK_eq] at hst
      split at hst
      ·rename_i hle
       rw [Mem.setK_eq] at hst
       cases hst
       simp only [Bool.and_eq_true] at hcond
       have hsz:len (cellsOf v)=size:=Nat.eq_of_beq_eq_true hcond.1
       rw [len_eq] at hsz
       obtain ⟨b,q,k,hr,hu⟩:=he _ _ hp
       have hcells:=(he _ _ hv).cells
       obtain ⟨w',hrun,hext,hsim⟩:=set_sound (P:=P) s hb hr hle hcells (allOne_VRs hcells hcond.2)
       refine ⟨ρ,w',?_,hext,hsim,Nat.le_refl _⟩
       have hlen:(e x).cells.size=size:=by have:=hcells.length; grind
       simp [execOp,h,Instr.storeAt,Instr.sureAddr,hu,storeVar,(run_agg ht _).2,hlen,hrun]
      grind
     grind
    grind
   grind
  ·trivial
 ·trivial
theorem s_gen (hs:∀ cs b,o.op≠.select cs b) : RS B G P ρ H w (ofOpt H (generic P ev o)) (execOp e o) :=
 RS.ofOpt s fun _ hv=>generic_sound hs he hv
theorem s_nilCheck {x:Operand} (h:o.op=.nilCheck x) : RS B G P ρ H w (oNilCheck P H ev o (ev x)) (execOp e o):=by
 unfold oNilCheck
 split
 ·rename_i a off hv
  obtain ⟨b,q,k,hr,hu⟩:=he _ _ hv
  exact RS.quiet s (u:=e x) (by simp_all [execOp]) ⟨b,q,k,hr,hu⟩
 ·rename_i f l r hv
  obtain ⟨f',c',hu,h1,h2⟩:=he _ _ hv
  exact RS.quiet s (u:=e x) (by simp_all [execOp]) ⟨f',c',hu,h1,h2⟩
 ·rename_i t v hv
  obtain ⟨u',hu,h1⟩:=he _ _ hv
  exact RS.quiet s (u:=e x) (by simp_all [execOp]) ⟨u',hu,h1⟩
 grind [s_gen]
theorem s_makeInterface {t:TypeId} {x:Operand} (h:o.op=.makeInterface t x) : RS B G P ρ H w (oMakeInterface P H t (ev x)) (execOp e o):=by
 unfold oMakeInterface
 split
 ·trivial
 ·rename_i d v hni hd hv
  refine RS.quiet s (u:=.iface t (e x)) ?_ ⟨_,rfl,he _ _ hv⟩
  cases d <;> first | (simp [execOp,h,Instr.makeInterface,run_und hd]; done) | grind
 ·trivial
omit s in
theorem evals_VRs:∀ {l:List Operand} {vs:List AV},evals ev l=some vs→VRs ρ vs (l.map e)
 | [],_,h=>by cases h; rfl
 | x :: l,vs,h=>by
  simp only [evals] at h
  split at h
  ·rename_i v hv
   split at h
   ·rename_i ws hw; cases h; exact ⟨_,_,rfl,he _ _ hv,evals_VRs hw⟩
   grind
  grind
theorem s_makeFunc {fn:Fn} {a c:Array Operand} (h:o.op=.makeFunc fn a c) : RS B G P ρ H w (oMakeFunc H fn (evals ev a.toList) (evals ev c.toList)) (execOp e o):=by
 unfold oMakeFunc
 split
 ·rename_i x y hx hy
  refine RS.quiet s (u:=.func fn (a.map e) (c.map e)) (by simp [execOp,h,Instr.makeFunc]) ⟨_,_,rfl,?_,?_⟩
  ·simpa using evals_VRs he hx
  ·simpa using evals_VRs he hy
 ·trivial
theorem s_extract {x:Operand} {i:Nat} (h:o.op=.extract x i) : RS B G P ρ H w (oExtract H (ev x) i) (execOp e o):=by
 unfold oExtract
 split
 ·rename_i l hv
  obtain ⟨cs,hu,hr⟩:=he _ _ hv
  refine RS.ofOpt s fun v hv=>?_
  obtain ⟨u,h1,h2⟩:=hr.get i hv
  simp_all [Instr.extract,execOp]
 ·rename_i vs hv
  have hu:=he _ _ hv
  simp only [VR] at hu
  split
  ·rename_i v h1
   exact RS.quiet s (u:=v) (by simp_all [Instr.extract,execOp]) rfl
  ·trivial
 ·trivial
omit s in
theorem s_panic {x:Operand} (h:o.op=.panic x) : RS B G P ρ H w (oPanic H (ev x)) (execOp e o):=by
 unfold oPanic
 split
 ·rename_i t v hv
  obtain ⟨u',hu,h1⟩:=he _ _ hv
  exact ⟨e x,by simp_all [Instr.panic,execOp],⟨u',hu,h1⟩,rfl⟩
 ·rename_i t v hv
  have hu:=he _ _ hv
  simp only [VR] at hu
  exact ⟨e x,by simp_all [Instr.panic,execOp],by grind,rfl⟩
 ·trivial
end one
end Go.Ai
end
section
namespace Go.Ai
open Go.RowKit (Below)
variable {B G:Nat} {ρ:Rn} {H:Mem} {w:World} {P:Program}
section one
variable {ev:Ev} {e:Operand→Value} {o:Oper} (s:Sim B G ρ H w) (he:EvR ρ ev e)
theorem natOf_VR {v:AV} {n:Nat} {u:Value} (h:natOf v=some n) (hv:VR ρ v u) : ∃ k,u=.int k n:=by
 unfold natOf at h
 split at h
 ·cases h; cases hv; grind
 grind
theorem s_orGen {r:Option AV} (s:Sim B G ρ H w) (he:EvR ρ ev e) (hs:∀ cs b,o.op≠.select cs b) (h:∀ v,r=some v→∃ u,(execOp e o).run P w=.ok (.value u) w∧VR ρ v u) :
  RS B G P ρ H w (orGen P H ev o r) (execOp e o):=by
 unfold orGen
 split
 ·rename_i v; obtain ⟨u,hu,hv⟩:=h v rfl; grind [RS.quiet]
 grind [s_gen]
include s he
theorem s_fieldAddr {t:TypeId} {x:Operand} {f:Nat} (h:o.op=.fieldAddr t x f) : RS B G P ρ H w (oFieldAddr P H ev o t (ev x) f) (execOp e o):=by
 unfold oFieldAddr
 split
 ·rename_i v hv
  refine s_orGen s he (by grind) fun r hr=>?_
  unfold fieldAddr at hr
  split at hr
  ·rename_i fields a off hd
   obtain ⟨b,q,k,hp,hu⟩:=he _ _ hv
   split at hr
   ·rename_i fd hf
    split at hr
    ·rename_i i hi
     split at hr
     ·grind
     ·rename_i hz
      rw [natK_eq] at hr
      cases hr
      have hz' : i.size≠0:=by intro h0; simp_all
      refine ⟨.pointer (some ⟨b,q+off+fd.offset,none⟩),?_,⟨b,q,k,hp,by grind⟩⟩
      simp_all [add_none,run_size,fieldPlace,Instr.sureAddr,run_und,Instr.fieldAt,execOp]
    grind
   grind
  grind
 ·trivial
theorem s_indexAddr {t:TypeId} {x i:Operand} (h:o.op=.indexAddr t x i) : RS B G P ρ H w (oIndexAddr P H ev o t (ev x) (ev i)) (execOp e o):=by
 unfold oIndexAddr
 split
 ·rename_i v k hv hk
  refine s_orGen s he (by grind) fun r hr=>?_
  unfold indexAddr at hr
  split at hr
  ·rename_i el a off n c j hd hj
   obtain ⟨ki,hi⟩:=natOf_VR hj (he _ _ hk)
   obtain ⟨b,q,kk,hp,hle,hu⟩:=he _ _ hv
   split at hr
   ·rename_i info hinfo
    split at hr
    ·rename_i hlt
     rw [natK_eq] at hr
     cases hr
     have hlt' : j < n:=by simp_all
     refine ⟨.pointer (some ⟨b,q+off+j * info.size,none⟩),?_,⟨b,q,kk,hp,by grind⟩⟩
     simp [execOp,h,Instr.indexAt,hi,asIntOf,run_und hd,hu,hlt',run_size hinfo,add_none]
    grind
   grind
  ·rename_i el a off n c j hd hj
   obtain ⟨ki,hi⟩:=natOf_VR hj (he _ _ hk)
   obtain ⟨b,q,kk,hp,hle,hu⟩:=he _ _ hv
   split at hr
   ·rename_i info hinfo
    split at hr
    ·rename_i hlt
     rw [natK_eq] at hr
     cases hr
     have hlt' : j < n:=by simp_all
     refine ⟨.pointer (some ⟨b,q+off+j * info.size,none⟩),?_,⟨b,q,kk,hp,by grind⟩⟩
     simp [execOp,h,Instr.indexAt,hi,asIntOf,run_und hd,hu,hlt',run_size hinfo,add_none]
    grind
   grind
  ·rename_i n el a off j hd hj
   obtain ⟨ki,hi⟩:=natOf_VR hj (he _ _ hk)
   obtain ⟨b,q,kk,hp,hu⟩:=he _ _ hv
   split at hr
   ·rename_i info hinfo
    split at hr
    ·rename_i hlt
     rw [natK_eq] at hr
     cases hr
     have hlt' : j < n:=by simp_all
     refine ⟨.pointer (some ⟨b,q+off+j * info.size,none⟩),?_,⟨b,q,kk,hp,by grind⟩⟩
     simp [execOp,h,Instr.indexAt,hi,asIntOf,run_und hd,hu,Instr.sureAddr,hlt',run_size hinfo,add_none]
    grind
   grind
  grind
 ·trivial
omit s he in
theorem asAggL_VR {v:AV} {l:List AV} {u:Value} (h:asAggL v=some l) (hv:VR ρ v u) : ∃ cs,u=.agg cs∧VRs ρ l cs.toList:=by
 unfold asAggL at h
 split at h
 ·cases h; cases hv; exact ⟨_,rfl,VRs.lits _⟩
 ·cases h; exact hv
 grind
omit s he in
theorem partL_sound {t:TypeId} {l:List AV} {cs:Array Value} {off:Nat} {v:AV} (h:partL P t l off=some v) (hl:VRs ρ l cs.toList) (w:World) :
  ∃ u,(part t cs off).run P w=.ok u w∧VR ρ v u:=by
 unfold partL at h
 split at h
 ·rename_i size ht
  obtain ⟨ha,hs⟩:=run_agg ht w
  split at h
  ·cases h
   refine ⟨.agg (cs.extract off (off+size)),by simp_all [part],⟨_,rfl,?_⟩⟩
   simp_all [VRs.drop,VRs.take]
  grind
 ·rename_i size ht
  obtain ⟨ha,hs⟩:=run_agg ht w
  obtain ⟨u,hu,hv⟩:=hl.get _ h
  simp_all [part]
 grind
theorem s_field {t:TypeId} {x:Operand} {f:Nat} (h:o.op=.field t x f) : RS B G P ρ H w (oField P H t (ev x) f) (execOp e o):=by
 unfold oField
 split
 ·rename_i v hv
  refine RS.ofOpt s fun r hr=>?_
  unfold field at hr
  split at hr
  ·rename_i fields l hd hl
   obtain ⟨cs,hu,hcs⟩:=asAggL_VR hl (he _ _ hv)
   split at hr
   ·rename_i fd hf
    obtain ⟨u,h1,h2⟩:=partL_sound hr hcs w
    simp_all [asAgg,run_und,Instr.field,execOp]
   grind
  grind
 ·trivial
theorem s_index {t:TypeId} {x i:Operand} (h:o.op=.index t x i) : RS B G P ρ H w (oIndex P H ev o t (ev x) (ev i)) (execOp e o):=by
 unfold oIndex
 split
 ·rename_i v k hv hk
  split
  ·rename_i r hr
   unfold index at hr
   split at hr
   ·rename_i n el l j hd hl hj
    obtain ⟨ki,hi⟩:=natOf_VR hj (he _ _ hk)
    obtain ⟨cs,hu,hcs⟩:=asAggL_VR hl (he _ _ hv)
    split at hr
    ·rename_i info hinfo
     split at hr
     ·rename_i hlt
      obtain ⟨u,h1,h2⟩:=partL_sound hr hcs w
      simp_all [run_size,run_und,asIntOf,Instr.index,execOp,RS.quiet]
     grind
    grind
   grind
  ·refine RS.ofOpt s fun r hr=>?_
   obtain ⟨u,h1,h2⟩:=generic_sound (P:=P) (w:=w) (by grind) he hr
   grind
 ·trivial
theorem s_typeAssert {x:Operand} {xt t:TypeId} {ok:Bool} (h:o.op=.typeAssert x xt t ok) : RS B G P ρ H w (oTypeAssert P H ev o (ev x) t ok) (execOp e o):=by
 unfold oTypeAssert
 split
 ·rename_i r hr
  obtain ⟨u,h1,h2⟩:=generic_sound (P:=P) (w:=w) (by grind) he hr
  grind [RS.quiet]
 ·split
  ·rename_i v hv
   refine RS.ofOpt s fun r hr=>?_
   unfold typeAssert at hr
   split at hr
   ·rename_i want ty y hd
    obtain ⟨u',hu,h1⟩:=he _ _ hv
    split at hr
    ·rename_i info hinfo
     split at hr
     ·rename_i hm
      cases hr
      cases ok
      ·(simp_all [run_info,run_und,Instr.typeAssert,execOp]; grind)
      ·exact ⟨.tuple #[e x,.bool true],by simp_all [run_info,run_und,Instr.typeAssert,execOp],⟨_,rfl,_,_,rfl,⟨u',hu,h1⟩,_,_,rfl,rfl,rfl⟩⟩
     ·rename_i m hm
      cases ok
      ·grind
      ·simp only [if_true] at hr
       split at hr
       ·rename_i j hj
        split at hr
        ·rename_i zv hz
         cases hr
         exact ⟨.tuple #[zv,.bool false],by simp_all [run_zero,run_info,run_und,Instr.typeAssert,execOp],⟨_,rfl,_,_,rfl,rfl,_,_,rfl,rfl,rfl⟩⟩
        grind
       grind
    grind
   ·rename_i d ty y hni hd
    obtain ⟨u',hu,h1⟩:=he _ _ hv
    have hd' : ∀ ms,d≠.interface ms:=fun ms hm=>by grind
    split at hr
    ·rename_i hty
     cases hr
     subst hty
     cases ok
     ·refine ⟨u',?_,h1⟩
      cases d <;> first | (simp [execOp,h,Instr.typeAssert,run_und hd,hu]; done) | grind
     ·refine ⟨.tuple #[u',.bool true],?_,⟨_,rfl,_,_,rfl,h1,_,_,rfl,rfl,rfl⟩⟩
      cases d <;> first | (simp [execOp,h,Instr.typeAssert,run_und hd,hu]; done) | grind
    ·rename_i hty
     cases ok
     ·grind
     ·simp only [if_true] at hr
      have hty' : ¬(ty=t):=hty
      split at hr
      ·rename_i j hj
       split at hr
       ·rename_i zv hz
        cases hr
        refine ⟨.tuple #[zv,.bool false],?_,⟨_,rfl,_,_,rfl,rfl,_,_,rfl,rfl,rfl⟩⟩
        cases d <;> first | (simp [execOp,h,Instr.typeAssert,run_und hd,hu,hty',run_zero hj hz]; done) | grind
       grind
      grind
   grind
  ·trivial
end one
end Go.Ai
end
