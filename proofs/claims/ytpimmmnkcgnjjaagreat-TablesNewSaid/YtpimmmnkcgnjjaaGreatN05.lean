/- A small verified interpreter over names, its proofs, and what was proved with it. No condition. -/
import Derived.Test.YtpimmmnkcgnjjaaGreatN01
import Derived.Test.YtpimmmnkcgnjjaaGreatN04
set_option linter.all false
set_option linter.deprecated false
section
namespace Go.Ai
inductive It where
 | run (i:Nat)
 | mk (i:Nat)
 | gate (hs as:List Nat)
 deriving DecidableEq,Repr
structure Hs where
 cl:List Nat
 di:List Nat
 acl:List Nat
 adi:List Nat
def planStage (ops:List Oper) : List Nat→Hs→(Hs→List It)→List It
 | [],s,K=>K s
 | i :: l,s,K=>match ops[i]? with
  | some o=>match cls o.op with
   | .alloc=>.mk i :: planStage ops l ⟨[],s.cl++s.di,[i],s.acl++s.adi⟩ K
   | .read=>.run i :: planStage ops l ⟨i :: s.cl,s.di,s.acl,s.adi⟩ K
   | _=>.run i :: planStage ops l s K
  | none=>[]
def gateK (s:Hs) (K:Hs→List It) : List It:=match s.di,s.adi with
 | [],[]=>K s
 | _,_=>.gate s.di s.adi :: K ⟨s.di++s.cl,[],s.adi++s.acl,[]⟩
def planIn (tab all:List Nat) (ops:List Oper) : Nat→List Nat→Hs→List It
 | k,[],s=>planStage ops (stageOf tab all k ops 0) s fun s=>gateK s fun _=>[]
 | k,c :: cs,s=>planStage ops (stageOf tab all k ops 0) s fun s=>gateK s fun s =>
   .run c :: planIn tab all ops (k+1) cs ⟨[],s.cl.filter fun i=>!isAnc tab c i,[],s.acl.filter fun i=>!isAnc tab c i⟩
def planOf (ops:List Oper) : List It:=planIn (ancs [] ops) (chainOf ops 0) ops 0 (chainOf ops 0) ⟨[],[],[],[]⟩
def tmpsOf (o:Oper) : List Tmp:=o.op.operands.toList.filterMap fun x=>match x with | .tmp t=>some t | _=>none
def cmpW (tab:List Nat) (ops:List Oper) (i:Nat) (t:Tmp) : Bool:=match writer t ops 0 with
 | none=>true
 | some j=>isAnc tab i j || (isAnc tab j i || Nat.beq i j)
def ahead (tab:List Nat) (ops:List Oper) (i:Nat) (t:Tmp) : Bool:=match writer t ops 0 with
 | none=>true
 | some j=>isAnc tab i j
def plainT (P:Program) (t:TypeId) : Bool:=match P.underlying t with | some (.slice _)=>false | some _=>true | none=>false
def convFit (P:Program) (o:Oper) : Bool:=match o.op with
 | .convert s d _=>plainT P s && plainT P d
 | _=>true
def flatOne (P:Program) (tab:List Nat) (ops:List Oper) (o:Oper) (i:Nat) : Bool :=
 (tmpsOf o).all (cmpW tab ops i) && (match o.guard with | none=>true | some g=>isAnc tab i g.1) && convFit P o
def flatAll (P:Program) (tab:List Nat) (ops:List Oper) : List Oper→Nat→Bool
 | [],_=>true
 | o :: l,i=>flatOne P tab ops o i && flatAll P tab ops l (i+1)
def againFit (tab:List Nat) (ops:List Oper) (i:Nat) : Bool:=match ops[i]? with
 | some o=>o.dst.isSome && (tmpsOf o).all (ahead tab ops i)
 | none=>false
def topo (tab:List Nat) (ops:List Oper) : Nat→List It→Bool
 | s,[]=>Nat.beq (s+1) (2 ^ ops.length)
 | s,.run i :: l=>!s.testBit i && Nat.beq ((tab.getD i 0) &&& s) (tab.getD i 0) && topo tab ops (s ||| 2 ^ i) l
 | s,.mk i :: l=>!s.testBit i && Nat.beq ((tab.getD i 0) &&& s) (tab.getD i 0) && topo tab ops (s ||| 2 ^ i) l
 | s,.gate hs _ :: l=>hs.all (againFit tab ops) && topo tab ops s l
def flatOk (P:Program) (ops:List Oper) : Bool :=
 planOk ops && Tables.follows P.toTables .mixedOrders && flatAll P (ancs [] ops) ops ops 0 && topo (ancs [] ops) ops 0 (planOf ops)
variable {P:Program} {H:Mem} {ev ev' : Ev}
theorem evals_congr:∀ {l:List Operand},(∀ x∈l,ev x=ev' x)→evals ev l=evals ev' l
 | [],_=>rfl
 | x :: l,h=>by
  unfold evals
  rw [h x (by simp),evals_congr fun y hy=>h y (by simp [hy])]
theorem evalParts_congr:∀ {l:List (Nat×Operand)},(∀ x∈l.map (·.2),ev x=ev' x)→evalParts ev l=evalParts ev' l
 | [],_=>rfl
 | (i,x) :: l,h=>by
  unfold evalParts
  rw [h x (by simp),evalParts_congr fun y hy=>h y (by simp at hy ⊢; exact .inr hy)]
theorem all_congr' {α:Type} {p q:α→Bool} : ∀ {l:List α},(∀ x∈l,p x=q x)→l.all p=l.all q
 | [],_=>rfl
 | x :: l,h=>by
  grind
theorem ite_pure {c c' : Bool} {s s' : Sem Next} (h1:c=c') (h2:s=s') : (if c=true then (match pureV P s with | some (.value v)=>some (AV.lit v) | _=>none) else none)=(if c'=true then (match pureV P s' with | some (.value v)=>some (AV.lit v) | _=>none) else none):=by
 grind
theorem generic_congr {o:Oper} (hs:∀ cs b,o.op≠.select cs b) (h:∀ x∈o.op.operands.toList,ev x=ev' x) : generic P ev o=generic P ev' o:=by
 unfold generic
 have h1:(o.op.operands.toList.all fun x=>match ev x with | some v=>(match toLit v with | some _=>true | none=>false) | none=>false)=(o.op.operands.toList.all fun x=>match ev' x with | some v=>(match toLit v with | some _=>true | none=>false) | none=>false) :=
  all_congr' fun x hx=>by grind
 have h2:=execOp_congr (ρ:=fun x=>match ev x with | some v=>(match toLit v with | some u=>u | none=>undef) | none=>undef) (ρ':=fun x=>match ev' x with | some v=>(match toLit v with | some u=>u | none=>undef) | none=>undef) o hs
  fun x hx=>by grind
 exact ite_pure h1 h2
theorem evOpt_congr {y:Option Operand} (h:∀ x∈y.toArray.toList,ev x=ev' x) : evOpt ev y=evOpt ev' y:=by
 (simp_all [evOpt]; grind)
theorem opV_evs {o:Oper} (hs:∀ cs b,o.op≠.select cs b) (h:∀ x∈o.op.operands.toList,ev x=ev' x) : opV P H ev o=opV P H ev' o:=by
 have hg:=generic_congr (P:=P) hs h
 unfold opV
 cases hop:o.op with
 | select cs b=>rfl
 | move x=>rw [hop] at h; show oMove H (ev x)=oMove H (ev' x); grind [Op.operands]
 | assign x=>rw [hop] at h; show oMove H (ev x)=oMove H (ev' x); grind [Op.operands]
 | pick c a b=>rw [hop] at h; show oPick H (ev c) (ev a) (ev b)=oPick H (ev' c) (ev' a) (ev' b); grind [Op.operands]
 | alloc t=>rfl
 | box t x=>rw [hop] at h; show oBox H (ev x)=oBox H (ev' x); grind [Op.operands]
 | build t ps=>rw [hop] at h; show oBuild P H t (evalParts ev ps.toList)=oBuild P H t (evalParts ev' ps.toList); grind [Op.operands,evalParts_congr]
 | buildSlice t n ps=>rw [hop] at h; show oBuildSlice P H t n (evalParts ev ps.toList)=oBuildSlice P H t n (evalParts ev' ps.toList); grind [Op.operands,evalParts_congr]
 | insert t m k x=>rw [hop] at h; show oMapUpdate P H t (ev m) (ev k) (ev x)=oMapUpdate P H t (ev' m) (ev' k) (ev' x); grind [Op.operands]
 | mapUpdate t m k x=>rw [hop] at h; show oMapUpdate P H t (ev m) (ev k) (ev x)=oMapUpdate P H t (ev' m) (ev' k) (ev' x); grind [Op.operands]
 | load t a=>rw [hop] at h; show oLoad P H t (ev a)=oLoad P H t (ev' a); grind [Op.operands]
 | store t a x=>rw [hop] at h; show oStore P H t (ev a) (ev x)=oStore P H t (ev' a) (ev' x); grind [Op.operands]
 | nilCheck x=>rw [hop] at h; show oNilCheck P H ev o (ev x)=oNilCheck P H ev' o (ev' x); simp_all [oNilCheck,Op.operands]
 | binOp op t x y r=>rw [hop] at h; show oBin P H ev o op t (ev x) (ev y)=oBin P H ev' o op t (ev' x) (ev' y); grind [oBin,Op.operands]
 | unOp op t x=>show ofOpt H (generic P ev o)=ofOpt H (generic P ev' o); rw [hg]
 | convert s d x=>rw [hop] at h; show oConvert P H ev o s d (ev x)=oConvert P H ev' o s d (ev' x); simp_all [oConvert,Op.operands]
 | makeInterface t x=>rw [hop] at h; show oMakeInterface P H t (ev x)=oMakeInterface P H t (ev' x); grind [Op.operands]
 | makeFunc fn a b =>
  rw [hop] at h
  show oMakeFunc H fn (evals ev a.toList) (evals ev b.toList)=oMakeFunc H fn (evals ev' a.toList) (evals ev' b.toList)
  grind [Op.operands,evals_congr]
 | makeMap t r =>
  rw [hop] at h
  show oMakeMap P H ev t r=oMakeMap P H ev' t r
  (simp_all [oMakeMap,Op.operands]; grind)
 | makeSlice t l c=>rw [hop] at h; show oMakeSlice P H t (ev l) (ev c)=oMakeSlice P H t (ev' l) (ev' c); grind [Op.operands]
 | slice t x lo hi mx =>
  rw [hop] at h
  show oSlice P H ev o t (ev x) lo hi mx=oSlice P H ev' o t (ev' x) lo hi mx
  unfold oSlice oSliceN
  grind [Op.operands,evOpt_congr]
 | fieldAddr s x f=>rw [hop] at h; show oFieldAddr P H ev o s (ev x) f=oFieldAddr P H ev' o s (ev' x) f; simp_all [orGen,oFieldAddr,Op.operands]
 | field t x f=>rw [hop] at h; show oField P H t (ev x) f=oField P H t (ev' x) f; grind [Op.operands]
 | indexAddr t x i=>rw [hop] at h; show oIndexAddr P H ev o t (ev x) (ev i)=oIndexAddr P H ev' o t (ev' x) (ev' i); simp_all [orGen,oIndexAddr,Op.operands]
 | index t x i=>rw [hop] at h; show oIndex P H ev o t (ev x) (ev i)=oIndex P H ev' o t (ev' x) (ev' i); simp_all [oIndex,Op.operands]
 | lookup t m k ok=>rw [hop] at h; show oLookup P H ev o t (ev m) (ev k) ok=oLookup P H ev' o t (ev' m) (ev' k) ok; simp_all [oLookup,Op.operands]
 | range t x=>rw [hop] at h; show oRange P H t (ev x)=oRange P H t (ev' x); grind [Op.operands]
 | next x b=>rw [hop] at h; cases b with
  | true=>show oNext H (ev x)=oNext H (ev' x); grind [Op.operands]
  | false=>rfl
 | typeAssert x s t ok=>rw [hop] at h; show oTypeAssert P H ev o (ev x) t ok=oTypeAssert P H ev' o (ev' x) t ok; simp_all [oTypeAssert,Op.operands]
 | extract t i=>rw [hop] at h; show oExtract H (ev t) i=oExtract H (ev' t) i; grind [Op.operands]
 | panic x=>rw [hop] at h; show oPanic H (ev x)=oPanic H (ev' x); grind [Op.operands]
 | call c =>
  rw [hop] at h
  show callOp P H ev o c=callOp P H ev' o c
  have ha:evals ev c.args.toList=evals ev' c.args.toList:=evals_congr fun x hx=>h x (by grind [Call.operands,Op.operands])
  unfold callOp
  rw [ha]
  cases hc:c.callee with
  | value f=>grind [Call.operands,Op.operands]
  | invoke r m=>grind [oInvoke,Call.operands,Op.operands]
  | builtin b=>simp_all [oCap,oLen,oBuiltin]
 | defer c =>
  rw [hop] at h
  show deferOp H ev c=deferOp H ev' c
  grind [Call.operands,Op.operands,evals_congr,deferOp]
 | _=>rfl
theorem noSelect {o:Oper} (h:cls o.op≠.no) : ∀ cs b,o.op≠.select cs b:=by
 intro cs b e
 rw [e] at h
 exact h rfl
end Go.Ai
end
section
namespace Go.Ai
variable {P:Program} {H:Mem} {ev:Ev} {o:Oper}
def vb:R→Bool
 | .val _ _=>true
 | .bad=>true
 | _=>false
theorem vb_opt (x:Option AV) : vb (ofOpt H x)=true:=by cases x <;> rfl
theorem vb_new (l:List AV) (b:Bool) (v:AV) : vb (newBlk H l b v)=true:=by unfold newBlk; rw [Mem.newK_eq]; rfl
theorem vb_free (h:freeOp o.op=true) : vb (opV P H ev o)=true:=by
 have gen:∀ (x:Option AV),vb (match (x:Option AV) with | some v=>R.val v H | none=>.bad)=true:=by intro x; cases x <;> rfl
 have or' : ∀ (x:Option AV),vb (orGen P H ev o x)=true:=by
  intro x; unfold orGen; cases x with
  | none=>exact vb_opt _
  | some v=>rfl
 unfold opV
 cases hop:o.op with
 | move x=>show vb (oMove H (ev x))=true; unfold oMove; (split <;> rfl)
 | assign x=>show vb (oMove H (ev x))=true; unfold oMove; (split <;> rfl)
 | pick c a b=>show vb (oPick H (ev c) (ev a) (ev b))=true; unfold oPick; split <;> first | exact vb_opt _ | rfl
 | build t ps=>show vb (oBuild P H t (evalParts ev ps.toList))=true; unfold oBuild; split <;> first | exact vb_opt _ | rfl
 | nilCheck x=>show vb (oNilCheck P H ev o (ev x))=true; unfold oNilCheck; split <;> first | exact vb_opt _ | rfl
 | binOp op t x y r =>
  show vb (oBin P H ev o op t (ev x) (ev y))=true
  unfold oBin
  split
  ·rfl
  ·split
   ·rfl
   ·unfold oNilEq; split
    ·split <;> rfl
    ·rfl
 | unOp op t x=>show vb (ofOpt H (generic P ev o))=true; exact vb_opt _
 | makeInterface t x=>show vb (oMakeInterface P H t (ev x))=true; unfold oMakeInterface; split <;> rfl
 | makeFunc fn a b=>show vb (oMakeFunc H fn (evals ev a.toList) (evals ev b.toList))=true; unfold oMakeFunc; split <;> rfl
 | slice t x lo hi mx =>
  show vb (oSlice P H ev o t (ev x) lo hi mx)=true
  unfold oSlice
  split
  ·rfl
  ·unfold oSliceN; split
   ·split <;> first | exact vb_opt _ | rfl
   ·rfl
 | fieldAddr s x f=>show vb (oFieldAddr P H ev o s (ev x) f)=true; unfold oFieldAddr; split <;> first | exact or' _ | rfl
 | field t x f=>show vb (oField P H t (ev x) f)=true; unfold oField; split <;> first | exact vb_opt _ | rfl
 | indexAddr t x i=>show vb (oIndexAddr P H ev o t (ev x) (ev i))=true; unfold oIndexAddr; split <;> first | exact or' _ | rfl
 | index t x i =>
  show vb (oIndex P H ev o t (ev x) (ev i))=true
  unfold oIndex; split
  ·split <;> first | exact vb_opt _ | rfl
  ·rfl
 | typeAssert x s t ok =>
  show vb (oTypeAssert P H ev o (ev x) t ok)=true
  unfold oTypeAssert; split
  ·rfl
  ·split <;> first | exact vb_opt _ | rfl
 | extract t i =>
  show vb (oExtract H (ev t) i)=true
  unfold oExtract; split
  ·exact vb_opt _
  ·split <;> rfl
  ·rfl
 | _=>rw [hop] at h; cases h
theorem vb_read (h:cls o.op=.read) : vb (opV P H ev o)=true:=by
 unfold opV
 cases hop:o.op <;> rw [hop] at h <;> first | (simp [cls,freeOp] at h; done) | skip
 ·rename_i t x
  show vb (oLoad P H t (ev x))=true
  unfold oLoad; split <;> first | exact vb_opt _ | rfl
 ·rename_i t m k ok
  show vb (oLookup P H ev o t (ev m) (ev k) ok)=true
  unfold oLookup; split <;> first | exact vb_opt _ | rfl
 ·rename_i c
  show vb (callOp P H ev o c)=true
  unfold callOp
  split
  ·rfl
  ·simp only [cls,freeOp] at h
   split
   ·rename_i b hc
    rw [hc] at h
    unfold oBuiltin
    cases b <;> first | (cases h; done) | skip
    ·dsimp only; unfold oCap
     split
     ·rfl
     ·split <;> rfl
    ·dsimp only; unfold oLen
     split
     ·exact vb_opt _
     ·unfold oLenN
      split <;> first | rfl | skip
      split <;> rfl
   all_goals grind
theorem vb_alloc (h:cls o.op=.alloc) : vb (opV P H ev o)=true:=by
 unfold opV
 rcases cls_alloc h with ⟨t,hop⟩ | ⟨t,x,hop⟩ | ⟨t,n,ps,hop⟩ | ⟨t,l,c,hop⟩ | ⟨t,r,hop⟩ <;> rw [hop]
 ·show vb (oAlloc P H t)=true; unfold oAlloc; split <;> first | exact vb_new _ _ _ | rfl
 ·show vb (oBox H (ev x))=true; unfold oBox; split <;> first | exact vb_new _ _ _ | rfl
 ·show vb (oBuildSlice P H t n (evalParts ev ps.toList))=true
  unfold oBuildSlice; split
  ·split
   ·split <;> first | exact vb_new _ _ _ | rfl
   ·rfl
  ·rfl
 ·show vb (oMakeSlice P H t (ev l) (ev c))=true
  unfold oMakeSlice; split
  ·split <;> first | exact vb_new _ _ _ | rfl
  ·rfl
 ·show vb (oMakeMap P H ev t r)=true
  unfold oMakeMap; split
  ·rw [Mem.newK_eq]; rfl
  ·split
   ·rw [Mem.newK_eq]; rfl
   ·rfl
theorem plain_noconv {s d:TypeId} {x:AV} (hs:plainT P s=true) (hd:plainT P d=true) : convert P H s d x=none:=by
 (simp_all [plainT,convert]; grind)
theorem gen_form (h:cls o.op=.gen) (hc:convFit P o=true) : opV P H ev o=.bad∨∃ v,opV P H ev o=.val v H∧generic P ev o=some v:=by
 have opt:ofOpt H (generic P ev o)=.bad∨∃ v,ofOpt H (generic P ev o)=.val v H∧generic P ev o=some v:=by
  cases hg:generic P ev o with
  | none=>exact .inl rfl
  | some v=>exact .inr ⟨v,rfl,rfl⟩
 unfold opV
 unfold convFit at hc
 cases hop:o.op <;> rw [hop] at h hc <;> first | (simp [cls,freeOp] at h; done) | skip
 ·rename_i s d x
  show oConvert P H ev o s d (ev x)=.bad∨∃ v,oConvert P H ev o s d (ev x)=.val v H∧_
  unfold oConvert
  simp only [Bool.and_eq_true] at hc
  cases hg:generic P ev o with
  | some v=>grind
  | none =>
   grind [plain_noconv]
 ·rename_i c
  simp only [cls,freeOp] at h
  show callOp P H ev o c=.bad∨∃ v,callOp P H ev o c=.val v H∧_
  unfold callOp
  split
  ·grind
  grind [oBuiltin]
def acts:R→Bool
 | .dfr _ _ _ _=>false
 | .panic _ _=>false
 | .recover=>false
 | _=>true
theorem acts_enter (f:FuncId) (args:List AV) : acts (enterF P H f args)=true:=by unfold enterF; split <;> rfl
theorem acts_chain (h:cls o.op=.chain) : acts (opV P H ev o)=true:=by
 have upd:∀ (t:TypeId) (m k x:Option AV),acts (oMapUpdate P H t m k x)=true:=by
  intro t m k x
  unfold oMapUpdate
  split
  ·split <;> rfl
  ·rfl
 unfold opV
 cases hop:o.op <;> rw [hop] at h <;> first | (simp [cls,freeOp] at h; done) | skip
 ·exact upd _ _ _ _
 ·rename_i t a x
  show acts (oStore P H t (ev a) (ev x))=true
  unfold oStore
  split
  ·split <;> rfl
  ·rfl
 ·exact upd _ _ _ _
 ·rename_i c
  simp only [cls,freeOp] at h
  show acts (callOp P H ev o c)=true
  unfold callOp
  split
  ·rfl
  ·split
   ·rename_i b hcb
    rw [hcb] at h
    unfold oBuiltin
    cases b <;> first | (cases h; done) | skip
    ·dsimp only; unfold oAppend; split
     ·split <;> rfl
     ·rfl
    ·dsimp only; unfold oCopy; split
     ·split <;> rfl
     ·rfl
   ·unfold oInvoke
    split
    ·split
     ·split
      ·grind [acts_enter]
      ·rfl
     ·rfl
    ·rfl
   ·unfold oValue; split <;> first | exact acts_enter _ _ | rfl
theorem quiet_form (h1:cls o.op≠.chain) (h2:cls o.op≠.no) (h3:cls o.op≠.alloc) (hc:convFit P o=true) : opV P H ev o=.bad∨∃ v,opV P H ev o=.val v H∧quiet P H ev o=some v:=by
 cases hcl:cls o.op with
 | free =>
  have hf:freeOp o.op=true:=by
   cases hf:freeOp o.op with
   | true=>rfl
   | false =>
    (simp_all [cls]; grind)
  have:=vb_free (P:=P) (H:=H) (ev:=ev) hf
  cases hv:opV P H ev o with
  | val v H' =>
   obtain ⟨rfl,_⟩:=freeOp_sound hf H v H' hv
   exact .inr ⟨v,rfl,by grind [quiet]⟩
  | bad=>grind
  | _=>rw [hv] at this; cases this
 | read =>
  have:=vb_read (P:=P) (H:=H) (ev:=ev) hcl
  cases hv:opV P H ev o with
  | val v H' =>
   have:=read_keeps hcl hv
   subst this
   exact .inr ⟨v,rfl,by grind [quiet]⟩
  | bad=>grind
  | _=>rw [hv] at this; cases this
 | gen =>
  grind [gen_form,quiet]
 | chain=>grind
 | no=>grind
 | alloc=>grind
end Go.Ai
end
section
namespace Go.Ai
abbrev AlP:=List (Nat×Nat×Option Blk)
noncomputable def slotOf (fr:Fr) (d:Option Tmp) : Option AV:=match d with | some d=>fr.get d | none=>none
noncomputable def againW (P:Program) (W:WF) (ops:Array Oper) (fr:Fr) (H:Mem) : List Nat→Prop
 | []=>True
 | i :: l=>(match ops[i]? with
  | some o=>oneW P W ops o fr H (fun fr' _=>slotOf fr' o.dst=slotOf fr o.dst) (fun _=>False)
  | none=>False)∧againW P W ops fr H l
noncomputable def keptW (H:Mem) (as:List Nat) : AlP→Prop
 | []=>True
 | (i,a,b) :: l=>(i∈as→H.get a=b)∧keptW H as l
noncomputable def planW (P:Program) (W:WF) (ops:Array Oper) (Q:Out→Prop) : List It→Fr→Mem→AlP→Prop
 | [],fr,H,_=>Q (.norm fr H)
 | .run i :: l,fr,H,als=>match ops[i]? with
  | some o=>oneW P W ops o fr H (fun fr H=>planW P W ops Q l fr H als) Q
  | none=>False
 | .mk i :: l,fr,H,als=>match ops[i]? with
  | some o=>oneW P W ops o fr H (fun fr H'=>planW P W ops Q l fr H' ((i,H.next,H'.get H.next) :: als)) Q
  | none=>False
 | .gate hs as :: l,fr,H,als=>againW P W ops fr H hs∧keptW H as als∧planW P W ops Q l fr H als
noncomputable def clearQ (Q:Out→Prop) : Out→Prop
 | .panic v fr H=>Q (.panic v fr.clear H)
 | r=>Q r
theorem Mem.get_add_same (H:Mem) (b:Blk) : (H.add b).get H.next=some b:=by
 obtain ⟨t,n⟩:=H
 cases t with
 | tr t =>
  show get4 (u4 t n (.v n b)) n=some b
  simp [get4,at4_same,leaf]
 | fn g=>exact if_pos rfl
variable {P:Program} {W:WF} {ops:Array Oper} {g:Nat→Option AV} {ds:List Dfr} {Q:Out→Prop} {S:Nat} {res:ResF} {H:Mem} {held:List Nat} {als:Als} {alsP:AlP} {i:Nat} {o:Oper}
structure PI (ops:Array Oper) (S:Nat) (res:ResF) : Prop where
 un:∀ j,S.testBit j=false→res j=none
 dn:∀ j,S.testBit j=true→∃ v,res j=some v
 down:∀ j k,S.testBit j=true→isAnc (ancs [] ops.toList) j k=true→S.testBit k=true
noncomputable def Gs (ops:Array Oper) (g:Nat→Option AV) (S:Nat) (res:ResF) : Nat→Option AV:=fun t=>match writer t ops.toList 0 with
 | some j=>(match S.testBit j with | true=>res j | false=>g t)
 | none=>g t
theorem bit_or {i j:Nat} : (S ||| 2 ^ i).testBit j=(S.testBit j || decide (i=j)):=by grind
theorem PI.step (h:PI ops S res) (hi:S.testBit i=false) (ha:∀ j,isAnc (ancs [] ops.toList) i j=true→S.testBit j=true) (v:AV) : PI ops (S ||| 2 ^ i) (rput res i v):=by
 refine ⟨fun j hj=>?_,fun j hj=>?_,fun j k hj hk=>?_⟩
 ·rw [bit_or,Bool.or_eq_false_iff] at hj
  have hne:¬j=i:=fun e=>of_decide_eq_false hj.2 e.symm
  unfold rput
  rw [if_neg hne]
  exact h.un j hj.1
 ·unfold rput
  by_cases e:j=i
  ·simp_all
  ·rw [if_neg e]
   rw [bit_or] at hj
   have:¬i=j:=fun e'=>e e'.symm
   simp [this] at hj
   exact h.dn j hj
 ·rw [bit_or] at hj ⊢
  by_cases e:i=j
  ·grind
  ·simp [e] at hj
   rw [h.down j k hj hk]; rfl
theorem fit_writer (hfit:fit ops.toList ops.toList 0=true) (ho:ops[i]?=some o) {d:Tmp} (hd:o.dst=some d) : writer d ops.toList 0=some i:=by
 have hone:=fit_spec hfit i o (toList_at.2 ho)
 unfold fitOne at hone
 simp only [Bool.and_eq_true] at hone
 have h:=hone.1.1.1
 rw [hd] at h
 dsimp only at h
 split at h
 all_goals simp_all
theorem put_eq (hfit:fit ops.toList ops.toList 0=true) (ho:ops[i]?=some o) (v:AV) :
  (Fr.f (Gs ops g S res) ds).put o.dst v=.f (Gs ops g (S ||| 2 ^ i) (rput res i v)) ds:=by
 have other:∀ t,o.dst≠some t→Gs ops g (S ||| 2 ^ i) (rput res i v) t=Gs ops g S res t:=by
  intro t ht
  unfold Gs
  split
  ·rename_i j hj
   obtain ⟨_,oj,hoj,hdj⟩:=writer_spec hj
   (simp_all [rput]; grind)
  ·rfl
 cases hd:o.dst with
 | none =>
  show Fr.f (Gs ops g S res) ds=_
  congr 1
  grind
 | some d =>
  show Fr.f (fput (Gs ops g S res) d v) ds=_
  congr 1
  funext t
  unfold fput
  by_cases e:t=d
  ·subst e
   rw [if_pos rfl]
   unfold Gs
   rw [fit_writer hfit ho hd]
   grind [rput]
  grind
theorem mem_tmps {t:Tmp} (h:Operand.tmp t∈o.op.operands.toList) : t∈tmpsOf o:=List.mem_filterMap.2 ⟨_,h,rfl⟩
theorem ev_eq (h:PI ops S res) (hi:S.testBit i=false) (ha:∀ j,isAnc (ancs [] ops.toList) i j=true→S.testBit j=true)
  (hc:(tmpsOf o).all (cmpW (ancs [] ops.toList) ops.toList i)=true) : ∀ x∈o.op.operands.toList,(Fr.f (Gs ops g S res) ds).ev x=envF ops (ancs [] ops.toList) (.f g ds) res i x:=by
 intro x hx
 cases x with
 | tmp t =>
  have hct:=List.all_eq_true.1 hc t (mem_tmps hx)
  show Gs ops g S res t=envTF ops (ancs [] ops.toList) (.f g ds) res i t
  unfold cmpW at hct
  unfold Gs envTF
  split at hct
  ·rename_i hw; rw [hw]; rfl
  ·rename_i j hw
   rw [hw]
   dsimp only
   cases hb:isAnc (ancs [] ops.toList) i j with
   | true=>grind
   | false =>
    rw [hb,Bool.false_or] at hct
    rw [hct]
    have:S.testBit j=false:=by
     cases hs:S.testBit j with
     | false=>rfl
     | true =>
      exfalso
      rcases Bool.or_eq_true _ _ ▸ hct with h1 | h1
      ·rw [h.down j i hs h1] at hi; grind
      simp_all
    rw [this]
    rfl
 | const c=>rfl
 | global c=>rfl
 | func f=>rfl
theorem ev_again (h:PI ops S res) (hi:S.testBit i=true)
  (hc:(tmpsOf o).all (ahead (ancs [] ops.toList) ops.toList i)=true) : ∀ x∈o.op.operands.toList,(Fr.f (Gs ops g S res) ds).ev x=envF ops (ancs [] ops.toList) (.f g ds) res i x:=by
 intro x hx
 cases x with
 | tmp t =>
  have hct:=List.all_eq_true.1 hc t (mem_tmps hx)
  show Gs ops g S res t=envTF ops (ancs [] ops.toList) (.f g ds) res i t
  unfold ahead at hct
  unfold Gs envTF
  split at hct
  ·rename_i hw; rw [hw]; rfl
  ·rename_i j hw
   rw [hw]
   dsimp only
   rw [hct,h.down i j hi hct]
 | const c=>rfl
 | global c=>rfl
 | func f=>rfl
theorem env_stable (h:PI ops S res) (hi:S.testBit i=true) {k:Nat} (hk:S.testBit k=false) (v:AV) (fr:Fr) : envF ops (ancs [] ops.toList) fr (rput res k v) i=envF ops (ancs [] ops.toList) fr res i:=by
 funext x
 cases x with
 | tmp t =>
  show envTF ops (ancs [] ops.toList) fr (rput res k v) i t=envTF ops (ancs [] ops.toList) fr res i t
  unfold envTF
  split
  ·rfl
  ·rename_i j hw
   cases hb:isAnc (ancs [] ops.toList) i j with
   | true =>
    dsimp only
    unfold rput
    rw [if_neg]
    intro e
    subst e
    rw [h.down i j hi hb] at hk; grind
   | false=>rfl
 | const c=>rfl
 | global c=>rfl
 | func f=>rfl
theorem topo_anc {tab:List Nat} (h:Nat.beq ((tab.getD i 0) &&& S) (tab.getD i 0)=true) : ∀ j,isAnc tab i j=true→S.testBit j=true:=by
 (simp_all [isAnc]; grind)
theorem flatAll_spec {tab:List Nat} {opl:List Oper} : ∀ {l:List Oper} {k:Nat},flatAll P tab opl l k=true→∀ i o,l[i]?=some o→flatOne P tab opl o (k+i)=true
 | [],_,_,i,o,h=>by grind
 | x :: l,k,h,i,o,ho=>by
  simp only [flatAll,Bool.and_eq_true] at h
  cases i with
  | zero=>grind
  | succ i =>
   have:=flatAll_spec h.2 i o (by grind)
   grind
theorem byGuard_to {x:Option AV} {w:Bool} {A B yes no:Prop} (h:byGuard x w A B) (h1:x=some (.lit (.bool w))→A→yes) (h2:B→no) : byGuard x w yes no:=by
 (simp_all [byGuard]; grind)
theorem slot_eq (hfit:fit ops.toList ops.toList 0=true) (ho:ops[i]?=some o) {gd:Nat×Bool} (hg:o.guard=some gd) (hS:S.testBit gd.1=true) :
  guardSlot ops (.f (Gs ops g S res) ds) gd.1=res gd.1:=by
 have hone:=fit_spec hfit i o (toList_at.2 ho)
 unfold fitOne at hone
 simp only [Bool.and_eq_true] at hone
 have h:=hone.2
 rw [hg] at h
 dsimp only at h
 unfold guardSlot
 cases hj:ops[gd.1]? with
 | none =>
  grind
 | some oj =>
  have hj' : ops.toList[gd.1]?=some oj:=toList_at.2 hj
  rw [hj'] at h
  dsimp only at h ⊢
  cases hd:oj.dst with
  | none=>grind
  | some d =>
   show Gs ops g S res d=res gd.1
   unfold Gs
   rw [fit_writer hfit hj hd]
   grind
end Go.Ai
end
section
namespace Go.Ai
variable {P:Program} {W:WF} {ops:Array Oper} {g:Nat→Option AV} {ds:List Dfr} {Q:Out→Prop} {S:Nat} {res:ResF} {H:Mem} {held:List Nat} {als:Als} {alsP:AlP} {i:Nat} {o:Oper} {s:Hs}
def Rq (P:Program) (ops:Array Oper) (g:Nat→Option AV) (ds:List Dfr) (H:Mem) (res:ResF) (i:Nat) : Prop :=
 ∃ o v,ops[i]?=some o∧res i=some v∧quiet P H (envF ops (ancs [] ops.toList) (.f g ds) res i) o=some v
def Ran (ops:Array Oper) (res:ResF) (i:Nat) : Prop:=∃ o,ops[i]?=some o∧cls o.op=.read∧∀ gd,o.guard=some gd→res gd.1=some (.lit (.bool gd.2))
structure PS (P:Program) (ops:Array Oper) (g:Nat→Option AV) (ds:List Dfr) (s:Hs) (S:Nat) (res:ResF) (H:Mem) (held:List Nat) (als:Als) (alsP:AlP) : Prop where
 pi:PI ops S res
 hd:∀ i∈held,S.testBit i=true∧Ran ops res i∧(i∈s.di∨(i∈s.cl∧Rq P ops g ds H res i))
 al:∀ x∈als,(x.1,x.2.1,some x.2.2)∈alsP∧(x.1∈s.adi∨(x.1∈s.acl∧H.get x.2.1=some x.2.2))
theorem rput_keep {k:Nat} {v:AV} (h:res k=none) : GrF res (rput res k v):=by
 intro j y hj
 (simp_all [rput]; grind)
theorem Ran.grow {res' : ResF} (h:Ran ops res i) (hg:GrF res res') : Ran ops res' i:=by
 obtain ⟨o,h1,h2,h3⟩:=h
 exact ⟨o,h1,h2,fun gd e=>hg _ _ (h3 gd e)⟩
theorem Rq.grow {k:Nat} {v:AV} (hp:PI ops S res) (hi:S.testBit i=true) (hk:S.testBit k=false) (h:Rq P ops g ds H res i) : Rq P ops g ds H (rput res k v) i:=by
 obtain ⟨o,y,h1,h2,h3⟩:=h
 refine ⟨o,y,h1,rput_keep (hp.un k hk) _ _ h2,?_⟩
 grind [env_stable]
theorem PS.step (h:PS P ops g ds s S res H held als alsP) (hi:S.testBit i=false) (ha:∀ j,isAnc (ancs [] ops.toList) i j=true→S.testBit j=true) (v:AV) :
  PS P ops g ds s (S ||| 2 ^ i) (rput res i v) H held als alsP :=
 ⟨h.pi.step hi ha v,fun j hj=>let ⟨a,b,c⟩:=h.hd j hj; ⟨by grind,b.grow (rput_keep (h.pi.un i hi)),c.imp id fun ⟨d,e⟩=>⟨d,e.grow h.pi a hi⟩⟩,h.al⟩
theorem PS.soil {H' : Mem} {acl:List Nat} {cl:List Nat} (h:PS P ops g ds s S res H held als alsP) (p:Nat×Nat×Option Blk) : PS P ops g ds ⟨cl,s.cl++s.di,acl,s.acl++s.adi⟩ S res H' held als (p :: alsP) :=
 ⟨h.pi,fun j hj=>let ⟨a,b,c⟩:=h.hd j hj; ⟨a,b,.inl (by grind)⟩,
  fun x hx=>let ⟨a,c⟩:=h.al x hx; ⟨List.mem_cons_of_mem _ a,.inl (by grind)⟩⟩
variable {KW:StW} {K:Hs→List It}
theorem plan_stage (hfit:fit ops.toList ops.toList 0=true) (hall:flatAll P (ancs [] ops.toList) ops.toList ops.toList 0=true)
  (hK:∀ s S res H held als alsP,PS P ops g ds s S res H held als alsP→topo (ancs [] ops.toList) ops.toList S (K s)=true→planW P W ops Q (K s) (.f (Gs ops g S res) ds) H alsP→KW res H held als) :
  ∀ (L:List Nat) (s:Hs) (S:Nat) (res:ResF) (H:Mem) (held:List Nat) (als:Als) (alsP:AlP),(∀ i∈L,∃ o,ops[i]?=some o∧isChain o.op=false∧cls o.op≠.no) →
   PS P ops g ds s S res H held als alsP→topo (ancs [] ops.toList) ops.toList S (planStage ops.toList L s K)=true→planW P W ops Q (planStage ops.toList L s K) (.f (Gs ops g S res) ds) H alsP →
   stageW P ops (ancs [] ops.toList) (.f g ds) KW L res H held als
 | [],s,S,res,H,held,als,alsP,_,ps,ht,hp=>hK s S res H held als alsP ps ht hp
 | i :: L,s,S,res,H,held,als,alsP,hL,ps,ht,hp=>by
  obtain ⟨o,ho,hch,hno⟩:=hL i (by simp)
  have hL' : ∀ j∈L,∃ o,ops[j]?=some o∧isChain o.op=false∧cls o.op≠.no:=fun j hj=>hL j (by grind)
  have hone:=flatAll_spec hall i o (toList_at.2 ho)
  rw [Nat.zero_add] at hone
  unfold flatOne at hone
  simp only [Bool.and_eq_true] at hone
  obtain ⟨⟨hcmp,hgd⟩,hcv⟩:=hone
  have hnc:cls o.op≠.chain:=by grind [isChain]
  have step:∀ {k:Fr→Mem→Prop} {yes no:Prop},(∀ j,isAnc (ancs [] ops.toList) i j=true→S.testBit j=true)→S.testBit i=false→oneW P W ops o (.f (Gs ops g S res) ds) H k Q →
    ((∀ gd,o.guard=some gd→res gd.1=some (.lit (.bool gd.2)))→afterW W o (.f (Gs ops g S res) ds) k Q (opV P H (envF ops (ancs [] ops.toList) (.f g ds) res i) o)→yes) →
    (k (.f (Gs ops g (S ||| 2 ^ i) (rput res i (.lit undef))) ds) H→no)→wantedW (ancs [] ops.toList) res i o yes no:=by
   intro k yes no ha hi h h1 h2
   have hev:=opV_evs (P:=P) (H:=H) (noSelect hno) (ev_eq (g:=g) (ds:=ds) ps.pi hi ha hcmp)
   unfold oneW at h
   unfold wantedW
   split at h
   all_goals grind [byGuard_to,put_eq,slot_eq]
  have quietCase:cls o.op≠.alloc→∀ {k:Fr→Mem→Prop},afterW W o (.f (Gs ops g S res) ds) k Q (opV P H (envF ops (ancs [] ops.toList) (.f g ds) res i) o) →
    ∃ v,quiet P H (envF ops (ancs [] ops.toList) (.f g ds) res i) o=some v∧k (.f (Gs ops g (S ||| 2 ^ i) (rput res i v)) ds) H:=by
   intro hna k h
   rcases quiet_form (P:=P) (H:=H) (ev:=envF ops (ancs [] ops.toList) (.f g ds) res i) hnc hno hna hcv with hb | ⟨v,hv,hq⟩
   ·rw [hb] at h; exact h.elim
   ·rw [hv] at h
    refine ⟨v,hq,?_⟩
    have h' : k ((Fr.f (Gs ops g S res) ds).put o.dst v) H:=h
    grind [put_eq]
  have ho' : ops.toList[i]?=some o:=toList_at.2 ho
  unfold stageW stepW
  rw [ho]
  dsimp only
  unfold planStage at ht hp
  rw [ho'] at ht hp
  dsimp only at ht hp
  cases hcl:cls o.op with
  | chain=>grind
  | no=>grind
  | alloc =>
   rw [hcl] at ht hp
   simp only [topo,Bool.and_eq_true] at ht
   obtain ⟨⟨h1,h2⟩,ht⟩:=ht
   have hi:S.testBit i=false:=by grind
   have ha:=topo_anc h2
   unfold planW at hp
   rw [ho] at hp
   dsimp only at hp ⊢
   refine step ha hi hp ?_ ?_
   ·intro hgr h
    have hvb:=vb_alloc (P:=P) (H:=H) (ev:=envF ops (ancs [] ops.toList) (.f g ds) res i) hcl
    cases hv:opV P H (envF ops (ancs [] ops.toList) (.f g ds) res i) o with
    | val v H' =>
     rw [hv] at h
     obtain ⟨f,x,e1,e2,_⟩:=alloc_sound (B:=0) hcl hv
     have h' : planW P W ops Q (planStage ops.toList L ⟨[],s.cl++s.di,[i],s.acl++s.adi⟩ K) ((Fr.f (Gs ops g S res) ds).put o.dst v) H' ((i,H.next,H'.get H.next) :: alsP):=h
     rw [put_eq hfit ho] at h'
     have hget:H'.get H.next=some x:=by grind [Mem.get_add_same]
     unfold allocW
     dsimp only
     rw [hget]
     refine ⟨ps.pi.un i hi,?_⟩
     refine plan_stage hfit hall hK L _ _ _ _ _ _ _ hL' ?_ ht h'
     have p1:=(ps.step hi ha v).soil (H':=H') (acl:=[i]) (cl:=[]) (i,H.next,H'.get H.next)
     refine ⟨p1.pi,p1.hd,fun y hy=>?_⟩
     rcases List.mem_cons.1 hy with rfl | hy
     ·grind
     ·exact p1.al y hy
    | bad=>rw [hv] at h; assumption
    | _=>rw [hv] at hvb; cases hvb
   ·intro h
    refine ⟨ps.pi.un i hi,?_⟩
    exact plan_stage hfit hall hK L _ _ _ _ _ _ _ hL' ((ps.step hi ha _).soil _) ht h
  | read =>
   rw [hcl] at ht hp
   simp only [topo,Bool.and_eq_true] at ht
   obtain ⟨⟨h1,h2⟩,ht⟩:=ht
   have hi:S.testBit i=false:=by grind
   have ha:=topo_anc h2
   unfold planW at hp
   rw [ho] at hp
   dsimp only at hp ⊢
   refine step ha hi hp ?_ ?_
   ·intro hgr h
    obtain ⟨v,hq,h'⟩:=quietCase (by grind) h
    unfold quietW
    rw [hq]
    refine ⟨ps.pi.un i hi,?_⟩
    refine plan_stage hfit hall hK L _ _ _ _ _ _ _ hL' ?_ ht h'
    have p1:=ps.step hi ha v
    refine ⟨p1.pi,fun j hj=>?_,p1.al⟩
    rcases List.mem_cons.1 hj with rfl | hj
    ·refine ⟨by grind,⟨o,ho,hcl,fun gd e=>rput_keep (ps.pi.un _ hi) _ _ (hgr gd e)⟩,.inr ⟨by simp,o,v,ho,if_pos rfl,?_⟩⟩
     have:envF ops (ancs [] ops.toList) (.f g ds) (rput res j v) j=envF ops (ancs [] ops.toList) (.f g ds) res j:=by
      funext x
      cases x with
      | tmp t =>
       show envTF ops (ancs [] ops.toList) (.f g ds) (rput res j v) j t=envTF ops (ancs [] ops.toList) (.f g ds) res j t
       unfold envTF
       split
       ·rfl
       (simp_all [rput]; grind)
      | const c=>rfl
      | global c=>rfl
      | func f=>rfl
     grind
    ·obtain ⟨a,b,c⟩:=p1.hd j hj
     grind
   ·intro h
    refine ⟨ps.pi.un i hi,?_⟩
    refine plan_stage hfit hall hK L _ _ _ _ _ _ _ hL' ?_ ht h
    have p1:=ps.step hi ha (.lit undef)
    exact ⟨p1.pi,fun j hj=>let ⟨a,b,c⟩:=p1.hd j hj; ⟨a,b,c.imp id fun ⟨d,e⟩=>⟨by grind,e⟩⟩,p1.al⟩
  | free =>
   rw [hcl] at ht hp
   simp only [topo,Bool.and_eq_true] at ht
   obtain ⟨⟨h1,h2⟩,ht⟩:=ht
   have hi:S.testBit i=false:=by grind
   have ha:=topo_anc h2
   unfold planW at hp
   rw [ho] at hp
   dsimp only at hp ⊢
   refine step ha hi hp ?_ ?_
   ·intro hgr h
    obtain ⟨v,hq,h'⟩:=quietCase (by grind) h
    unfold quietW
    rw [hq]
    exact ⟨ps.pi.un i hi,plan_stage hfit hall hK L _ _ _ _ _ _ _ hL' (ps.step hi ha v) ht h'⟩
   ·intro h
    exact ⟨ps.pi.un i hi,plan_stage hfit hall hK L _ _ _ _ _ _ _ hL' (ps.step hi ha _) ht h⟩
  | gen =>
   rw [hcl] at ht hp
   simp only [topo,Bool.and_eq_true] at ht
   obtain ⟨⟨h1,h2⟩,ht⟩:=ht
   have hi:S.testBit i=false:=by grind
   have ha:=topo_anc h2
   unfold planW at hp
   rw [ho] at hp
   dsimp only at hp ⊢
   refine step ha hi hp ?_ ?_
   ·intro hgr h
    obtain ⟨v,hq,h'⟩:=quietCase (by grind) h
    unfold quietW
    rw [hq]
    exact ⟨ps.pi.un i hi,plan_stage hfit hall hK L _ _ _ _ _ _ _ hL' (ps.step hi ha v) ht h'⟩
   ·intro h
    exact ⟨ps.pi.un i hi,plan_stage hfit hall hK L _ _ _ _ _ _ _ hL' (ps.step hi ha _) ht h⟩
end Go.Ai
end
section
namespace Go.Ai
variable {P:Program} {W:WF} {ops:Array Oper} {g:Nat→Option AV} {ds:List Dfr} {Q:Out→Prop} {S:Nat} {res:ResF} {H:Mem} {held:List Nat} {als:Als} {alsP:AlP} {i:Nat} {o:Oper} {s:Hs} {K:Hs→List It}
theorem recheck_of {tab:List Nat} {fr:Fr} : ∀ {held:List Nat},(∀ i∈held,∃ o v,ops[i]?=some o∧res i=some v∧quiet P H (envF ops tab fr res i) o=some v)→recheckW P ops tab fr res H held
 | [],_=>trivial
 | i :: l,h=>by
  obtain ⟨o,v,h1,h2,h3⟩:=h i (by simp)
  refine ⟨?_,recheck_of fun j hj=>h j (by simp [hj])⟩
  rw [h1]
  exact ⟨v,h2,h3⟩
theorem stays_of:∀ {als:Als},(∀ x∈als,H.get x.2.1=some x.2.2)→staysW H als
 | [],_=>trivial
 | (a,b,c) :: l,h=>⟨h (a,b,c) (by simp),stays_of fun y hy=>h y (by grind)⟩
theorem still_mem {tab:List Nat} {c i:Nat} : ∀ {held:List Nat},i∈still tab c held→i∈held∧isAnc tab c i=false
 | [],h=>by cases h
 | j :: held,h=>by
  unfold still at h
  split at h
  ·obtain ⟨a,b⟩:=still_mem h; exact ⟨by simp [a],b⟩
  ·rename_i hb
   rcases List.mem_cons.1 h with rfl | h
   ·exact ⟨by simp,hb⟩
   ·obtain ⟨a,b⟩:=still_mem h; exact ⟨by simp [a],b⟩
theorem stillA_mem {tab:List Nat} {c:Nat} : ∀ {als:Als} {x:Nat×Nat×Blk},x∈stillA tab c als→x∈als∧isAnc tab c x.1=false
 | [],_,h=>by cases h
 | y :: als,x,h=>by
  unfold stillA at h
  split at h
  ·obtain ⟨a,b⟩:=stillA_mem h; exact ⟨by simp [a],b⟩
  ·rename_i hb
   rcases List.mem_cons.1 h with rfl | h
   ·exact ⟨by simp,hb⟩
   ·obtain ⟨a,b⟩:=stillA_mem h; exact ⟨by simp [a],b⟩
theorem again_mem {fr:Fr} : ∀ {hs:List Nat},againW P W ops fr H hs→∀ i∈hs,∃ o,ops[i]?=some o∧oneW P W ops o fr H (fun fr' _=>slotOf fr' o.dst=slotOf fr o.dst) (fun _=>False)
 | j :: hs,h,i,hi=>by
  rcases List.mem_cons.1 hi with rfl | hi
  ·have h1:=h.1
   split at h1
   ·rename_i o ho; exact ⟨o,ho,h1⟩
   ·exact h1.elim
  ·exact again_mem h.2 i hi
theorem kept_mem {as:List Nat} : ∀ {l:AlP},keptW H as l→∀ x∈l,x.1∈as→H.get x.2.1=x.2.2
 | (i,a,b) :: l,h,x,hx,hm=>by
  rcases List.mem_cons.1 hx with rfl | hx
  ·exact h.1 hm
  ·exact kept_mem h.2 x hx hm
theorem again_Rq (hfit:fit ops.toList ops.toList 0=true) (hall:flatAll P (ancs [] ops.toList) ops.toList ops.toList 0=true) (hp:PI ops S res) (hi:S.testBit i=true) (hr:Ran ops res i)
  (hag:againFit (ancs [] ops.toList) ops.toList i=true) (ho:ops[i]?=some o) (h:oneW P W ops o (.f (Gs ops g S res) ds) H (fun fr' _=>slotOf fr' o.dst=slotOf (.f (Gs ops g S res) ds) o.dst) (fun _=>False)) :
  Rq P ops g ds H res i:=by
 obtain ⟨o',ho',hcl,hg⟩:=hr
 rw [ho] at ho'; cases ho'
 have hone:=flatAll_spec hall i o (toList_at.2 ho)
 rw [Nat.zero_add] at hone
 unfold flatOne at hone
 simp only [Bool.and_eq_true] at hone
 obtain ⟨⟨_,hgd⟩,hcv⟩:=hone
 unfold againFit at hag
 rw [toList_at.2 ho] at hag
 simp only [Bool.and_eq_true] at hag
 obtain ⟨hds,hah⟩:=hag
 obtain ⟨d,hd⟩:=Option.isSome_iff_exists.1 hds
 have hno:cls o.op≠.no:=by grind
 have key:afterW W o (.f (Gs ops g S res) ds) (fun fr' _=>slotOf fr' o.dst=slotOf (.f (Gs ops g S res) ds) o.dst) (fun _=>False) (opV P H (Fr.f (Gs ops g S res) ds).ev o)→Rq P ops g ds H res i:=by
  intro h
  rw [opV_evs (P:=P) (H:=H) (noSelect hno) (ev_again (g:=g) (ds:=ds) hp hi hah)] at h
  rcases quiet_form (P:=P) (H:=H) (ev:=envF ops (ancs [] ops.toList) (.f g ds) res i) (o:=o) (by grind) hno (by grind) hcv with hb | ⟨v,hv,hq⟩
  ·rw [hb] at h; exact h.elim
  ·rw [hv] at h
   have h' : slotOf ((Fr.f (Gs ops g S res) ds).put o.dst v) o.dst=slotOf (.f (Gs ops g S res) ds) o.dst:=h
   rw [hd] at h'
   have h2:some v=Gs ops g S res d:=by
    rw [show slotOf ((Fr.f (Gs ops g S res) ds).put (some d) v) (some d)=some v from if_pos rfl] at h'
    exact h'
   unfold Gs at h2
   rw [fit_writer hfit ho hd] at h2
   dsimp only at h2
   rw [hi] at h2
   exact ⟨o,v,ho,h2.symm,hq⟩
 unfold oneW at h
 split at h
 ·grind
 ·rename_i gd hgx
  rw [hgx] at hgd
  have hgd' : isAnc (ancs [] ops.toList) i gd.1=true:=hgd
  rw [slot_eq hfit ho hgx (hp.down _ _ hi hgd'),hg gd hgx] at h
  exact key (h.1 rfl)
theorem gateP_ok (hfit:fit ops.toList ops.toList 0=true) (hall:flatAll P (ancs [] ops.toList) ops.toList ops.toList 0=true) (h:PS P ops g ds s S res H held als alsP)
  (ht:topo (ancs [] ops.toList) ops.toList S (gateK s K)=true) (hp:planW P W ops Q (gateK s K) (.f (Gs ops g S res) ds) H alsP) :
  recheckW P ops (ancs [] ops.toList) (.f g ds) res H held∧staysW H als∧∃ s',s'.di=[]∧s'.adi=[]∧PS P ops g ds s' S res H held als alsP ∧
   topo (ancs [] ops.toList) ops.toList S (K s')=true∧planW P W ops Q (K s') (.f (Gs ops g S res) ds) H alsP:=by
 have done:s.di=[]→s.adi=[]→topo (ancs [] ops.toList) ops.toList S (K s)=true→planW P W ops Q (K s) (.f (Gs ops g S res) ds) H alsP→recheckW P ops (ancs [] ops.toList) (.f g ds) res H held∧staysW H als∧∃ s',s'.di=[]∧s'.adi=[]∧PS P ops g ds s' S res H held als alsP ∧
   topo (ancs [] ops.toList) ops.toList S (K s')=true∧planW P W ops Q (K s') (.f (Gs ops g S res) ds) H alsP:=by
  intro e1 e2 ht hp
  refine ⟨recheck_of fun i hi=>?_,stays_of fun x hx=>?_,s,e1,e2,h,ht,hp⟩
  ·obtain ⟨_,_,c⟩:=h.hd i hi
   rcases c with c | ⟨_,c⟩
   ·grind
   ·exact c
  ·obtain ⟨_,c⟩:=h.al x hx
   grind
 have go:topo (ancs [] ops.toList) ops.toList S (.gate s.di s.adi :: K ⟨s.di++s.cl,[],s.adi++s.acl,[]⟩)=true →
   planW P W ops Q (.gate s.di s.adi :: K ⟨s.di++s.cl,[],s.adi++s.acl,[]⟩) (.f (Gs ops g S res) ds) H alsP→recheckW P ops (ancs [] ops.toList) (.f g ds) res H held∧staysW H als∧∃ s',s'.di=[]∧s'.adi=[]∧PS P ops g ds s' S res H held als alsP ∧
   topo (ancs [] ops.toList) ops.toList S (K s')=true∧planW P W ops Q (K s') (.f (Gs ops g S res) ds) H alsP:=by
  intro ht hp
  simp only [topo,Bool.and_eq_true] at ht
  obtain ⟨hag,ht⟩:=ht
  obtain ⟨h1,h2,h3⟩:=hp
  have hR:∀ i∈held,Rq P ops g ds H res i:=by
   intro i hi
   obtain ⟨a,b,c⟩:=h.hd i hi
   rcases c with c | ⟨_,c⟩
   ·obtain ⟨o,ho,ho'⟩:=again_mem h1 i c
    exact again_Rq hfit hall h.pi a b (List.all_eq_true.1 hag i c) ho ho'
   grind
  have hA:∀ x∈als,H.get x.2.1=some x.2.2:=by
   intro x hx
   obtain ⟨a,c⟩:=h.al x hx
   rcases c with c | ⟨_,c⟩
   ·exact kept_mem h2 _ a c
   grind
  refine ⟨recheck_of hR,stays_of hA,_,rfl,rfl,⟨h.pi,fun i hi=>?_,fun x hx=>?_⟩,ht,h3⟩
  ·obtain ⟨a,b,c⟩:=h.hd i hi
   grind
  ·obtain ⟨a,c⟩:=h.al x hx
   grind
 grind [gateK]
def WMono (W:WF) : Prop:=∀ (f:FuncId) (args:List AV) (H:Mem) (K K' : COut→Prop),(∀ r,K r→K' r)→W f args H K→W f args H K'
theorem WC_mono' (G:Nat) (P:Program) : WMono (WC G P):=fun _ _ _ _ _ hk h=>h.mono hk
theorem orW_mono {O:CallF} (h:WMono W) : WMono (orW O W):=by
 intro f args H K K' hk hw
 unfold orW at hw ⊢
 split
 ·rename_i e; rw [e] at hw; exact h _ _ _ _ _ hk hw
 grind
theorem act_plan (hW:WMono W) (hfit:fit ops.toList ops.toList 0=true) (hall:flatAll P (ancs [] ops.toList) ops.toList ops.toList 0=true) (hp:PI ops S res) (ho:ops[i]?=some o) (hc:cls o.op=.chain)
  (hi:S.testBit i=false) (ha:∀ j,isAnc (ancs [] ops.toList) i j=true→S.testBit j=true) {k:Fr→Mem→Prop} {K' : ResF→Mem→Prop}
  (h:oneW P W ops o (.f (Gs ops g S res) ds) H k (clearQ Q)) (hK:∀ v H',k (.f (Gs ops g (S ||| 2 ^ i) (rput res i v)) ds) H'→K' (rput res i v) H') :
  actW P W ops (ancs [] ops.toList) (.f g ds) i res H K' Q:=by
 have hone:=flatAll_spec hall i o (toList_at.2 ho)
 rw [Nat.zero_add] at hone
 unfold flatOne at hone
 simp only [Bool.and_eq_true] at hone
 obtain ⟨⟨hcmp,hgd⟩,hcv⟩:=hone
 have hno:cls o.op≠.no:=by grind
 have hev:=opV_evs (P:=P) (H:=H) (noSelect hno) (ev_eq (g:=g) (ds:=ds) hp hi ha hcmp)
 have put:=fun v=>put_eq (g:=g) (ds:=ds) (S:=S) (res:=res) hfit ho v
 have act:afterW W o (.f (Gs ops g S res) ds) k (clearQ Q) (opV P H (envF ops (ancs [] ops.toList) (.f g ds) res i) o) →
   actRW W (.f g ds) i res K' Q (opV P H (envF ops (ancs [] ops.toList) (.f g ds) res i) o):=by
  intro h
  have hac:=acts_chain (P:=P) (H:=H) (ev:=envF ops (ancs [] ops.toList) (.f g ds) res i) hc
  cases hv:opV P H (envF ops (ancs [] ops.toList) (.f g ds) res i) o with
  | val v H' =>
   rw [hv] at h
   refine ⟨hp.un i hi,hK v H' ?_⟩
   rw [← put]; exact h
  | skip H' =>
   rw [hv] at h
   refine ⟨hp.un i hi,hK _ H' ?_⟩
   rw [← put]; exact h
  | enter f args H' =>
   rw [hv] at h
   refine hW _ _ _ _ _ ?_ h
   intro r hr
   cases r with
   | ret v H2 =>
    refine ⟨hp.un i hi,hK v H2 ?_⟩
    grind
   | panic v H2=>exact hr
   | bad=>grind
  | bad=>rw [hv] at h; assumption
  | dfr _ _ _ _=>rw [hv] at hac; cases hac
  | recover=>rw [hv] at hac; cases hac
  | panic _ _=>rw [hv] at hac; cases hac
 unfold actW
 rw [ho]
 dsimp only
 unfold oneW at h
 unfold wantedW
 split at h
 ·grind
 ·rename_i gd hg
  rw [hg] at hgd
  dsimp only at hgd
  rw [slot_eq hfit ho hg (ha _ hgd),put,hev] at h
  exact ⟨hgd,byGuard_to h (fun _=>act) fun h=>⟨hp.un i hi,hK _ _ h⟩⟩
theorem Gs_bits {S' : Nat} (h:∀ j,j < ops.size→S.testBit j=S'.testBit j) : Gs ops g S res=Gs ops g S' res:=by
 funext t
 unfold Gs
 split
 ·rename_i j hj
  obtain ⟨_,o,ho,_⟩:=writer_spec hj
  grind
 ·rfl
theorem fin_plan (hfit:fit ops.toList ops.toList 0=true) {KF:Fr→Prop} (hall:∀ j,j < ops.size→∃ v,res j=some v) : ∀ (l:List Oper) (k:Nat),ops.toList.drop k=l→k+l.length=ops.size →
  KF (.f (Gs ops g (2 ^ ops.size - 1) res) ds)→finW res KF l k (.f (Gs ops g (2 ^ k - 1) res) ds)
 | [],k,_,hl,h=>by
  have:k=ops.size:=by grind
  subst this
  exact h
 | o :: l,k,hk,hl,h=>by
  have hlt:k < ops.size:=by grind
  obtain ⟨v,hv⟩:=hall k hlt
  have hko:ops.toList[k]?=some o:=by
   have:(ops.toList.drop k)[0]?=some o:=by grind
   grind
  unfold finW
  rw [hv]
  dsimp only
  rw [put_eq hfit (toList_at.1 hko)]
  have e1:rput res k v=res:=by
   funext j
   unfold rput
   grind
  rw [e1,Gs_bits (S':=2 ^ (k+1) - 1) (fun j _=>by
   grind)]
  refine fin_plan hfit hall l (k+1) ?_ (by grind) h
  have:=congrArg List.tail hk
  simpa using this
theorem plan_stages (hW:WMono W) (hfit:fit ops.toList ops.toList 0=true) (hall:flatAll P (ancs [] ops.toList) ops.toList ops.toList 0=true) (all:List Nat) :
  ∀ (cs:List Nat) (k:Nat) (s:Hs) (S:Nat) (res:ResF) (H:Mem) (held:List Nat) (als:Als) (alsP:AlP),(∀ c∈cs,∃ o,ops[c]?=some o∧isChain o.op=true) →
   PS P ops g ds s S res H held als alsP→topo (ancs [] ops.toList) ops.toList S (planIn (ancs [] ops.toList) all ops.toList k cs s)=true →
   planW P W ops (clearQ Q) (planIn (ancs [] ops.toList) all ops.toList k cs s) (.f (Gs ops g S res) ds) H alsP →
   stagesW P W ops (ancs [] ops.toList) (.f g ds) all Q k cs res H held als:=by
 intro cs
 induction cs with
 | nil =>
  intro k s S res H held als alsP _ ps ht hp
  rw [stagesW_eq]
  unfold planIn at ht hp
  refine plan_stage hfit hall ?_ _ _ _ _ _ _ _ _ (fun j hj=>?_) ps ht hp
  ·intro s S res H held als alsP ps ht hp
   obtain ⟨h1,h2,s',_,_,ps',ht',hp'⟩:=gateP_ok hfit hall ps ht hp
   refine ⟨h1,h2,?_⟩
   have hS:S+1=2 ^ ops.toList.length:=Nat.eq_of_beq_eq_true ht'
   have hS' : S=2 ^ ops.size - 1:=by grind
   have hq:Q (.norm (.f (Gs ops g S res) ds) H):=hp'
   subst hS'
   have hz:Fr.f g ds=.f (Gs ops g (2 ^ 0 - 1) res) ds:=by
    congr 1
    funext t
    unfold Gs
    grind
   show finW res (fun fr=>Q (.norm fr H)) ops.toList 0 (.f g ds)
   rw [hz]
   refine fin_plan hfit (fun j hj=>ps'.pi.dn j ?_) ops.toList 0 rfl (by simp) hq
   grind
  grind [fit_no,mem_stageOf]
 | cons c cs ih =>
  intro k s S res H held als alsP hcs ps ht hp
  rw [stagesW_eq]
  unfold planIn at ht hp
  refine plan_stage hfit hall ?_ _ _ _ _ _ _ _ _ (fun j hj=>?_) ps ht hp
  ·intro s S res H held als alsP ps ht hp
   obtain ⟨h1,h2,s',e1,e2,ps',ht',hp'⟩:=gateP_ok hfit hall ps ht hp
   refine ⟨h1,h2,?_⟩
   simp only [topo,Bool.and_eq_true] at ht'
   obtain ⟨⟨t1,t2⟩,ht'⟩:=ht'
   have hi:S.testBit c=false:=by grind
   have ha:=topo_anc t2
   obtain ⟨o,ho,hch⟩:=hcs c (by simp)
   have hcl:cls o.op=.chain:=by
    grind [isChain]
   unfold planW at hp'
   rw [ho] at hp'
   dsimp only at hp'
   refine act_plan hW hfit hall ps'.pi ho hcl hi ha hp' ?_
   intro v H' hk
   refine ih _ _ _ _ _ _ _ _ (fun c hc=>hcs c (by grind)) ?_ ht' hk
   have p1:=ps'.step hi ha v
   refine ⟨p1.pi,fun j hj=>?_,fun x hx=>?_⟩
   ·have hm:j∈held∧isAnc (ancs [] ops.toList) c j=false:=still_mem hj
    obtain ⟨a,b,d⟩:=p1.hd j hm.1
    grind
   ·have hm:x∈als∧isAnc (ancs [] ops.toList) c x.1=false:=stillA_mem hx
    obtain ⟨a,d⟩:=p1.al x hm.1
    grind
  grind [fit_no,mem_stageOf]
theorem planW_drawn (hW:WMono W) (hok:flatOk P ops.toList=true) (h:planW P W ops (clearQ Q) (planOf ops.toList) (.f g ds) H []) : drawnW P W ops (.f g ds) H Q:=by
 unfold flatOk at hok
 simp only [Bool.and_eq_true] at hok
 obtain ⟨⟨⟨h1,h2⟩,h3⟩,h4⟩:=hok
 have hfit:fit ops.toList ops.toList 0=true:=by
  simp_all [planOk]
 have hz:Fr.f g ds=.f (Gs ops g 0 (fun _=>none)) ds:=by
  congr 1
  grind [Gs]
 refine ⟨h1,h2,?_⟩
 unfold planOf at h h4
 rw [hz] at h
 refine plan_stages hW hfit h3 _ _ _ _ 0 _ _ _ _ [] (fun c hc=>?_) ⟨⟨fun _ _=>rfl,fun j hj=>?_,fun j k hj=>?_⟩,fun _ h=>(by cases h),fun _ h=>(by cases h)⟩ h4 h
 all_goals grind [mem_chainOf]
end Go.Ai
end
section
namespace Go.Ai
open Go.RowKit (Below)
def planAt:List (Nat×List It)→Nat→List It
 | [],_=>[]
 | (k,l) :: r,i=>if k=i then l else planAt r i
def codeOk (P:Program) (plan:List (Nat×List It)) : Code→Bool
 | .region id ops true=>flatOk P ops.toList && decide (planOf ops.toList=planAt plan id)
 | .seq a b=>codeOk P plan a && codeOk P plan b
 | .cond _ a b=>codeOk P plan a && codeOk P plan b
 | .block _ b=>codeOk P plan b
 | .loop b=>codeOk P plan b
 | _=>true
noncomputable def regP (P:Program) (W:WF) (ops:Array Oper) (Q:Out→Prop) (l:List It) (fr:Fr) (H:Mem) : Prop:=match fr with
 | .f g ds=>planW P W ops (clearQ Q) l (.f g ds) H []
 | _=>False
noncomputable def execP (P:Program) (W:WF) (L:LF) (plan:List (Nat×List It)) : Code→Fr→Mem→(Out→Prop)→Prop
 | .skip,fr,H,Q=>Q (.norm fr H)
 | .region _ ops false,fr,H,Q=>seqW P W ops Q ops.toList fr H
 | .region id ops true,fr,H,Q=>regP P W ops Q (planAt plan id) fr H
 | .seq a b,fr,H,Q=>execP P W L plan a fr H (thenW (fun fr H=>execP P W L plan b fr H Q) Q)
 | .cond c a b,fr,H,Q=>condW (fr.ev c) (execP P W L plan a fr H Q) (execP P W L plan b fr H Q)
 | .block id b,fr,H,Q=>execP P W L plan b fr H (inBlockW id Q)
 | .loop b,fr,H,Q=>L b fr H Q
 | .exit id,fr,H,Q=>Q (.exit id fr H)
 | .label _,fr,H,Q=>Q (.norm fr H)
 | .ret,fr,H,Q=>Q (.ret fr H)
 | _,_,_,_=>False
variable {B G:Nat} {P:Program} {n n0:Nat} {ρ0 ρ:Rn} {w0 w:World} {fr:Fr} {H:Mem} {a:Act} {W:WF} {Q:Out→Prop} {plan:List (Nat×List It)}
theorem execP_sound (hW:WOK G P W) (hM:WMono W) (hG:G=P.globals.size) : ∀ (c:Code) (fr:Fr) (H:Mem) (Q:Out→Prop),dstsOk n c=true→codeOk P plan c=true→execP P W (LX G P n) plan c fr H Q→XW G P n c fr H Q:=by
 intro c
 induction c with
 | skip=>intro fr H Q _ _ h B n0 ρ0 w0 ρ a w s; exact wp_skip ⟨_,h,ρ,s⟩
 | region id ops draw =>
  intro fr H Q hd hc h B n0 ρ0 w0 ρ a w s
  cases draw with
  | false=>exact wp_region_list (seqW_sound hW hG ops.toList fr H ρ a w (fun o ho=>List.all_eq_true.1 hd o ho) s h)
  | true =>
   simp only [codeOk,Bool.and_eq_true,decide_eq_true_eq] at hc
   have h' : regP P W ops Q (planAt plan id) fr H:=h
   rw [← hc.2] at h'
   cases fr with
   | f g ds=>exact drawnW_sound hW hG s hd (planW_drawn hM hc.1 h')
   | _=>exact h'.elim
 | seq x y ihx ihy =>
  intro fr H Q hd hc h B n0 ρ0 w0 ρ a w s
  simp only [dstsOk,Bool.and_eq_true] at hd
  simp only [codeOk,Bool.and_eq_true] at hc
  refine wp_seq (Code.wp_mono ?_ (ihx fr H _ hd.1 hc.1 h B n0 ρ0 w0 ρ a w s))
  rintro e a' w' ⟨out,hq,ho⟩
  cases out with
  | norm fr' H' =>
   cases e with
   | normal=>obtain ⟨ρ',s'⟩:=ho; exact ihy fr' H' Q hd.2 hc.2 hq B n0 ρ0 w0 ρ' a' w' s'
   | _=>exact ho.elim
  | exit id fr' H'=>cases e <;> first | exact ho.elim | exact ⟨_,hq,ho⟩
  | ret fr' H'=>cases e <;> first | exact ho.elim | exact ⟨_,hq,ho⟩
  | panic v fr' H'=>cases e <;> first | exact ho.elim | exact ⟨_,hq,ho⟩
  | bad=>exact hq.elim
 | cond cnd x y ihx ihy =>
  intro fr H Q hd hc h B n0 ρ0 w0 ρ a w s
  simp only [dstsOk,Bool.and_eq_true] at hd
  simp only [codeOk,Bool.and_eq_true] at hc
  have h' : condW (fr.ev cnd) (execP P W (LX G P n) plan x fr H Q) (execP P W (LX G P n) plan y fr H Q):=h
  unfold condW at h'
  split at h'
  ·rename_i b hev
   have:=s.ev _ _ hev
   cases b with
   | true=>exact wp_cond_true this (ihx fr H Q hd.1 hc.1 (h'.1 rfl) B n0 ρ0 w0 ρ a w s)
   | false=>exact wp_cond_false this (ihy fr H Q hd.2 hc.2 (h'.2 rfl) B n0 ρ0 w0 ρ a w s)
  grind
 | block id b ih =>
  intro fr H Q hd hc h B n0 ρ0 w0 ρ a w s
  refine wp_block (Code.wp_mono ?_ (ih fr H _ hd hc h B n0 ρ0 w0 ρ a w s))
  rintro e a' w' ⟨out,hq,ho⟩
  cases out with
  | norm fr' H'=>cases e <;> first | exact ho.elim | exact ⟨_,hq,ho⟩
  | exit id' fr' H' =>
   cases e with
   | exit id2 =>
    obtain ⟨rfl,ρ',s'⟩:=ho
    have hq' : if id2=id then Q (.norm fr' H') else Q (.exit id2 fr' H'):=hq
    by_cases e:id2=id
    ·subst e
     rw [if_pos rfl] at hq'
     simp only [Exit.inBlock,if_true]
     exact ⟨_,hq',ρ',s'⟩
    ·rw [if_neg e] at hq'
     simp only [Exit.inBlock,e,if_false]
     exact ⟨_,hq',rfl,ρ',s'⟩
   | _=>exact ho.elim
  | ret fr' H'=>cases e <;> first | exact ho.elim | exact ⟨_,hq,ho⟩
  | panic v fr' H'=>cases e <;> first | exact ho.elim | exact ⟨_,hq,ho⟩
  | bad=>exact hq.elim
 | loop b ih =>
  intro fr H Q hd hc h B n0 ρ0 w0 ρ a w s
  exact LW.wp (h B n0 ρ0 w0 ρ a w s)
 | rangeFunc f ps x y ihx ihy=>intro fr H Q hd hc h; exact h.elim
 | exit id=>intro fr H Q hd hc h B n0 ρ0 w0 ρ a w s; exact wp_exit ⟨_,h,rfl,ρ,s⟩
 | scope b ih=>intro fr H Q hd hc h; exact h.elim
 | label l=>intro fr H Q hd hc h B n0 ρ0 w0 ρ a w s; exact wp_label ⟨_,h,ρ,s⟩
 | goto l=>intro fr H Q hd hc h; exact h.elim
 | ret=>intro fr H Q hd hc h B n0 ρ0 w0 ρ a w s; exact wp_ret ⟨_,h,ρ,s⟩
 | refuse why=>intro fr H Q hd hc h; exact h.elim
theorem LX.roundP {O:CallF} (hO:∀ B,CallOK B G P O) (hG:G=P.globals.size) (plan:List (Nat×List It)) {b:Code} (hd:(dstsOk n b && codeOk P plan b)=true)
  (h:execP P (orW O (WC G P)) (LX G P n) plan b fr H (thenW (fun fr H=>LX G P n b fr H Q) Q)) : LX G P n b fr H Q:=by
 rw [Bool.and_eq_true] at hd
 intro B n0 ρ0 w0 ρ a w s
 refine LW.unroll (Code.wp_mono ?_ (execP_sound (orW_ok hO) (orW_mono (WC_mono' G P)) hG b fr H _ hd.1 hd.2 h B n0 ρ0 w0 ρ a w s))
 rintro e a' w' ⟨out,hq,ho⟩
 cases out with
 | norm fr' H' =>
  cases e with
  | normal=>obtain ⟨ρ',s'⟩:=ho; exact hq B n0 ρ0 w0 ρ' a' w' s'
  | _=>exact ho.elim
 | exit id fr' H'=>cases e <;> first | exact ho.elim | exact ⟨_,hq,ho⟩
 | ret fr' H'=>cases e <;> first | exact ho.elim | exact ⟨_,hq,ho⟩
 | panic v fr' H'=>cases e <;> first | exact ho.elim | exact ⟨_,hq,ho⟩
 | bad=>exact hq.elim
theorem WC.enterP {f:FuncId} {fn:Func} {c:Code} {args:List AV} {K:COut→Prop} {O:CallF} (hO:∀ B,CallOK B G P O) (hG:G=P.globals.size) (plan:List (Nat×List It)) (hf:P.funcs[f]?=some fn) (hb:fn.body=some c)
  (hd:(dstsOk fn.ntmps c && codeOk P plan c)=true) (hl:args.length≤fn.ntmps) (h:execP P (orW O (WC G P)) (LX G P fn.ntmps) plan c (frameW args) H (leaveW P O fn K)) : WC G P f args H K:=by
 rw [Bool.and_eq_true] at hd
 intro B ρ us w s hv
 have s1:St B G fn.ntmps H.next ρ w ρ (frameW args) H { tmps:=us++Array.replicate (fn.ntmps - us.size) undef,defers:=[] } w:=⟨Ext.refl _ _ _ _,s,frameW_entered hv hl,Nat.le_refl _⟩
 refine calls_of_wp_defers hf hb (Code.wp_mono ?_ (execP_sound (orW_ok hO) (orW_mono (WC_mono' G P)) hG c _ H _ hd.1 hd.2 h B H.next ρ w ρ _ w s1))
 rintro e a' w' ⟨out,hq,ho⟩
 have fin:∀ {fr' : Fr} {u:Mode} {H' : Mem} {ρ' : Rn} {m:FrameMode},(match leave P O (fun _ _ _=>.bad) fn fr' fr'.defers u H' with | .bad=>False | r=>K r)→St B G fn.ntmps H.next ρ w ρ' fr' H' a' w'→MR ρ' u m →
   Leaves P fn a'.tmps (fun e w'=>∃ r,K r∧CPost B G H.next ρ w r e w') a'.defers m w':=by
  intro fr' u H' ρ' m hm s' hmr
  have key:∀ r,leave P O (fun _ _ _=>.bad) fn fr' fr'.defers u H'=r→r≠.bad→K r→Leaves P fn a'.tmps (fun e w'=>∃ r,K r∧CPost B G H.next ρ w r e w') a'.defers m w':=by
   intro r hr hne hk
   refine Leaves_mono (fun e w' hc=>⟨r,hk,hc⟩) ?_
   exact leave_sound (hO B) (badLoop_ok B G P) hG hne _ _ u H' ρ' m w' s'.frel.dfr s' hmr hr
  grind
 cases out with
 | norm fr' H' =>
  cases e with
  | normal=>obtain ⟨ρ',s'⟩:=ho; exact fin (u:=.returning) (m:=.returning) hq s' rfl
  | _=>exact ho.elim
 | ret fr' H' =>
  cases e with
  | ret=>obtain ⟨ρ',s'⟩:=ho; exact fin (u:=.returning) (m:=.returning) hq s' rfl
  | _=>exact ho.elim
 | panic v fr' H' =>
  cases e with
  | panic chain=>obtain ⟨ρ',x,rfl,hx,s'⟩:=ho; exact fin (u:=.panicking v) hq s' ⟨x,rfl,hx⟩
  | _=>exact ho.elim
 | exit id fr' H'=>exact hq.elim
 | bad=>exact hq.elim
end Go.Ai
end
section
namespace Go.Ai
variable {P:Program} {W:WF} {L:LF} {Q:Out→Prop} {fr:Fr} {H:Mem} {plan:List (Nat×List It)} {ops:Array Oper} {al:AlP}
theorem execP_congr {tk:Nat} (_h0:tick=tk) {c:Code} {fr fr' : Fr} {H H' : Mem} (h1:fr=fr') (h2:H=H') : execP P W L plan c fr H Q=execP P W L plan c fr' H' Q:=by grind
theorem planW_congr {tk:Nat} (_h0:tick=tk) {l:List It} {fr fr' : Fr} {H H' : Mem} (h1:fr=fr') (h2:H=H') : planW P W ops Q l fr H al=planW P W ops Q l fr' H' al:=by grind
theorem againW_congr {tk:Nat} (_h0:tick=tk) {l:List Nat} {fr fr' : Fr} {H H' : Mem} (h1:fr=fr') (h2:H=H') : againW P W ops fr H l=againW P W ops fr' H' l:=by grind
theorem regP_congr {tk:Nat} (_h0:tick=tk) {l l' : List It} {fr fr' : Fr} {H H' : Mem} (h0:l=l') (h1:fr=fr') (h2:H=H') : regP P W ops Q l fr H=regP P W ops Q l' fr' H':=by grind
theorem clearQ_congr {tk:Nat} (_h0:tick=tk) {o o' : Out} (h:o=o') : clearQ Q o=clearQ Q o':=by rw [h]
def atW (l:List Oper) (i:Nat) (k:Oper→Prop) : Prop:=match l[i]? with | some o=>k o | none=>False
theorem atW_zero {o:Oper} {l:List Oper} {k:Oper→Prop} : atW (o :: l) 0 k=k o:=(rfl)
theorem atW_succ {o:Oper} {l:List Oper} {n:Nat} {k:Oper→Prop} : atW (o :: l) (n+1) k=atW l n k:=(rfl)
theorem atW_congr {tk:Nat} (_h0:tick=tk) {l:List Oper} {i:Nat} {k:Oper→Prop} : atW l i k=atW l i k:=rfl
attribute [congr] execP_congr planW_congr againW_congr regP_congr clearQ_congr atW_congr
theorem execP_skip:execP P W L plan .skip fr H Q=Q (.norm fr H):=(rfl)
theorem execP_region {id:Nat} {l:List Oper} : execP P W L plan (.region id l.toArray false) fr H Q=seqW P W l.toArray Q l fr H:=(rfl)
theorem execP_drawn {id:Nat} : execP P W L plan (.region id ops true) fr H Q=regP P W ops Q (planAt plan id) fr H:=(rfl)
theorem execP_seq {a b:Code} : execP P W L plan (.seq a b) fr H Q=execP P W L plan a fr H (thenW (fun fr H=>execP P W L plan b fr H Q) Q):=(rfl)
theorem execP_cond {x:Operand} {a b:Code} : execP P W L plan (.cond x a b) fr H Q=condW (fr.ev x) (execP P W L plan a fr H Q) (execP P W L plan b fr H Q):=(rfl)
theorem execP_block {id:Nat} {b:Code} : execP P W L plan (.block id b) fr H Q=execP P W L plan b fr H (inBlockW id Q):=(rfl)
theorem execP_loop {b:Code} : execP P W L plan (.loop b) fr H Q=L b fr H Q:=(rfl)
theorem execP_exit {id:Nat} : execP P W L plan (.exit id) fr H Q=Q (.exit id fr H):=(rfl)
theorem execP_ret:execP P W L plan .ret fr H Q=Q (.ret fr H):=(rfl)
theorem regP_f {g:Nat→Option AV} {ds:List Dfr} {l:List It} : regP P W ops Q l (.f g ds) H=planW P W ops (clearQ Q) l (.f g ds) H []:=(rfl)
theorem clearQ_norm:clearQ Q (.norm fr H)=Q (.norm fr H):=(rfl)
theorem planW_nil:planW P W ops Q [] fr H al=Q (.norm fr H):=(rfl)
theorem planW_run {l:List Oper} {i:Nat} {r:List It} : planW P W l.toArray Q (.run i :: r) fr H al=atW l i fun o=>oneW P W l.toArray o fr H (fun fr H=>planW P W l.toArray Q r fr H al) Q:=by
 rw [planW,List.getElem?_toArray]; rfl
theorem planW_mk {l:List Oper} {i:Nat} {r:List It} : planW P W l.toArray Q (.mk i :: r) fr H al=atW l i fun o=>oneW P W l.toArray o fr H (fun fr H'=>planW P W l.toArray Q r fr H' ((i,H.next,H'.get H.next) :: al)) Q:=by
 rw [planW,List.getElem?_toArray]; rfl
theorem planW_gate {hs as:List Nat} {r:List It} : planW P W ops Q (.gate hs as :: r) fr H al=(againW P W ops fr H hs∧keptW H as al∧planW P W ops Q r fr H al):=(rfl)
theorem againW_nil:againW P W ops fr H []=True:=(rfl)
theorem againW_cons {l:List Oper} {i:Nat} {hs:List Nat} : againW P W l.toArray fr H (i :: hs)=((atW l i fun o=>oneW P W l.toArray o fr H (fun fr' _=>slotOf fr' o.dst=slotOf fr o.dst) fun _=>False)∧againW P W l.toArray fr H hs):=by
 rw [againW,List.getElem?_toArray]; rfl
theorem slotOf_some {d:Tmp} : slotOf fr (some d)=fr.get d:=(rfl)
theorem keptW_nil {as:List Nat} : keptW H as []=True:=(rfl)
theorem keptW_cons {as:List Nat} {i a:Nat} {b:Option Blk} {l:AlP} : keptW H as ((i,a,b) :: l)=((i∈as→H.get a=b)∧keptW H as l):=(rfl)
attribute [simp] execP_skip execP_region execP_drawn execP_seq execP_cond execP_block execP_loop execP_exit execP_ret regP_f clearQ_norm
 planW_nil planW_run planW_mk planW_gate againW_nil againW_cons slotOf_some keptW_nil keptW_cons atW_zero atW_succ
end Go.Ai
end
section
namespace Go.Ai
variable {P:Program} {W:WF} {L:LF} {Q:Out→Prop} {fr:Fr} {H:Mem}
section
variable {ev:Ev} {d:Option Tmp} {ty:TypeId} {p:String} {af:Array Edge} {g:Option (Nat×Bool)}
end
end Go.Ai
end
section
namespace Go.Ai
variable {P:Program} {H:Mem}
section
variable {ev:Ev} {d:Option Tmp} {ty:TypeId} {p:String} {af:Array Edge} {g:Option (Nat×Bool)}
theorem pureV_info {t:TypeId} {i:TypeInfo} (h:P.info? t=some i) : pureV P (typeInfo t)=some i:=by
 unfold typeInfo
 show pureV P (match P.info? t with | some d=>pure d | none=>stuck "no such type")=_
 rw [h]; rfl
theorem equal_bool {t:TypeId} {a b:Bool} (ht:P.underlying t=some .bool) : pureV P (Op.equal t (.bool a) (.bool b))=some (a == b):=by
 unfold Op.equal
 show pureV P (Op.equalIn (9999+1) t (.bool a) (.bool b))=_
 unfold Op.equalIn
 exact (pureV_then (m:=underlying t) (pureV_underlying ht)).trans rfl
theorem bin_bneq {t rt:TypeId} {x y:Operand} {a b:Bool} (hx:ev x=some (.lit (.bool a))) (hy:ev y=some (.lit (.bool b))) (ht:P.underlying t=some .bool) :
  binS P H ev ⟨d,.binOp .neq t x y rt,ty,p,af,g⟩ .neq t (some (.lit (.bool a))) (some (.lit (.bool b)))=.val (.lit (.bool (!(a == b)))) H:=by
 unfold binS
 dsimp only
 rw [oBin_generic (v:=.lit (.bool (!(a == b)))) rfl]
 refine generic2 (r:=.bool (!(a == b))) rfl hx hy fun ρ h1 h2=>execOp_bin h1 h2 rfl ?_
 show pureV P (do pure (Value.bool (!(← Op.equal t (.bool a) (.bool b)))))=_
 exact (pureV_then (equal_bool ht)).trans rfl
attribute [simp] bin_bneq
end
end Go.Ai
end
section
namespace Go.Ai
structure GraphM where
 n:Nat
 succ:Nat→List Nat
abbrev SetS:=Nat→Bool
def GraphM.ok (G:GraphM) : Prop:=∀ s,s < G.n→∀ t∈G.succ s,t < G.n
def leS (n:Nat) (X Y:SetS) : Prop:=∀ s,s < n→X s=true→Y s=true
def eqS (n:Nat) (X Y:SetS) : Prop:=∀ s,s < n→X s=Y s
theorem eqS.le {n:Nat} {X Y:SetS} (h:eqS n X Y) : leS n X Y:=fun s hs hx=>by rw [← h s hs]; exact hx
theorem eqS.symm {n:Nat} {X Y:SetS} (h:eqS n X Y) : eqS n Y X:=fun s hs=>(h s hs).symm
theorem eqS.trans {n:Nat} {X Y Z:SetS} (h:eqS n X Y) (h' : eqS n Y Z) : eqS n X Z:=fun s hs=>(h s hs).trans (h' s hs)
def GraphM.pre (G:GraphM) (X:SetS) : SetS:=fun s=>(G.succ s).any X
def GraphM.post (G:GraphM) (X:SetS) : SetS:=fun s=>(G.succ s).all X
def cnt (X:SetS) : Nat→Nat
 | 0=>0
 | k+1=>cnt X k+(if X k then 1 else 0)
variable {B G:Nat} {P:Program} {ρ:Rn} {H:Mem} {w:World}
noncomputable def orR (x:COut) (y:COut) : COut:=COut.rec (motive:=fun _=>COut) (fun v H=>.ret v H) (fun v H=>.panic v H) y x
noncomputable def orC (O c:CallF) : CallF:=fun f a H=>orR (O f a H) (c f a H)
theorem orC_ok {O c:CallF} (hO:CallOK B G P O) (hc:CallOK B G P c) : CallOK B G P (orC O c):=by
 intro f args H hne ρ us w s hv
 unfold orC at hne ⊢
 cases hr:O f args H with
 | bad=>rw [hr] at hne; exact hc f args H hne ρ us w s hv
 | ret v H'=>have:=hO f args H (by grind) ρ us w s hv; rw [hr] at this; exact this
 | panic v H'=>have:=hO f args H (by grind) ρ us w s hv; rw [hr] at this; exact this
noncomputable def Mem.fn (H:Mem) : Mem:=⟨.fn H.get,H.next⟩
theorem Sim.toFn (s:Sim B G ρ H w) : Sim B G ρ H.fn w:=⟨s.blk,s.inj,s.fresh,s.glob,s.names,s.base⟩
theorem Sim.ofFn (s:Sim B G ρ H.fn w) : Sim B G ρ H w:=⟨s.blk,s.inj,s.fresh,s.glob,s.names,s.base⟩
theorem WC.ofFn {f:FuncId} {args:List AV} {v:AV} (h:WC G P f args H.fn fun r=>r=.ret v H.fn) : WC G P f args H fun r=>r=.ret v H:=by
 intro B ρ us w s hv
 refine (h B ρ us w s.toFn hv).mono ?_
 rintro e w' ⟨r,rfl,hc⟩
 refine ⟨_,rfl,?_⟩
 cases e with
 | returned u =>
  obtain ⟨ρ',h1,h2,h3,h4⟩:=hc
  exact ⟨ρ',h1,h2.ofFn,h3,Nat.le_refl _⟩
 | panicked chain=>assumption
 | outgrown=>assumption
mutual
def belowV (n:Nat) : AV→Bool
 | .lit _=>true
 | .es=>true
 | .ptr a _=>Nat.blt a n
 | .sl a _ _ _=>Nat.blt a n
 | .slq a _ _ _=>Nat.blt a n
 | .map a=>Nat.blt a n
 | .func _ x y=>belowL n x && belowL n y
 | .iface _ v=>belowV n v
 | .agg l=>belowL n l
 | .tup l=>belowL n l
def belowL (n:Nat) : List AV→Bool
 | []=>true
 | v :: l=>belowV n v && belowL n l
end
def restr (n:Nat) (ρ:Rn) : Rn:=fun a=>if a < n then ρ a else none
theorem restr_lt {n a:Nat} {ρ:Rn} (h:Nat.blt a n=true) : restr n ρ a=ρ a:=if_pos (Nat.le_of_ble_eq_true h)
mutual
theorem below_VR {n:Nat} {ρ:Rn} : ∀ {v:AV} {u:Value},belowV n v=true→VR ρ v u→VR (restr n ρ) v u
 | .lit _,_,_,r=>r
 | .es,_,_,r=>r
 | .ptr a _,_,hb,⟨b,o,k,e,r⟩=>⟨b,o,k,(restr_lt (by simpa [belowV] using hb)).trans e,r⟩
 | .sl a _ _ _,_,hb,⟨b,o,k,e,r⟩=>⟨b,o,k,(restr_lt (by simpa [belowV] using hb)).trans e,r⟩
 | .slq a _ _ _,_,hb,⟨b,o,k,e,r⟩=>⟨b,o,k,(restr_lt (by simpa [belowV] using hb)).trans e,r⟩
 | .map a,_,hb,⟨b,o,k,e,r⟩=>⟨b,o,k,(restr_lt (by simpa [belowV] using hb)).trans e,r⟩
 | .func _ _ _,_,hb,⟨f',c',e,r,q⟩=>by
  simp only [belowV,Bool.and_eq_true] at hb
  exact ⟨f',c',e,below_VRs hb.1 r,below_VRs hb.2 q⟩
 | .iface _ _,_,hb,⟨u',e,r⟩=>⟨u',e,below_VR (by simpa [belowV] using hb) r⟩
 | .agg _,_,hb,⟨cs,e,r⟩=>⟨cs,e,below_VRs (by simpa [belowV] using hb) r⟩
 | .tup _,_,hb,⟨cs,e,r⟩=>⟨cs,e,below_VRs (by simpa [belowV] using hb) r⟩
theorem below_VRs {n:Nat} {ρ:Rn} : ∀ {l:List AV} {us:List Value},belowL n l=true→VRs ρ l us→VRs (restr n ρ) l us
 | [],_,_,r=>r
 | _ :: _,_,hb,⟨u,us',e,r,q⟩=>by
  simp only [belowL,Bool.and_eq_true] at hb
  exact ⟨u,us',e,below_VR hb.1 r,below_VRs hb.2 q⟩
end
def startB (n:Nat) : Option Blk→Bool
 | none=>true
 | some (.cells l own _)=>!own && belowL n l
 | _=>false
def retIs (v:AV) : COut→Bool
 | .ret u _=>eqAV u v
 | _=>false
theorem Sim.small {H0:Mem} (s:Sim B G ρ H w) (hG:G≤H0.next) (hst:∀ a,startB H0.next (H0.get a)=true) (hsub:∀ a x,H0.get a=some x→H.get a=some x) (hlt:∀ a x,H0.get a=some x→a < H0.next) :
  Sim w.heap.size G (restr H0.next ρ) H0 w:=by
 refine ⟨fun a x ha=>?_,fun a a' x x' b o k o' k' ha _ _ hown=>?_,fun a ha=>if_neg (Nat.not_lt.2 ha),fun a x hlt' ha=>?_,hG,Nat.le_refl _⟩
 ·have hr:restr H0.next ρ a=ρ a:=if_pos (hlt a x ha)
  rcases s.blk a x (hsub a x ha) with hn | ⟨b,o,k,h1,h2⟩
  ·grind
  ·refine .inr ⟨b,o,k,hr.trans h1,?_⟩
   have hs:=hst a
   rw [ha] at hs
   cases x with
   | cells l own z =>
    simp only [startB,Bool.and_eq_true,Bool.not_eq_true'] at hs
    obtain ⟨c,e,fz,h3,h4,h5⟩:=h2
    refine ⟨c,e,fz,h3,fun i v hi=>?_,fun hown=>by grind⟩
    obtain ⟨u,hu,hv⟩:=h4 i v hi
    refine ⟨u,hu,below_VR ?_ hv⟩
    have key:∀ (l:List AV) (i:Nat),belowL H0.next l=true→l[i]?=some v→belowV H0.next v=true:=by
     intro l
     induction l with
     | nil=>grind
     | cons y l ih =>
      (simp_all [belowL]; grind)
    grind
   | map _ _=>cases hs
   | siter _ _=>cases hs
   | typ _ _ _=>cases hs
 ·have hs:=hst a
  rw [ha] at hs
  cases x with
  | cells l own z =>
   simp only [startB,Bool.and_eq_true,Bool.not_eq_true'] at hs
   have:own=true:=hown
   grind
  | map _ _=>cases hs
  | siter _ _=>cases hs
  | typ _ _ _=>cases hs
 ·have hr:restr H0.next ρ a=ρ a:=if_pos (hlt a x ha)
  exact hr.trans (s.glob a x hlt' (hsub a x ha))
theorem WC.local {H0:Mem} {O:CallF} {f:FuncId} {args:List AV} {v:AV} (hO:∀ B,CallOK B G P O) (hrun:retIs v (O f args H0)=true) (hv:plainV v=true) (hargs:belowL 0 args=true)
  (hG:G≤H0.next) (hst:∀ a,startB H0.next (H0.get a)=true) (hsub:∀ a x,H0.get a=some x→H.get a=some x) (hlt:∀ a x,H0.get a=some x→a < H0.next) :
  WC G P f args H fun r=>r=.ret v H:=by
 intro B ρ us w s hva
 have mono0:∀ (n:Nat),(∀ v,belowV 0 v=true→belowV n v=true)∧(∀ l,belowL 0 l=true→belowL n l=true):=by
  intro n
  have hV:∀ v,belowV 0 v=true→belowV n v=true:=by
   intro v
   refine AV.rec (motive_1:=fun v=>belowV 0 v=true→belowV n v=true) (motive_2:=fun l=>belowL 0 l=true→belowL n l=true) ?_ ?_ ?_ ?_ ?_ ?_ ?_ ?_ ?_ ?_ ?_ ?_ v
   all_goals intros
   all_goals simp_all [belowV,belowL]
  have hL:∀ l,belowL 0 l=true→belowL n l=true:=by
   intro l
   induction l with
   | nil=>intro _; rfl
   | cons x l ih =>
    simp_all [belowL]
  grind
 have s0:=s.small hG hst hsub hlt
 have hrr:∃ u H1,O f args H0=.ret u H1∧u=v:=by
  cases hr:O f args H0 with
  | ret u H1=>rw [hr] at hrun; exact ⟨u,H1,rfl,eqAV_sound _ _ hrun⟩
  | panic u H1=>rw [hr] at hrun; cases hrun
  | bad=>rw [hr] at hrun; cases hrun
 obtain ⟨u,H1,hr,rfl⟩:=hrr
 refine (hO _ f args H0 (by grind) _ us w s0 (below_VRs ((mono0 H0.next).2 args hargs) hva)).mono ?_
 intro e w' hc
 rw [hr] at hc
 refine ⟨_,rfl,?_⟩
 cases e with
 | returned x =>
  obtain ⟨ρ',h1,h2,h3,h4⟩:=hc
  have hb:=h1.below
  have hb' : Go.RowKit.Below B w w':=⟨hb.os,hb.tape,hb.output,hb.size,fun a ha=>hb.block a (Nat.lt_of_lt_of_le ha s.base)⟩
  refine ⟨ρ,⟨fun _ _=>rfl,h1.keeps,hb'⟩,?_,plain_VR hv h3,Nat.le_refl _⟩
  refine s.other hb.size fun a x b o k ha hra=>?_
  exact hb.block b (s.at ha hra).lt
 | panicked chain=>assumption
 | outgrown=>assumption
end Go.Ai
end
section
namespace Go.Ai
variable {B G:Nat} {P:Program} {ρ ρ' : Rn} {H H' H2:Mem} {w w' : World}
end Go.Ai
end
section
namespace Go.Ai
section
variable {G:Nat} {P:Program} {W:WF} {Q:Out→Prop} {fr:Fr} {H:Mem} {ev:Ev} {d:Option Tmp} {ty:TypeId} {p:String} {af:Array Edge} {g:Option (Nat×Bool)}
noncomputable def maxS (P:Program) (H:Mem) (ev:Ev) (o:Oper) (x y:Option AV) : R:=match x,y with
 | some (.lit (.int k a)),some (.lit (.int _ b))=>.val (.lit (.int k (if b > a then b else a))) H
 | _,_=>opV P H ev o
theorem op_max {x y:Operand} {s t:TypeId} : opV P H ev ⟨d,.call ⟨.builtin .max,#[x,y],#[s,t]⟩,ty,p,af,g⟩=maxS P H ev ⟨d,.call ⟨.builtin .max,#[x,y],#[s,t]⟩,ty,p,af,g⟩ (ev x) (ev y):=by
 unfold maxS
 split
 ·rename_i k a k' b hx hy
  have hg:generic P ev ⟨d,.call ⟨.builtin .max,#[x,y],#[s,t]⟩,ty,p,af,g⟩=some (.lit (.int k (if b > a then b else a))):=by
   refine generic2 (u:=.int k a) (u':=.int k' b) (by rfl) hx hy fun ρ h1 h2=>?_
   rw [exec_builtin (b:=.max) (c:=⟨.builtin .max,#[x,y],#[s,t]⟩) rfl rfl]
   have ea:(#[x,y] : Array Operand).map ρ=#[ρ x,ρ y]:=by simp
   have hm:pureV P (Builtin.max_ #[s,t] ty #[ρ x,ρ y])=some (.int k (if b > a then b else a)):=by
    rw [h1,h2]
    rfl
   show pureV P (builtin .max #[s,t] ty _ ((#[x,y] : Array Operand).map ρ))=_
   rw [ea]
   show pureV P (do pure (Next.value (← Builtin.max_ #[s,t] ty #[ρ x,ρ y])))=_
   exact (pureV_then hm).trans rfl
  show callOp P H ev _ ⟨.builtin .max,#[x,y],#[s,t]⟩=_
  unfold callOp
  rw [show (#[x,y] : Array Operand).toList=[x,y] from rfl]
  simp_all [oBuiltin]
 ·rfl
theorem maxS_congr {tk:Nat} (_h0:tick=tk) {o:Oper} {x x' y y' : Option AV} {H H' : Mem} (h1:H=H') (h2:x=x') (h3:y=y') : maxS P H ev o x y=maxS P H' ev o x' y':=by grind
attribute [congr] maxS_congr
theorem maxS_int {o:Oper} {k k' : IntKind} {a b:Int} : maxS P H ev o (some (.lit (.int k a))) (some (.lit (.int k' b)))=.val (.lit (.int k (if b > a then b else a))) H:=(rfl)
noncomputable def minS (P:Program) (H:Mem) (ev:Ev) (o:Oper) (x y:Option AV) : R:=match x,y with
 | some (.lit (.int k a)),some (.lit (.int _ b))=>.val (.lit (.int k (if b < a then b else a))) H
 | _,_=>opV P H ev o
theorem op_min {x y:Operand} {s t:TypeId} : opV P H ev ⟨d,.call ⟨.builtin .min,#[x,y],#[s,t]⟩,ty,p,af,g⟩=minS P H ev ⟨d,.call ⟨.builtin .min,#[x,y],#[s,t]⟩,ty,p,af,g⟩ (ev x) (ev y):=by
 unfold minS
 split
 ·rename_i k a k' b hx hy
  have hg:generic P ev ⟨d,.call ⟨.builtin .min,#[x,y],#[s,t]⟩,ty,p,af,g⟩=some (.lit (.int k (if b < a then b else a))):=by
   refine generic2 (u:=.int k a) (u':=.int k' b) (by rfl) hx hy fun ρ h1 h2=>?_
   rw [exec_builtin (b:=.min) (c:=⟨.builtin .min,#[x,y],#[s,t]⟩) rfl rfl]
   have ea:(#[x,y] : Array Operand).map ρ=#[ρ x,ρ y]:=by simp
   have hm:pureV P (Builtin.min_ #[s,t] ty #[ρ x,ρ y])=some (.int k (if b < a then b else a)):=by
    rw [h1,h2]
    rfl
   show pureV P (builtin .min #[s,t] ty _ ((#[x,y] : Array Operand).map ρ))=_
   rw [ea]
   show pureV P (do pure (Next.value (← Builtin.min_ #[s,t] ty #[ρ x,ρ y])))=_
   exact (pureV_then hm).trans rfl
  show callOp P H ev _ ⟨.builtin .min,#[x,y],#[s,t]⟩=_
  unfold callOp
  rw [show (#[x,y] : Array Operand).toList=[x,y] from rfl]
  simp_all [oBuiltin]
 ·rfl
theorem minS_congr {tk:Nat} (_h0:tick=tk) {o:Oper} {x x' y y' : Option AV} {H H' : Mem} (h1:H=H') (h2:x=x') (h3:y=y') : minS P H ev o x y=minS P H' ev o x' y':=by grind
attribute [congr] minS_congr
theorem minS_int {o:Oper} {k k' : IntKind} {a b:Int} : minS P H ev o (some (.lit (.int k a))) (some (.lit (.int k' b)))=.val (.lit (.int k (if b < a then b else a))) H:=(rfl)
attribute [simp] op_min minS_int
attribute [simp] op_max maxS_int
end
end Go.Ai
end
section
namespace Go.Ai
section
variable {P:Program} {H:Mem} {ev:Ev} {d:Option Tmp} {ty:TypeId} {p:String} {af:Array Edge} {g:Option (Nat×Bool)} {x y:Operand} {s t:TypeId} {size bytes:Nat}
theorem firstL_row {a n c:Nat} {l:List AV} {own:Bool} {z:Nat} (h:H.get a=some (.cells l own z)) (hl:l.length=n * size) : firstL H size n (.sl a 0 n c)=some l:=by
 rw [firstL_sl h (by omega),List.drop_zero,List.take_of_length_le (by omega)]
theorem firstL_rowq {a n c:Nat} {l:List AV} {own:Bool} {z:Nat} (h:H.get a=some (.cells l own z)) (hl:n * size≤l.length) : firstL H size n (.slq a 0 n c)=some (l.take (n * size)):=by
 rw [firstL_slq h (by omega),List.drop_zero]
variable {hp:apI P s t=some (size,bytes)} {hs:0 < size} {hb:bytes≤1048576}
theorem ap_nil {b c:Nat} {l:List AV} {own:Bool} {z:Nat} {hx:ev x=some (.lit (.slice none 0 0))} {hy:ev y=some (.sl b 0 1 c)} (hp:apI P s t=some (size,bytes)) (hs:(decide (0 < size) && decide (bytes≤1048576))=true)
  (hg:H.get b=some (.cells l own z)) (hl:l.length=size) :
  ex2 P H ev ⟨d,.call ⟨.builtin .append,#[x,y],#[s,t]⟩,ty,p,af,g⟩ x y (some (.lit (.slice none 0 0))) (some (.sl b 0 1 c)) hx hy=.val (.slq H.next 0 1 0) (H.add (.cells l true size)):=by
 simp only [Bool.and_eq_true,decide_eq_true_eq] at hs
 show opV P H ev _=_
 rw [append_of hx hy hp,appendN_nil (n:=0) rfl hs.1 (firstL_row hg (by omega)) (by omega) (by omega) hs.2]
theorem ap_sl0 {a b c off:Nat} {l l0:List AV} {own own0:Bool} {z z0:Nat} {hx:ev x=some (.sl a off 0 0)} {hy:ev y=some (.sl b 0 1 c)} (hp:apI P s t=some (size,bytes)) (hs:(decide (0 < size) && decide (bytes≤1048576))=true)
  (hg:H.get b=some (.cells l own z)) (hg0:H.get a=some (.cells l0 own0 z0)) (hl:l.length=size) (ho:off≤l0.length) :
  ex2 P H ev ⟨d,.call ⟨.builtin .append,#[x,y],#[s,t]⟩,ty,p,af,g⟩ x y (some (.sl a off 0 0)) (some (.sl b 0 1 c)) hx hy=.val (.slq H.next 0 1 0) (H.add (.cells l true size)):=by
 simp only [Bool.and_eq_true,decide_eq_true_eq] at hs
 show opV P H ev _=_
 rw [append_of hx hy hp,appendN_full (n:=0) rfl hs.1 (firstL_row hg (by omega)) (by omega) hg0 (by omega) (by omega) (by omega) hs.2]
 simp
theorem ap_slq {a b c k:Nat} {l r:List AV} {own:Bool} {z:Nat} {hx:ev x=some (.slq a 0 k 0)} {hy:ev y=some (.sl b 0 1 c)} (hp:apI P s t=some (size,bytes)) (hs:(decide (0 < size) && decide (bytes≤1048576))=true)
  (hg:H.get b=some (.cells l own z)) (hg0:H.get a=some (.cells r true size)) (hl:l.length=size) (hr:r.length=k * size) (hk:k≤1000000) (h1:allOne l=true) :
  ex2 P H ev ⟨d,.call ⟨.builtin .append,#[x,y],#[s,t]⟩,ty,p,af,g⟩ x y (some (.slq a 0 k 0)) (some (.sl b 0 1 c)) hx hy=.val (.slq H.next 0 (k+1) 0) ((H.rm a).add (.cells (r++l) true size)):=by
 simp only [Bool.and_eq_true,decide_eq_true_eq] at hs
 show opV P H ev _=_
 rw [append_of hx hy hp,appendN_grow (n:=0) rfl hs.1 (firstL_row hg (by omega)) (by omega) hg0 hr (by omega) hs.2 h1]
 rfl
theorem ap_some {a b c off n:Nat} {r l0:List AV} {own own0:Bool} {z z0:Nat} {hx:ev x=some (.sl a off 0 0)} {hy:ev y=some (.slq b 0 (n+1) c)} (hp:apI P s t=some (size,bytes)) (hs:(decide (0 < size) && decide (bytes≤1048576))=true)
  (hg:H.get b=some (.cells r own z)) (hg0:H.get a=some (.cells l0 own0 z0)) (hl:(n+1) * size≤r.length) (ho:off≤l0.length) (hn:n≤1000000) :
  ex2 P H ev ⟨d,.call ⟨.builtin .append,#[x,y],#[s,t]⟩,ty,p,af,g⟩ x y (some (.sl a off 0 0)) (some (.slq b 0 (n+1) c)) hx hy=.val (.slq H.next 0 (n+1) 0) (H.add (.cells (r.take ((n+1) * size)) true size)):=by
 simp only [Bool.and_eq_true,decide_eq_true_eq] at hs
 show opV P H ev _=_
 rw [append_of hx hy hp,appendN_full (n:=n) rfl hs.1 (firstL_rowq hg hl) (by grind) hg0 (by omega) (by omega) (by omega) hs.2]
 simp
/- The same,by what the blocks hold. -/
noncomputable def apN (q:Option (Nat×Nat)) (gb:Option Blk) (H:Mem) (els:R) : R:=match q,gb with
 | some (size,bytes),some (.cells l _ _)=>if 0 < size∧bytes≤1048576∧l.length=size then .val (.slq H.next 0 1 0) (H.add (.cells l true size)) else els
 | _,_=>els
noncomputable def apZ (q:Option (Nat×Nat)) (off:Nat) (ga gb:Option Blk) (H:Mem) (els:R) : R:=match q,ga,gb with
 | some (size,bytes),some (.cells l0 _ _),some (.cells l _ _)=>if 0 < size∧bytes≤1048576∧l.length=size∧off≤l0.length then .val (.slq H.next 0 1 0) (H.add (.cells l true size)) else els
 | _,_,_=>els
noncomputable def apQ (q:Option (Nat×Nat)) (k a:Nat) (ga gb:Option Blk) (H:Mem) (els:R) : R:=match q,ga,gb with
 | some (size,bytes),some (.cells r true z),some (.cells l _ _)=>if z=size∧0 < size∧bytes≤1048576∧l.length=size∧r.length=k * size∧k≤1000000∧allOne l=true then .val (.slq H.next 0 (k+1) 0) ((H.rm a).add (.cells (r++l) true size)) else els
 | _,_,_=>els
noncomputable def apM (q:Option (Nat×Nat)) (n off:Nat) (ga gb:Option Blk) (H:Mem) (els:R) : R:=match q,ga,gb with
 | some (size,bytes),some (.cells l0 _ _),some (.cells r _ _)=>if 0 < size∧bytes≤1048576∧(n+1) * size≤r.length∧off≤l0.length∧n≤1000000 then .val (.slq H.next 0 (n+1) 0) (H.add (.cells (r.take ((n+1) * size)) true size)) else els
 | _,_,_=>els
theorem ap_nil' {b c:Nat} {hx:ev x=some (.lit (.slice none 0 0))} {hy:ev y=some (.sl b 0 1 c)} :
  ex2 P H ev ⟨d,.call ⟨.builtin .append,#[x,y],#[s,t]⟩,ty,p,af,g⟩ x y (some (.lit (.slice none 0 0))) (some (.sl b 0 1 c)) hx hy=apN (apI P s t) (H.get b) H (opV P H ev ⟨d,.call ⟨.builtin .append,#[x,y],#[s,t]⟩,ty,p,af,g⟩):=by
 unfold apN
 split
 ·rename_i size bytes l own z h1 h2
  split
  ·grind [ap_nil]
  ·rfl
 ·rfl
theorem ap_sl0' {a b c off:Nat} {hx:ev x=some (.sl a off 0 0)} {hy:ev y=some (.sl b 0 1 c)} :
  ex2 P H ev ⟨d,.call ⟨.builtin .append,#[x,y],#[s,t]⟩,ty,p,af,g⟩ x y (some (.sl a off 0 0)) (some (.sl b 0 1 c)) hx hy=apZ (apI P s t) off (H.get a) (H.get b) H (opV P H ev ⟨d,.call ⟨.builtin .append,#[x,y],#[s,t]⟩,ty,p,af,g⟩):=by
 unfold apZ
 split
 ·rename_i size bytes l0 o0 z0 l own z h1 h2 h3
  split
  ·grind [ap_sl0]
  ·rfl
 ·rfl
theorem ap_slq' {a b c k:Nat} {hx:ev x=some (.slq a 0 k 0)} {hy:ev y=some (.sl b 0 1 c)} :
  ex2 P H ev ⟨d,.call ⟨.builtin .append,#[x,y],#[s,t]⟩,ty,p,af,g⟩ x y (some (.slq a 0 k 0)) (some (.sl b 0 1 c)) hx hy=apQ (apI P s t) k a (H.get a) (H.get b) H (opV P H ev ⟨d,.call ⟨.builtin .append,#[x,y],#[s,t]⟩,ty,p,af,g⟩):=by
 unfold apQ
 split
 ·rename_i size bytes r z l own w h1 h2 h3
  split
  ·rename_i h
   obtain ⟨rfl,e2,e3,e4,e5,e6,e7⟩:=h
   grind [ap_slq]
  ·rfl
 ·rfl
theorem ap_some' {a b c off n:Nat} {hx:ev x=some (.sl a off 0 0)} {hy:ev y=some (.slq b 0 (n+1) c)} :
  ex2 P H ev ⟨d,.call ⟨.builtin .append,#[x,y],#[s,t]⟩,ty,p,af,g⟩ x y (some (.sl a off 0 0)) (some (.slq b 0 (n+1) c)) hx hy=apM (apI P s t) n off (H.get a) (H.get b) H (opV P H ev ⟨d,.call ⟨.builtin .append,#[x,y],#[s,t]⟩,ty,p,af,g⟩):=by
 unfold apM
 split
 ·rename_i size bytes l0 o0 z0 r own w h1 h2 h3
  split
  ·grind [ap_some]
  ·rfl
 ·rfl
theorem apN_congr {tk:Nat} (_h0:tick=tk) {q q' : Option (Nat×Nat)} {gb gb' : Option Blk} {H:Mem} {els:R} (h1:q=q') (h2:gb=gb') : apN q gb H els=apN q' gb' H els:=by grind
theorem apZ_congr {tk:Nat} (_h0:tick=tk) {q q' : Option (Nat×Nat)} {off:Nat} {ga ga' gb gb' : Option Blk} {H:Mem} {els:R} (h1:q=q') (h2:ga=ga') (h3:gb=gb') : apZ q off ga gb H els=apZ q' off ga' gb' H els:=by grind
theorem apQ_congr {tk:Nat} (_h0:tick=tk) {q q' : Option (Nat×Nat)} {k a:Nat} {ga ga' gb gb' : Option Blk} {H:Mem} {els:R} (h1:q=q') (h2:ga=ga') (h3:gb=gb') : apQ q k a ga gb H els=apQ q' k a ga' gb' H els:=by grind
theorem apM_congr {tk:Nat} (_h0:tick=tk) {q q' : Option (Nat×Nat)} {n off:Nat} {ga ga' gb gb' : Option Blk} {H:Mem} {els:R} (h1:q=q') (h2:ga=ga') (h3:gb=gb') : apM q n off ga gb H els=apM q' n off ga' gb' H els:=by grind
attribute [congr] apN_congr apZ_congr apQ_congr apM_congr
variable {els:R} {z w:Nat} {l r l0:List AV} {own own0:Bool} {k a n off:Nat} {G:Nat→Option Blk}
theorem apN_ok (h1:0 < size) (h2:bytes≤1048576) (h3:l.length=size) : apN (some (size,bytes)) (some (.cells l own z)) ⟨.fn G,n⟩ els=.val (.slq n 0 1 0) ⟨.fn (gput G n (some (.cells l true size))),n+1⟩:=if_pos ⟨h1,h2,h3⟩
theorem apZ_ok (h1:0 < size) (h2:bytes≤1048576) (h3:l.length=size) (h4:off≤l0.length) : apZ (some (size,bytes)) off (some (.cells l0 own0 w)) (some (.cells l own z)) ⟨.fn G,n⟩ els=.val (.slq n 0 1 0) ⟨.fn (gput G n (some (.cells l true size))),n+1⟩:=if_pos ⟨h1,h2,h3,h4⟩
theorem apQ_ok (h1:0 < size) (h2:bytes≤1048576) (h3:l.length=size) (h4:r.length=k * size) (h5:k≤1000000) (h6:allOne l=true) :
  apQ (some (size,bytes)) k a (some (.cells r true size)) (some (.cells l own w)) ⟨.fn G,n⟩ els=.val (.slq n 0 (k+1) 0) ⟨.fn (gput (gput G a none) n (some (.cells (r++l) true size))),n+1⟩:=if_pos ⟨rfl,h1,h2,h3,h4,h5,h6⟩
theorem apM_ok {m:Nat} (h1:0 < size) (h2:bytes≤1048576) (h3:(m+1) * size≤r.length) (h4:off≤l0.length) (h5:m≤1000000) :
  apM (some (size,bytes)) m off (some (.cells l0 own0 w)) (some (.cells r own z)) ⟨.fn G,n⟩ els=.val (.slq n 0 (m+1) 0) ⟨.fn (gput G n (some (.cells (r.take ((m+1) * size)) true size))),n+1⟩:=if_pos ⟨h1,h2,h3,h4,h5⟩
attribute [simp] ap_nil' ap_sl0' ap_slq' ap_some' apN_ok apZ_ok apQ_ok apM_ok
end
def rOf:R→Option AV
 | .val v _=>some v
 | _=>none
theorem resVar_cell {P:Program} {g:Nat→Option AV} {ds:List Dfr} {H:Mem} {a:Tmp} {t:TypeId} : resVar P (.f g ds) H (.cell a t)=rOf (oLoad P H t (g a)):=by
 show (match g a with | some p=>load P H t p | none=>none)=_
 unfold oLoad
 cases g a with
 | none=>rfl
 | some p =>
  dsimp only
  cases load P H t p <;> rfl
theorem rOf_val {v:AV} {H:Mem} : rOf (.val v H)=some v:=(rfl)
attribute [simp] resVar_cell rOf_val
theorem bsS_nil' {P:Program} {t:TypeId} {z:List AV} {size n:Nat} {g:Nat→Option Blk} (h:bsI P t=some (z,size)) :
  bsS P ⟨.fn g,n⟩ t 0 (some (z,size)) (some [])=.val (.sl n 0 0 0) ⟨.fn (gput g n (some (.cells [] true 0))),n+1⟩:=by
 unfold bsS
 dsimp only
 rw [if_neg (by omega)]
 exact bsS_nil h
attribute [simp] bsS_nil'
end Go.Ai
end
section
namespace Go.Ai
section
variable {P:Program} {H:Mem} {ev:Ev} {d:Option Tmp} {ty:TypeId} {p:String} {af:Array Edge} {g:Option (Nat×Bool)} {x y:Operand} {s t:TypeId} {size bytes:Nat}
noncomputable def apF (q:Option (Nat×Nat)) (k off:Nat) (ga gb:Option Blk) (H:Mem) (els:R) : R:=match q,ga,gb with
 | some (size,bytes),some (.cells l0 _ _),some (.cells l _ _)=>if 0 < size∧bytes≤1048576∧l.length=size∧off+(k+1) * size≤l0.length∧k≤1000000 then .val (.slq H.next 0 (k+1+1) 0) (H.add (.cells ((l0.drop off).take ((k+1) * size)++l) true size)) else els
 | _,_,_=>els
theorem ap_full' {a b c off k:Nat} {hx:ev x=some (.sl a off (k+1) (k+1))} {hy:ev y=some (.sl b 0 1 c)} :
  ex2 P H ev ⟨d,.call ⟨.builtin .append,#[x,y],#[s,t]⟩,ty,p,af,g⟩ x y (some (.sl a off (k+1) (k+1))) (some (.sl b 0 1 c)) hx hy=apF (apI P s t) k off (H.get a) (H.get b) H (opV P H ev ⟨d,.call ⟨.builtin .append,#[x,y],#[s,t]⟩,ty,p,af,g⟩):=by
 unfold apF
 split
 ·rename_i size bytes l0 o0 z0 l own z h1 h2 h3
  split
  ·rename_i h
   obtain ⟨e1,e2,e3,e4,e5⟩:=h
   show opV P H ev _=_
   rw [append_of hx hy h1,appendN_full (n:=0) rfl e1 (firstL_row h3 (by omega)) (by omega) h2 e4 (by omega) (by omega) e2]
  ·rfl
 ·rfl
theorem apF_congr {tk:Nat} (_h0:tick=tk) {q q' : Option (Nat×Nat)} {k off:Nat} {ga ga' gb gb' : Option Blk} {H:Mem} {els:R} (h1:q=q') (h2:ga=ga') (h3:gb=gb') : apF q k off ga gb H els=apF q' k off ga' gb' H els:=by grind
attribute [congr] apF_congr
variable {els:R} {z w:Nat} {l l0:List AV} {own own0:Bool} {k n off:Nat} {G:Nat→Option Blk}
theorem apF_ok (h1:0 < size) (h2:bytes≤1048576) (h3:l.length=size) (h4:off+(k+1) * size≤l0.length) (h5:k≤1000000) :
  apF (some (size,bytes)) k off (some (.cells l0 own0 w)) (some (.cells l own z)) ⟨.fn G,n⟩ els=.val (.slq n 0 (k+1+1) 0) ⟨.fn (gput G n (some (.cells ((l0.drop off).take ((k+1) * size)++l) true size))),n+1⟩:=if_pos ⟨h1,h2,h3,h4,h5⟩
attribute [simp] ap_full' apF_ok
end
end Go.Ai
end
section
namespace Go.Ai
section
variable {P:Program} {W:WF} {Q:Out→Prop} {fr:Fr} {H:Mem} {ev:Ev} {d:Option Tmp} {ty:TypeId} {p:String} {af:Array Edge} {g:Option (Nat×Bool)}
end
end Go.Ai
end
section
namespace Go.Ai
section
variable {P:Program} {W:WF} {Q:Out→Prop} {fr:Fr} {H:Mem} {ev:Ev} {d:Option Tmp} {ty:TypeId} {p:String} {af:Array Edge} {g:Option (Nat×Bool)}
noncomputable def strB (P:Program) (H:Mem) (ev:Ev) (o:Oper) (s t:TypeId) (ed:Option TypeDesc) (x:AV) (off n:Nat) (b:Option Blk) : R:=match ed,b with
 | some (.int .u8),some (.cells l _ _)=>if off+n≤l.length then (match bytesOf ((l.drop off).take n) with | some bs=>.val (.lit (.string ⟨bs.toArray⟩)) H | none=>oConvert P H ev o s t (some x)) else oConvert P H ev o s t (some x)
 | _,_=>oConvert P H ev o s t (some x)
theorem cvS_bytes {s t:TypeId} {x:Operand} {e:TypeId} {a off n c:Nat} (hx:ev x=some (.sl a off n c)) (hs:P.underlying s=some (.slice e)) (ht:P.underlying t=some .string) :
  cvS P H ev ⟨d,.convert s t x,ty,p,af,g⟩ s t (some (.slice e)) (some .string) (some (.sl a off n c))=strB P H ev ⟨d,.convert s t x,ty,p,af,g⟩ s t (P.underlying e) (.sl a off n c) off n (H.get a):=by
 show oConvert P H ev _ s t (some (.sl a off n c))=_
 unfold strB
 split
 ·rename_i l own z he hg
  split
  ·rename_i hle
   split
   ·rename_i bs hbs
    unfold oConvert
    rw [generic_none (x:=x) (by simp [Op.operands]) (fun v' h=>by rw [hx] at h; cases h; rfl)]
    dsimp only
    unfold Go.Ai.convert
    rw [hs,ht]
    dsimp only
    rw [he]
    dsimp only [lenOf]
    have hf:firstL H 1 n (.sl a off n c)=some ((l.drop off).take n):=by
     have:=firstL_sl (size:=1) (n:=n) (c:=c) hg (by rw [Nat.mul_one]; omega)
     grind
    grind
   ·rfl
  ·rfl
 ·rfl
theorem strB_congr {tk:Nat} (_h0:tick=tk) {o:Oper} {s t:TypeId} {ed ed' : Option TypeDesc} {x:AV} {off n:Nat} {b b' : Option Blk} (h1:ed=ed') (h2:b=b') : strB P H ev o s t ed x off n b=strB P H ev o s t ed' x off n b':=by grind
attribute [congr] strB_congr
noncomputable def strK (H:Mem) (els:R) (x:Option (List UInt8)) : R:=match x with | some bs=>.val (.lit (.string ⟨bs.toArray⟩)) H | none=>els
theorem strK_congr {tk:Nat} (_h0:tick=tk) {H:Mem} {els:R} {x x' : Option (List UInt8)} (h:x=x') : strK H els x=strK H els x':=by rw [h]
attribute [congr] strK_congr
theorem strK_some {els:R} {bs:List UInt8} : strK H els (some bs)=.val (.lit (.string ⟨bs.toArray⟩)) H:=(rfl)
theorem strB_ok {o:Oper} {s t:TypeId} {x:AV} {off n:Nat} {l:List AV} {own:Bool} {z:Nat} (h1:off+n≤l.length) : strB P H ev o s t (some (.int .u8)) x off n (some (.cells l own z))=strK H (oConvert P H ev o s t (some x)) (bytesOf ((l.drop off).take n)):=by
 simp_all [strK,strB]
def consB (x:UInt8) (l:Option (List UInt8)) : Option (List UInt8):=match l with | some r=>some (x :: r) | none=>none
theorem bytesOf_u8 {n:Int} {l:List AV} : bytesOf (.lit (.int .u8 n) :: l)=consB (UInt8.ofNat n.toNat) (bytesOf l):=by
 rfl
theorem consB_some {x:UInt8} {r:List UInt8} : consB x (some r)=some (x :: r):=(rfl)
attribute [simp] cvS_bytes strB_ok strK_some bytesOf_u8 consB_some
end
end Go.Ai
end
section
namespace Go.Ai
section
variable {P:Program} {H:Mem} {ev:Ev} {d:Option Tmp} {ty:TypeId} {p:String} {af:Array Edge} {g:Option (Nat×Bool)}
end
end Go.Ai
end
section
namespace Go.Ai
section
variable {P:Program} {W:WF} {Q:Out→Prop} {fr:Fr} {H:Mem} {ev:Ev} {d:Option Tmp} {ty:TypeId} {p:String} {af:Array Edge} {g:Option (Nat×Bool)}
end
end Go.Ai
end
section
namespace Go.Ai
set_option maxRecDepth 10000
theorem gput_ne {g:Nat→Option Blk} {a j:Nat} {x:Option Blk} (h:j≠a) : gput g a x j=g j:=if_neg h
theorem gput_eq {g:Nat→Option Blk} {a:Nat} {x:Option Blk} : gput g a x a=x:=if_pos rfl
theorem ba_lawful:LawfulBEq ByteArray where
 eq_of_beq:=fun {a b} h=>by rw [ba_beq] at h; simpa using h
 rfl:=fun {a}=>by rw [ba_beq]; simp
def SliceV (g:Nat→Option Blk) (b:Nat) (sv:AV) (len:Nat) (cs:List AV) : Prop :=
 (len=0∧cs=[]∧(sv=.lit (.slice none 0 0)∨sv=.es))∨∃ a off,a < b∧((∃ c,sv=.sl a off len c)∨∃ c,sv=.slq a off len c)∧Row g a off cs
theorem SliceV.mono {g g' : Nat→Option Blk} {b b' len:Nat} {sv:AV} {cs:List AV} (hb:b≤b') (h:∀ a,a < b→g' a=g a) : SliceV g b sv len cs→SliceV g' b' sv len cs :=
 fun hs=>hs.imp id fun ⟨a,off,h1,h2,h3⟩=>⟨a,off,by omega,h2,h3.mono (h a h1)⟩
theorem sliceV_all {g:Nat→Option Blk} {a n len c:Nat} {cs:List AV} {own:Bool} {z:Nat} (h:g a=some (.cells cs own z)) (ha:a < n) : SliceV g n (.sl a 0 len c) len cs :=
 .inr ⟨a,0,ha,.inl ⟨c,rfl⟩,⟨cs,own,z,h,by simp,by simp⟩⟩
inductive NodeM where
 | mk (op:Nat) (a b:Int) (subs:List NodeM)
def NodeM.op:NodeM→Nat
 | .mk op _ _ _=>op
mutual
def repN (g:Nat→Option Blk) (b:Nat) : NodeM→List AV→Prop
  | .mk op k q subs,cs=>op < 256∧∃ sv,cs=[.lit (.int .u8 op),.lit (.int .i64 k),.lit (.int .i64 q),sv] ∧
    ((subs=[]∧(sv=.lit (.slice none 0 0)∨sv=.es)) ∨
     ∃ a off r,a < b∧((∃ c,sv=.sl a off subs.length c)∨(∃ c,sv=.slq a off subs.length c))∧Row g a off r∧repL g b subs r)
def repL (g:Nat→Option Blk) (b:Nat) : List NodeM→List AV→Prop
 | [],cs=>cs=[]
 | x :: l,cs=>∃ c r,cs=c++r∧repN g b x c∧repL g b l r
end
mutual
theorem repN_ext {g g' : Nat→Option Blk} {b b' : Nat} (hb:b≤b') (h:∀ a x,a < b→g a=some x→g' a=some x) : ∀ {x:NodeM} {cs:List AV},repN g b x cs→repN g' b' x cs
 | .mk op k q subs,cs,⟨h0,sv,h1,h2⟩=>⟨h0,sv,h1,h2.imp id fun ⟨a,off,r,h3,h4,⟨l,own,z,h5,h6⟩,h7⟩=>⟨a,off,r,by omega,h4,⟨l,own,z,h a _ h3 h5,h6⟩,repL_ext hb h h7⟩⟩
theorem repL_ext {g g' : Nat→Option Blk} {b b' : Nat} (hb:b≤b') (h:∀ a x,a < b→g a=some x→g' a=some x) : ∀ {l:List NodeM} {cs:List AV},repL g b l cs→repL g' b' l cs
 | [],_,h0=>h0
 | _ :: _,_,⟨c,r,h1,h2,h3⟩=>⟨c,r,h1,repN_ext hb h h2,repL_ext hb h h3⟩
end
theorem repL_one {g:Nat→Option Blk} {b:Nat} {x:NodeM} {cs:List AV} (h:repN g b x cs) : repL g b [x] cs:=⟨cs,[],by simp,h,rfl⟩
def FreshN (g:Nat→Option Blk) (n n' : Nat) (x:NodeM) (cs:List AV) : Prop:=∃ gk:Nat→Option Blk,(∀ a z,gk a=some z→g a=some z∧n≤a∧a < n')∧repN gk n' x cs
theorem FreshN.keep {g g' : Nat→Option Blk} {n0 n n' n2:Nat} {x:NodeM} {cs:List AV} (h:FreshN g n n' x cs) (h0:n0≤n) (h2:n'≤n2) (hg:∀ a,n≤a→a < n'→g' a=g a) : FreshN g' n0 n2 x cs:=by
 obtain ⟨gk,h1,h3⟩:=h
 refine ⟨gk,fun a z hz=>?_,repN_ext h2 (fun a z _ hz=>hz) h3⟩
 obtain ⟨e1,e2,e3⟩:=h1 a z hz
 exact ⟨(hg a e2 e3).trans e1,by omega,by omega⟩
theorem FreshN.rep {g:Nat→Option Blk} {n n' : Nat} {x:NodeM} {cs:List AV} (h:FreshN g n n' x cs) : repN g n' x cs:=by
 obtain ⟨gk,h1,h3⟩:=h
 exact repN_ext (Nat.le_refl _) (fun a z _ hz=>(h1 a z hz).1) h3
def FreshL (g:Nat→Option Blk) (n n' : Nat) (l:List NodeM) (cs:List AV) : Prop:=∃ gk:Nat→Option Blk,(∀ a z,gk a=some z→g a=some z∧n≤a∧a < n')∧repL gk n' l cs
theorem FreshL.one {g:Nat→Option Blk} {n n' : Nat} {x:NodeM} {cs:List AV} (h:FreshN g n n' x cs) : FreshL g n n' [x] cs:=by
 obtain ⟨gk,h1,h3⟩:=h
 exact ⟨gk,h1,repL_one h3⟩
theorem FreshL.two {g:Nat→Option Blk} {n n' : Nat} {x y:NodeM} {cs ds:List AV} (h:FreshN g n n' x cs) (h' : FreshN g n n' y ds) : FreshL g n n' [x,y] (cs++ds):=by
 obtain ⟨gk,h1,h3⟩:=h
 obtain ⟨gl,h4,h5⟩:=h'
 refine ⟨fun a=>if n≤a∧a < n' then g a else none,fun a z hz=>?_,cs,ds,rfl,repN_ext (Nat.le_refl _) (fun a z _ hz=>?_) h3,repL_one (repN_ext (Nat.le_refl _) (fun a z _ hz=>?_) h5)⟩
 ·dsimp only at hz
  split at hz
  ·rename_i h; exact ⟨hz,h⟩
  ·cases hz
 ·obtain ⟨e1,e2⟩:=h1 a z hz
  rw [if_pos e2,e1]
 ·obtain ⟨e1,e2⟩:=h4 a z hz
  rw [if_pos e2,e1]
def FreshQ (g:Nat→Option Blk) (n q n' : Nat) (x:NodeM) (cs:List AV) : Prop:=∃ gk:Nat→Option Blk,(∀ a z,gk a=some z→g a=some z∧n≤a∧a < n'∧a≠q)∧repN gk n' x cs
theorem FreshQ.rep {g:Nat→Option Blk} {n q n' : Nat} {x:NodeM} {cs:List AV} (h:FreshQ g n q n' x cs) : repN g n' x cs:=by
 obtain ⟨gk,h1,h3⟩:=h
 exact repN_ext (Nat.le_refl _) (fun a z _ hz=>(h1 a z hz).1) h3
theorem FreshQ.fresh {g g' : Nat→Option Blk} {n0 n q n' n2:Nat} {x:NodeM} {cs:List AV} (h:FreshQ g n q n' x cs) (h0:n0≤n) (h2:n'≤n2) (hg:∀ a,n≤a→a < n'→a≠q→g' a=g a) : FreshN g' n0 n2 x cs:=by
 obtain ⟨gk,h1,h3⟩:=h
 refine ⟨gk,fun a z hz=>?_,repN_ext h2 (fun a z _ hz=>hz) h3⟩
 obtain ⟨e1,e2,e3,e4⟩:=h1 a z hz
 exact ⟨(hg a e2 e3 e4).trans e1,by omega,by omega⟩
theorem FreshQ.keep {g g' : Nat→Option Blk} {n q n' n2:Nat} {x:NodeM} {cs:List AV} (h:FreshQ g n q n' x cs) (h2:n'≤n2) (hg:∀ a,n≤a→a < n'→a≠q→g' a=g a) : FreshQ g' n q n2 x cs:=by
 obtain ⟨gk,h1,h3⟩:=h
 refine ⟨gk,fun a z hz=>?_,repN_ext h2 (fun a z _ hz=>hz) h3⟩
 obtain ⟨e1,e2,e3,e4⟩:=h1 a z hz
 exact ⟨(hg a e2 e3 e4).trans e1,by omega,by omega,e4⟩
inductive ParR where
 | ok (x:NodeM) (k:Nat)
 | err (k:Nat)
section
variable (s:ByteArray)
end
end Go.Ai
end
section
namespace Go.Ai
structure MachM where
 inp:Int
 out:Int
 rows:List (List (Int×Int))
def succL:List (Int×Int)→List Nat
 | []=>[]
 | e :: l=>if e.1 < 0 then succL l else e.1.toNat :: succL l
def MachM.gr (M:MachM) : GraphM:=⟨M.rows.length,fun s=>succL (M.rows.getD s [])⟩
def edgeOK (n:Nat) (out:Int) (e:Int×Int) : Bool:=decide (e=(-1,-1)) || (decide (0≤e.1) && (decide (e.1 < n) && (decide (0≤e.2) && decide (e.2 < out))))
def MachM.ok (M:MachM) : Prop:=1≤M.inp∧M.inp≤16∧1≤M.out∧M.out≤16∧1≤M.rows.length∧M.rows.length≤64∧∀ r∈M.rows,(r.length:Int)=M.inp∧∀ e∈r,edgeOK M.rows.length M.out e=true
theorem eqS.refl (n:Nat) (X:SetS) : eqS n X X:=fun _ _=>rfl
end Go.Ai
end
section
namespace Go.Ai
set_option maxRecDepth 10000
theorem Row.ext {g g' : Nat→Option Blk} {a off:Nat} {cs:List AV} (hr:Row g a off cs) (h:∀ x,g a=some x→g' a=some x) : Row g' a off cs :=
 let ⟨l,own,z,h1,h2,h3⟩:=hr; ⟨l,own,z,h _ h1,h2,h3⟩
theorem SliceV.ext {g g' : Nat→Option Blk} {b b' len:Nat} {sv:AV} {cs:List AV} (hb:b≤b') (h:∀ a x,a < b→g a=some x→g' a=some x) : SliceV g b sv len cs→SliceV g' b' sv len cs :=
 fun hs=>hs.imp id fun ⟨a,off,h1,h2,h3⟩=>⟨a,off,by omega,h2,h3.ext fun x hx=>h a x h1 hx⟩
theorem SliceV.one {g:Nat→Option Blk} {b len:Nat} {sv:AV} {cs:List AV} : SliceV g b sv len cs→oneC sv=true:=by
 rintro (⟨_,_,rfl | rfl⟩ | ⟨a,off,_,⟨c,rfl⟩ | ⟨c,rfl⟩,_⟩) <;> rfl
def SliceA (g:Nat→Option Blk) (b:Nat) (sv:AV) (len:Nat) (cs:List AV) : Prop :=
 (len=0∧(sv=.lit (.slice none 0 0)∨sv=.es))∨∃ a off c,a < b∧sv=.sl a off len c∧Row g a off cs
theorem SliceA.mono {g g' : Nat→Option Blk} {b b' len:Nat} {sv:AV} {cs:List AV} (hb:b≤b') (h:∀ a,a < b→g' a=g a) : SliceA g b sv len cs→SliceA g' b' sv len cs :=
 fun hs=>hs.imp id fun ⟨a,off,c,h1,h2,h3⟩=>⟨a,off,c,by omega,h2,h3.mono (h a h1)⟩
theorem SliceA.one {g:Nat→Option Blk} {b len:Nat} {sv:AV} {cs:List AV} : SliceA g b sv len cs→oneC sv=true:=by
 rintro (⟨_,rfl | rfl⟩ | ⟨a,off,c,_,rfl,_⟩) <;> rfl
def rowC (r:List (Int×Int)) : List AV:=r.flatMap fun e=>[.lit (.int .i64 e.1),.lit (.int .i64 e.2)]
theorem rowC_len:∀ (r:List (Int×Int)),(rowC r).length=r.length * 2
 | []=>rfl
 | e :: r=>by
  have:=rowC_len r
  unfold rowC at this ⊢
  rw [List.flatMap_cons,List.length_append,this,List.length_cons]
  simp
  omega
theorem rowC_snoc (r:List (Int×Int)) (e:Int×Int) : rowC (r++[e])=rowC r++[.lit (.int .i64 e.1),.lit (.int .i64 e.2)]:=by
 unfold rowC
 rw [List.flatMap_append]
 simp
theorem rowC_at:∀ (r:List (Int×Int)) (k:Nat) (h:k < r.length),((rowC r).drop (k * 2)).take 2=[.lit (.int .i64 r[k].1),.lit (.int .i64 r[k].2)]
 | e :: r,0,_=>rfl
 | e :: r,k+1,h=>by
  have:=rowC_at r k (by simpa using h)
  have e1:rowC (e :: r)=[.lit (.int .i64 e.1),.lit (.int .i64 e.2)]++rowC r:=rfl
  rw [e1,show (k+1) * 2=2+k * 2 by omega,← List.drop_drop]
  exact this
theorem rowC_one (allr:List (Int×Int)) (k:Nat) (h:k < allr.length) : (rowC allr)[k * 2]?=some (.lit (.int .i64 allr[k].1))∧(rowC allr)[k * 2+1]?=some (.lit (.int .i64 allr[k].2)):=by
 have h1:=rowC_at allr k h
 have h2:(((rowC allr).drop (k * 2)).take 2)[0]?=some (.lit (.int .i64 allr[k].1)):=by rw [h1]; rfl
 have h3:(((rowC allr).drop (k * 2)).take 2)[1]?=some (.lit (.int .i64 allr[k].2)):=by rw [h1]; rfl
 rw [List.getElem?_take_of_lt (by omega),List.getElem?_drop] at h2 h3
 exact ⟨h2,h3⟩
def RowsE (g:Nat→Option Blk) (b:Nat) : List (List (Int×Int))→List AV→Prop
 | [],cs=>cs=[]
 | r :: l,cs=>∃ c t,cs=c :: t∧SliceV g b c r.length (rowC r)∧RowsE g b l t
theorem RowsE.ext {g g' : Nat→Option Blk} {b b' : Nat} (hb:b≤b') (h:∀ a x,a < b→g a=some x→g' a=some x) : ∀ {l:List (List (Int×Int))} {cs:List AV},RowsE g b l cs→RowsE g' b' l cs
 | [],_,h0=>h0
 | _ :: _,_,⟨c,t,h1,h2,h3⟩=>⟨c,t,h1,h2.ext hb h,h3.ext hb h⟩
theorem RowsE.len {g:Nat→Option Blk} {b:Nat} : ∀ {l:List (List (Int×Int))} {cs:List AV},RowsE g b l cs→cs.length=l.length
 | [],cs,h=>by have h' : cs=[]:=h; rw [h']; rfl
 | r :: l,cs,⟨c,t,h1,h2,h3⟩=>by rw [h1,List.length_cons,List.length_cons,h3.len]
theorem RowsE.at {g:Nat→Option Blk} {b:Nat} : ∀ {l:List (List (Int×Int))} {cs:List AV},RowsE g b l cs→∀ (k:Nat) (h:k < l.length) (h' : k < cs.length),SliceV g b cs[k] l[k].length (rowC l[k])
 | r :: l,cs,⟨c,t,h1,h2,h3⟩,0,h,h'=>by subst h1; exact h2
 | r :: l,cs,⟨c,t,h1,h2,h3⟩,k+1,h,h'=>by subst h1; exact h3.at k (by simpa using h) (by simpa using h')
theorem RowsE.snoc {g:Nat→Option Blk} {b:Nat} {r:List (Int×Int)} {c:AV} (hr:SliceV g b c r.length (rowC r)) : ∀ {l:List (List (Int×Int))} {cs:List AV},RowsE g b l cs→RowsE g b (l++[r]) (cs++[c])
 | [],cs,h=>by have h' : cs=[]:=h; subst h'; exact ⟨c,[],rfl,hr,rfl⟩
 | _ :: _,_,⟨d,t,h1,h2,h3⟩=>⟨d,t++[c],by rw [h1]; rfl,h2,h3.snoc hr⟩
def RepM (g:Nat→Option Blk) (b:Nat) (M:MachM) (cs:List AV) : Prop :=
 ∃ sv svs,cs=[.lit (.int .i64 M.inp),.lit (.int .i64 M.out),sv]∧RowsE g b M.rows svs∧SliceV g b sv M.rows.length svs
theorem RepM.ext {g g' : Nat→Option Blk} {b b' : Nat} (hb:b≤b') (h:∀ a x,a < b→g a=some x→g' a=some x) {M:MachM} {cs:List AV} : RepM g b M cs→RepM g' b' M cs :=
 fun ⟨sv,svs,h1,h2,h3⟩=>⟨sv,svs,h1,h2.ext hb h,h3.ext hb h⟩
theorem RepM.mono {g g' : Nat→Option Blk} {b b' : Nat} (hb:b≤b') (h:∀ a,a < b→g' a=g a) {M:MachM} {cs:List AV} (hr:RepM g b M cs) : RepM g' b' M cs:=hr.ext hb fun a x ha hx=>(h a ha).trans hx
theorem RepM.one {g:Nat→Option Blk} {b:Nat} {M:MachM} {cs:List AV} (h:RepM g b M cs) : ∃ sv,cs=[.lit (.int .i64 M.inp),.lit (.int .i64 M.out),sv]∧oneC sv=true :=
 let ⟨sv,_,h1,_,h3⟩:=h; ⟨sv,h1,h3.one⟩
def FreshM (g:Nat→Option Blk) (n n' : Nat) (M:MachM) (cs:List AV) : Prop:=∃ gk:Nat→Option Blk,(∀ a z,gk a=some z→g a=some z∧n≤a∧a < n')∧RepM gk n' M cs
theorem FreshM.keep {g g' : Nat→Option Blk} {n0 n n' n2:Nat} {M:MachM} {cs:List AV} (h:FreshM g n n' M cs) (h0:n0≤n) (h2:n'≤n2) (hg:∀ a,n≤a→a < n'→g' a=g a) : FreshM g' n0 n2 M cs:=by
 obtain ⟨gk,h1,h3⟩:=h
 refine ⟨gk,fun a z hz=>?_,h3.ext h2 fun a z _ hz=>hz⟩
 obtain ⟨e1,e2,e3⟩:=h1 a z hz
 exact ⟨(hg a e2 e3).trans e1,by omega,by omega⟩
theorem FreshM.rep {g:Nat→Option Blk} {n n' : Nat} {M:MachM} {cs:List AV} (h:FreshM g n n' M cs) : RepM g n' M cs :=
 let ⟨_,h1,h3⟩:=h; h3.ext (Nat.le_refl _) fun a z _ hz=>(h1 a z hz).1
def GrowV (g:Nat→Option Blk) (lo n' B:Nat) (sv:AV) (len sz:Nat) (cs:List AV) : Prop :=
 (len=0∧cs=[]∧sv=.lit (.slice none 0 0))∨(0 < len∧sv=.slq B 0 len 0∧lo≤B∧B < n'∧g B=some (.cells cs true sz)∧cs.length=len * sz)
theorem GrowV.keep {g g' : Nat→Option Blk} {lo n' n2 B len sz:Nat} {sv:AV} {cs:List AV} (h:GrowV g lo n' B sv len sz cs) (hn:n'≤n2) (hg:lo≤B→B < n'→g' B=g B) : GrowV g' lo n2 B sv len sz cs :=
 h.imp id fun ⟨h0,h1,h2,h3,h4,h5⟩=>⟨h0,h1,h2,by omega,(hg h2 h3).trans h4,h5⟩
theorem GrowV.one {g:Nat→Option Blk} {lo n' B len sz:Nat} {sv:AV} {cs:List AV} : GrowV g lo n' B sv len sz cs→oneC sv=true:=by
 rintro (⟨_,_,rfl⟩ | ⟨_,rfl,_⟩) <;> rfl
theorem GrowV.slice {g:Nat→Option Blk} {lo n' B len sz:Nat} {sv:AV} {cs:List AV} (h:GrowV g lo n' B sv len sz cs) : SliceV (fun a=>if a=B∧lo≤B∧B < n' then g a else none) n' sv len cs:=by
 rcases h with ⟨h1,h2,h3⟩ | ⟨h0,h1,h2,h3,h4,h5⟩
 ·exact .inl ⟨h1,h2,.inl h3⟩
 ·exact .inr ⟨B,0,h3,.inr ⟨0,h1⟩,cs,true,sz,(if_pos ⟨rfl,h2,h3⟩).trans h4,by simp,by simp⟩
end Go.Ai
end
section
namespace Go.Ai
def wdC (w:List Int) : List AV:=w.map fun i=>.lit (.int .i64 i)
theorem wdC_len (w:List Int) : (wdC w).length=w.length:=by simp [wdC]
theorem wdC_at (w:List Int) (k:Nat) (h:k < w.length) : (wdC w)[k]?=some (.lit (.int .i64 w[k])):=by simp [wdC,h]
theorem wdC_one:∀ (w:List Int),allOne (wdC w)=true
 | []=>rfl
 | i :: w=>wdC_one w
def RepW (g:Nat→Option Blk) (n:Nat) (w:List Int) (sv:AV) : Prop:=SliceV g n sv w.length (wdC w)
theorem lenV {P:Program} {g:Nat→Option Blk} {b len:Nat} {sv:AV} {cs:List AV} (h:SliceV g b sv len cs) : ∀ {H:Mem} {ev:Ev} {o:Oper} {c:Call} {e:TypeId},lenS P H ev o c (some (.slice e)) (some [sv])=.val (.lit (.int .i64 len)) H:=by
 intro H ev o c e
 rcases h with ⟨rfl,_,rfl | rfl⟩ | ⟨a,off,_,⟨c',rfl⟩ | ⟨c',rfl⟩,_⟩ <;> rfl
theorem SliceV.ia {P:Program} {g:Nat→Option Blk} {b len:Nat} {sv:AV} {cs:List AV} (h:SliceV g b sv len cs) {k:Nat} (hk:k < len) (sz:Nat) :
  ∃ a off,a < b∧Row g a off cs∧∀ {H:Mem} {ev:Ev} {o:Oper} {t:TypeId},iaS P H ev o t (some (none,sz)) (some sv) (some (.lit (.int .i64 (k:Int))))=.val (.ptr a (off+k * sz)) H:=by
 rcases h with ⟨h1,_⟩ | ⟨a,off,ha,⟨c,rfl⟩ | ⟨c,rfl⟩,hrow⟩
 ·omega
 ·refine ⟨a,off,ha,hrow,?_⟩
  intro H ev o t
  rw [iaS_sl (by omega) (by omega)]
  simp
 ·refine ⟨a,off,ha,hrow,?_⟩
  intro H ev o t
  rw [iaS_slq (by omega) (by omega)]
  simp
def RowsW (g:Nat→Option Blk) (n:Nat) (l:List (List Int)) (svs:List AV) : Prop:=svs.length=l.length∧∀ (k:Nat) (h:k < l.length),∃ sv,svs[k]?=some sv∧RepW g n l[k] sv
theorem RowsW.ext {g g' : Nat→Option Blk} {b b' : Nat} {l:List (List Int)} {svs:List AV} (h:RowsW g b l svs) (hb:b≤b') (hg:∀ a x,a < b→g a=some x→g' a=some x) : RowsW g' b' l svs :=
 ⟨h.1,fun k hk=>let ⟨sv,h1,h2⟩:=h.2 k hk; ⟨sv,h1,SliceV.ext hb hg h2⟩⟩
def longM:List (List Int)→Nat
 | []=>0
 | w :: l=>max w.length (longM l)
theorem longM_snoc:∀ (l:List (List Int)) (w:List Int),longM (l++[w])=max (longM l) w.length
 | [],w=>by simp [longM]
 | x :: l,w=>by simp only [List.cons_append,longM,longM_snoc l w,Nat.max_assoc]
theorem le_longM:∀ {l:List (List Int)} {w:List Int},w∈l→w.length≤longM l
 | x :: l,w,h=>by
  unfold longM
  rcases List.mem_cons.1 h with rfl | h
  ·omega
  ·have:=le_longM h; omega
theorem longM_le {l:List (List Int)} {m:Nat} (h:∀ w∈l,w.length≤m) : longM l≤m:=by
 induction l with
 | nil=>exact Nat.zero_le _
 | cons x l ih =>
  unfold longM
  have h1:=h x (by simp)
  have h2:=ih fun w hw=>h w (by simp [hw])
  omega
end Go.Ai
end
section
namespace Go.Ai
open Go.RowKit (Below)
variable {B G:Nat} {P:Program} {n n0:Nat} {ρ0 ρ:Rn} {w0 w:World} {fr:Fr} {H:Mem} {a:Act} {W:WF}
end Go.Ai
end
section
namespace Go.Ai
section
variable {P:Program} {W:WF} {Q:Out→Prop} {fr:Fr} {H:Mem} {ev:Ev} {d:Option Tmp} {ty:TypeId} {p:String} {af:Array Edge} {g:Option (Nat×Bool)}
end
end Go.Ai
end
section
namespace Go.Ai
section
variable {P:Program} {H:Mem} {ev:Ev} {d:Option Tmp} {ty:TypeId} {p:String} {af:Array Edge} {g:Option (Nat×Bool)}
noncomputable def mkI (P:Program) (t:TypeId) : Option AV:=match elemOfSlice P t with
 | some (e,size,bytes)=>if size=1∧bytes≤1048576 then (match zeroL P e with | some [v]=>some v | _=>none) else none
 | none=>none
noncomputable def mksS (P:Program) (H:Mem) (t:TypeId) (q:Option AV) (x y:Option AV) : R:=match q,x,y with
 | some v,some (.lit (.int .i64 a)),some (.lit (.int .i64 b))=>if a=b∧0≤a∧a≤1048576 then .val (.sl H.next 0 a.toNat a.toNat) (H.add (.cells (List.replicate a.toNat v) true 0)) else oMakeSlice P H t x y
 | _,_,_=>oMakeSlice P H t x y
theorem rep_one (v:AV) : ∀ n,rep [v] n=List.replicate n v
 | 0=>rfl
 | n+1=>by rw [rep_succ,rep_one v n]; rfl
theorem mkI_inv {t:TypeId} {v:AV} (h:mkI P t=some v) : ∃ e bytes,elemOfSlice P t=some (e,1,bytes)∧bytes≤1048576∧zeroL P e=some [v]:=by
 unfold mkI at h
 grind
theorem op_mks {t:TypeId} {l c:Operand} : opV P H ev ⟨d,.makeSlice t l c,ty,p,af,g⟩=mksS P H t (mkI P t) (ev l) (ev c):=by
 show oMakeSlice P H t (ev l) (ev c)=_
 unfold mksS
 split
 ·rename_i v a b hq hx hy
  split
  ·rename_i h
   obtain ⟨rfl,h0,h1⟩:=h
   obtain ⟨e,bytes,h2,h3,h4⟩:=mkI_inv hq
   rw [hx,hy]
   unfold oMakeSlice
   rw [h2]
   simp only [Option.bind_some,natOf_int h0]
   have hc:(Nat.ble a.toNat a.toNat && Nat.ble a.toNat 1048576 && Nat.ble bytes 1048576)=true:=by
    simp_all
   rw [hc]
   by_cases hz:a.toNat=0
   ·have e1:zeroFor P e (a.toNat * 1)=some []:=by unfold zeroFor; simp [*]
    rw [e1]
    dsimp only
    rw [hz]
    simp [newBlk,Mem.newK_eq]
   grind [Mem.newK_eq,newBlk,rep_one,Nat.eq_of_beq_eq_true,zeroFor]
  rfl
 ·rfl
theorem mksS_congr {tk:Nat} (_h0:tick=tk) {t:TypeId} {q q' : Option AV} {x x' y y' : Option AV} {H H' : Mem} (h0:q=q') (h1:H=H') (h2:x=x') (h3:y=y') : mksS P H t q x y=mksS P H' t q' x' y':=by grind
attribute [congr] mksS_congr
theorem mksS_ok {t:TypeId} {v:AV} {a:Int} (h0:0≤a) (h1:a≤1048576) : mksS P H t (some v) (some (.lit (.int .i64 a))) (some (.lit (.int .i64 a)))=.val (.sl H.next 0 a.toNat a.toNat) (H.add (.cells (List.replicate a.toNat v) true 0)):=if_pos ⟨rfl,h0,h1⟩
attribute [simp] op_mks mksS_ok
end
section
variable {H:Mem}
end
end Go.Ai
end
section
namespace Go.Ai
section
variable {P:Program} {H:Mem} {ev:Ev} {d:Option Tmp} {ty:TypeId} {p:String} {af:Array Edge} {g:Option (Nat×Bool)}
noncomputable def capS (P:Program) (H:Mem) (ev:Ev) (o:Oper) (q:Option TypeDesc) (x:Option AV) : R:=match x,q with
 | some (.sl _ _ _ n),some (.slice _)=>.val (.lit (.int .i64 n)) H
 | some (.lit (.slice none _ n)),some (.slice _)=>.val (.lit (.int .i64 n)) H
 | _,_=>opV P H ev o
theorem op_cap {x:Operand} {t:TypeId} : opV P H ev ⟨d,.call ⟨.builtin .cap,#[x],#[t]⟩,ty,p,af,g⟩=capS P H ev ⟨d,.call ⟨.builtin .cap,#[x],#[t]⟩,ty,p,af,g⟩ (P.underlying t) (ev x):=by
 unfold capS
 split
 ·rename_i a off n k e hx hq
  show callOp P H ev ⟨d,.call ⟨.builtin .cap,#[x],#[t]⟩,ty,p,af,g⟩ ⟨.builtin .cap,#[x],#[t]⟩=_
  have e1:evals ev [x]=some [.sl a off n k]:=by simp_all
  have hg:generic P ev ⟨d,.call ⟨.builtin .cap,#[x],#[t]⟩,ty,p,af,g⟩=none:=by
   unfold generic
   have h1:(Op.operands (.call ⟨.builtin .cap,#[x],#[t]⟩)).toList=[x]:=by rfl
   dsimp only
   rw [h1]
   have l1:toLit (.sl a off n k)=none:=rfl
   grind
  unfold callOp
  rw [show (#[x] : Array Operand).toList=[x] from rfl,e1]
  dsimp only
  unfold oBuiltin oCap
  dsimp only
  rw [hg]
  have e2:((⟨.builtin .cap,#[x],#[t]⟩ : Call).argTypes[0]?).bind P.underlying=P.underlying t:=rfl
  dsimp only
  rw [e2,hq]
  rfl
 ·rename_i m n e hx hq
  show callOp P H ev ⟨d,.call ⟨.builtin .cap,#[x],#[t]⟩,ty,p,af,g⟩ ⟨.builtin .cap,#[x],#[t]⟩=_
  have e1:evals ev [x]=some [.lit (.slice none m n)]:=by simp_all
  have hg:generic P ev ⟨d,.call ⟨.builtin .cap,#[x],#[t]⟩,ty,p,af,g⟩=some (.lit (.int .i64 n)):=by
   refine generic1 (u:=.slice none m n) (r:=.int .i64 n) (by rfl) hx fun ρ hρ=>?_
   rw [exec_builtin (b:=.cap) (c:=⟨.builtin .cap,#[x],#[t]⟩) rfl rfl]
   have ea:(#[x] : Array Operand).map ρ=#[ρ x]:=by simp
   rw [ea]
   have hcap:pureV P (Builtin.cap_ #[t] ty #[ρ x])=some (goInt n):=by
    rw [hρ]
    refine (pureV_then (m:=underlying t) (a:=TypeDesc.slice e) (pureV_underlying hq)).trans ?_
    rfl
   show pureV P (do pure (Next.value (← Builtin.cap_ #[t] ty #[ρ x])))=_
   exact (pureV_then hcap).trans rfl
  unfold callOp
  rw [show (#[x] : Array Operand).toList=[x] from rfl,e1]
  simp_all [oCap,oBuiltin]
 ·rfl
theorem capS_congr {tk:Nat} (_h0:tick=tk) {o:Oper} {q q' : Option TypeDesc} {x x' : Option AV} {H H' : Mem} (h1:H=H') (h2:q=q') (h3:x=x') : capS P H ev o q x=capS P H' ev o q' x':=by grind
attribute [congr] capS_congr
theorem capS_nil {o:Oper} {e:TypeId} {n k:Nat} : capS P H ev o (some (.slice e)) (some (.lit (.slice none n k)))=.val (.lit (.int .i64 k)) H:=(rfl)
attribute [simp] op_cap capS_nil
end
end Go.Ai
end
section
namespace Go.Ai
variable {P:Program} {H:Mem}
section
variable {ev:Ev} {d:Option Tmp} {ty:TypeId} {p:String} {af:Array Edge} {g:Option (Nat×Bool)}
end
end Go.Ai
end
section
namespace Go.Ai
section
variable {P:Program} {H:Mem} {ev:Ev} {d:Option Tmp} {ty:TypeId} {p:String} {af:Array Edge} {g:Option (Nat×Bool)}
theorem op_slice_hm {t:TypeId} {x hi mx:Operand} : opV P H ev ⟨d,.slice t x none (some hi) (some mx),ty,p,af,g⟩=ex3 P H ev ⟨d,.slice t x none (some hi) (some mx),ty,p,af,g⟩ x hi mx (ev x) (ev hi) (ev mx) rfl rfl rfl:=(rfl)
theorem bounds_hm {i:Int} {n:Nat} {k:IntKind} (h1:i=n) : bounds none (some (.lit (.int k i))) (some (.lit (.int k i))) n n=some (0,n,n):=by
 unfold bounds natOr
 simp_all [natOf_int,Nat.ble_eq_true_of_le,okMx]
theorem bounds_hm' {i:Int} {n c:Nat} {k:IntKind} (h1:i=n) (h2:n≤c) : bounds none (some (.lit (.int k i))) (some (.lit (.int k i))) n c=some (0,n,n):=by
 unfold bounds natOr
 simp_all [natOf_int,Nat.ble_eq_true_of_le,okMx]
theorem slice_slq_hm {t:TypeId} {x hi mx:Operand} {a off n c:Nat} {k:IntKind} {i:Int} {hx:ev x=some (.slq a off n c)} {hh:ev hi=some (.lit (.int k i))} {hm:ev mx=some (.lit (.int k i))} (he:(elSz P t).map (·.1)=some none) (h1:i=n) (h2:0 < n) :
  ex3 P H ev ⟨d,.slice t x none (some hi) (some mx),ty,p,af,g⟩ x hi mx (some (.slq a off n c)) (some (.lit (.int k i))) (some (.lit (.int k i))) hx hh hm=.val (.sl a off n n) H:=by
 show opV P H ev _=_
 show oSlice P H ev _ t (ev x) none (some hi) (some mx)=_
 unfold oSlice
 rw [generic_none (x:=x) (by simp [Op.operands]) (fun v' h=>by rw [hx] at h; cases h; rfl),hx]
 obtain ⟨q,hq,hq2⟩:=Option.map_eq_some_iff.1 he
 obtain ⟨q1,q2⟩:=q
 dsimp only at hq2
 subst hq2
 obtain ⟨e,i',h3,h4,h5⟩:=elSz_inv hq
 dsimp only
 unfold oSliceN evOpt
 dsimp only
 rw [hh,hm]
 dsimp only
 rw [sliceOp_slice h3 h4]
 grind [sliceN,bounds_hm,sliceSl,Nat.eq_of_beq_eq_true,ofOpt,natK_eq]
attribute [simp] op_slice_hm slice_slq_hm
end
end Go.Ai
end
section
namespace Go.Ai
section
variable {P:Program} {H:Mem} {ev:Ev} {d:Option Tmp} {ty:TypeId} {p:String} {af:Array Edge} {g:Option (Nat×Bool)} {x y:Operand} {s t:TypeId} {size bytes:Nat}
theorem ap_nilR {a off n m:Nat} {hx:ev x=some (.sl a off n m)} {hy:ev y=some (.lit (.slice none 0 0))} (hp:(apI P s t).isSome=true) :
  ex2 P H ev ⟨d,.call ⟨.builtin .append,#[x,y],#[s,t]⟩,ty,p,af,g⟩ x y (some (.sl a off n m)) (some (.lit (.slice none 0 0))) hx hy=.val (.sl a off n m) H:=by
 cases hq:apI P s t with
 | none=>grind
 | some q =>
  obtain ⟨q1,q2⟩:=q
  show opV P H ev _=_
  rw [append_of hx hy hq]
  rfl
attribute [simp] ap_nilR
end
end Go.Ai
end
section
namespace Go.Ai
section
variable {P:Program} {H:Mem} {ev:Ev} {d:Option Tmp} {ty:TypeId} {p:String} {af:Array Edge} {g:Option (Nat×Bool)} {x y:Operand} {s t:TypeId} {size bytes:Nat}
open Classical in
noncomputable def apV (q:Option (Nat×Nat)) (sz off len:Nat) (cs:List AV) (ga gb blk:Option Blk) (H:Mem) (els:R) : R:=match q,ga with
 | some (size,bytes),some (.cells l0 _ _)=>if gb=blk∧size=sz∧0 < size∧bytes≤1048576∧off≤l0.length then .val (.slq H.next 0 len 0) (H.add (.cells cs true size)) else els
 | _,_=>els
theorem apV_congr {tk:Nat} (_h0:tick=tk) {q q' : Option (Nat×Nat)} {sz off len:Nat} {cs:List AV} {ga ga' gb gb' blk:Option Blk} {H:Mem} {els:R} (h1:q=q') (h2:ga=ga') (h3:gb=gb') : apV q sz off len cs ga gb blk H els=apV q' sz off len cs ga' gb' blk H els:=by grind
attribute [congr] apV_congr
theorem apV_ok {l0 cs:List AV} {own:Bool} {z len off n:Nat} {G:Nat→Option Blk} {els:R} {b:Option Blk} (h1:0 < size) (h2:bytes≤1048576) (h3:off≤l0.length) : apV (some (size,bytes)) size off len cs (some (.cells l0 own z)) b b ⟨.fn G,n⟩ els=.val (.slq n 0 len 0) ⟨.fn (gput G n (some (.cells cs true size))),n+1⟩:=if_pos ⟨rfl,rfl,h1,h2,h3⟩
attribute [simp] apV_ok
theorem firstL_rowV {a off n c size:Nat} {cs:List AV} {l:List AV} {own:Bool} {z:Nat} {v:AV} (hv:v=.sl a off n c∨v=.slq a off n c) (h:H.get a=some (.cells l own z)) (hc:(l.drop off).take (cs.length)=cs) (hl:off+cs.length≤l.length) (hn:cs.length=n * size) : firstL H size n v=some cs:=by
 rcases hv with rfl | rfl
 all_goals grind [firstL_sl,firstL_slq]
end
section
variable {H:Mem}
theorem stS_one {l:List AV} {z:Nat} {ag:Bool} {a off:Nat} {v:AV} (h:off < l.length) (h1:oneC v=true) :
  stS (some (ag,1)) (some (.cells l true z)) H a off [v]=.skip (H.upd a (.cells (l.set off v) true z)):=by
 refine (stS_cells (size:=1) rfl (by simp [h1]) h).trans ?_
 simp_all [List.set_eq_take_append_cons_drop]
theorem stS_slq {l:List AV} {z:Nat} {ag:Bool} {a off b o n c:Nat} (h:off < l.length) :
  stS (some (ag,1)) (some (.cells l true z)) H a off [.slq b o n c]=.skip (H.upd a (.cells (l.set off (.slq b o n c)) true z)):=stS_one h rfl
attribute [simp] stS_slq
end
theorem SliceV.ap0 {P:Program} {g:Nat→Option Blk} {b len sz:Nat} {sv:AV} {cs:List AV} (h:SliceV g b sv len cs) (hl:0 < len) (hlm:len≤1000000) (hcs:cs.length=len * sz) :
  ∃ a2 blk,a2 < b∧g a2=some blk∧∀ {H:Mem} {ev:Ev} {d:Option Tmp} {ty:TypeId} {p:String} {af:Array Edge} {gd:Option (Nat×Bool)} {x y:Operand} {s t:TypeId} {a off:Nat} {hx:ev x=some (.sl a off 0 0)} {hy:ev y=some sv},
   ex2 P H ev ⟨d,.call ⟨.builtin .append,#[x,y],#[s,t]⟩,ty,p,af,gd⟩ x y (some (.sl a off 0 0)) (some sv) hx hy=apV (apI P s t) sz off len cs (H.get a) (H.get a2) (some blk) H (opV P H ev ⟨d,.call ⟨.builtin .append,#[x,y],#[s,t]⟩,ty,p,af,gd⟩):=by
 rcases h with ⟨h1,_⟩ | ⟨a2,o2,ha2,hsv,l,own,z,hg,hle,hcut⟩
 ·omega
 ·refine ⟨a2,_,ha2,hg,?_⟩
  intro H ev d ty p af gd x y s t a off hx hy
  unfold apV
  split
  ·rename_i size bytes l0 ow zz h1 h2
   split
   ·rename_i h
    obtain ⟨hH,rfl,h4,h5,h6⟩:=h
    obtain ⟨k,rfl⟩ : ∃ k,len=k+1:=⟨len - 1,by omega⟩
    show opV P H ev _=_
    have hv:∃ c,sv=.sl a2 o2 (k+1) c∨sv=.slq a2 o2 (k+1) c:=by
     grind
    obtain ⟨c,hv⟩:=hv
    have hn:lenOf sv=some (k+1):=by rcases hv with rfl | rfl <;> rfl
    rw [append_of hx hy h1,appendN_full (n:=k) hn h4 (firstL_rowV hv hH hcut hle hcs) hcs h2 (by omega) (by omega) (by omega) h5]
    simp
   ·rfl
  ·rfl
theorem SliceV.ap00 {P:Program} {g:Nat→Option Blk} {b:Nat} {sv:AV} {cs:List AV} (h:SliceV g b sv 0 cs) :
  ∀ {H:Mem} {ev:Ev} {d:Option Tmp} {ty:TypeId} {p:String} {af:Array Edge} {gd:Option (Nat×Bool)} {x y:Operand} {s t:TypeId} {a off:Nat} {hx:ev x=some (.sl a off 0 0)} {hy:ev y=some sv},(apI P s t).isSome=true →
   ex2 P H ev ⟨d,.call ⟨.builtin .append,#[x,y],#[s,t]⟩,ty,p,af,gd⟩ x y (some (.sl a off 0 0)) (some sv) hx hy=.val (.sl a off 0 0) H:=by
 intro H ev d ty p af gd x y s t a off hx hy hp
 have hn:lenOf sv=some 0:=by
  rcases h with ⟨_,_,rfl | rfl⟩ | ⟨a,off,_,⟨c,rfl⟩ | ⟨c,rfl⟩,_⟩ <;> rfl
 cases hq:apI P s t with
 | none=>grind
 | some q =>
  obtain ⟨q1,q2⟩:=q
  show opV P H ev _=_
  rw [append_of hx hy hq]
  unfold appendN
  rw [hn]
  rfl
end Go.Ai
end
