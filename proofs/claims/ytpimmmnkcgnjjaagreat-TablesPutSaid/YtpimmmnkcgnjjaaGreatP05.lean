/- A small verified interpreter over names, its proofs, and what was proved with it. No condition. -/
import Derived.ProofKit
import Derived.Deep.DeepHandedRow
import Derived.Test.YtpimmmnkcgnjjaaGreatP04
import Derived.Test.YtpimmmnkcgnjjaaGreatP03
set_option linter.all false
set_option linter.deprecated false
section
namespace Go.Ai
variable {P:Program} {H:Mem} {ev ev' : Ev}
theorem evals_congr:∀ {l:List Operand},(∀ x∈l,ev x=ev' x)→evals ev l=evals ev' l
 | [],_=>rfl
 | x :: l,h=>by
  unfold evals
  rw [h x (by simp),evals_congr fun y hy=>h y (by simp [hy])]
theorem evalParts_congr:∀ {l:List (Nat×Operand)},(∀ x∈l.map (·.2),ev x=ev' x)→evalParts ev l=evalParts ev' l
 | [],_=>rfl
 | (i,x) :: l,h=>by
  unfold evalParts
  rw [h x (by simp),evalParts_congr fun y hy=>h y (by simp at hy ⊢; exact .inr hy)]
theorem all_congr' {α:Type} {p q:α→Bool} : ∀ {l:List α},(∀ x∈l,p x=q x)→l.all p=l.all q
 | [],_=>rfl
 | x :: l,h=>by
  simp only [List.all_cons]
  rw [h x (by simp),all_congr' fun y hy=>h y (by simp [hy])]
theorem ite_pure {c c' : Bool} {s s' : Sem Next} (h1:c=c') (h2:s=s') : (if c=true then (match pureV P s with | some (.value v)=>some (AV.lit v) | _=>none) else none)=(if c'=true then (match pureV P s' with | some (.value v)=>some (AV.lit v) | _=>none) else none):=by
 rw [h1,h2]
theorem generic_congr {o:Oper} (hs:∀ cs b,o.op≠.select cs b) (h:∀ x∈o.op.operands.toList,ev x=ev' x) : generic P ev o=generic P ev' o:=by
 unfold generic
 have h1:(o.op.operands.toList.all fun x=>match ev x with | some v=>(match toLit v with | some _=>true | none=>false) | none=>false)=(o.op.operands.toList.all fun x=>match ev' x with | some v=>(match toLit v with | some _=>true | none=>false) | none=>false) :=
  all_congr' fun x hx=>by rw [h x hx]
 have h2:=execOp_congr (ρ:=fun x=>match ev x with | some v=>(match toLit v with | some u=>u | none=>undef) | none=>undef) (ρ':=fun x=>match ev' x with | some v=>(match toLit v with | some u=>u | none=>undef) | none=>undef) o hs
  fun x hx=>by rw [h x (by simpa using hx)]
 exact ite_pure h1 h2
theorem evOpt_congr {y:Option Operand} (h:∀ x∈y.toArray.toList,ev x=ev' x) : evOpt ev y=evOpt ev' y:=by
 cases y with
 | none=>rfl
 | some y=>unfold evOpt; dsimp only; rw [h y (by simp)]
theorem opV_evs {o:Oper} (hs:∀ cs b,o.op≠.select cs b) (h:∀ x∈o.op.operands.toList,ev x=ev' x) : opV P H ev o=opV P H ev' o:=by
 have hg:=generic_congr (P:=P) hs h
 unfold opV
 cases hop:o.op with
 | select cs b=>exact absurd hop (hs cs b)
 | move x=>rw [hop] at h; show oMove H (ev x)=oMove H (ev' x); rw [h x (by simp [Op.operands])]
 | assign x=>rw [hop] at h; show oMove H (ev x)=oMove H (ev' x); rw [h x (by simp [Op.operands])]
 | pick c a b=>rw [hop] at h; show oPick H (ev c) (ev a) (ev b)=oPick H (ev' c) (ev' a) (ev' b); rw [h c (by simp [Op.operands]),h a (by simp [Op.operands]),h b (by simp [Op.operands])]
 | alloc t=>rfl
 | box t x=>rw [hop] at h; show oBox H (ev x)=oBox H (ev' x); rw [h x (by simp [Op.operands])]
 | build t ps=>rw [hop] at h; show oBuild P H t (evalParts ev ps.toList)=oBuild P H t (evalParts ev' ps.toList); rw [evalParts_congr fun x hx=>h x (by simpa [Op.operands] using hx)]
 | buildSlice t n ps=>rw [hop] at h; show oBuildSlice P H t n (evalParts ev ps.toList)=oBuildSlice P H t n (evalParts ev' ps.toList); rw [evalParts_congr fun x hx=>h x (by simpa [Op.operands] using hx)]
 | insert t m k x=>rw [hop] at h; show oMapUpdate P H t (ev m) (ev k) (ev x)=oMapUpdate P H t (ev' m) (ev' k) (ev' x); rw [h m (by simp [Op.operands]),h k (by simp [Op.operands]),h x (by simp [Op.operands])]
 | mapUpdate t m k x=>rw [hop] at h; show oMapUpdate P H t (ev m) (ev k) (ev x)=oMapUpdate P H t (ev' m) (ev' k) (ev' x); rw [h m (by simp [Op.operands]),h k (by simp [Op.operands]),h x (by simp [Op.operands])]
 | load t a=>rw [hop] at h; show oLoad P H t (ev a)=oLoad P H t (ev' a); rw [h a (by simp [Op.operands])]
 | store t a x=>rw [hop] at h; show oStore P H t (ev a) (ev x)=oStore P H t (ev' a) (ev' x); rw [h a (by simp [Op.operands]),h x (by simp [Op.operands])]
 | nilCheck x=>rw [hop] at h; show oNilCheck P H ev o (ev x)=oNilCheck P H ev' o (ev' x); unfold oNilCheck; rw [h x (by simp [Op.operands]),hg]
 | binOp op t x y r=>rw [hop] at h; show oBin P H ev o op t (ev x) (ev y)=oBin P H ev' o op t (ev' x) (ev' y); unfold oBin; rw [h x (by simp [Op.operands]),h y (by simp [Op.operands]),hg]
 | unOp op t x=>show ofOpt H (generic P ev o)=ofOpt H (generic P ev' o); rw [hg]
 | convert s d x=>rw [hop] at h; show oConvert P H ev o s d (ev x)=oConvert P H ev' o s d (ev' x); unfold oConvert; rw [h x (by simp [Op.operands]),hg]
 | makeInterface t x=>rw [hop] at h; show oMakeInterface P H t (ev x)=oMakeInterface P H t (ev' x); rw [h x (by simp [Op.operands])]
 | makeFunc fn a b =>
  rw [hop] at h
  show oMakeFunc H fn (evals ev a.toList) (evals ev b.toList)=oMakeFunc H fn (evals ev' a.toList) (evals ev' b.toList)
  rw [evals_congr fun x hx=>h x (by simp only [Op.operands,Array.toList_append,List.mem_append]; exact .inl hx),evals_congr (l:=b.toList) fun x hx=>h x (by simp only [Op.operands,Array.toList_append,List.mem_append]; exact .inr hx)]
 | makeMap t r =>
  rw [hop] at h
  show oMakeMap P H ev t r=oMakeMap P H ev' t r
  unfold oMakeMap
  cases r with
  | none=>rfl
  | some x=>dsimp only; rw [h x (by simp [Op.operands])]
 | makeSlice t l c=>rw [hop] at h; show oMakeSlice P H t (ev l) (ev c)=oMakeSlice P H t (ev' l) (ev' c); rw [h l (by simp [Op.operands]),h c (by simp [Op.operands])]
 | slice t x lo hi mx =>
  rw [hop] at h
  show oSlice P H ev o t (ev x) lo hi mx=oSlice P H ev' o t (ev' x) lo hi mx
  unfold oSlice oSliceN
  simp only [Op.operands,Array.toList_append,List.mem_append] at h
  rw [h x (by simp),hg,evOpt_congr fun y hy=>h y (.inl (.inl (.inr hy))),evOpt_congr (y:=hi) fun y hy=>h y (.inl (.inr hy)),evOpt_congr (y:=mx) fun y hy=>h y (.inr hy)]
 | fieldAddr s x f=>rw [hop] at h; show oFieldAddr P H ev o s (ev x) f=oFieldAddr P H ev' o s (ev' x) f; unfold oFieldAddr orGen; rw [h x (by simp [Op.operands]),hg]
 | field t x f=>rw [hop] at h; show oField P H t (ev x) f=oField P H t (ev' x) f; rw [h x (by simp [Op.operands])]
 | indexAddr t x i=>rw [hop] at h; show oIndexAddr P H ev o t (ev x) (ev i)=oIndexAddr P H ev' o t (ev' x) (ev' i); unfold oIndexAddr orGen; rw [h x (by simp [Op.operands]),h i (by simp [Op.operands]),hg]
 | index t x i=>rw [hop] at h; show oIndex P H ev o t (ev x) (ev i)=oIndex P H ev' o t (ev' x) (ev' i); unfold oIndex; rw [h x (by simp [Op.operands]),h i (by simp [Op.operands]),hg]
 | lookup t m k ok=>rw [hop] at h; show oLookup P H ev o t (ev m) (ev k) ok=oLookup P H ev' o t (ev' m) (ev' k) ok; unfold oLookup; rw [h m (by simp [Op.operands]),h k (by simp [Op.operands]),hg]
 | range t x=>rw [hop] at h; show oRange P H t (ev x)=oRange P H t (ev' x); rw [h x (by simp [Op.operands])]
 | next x b=>rw [hop] at h; cases b with
  | true=>show oNext H (ev x)=oNext H (ev' x); rw [h x (by simp [Op.operands])]
  | false=>rfl
 | typeAssert x s t ok=>rw [hop] at h; show oTypeAssert P H ev o (ev x) t ok=oTypeAssert P H ev' o (ev' x) t ok; unfold oTypeAssert; rw [h x (by simp [Op.operands]),hg]
 | extract t i=>rw [hop] at h; show oExtract H (ev t) i=oExtract H (ev' t) i; rw [h t (by simp [Op.operands])]
 | panic x=>rw [hop] at h; show oPanic H (ev x)=oPanic H (ev' x); rw [h x (by simp [Op.operands])]
 | call c =>
  rw [hop] at h
  show callOp P H ev o c=callOp P H ev' o c
  have ha:evals ev c.args.toList=evals ev' c.args.toList:=evals_congr fun x hx=>h x (by simp only [Op.operands,Call.operands]; cases c.callee <;> simp_all)
  unfold callOp
  rw [ha]
  cases hc:c.callee with
  | value f=>dsimp only; rw [h f (by simp [Op.operands,Call.operands,hc])]
  | invoke r m=>dsimp only; unfold oInvoke; rw [h r (by simp [Op.operands,Call.operands,hc])]
  | builtin b=>cases evals ev' c.args.toList <;> cases b <;> simp only [oBuiltin,oLen,oCap,hg]
 | defer c =>
  rw [hop] at h
  show deferOp H ev c=deferOp H ev' c
  have ha:evals ev c.args.toList=evals ev' c.args.toList:=evals_congr fun x hx=>h x (by simp only [Op.operands,Call.operands]; cases c.callee <;> simp_all)
  unfold deferOp
  rw [ha]
  cases hc:c.callee with
  | value f=>cases evals ev' c.args.toList with
   | none=>rfl
   | some args=>dsimp only; rw [h f (by simp [Op.operands,Call.operands,hc])]
  | invoke r m=>cases evals ev' c.args.toList <;> rfl
  | builtin b=>cases evals ev' c.args.toList <;> rfl
 | _=>rfl
theorem noSelect {o:Oper} (h:cls o.op≠.no) : ∀ cs b,o.op≠.select cs b:=by
 intro cs b e
 rw [e] at h
 exact h rfl
end Go.Ai
end
section
namespace Go.Ai
variable {P:Program} {H:Mem} {ev:Ev} {o:Oper}
def vb:R→Bool
 | .val _ _=>true
 | .bad=>true
 | _=>false
theorem vb_opt (x:Option AV) : vb (ofOpt H x)=true:=by cases x <;> rfl
theorem vb_new (l:List AV) (b:Bool) (v:AV) : vb (newBlk H l b v)=true:=by unfold newBlk; rw [Mem.newK_eq]; rfl
theorem vb_free (h:freeOp o.op=true) : vb (opV P H ev o)=true:=by
 have gen:∀ (x:Option AV),vb (match (x:Option AV) with | some v=>R.val v H | none=>.bad)=true:=by intro x; cases x <;> rfl
 have or' : ∀ (x:Option AV),vb (orGen P H ev o x)=true:=by
  intro x; unfold orGen; cases x with
  | none=>exact vb_opt _
  | some v=>rfl
 unfold opV
 cases hop:o.op with
 | move x=>show vb (oMove H (ev x))=true; unfold oMove; cases ev x <;> rfl
 | assign x=>show vb (oMove H (ev x))=true; unfold oMove; cases ev x <;> rfl
 | pick c a b=>show vb (oPick H (ev c) (ev a) (ev b))=true; unfold oPick; split <;> first | exact vb_opt _ | rfl
 | build t ps=>show vb (oBuild P H t (evalParts ev ps.toList))=true; unfold oBuild; split <;> first | exact vb_opt _ | rfl
 | nilCheck x=>show vb (oNilCheck P H ev o (ev x))=true; unfold oNilCheck; split <;> first | exact vb_opt _ | rfl
 | binOp op t x y r =>
  show vb (oBin P H ev o op t (ev x) (ev y))=true
  unfold oBin
  split
  ·rfl
  ·split
   ·rfl
   ·unfold oNilEq; split
    ·split <;> rfl
    ·rfl
 | unOp op t x=>show vb (ofOpt H (generic P ev o))=true; exact vb_opt _
 | makeInterface t x=>show vb (oMakeInterface P H t (ev x))=true; unfold oMakeInterface; split <;> rfl
 | makeFunc fn a b=>show vb (oMakeFunc H fn (evals ev a.toList) (evals ev b.toList))=true; unfold oMakeFunc; split <;> rfl
 | slice t x lo hi mx =>
  show vb (oSlice P H ev o t (ev x) lo hi mx)=true
  unfold oSlice
  split
  ·rfl
  ·unfold oSliceN; split
   ·split <;> first | exact vb_opt _ | rfl
   ·rfl
 | fieldAddr s x f=>show vb (oFieldAddr P H ev o s (ev x) f)=true; unfold oFieldAddr; split <;> first | exact or' _ | rfl
 | field t x f=>show vb (oField P H t (ev x) f)=true; unfold oField; split <;> first | exact vb_opt _ | rfl
 | indexAddr t x i=>show vb (oIndexAddr P H ev o t (ev x) (ev i))=true; unfold oIndexAddr; split <;> first | exact or' _ | rfl
 | index t x i =>
  show vb (oIndex P H ev o t (ev x) (ev i))=true
  unfold oIndex; split
  ·split <;> first | exact vb_opt _ | rfl
  ·rfl
 | typeAssert x s t ok =>
  show vb (oTypeAssert P H ev o (ev x) t ok)=true
  unfold oTypeAssert; split
  ·rfl
  ·split <;> first | exact vb_opt _ | rfl
 | extract t i =>
  show vb (oExtract H (ev t) i)=true
  unfold oExtract; split
  ·exact vb_opt _
  ·split <;> rfl
  ·rfl
 | _=>rw [hop] at h; cases h
theorem vb_read (h:cls o.op=.read) : vb (opV P H ev o)=true:=by
 unfold opV
 cases hop:o.op <;> rw [hop] at h <;> first | (simp [cls,freeOp] at h; done) | skip
 ·rename_i t x
  show vb (oLoad P H t (ev x))=true
  unfold oLoad; split <;> first | exact vb_opt _ | rfl
 ·rename_i t m k ok
  show vb (oLookup P H ev o t (ev m) (ev k) ok)=true
  unfold oLookup; split <;> first | exact vb_opt _ | rfl
 ·rename_i c
  show vb (callOp P H ev o c)=true
  unfold callOp
  split
  ·rfl
  ·simp only [cls,freeOp] at h
   split
   ·rename_i b hc
    rw [hc] at h
    unfold oBuiltin
    cases b <;> first | (cases h; done) | skip
    ·dsimp only; unfold oCap
     split
     ·rfl
     ·split <;> rfl
    ·dsimp only; unfold oLen
     split
     ·exact vb_opt _
     ·unfold oLenN
      split <;> first | rfl | skip
      split <;> rfl
   ·rename_i hc; rw [hc] at h; cases h
   ·rename_i hc; rw [hc] at h; cases h
theorem vb_alloc (h:cls o.op=.alloc) : vb (opV P H ev o)=true:=by
 unfold opV
 rcases cls_alloc h with ⟨t,hop⟩ | ⟨t,x,hop⟩ | ⟨t,n,ps,hop⟩ | ⟨t,l,c,hop⟩ | ⟨t,r,hop⟩ <;> rw [hop]
 ·show vb (oAlloc P H t)=true; unfold oAlloc; split <;> first | exact vb_new _ _ _ | rfl
 ·show vb (oBox H (ev x))=true; unfold oBox; split <;> first | exact vb_new _ _ _ | rfl
 ·show vb (oBuildSlice P H t n (evalParts ev ps.toList))=true
  unfold oBuildSlice; split
  ·split
   ·split <;> first | exact vb_new _ _ _ | rfl
   ·rfl
  ·rfl
 ·show vb (oMakeSlice P H t (ev l) (ev c))=true
  unfold oMakeSlice; split
  ·split <;> first | exact vb_new _ _ _ | rfl
  ·rfl
 ·show vb (oMakeMap P H ev t r)=true
  unfold oMakeMap; split
  ·rw [Mem.newK_eq]; rfl
  ·split
   ·rw [Mem.newK_eq]; rfl
   ·rfl
theorem plain_noconv {s d:TypeId} {x:AV} (hs:plainT P s=true) (hd:plainT P d=true) : convert P H s d x=none:=by
 unfold plainT at hs hd
 unfold convert
 split <;> first | rfl | (simp_all; done)
theorem gen_form (h:cls o.op=.gen) (hc:convFit P o=true) : opV P H ev o=.bad∨∃ v,opV P H ev o=.val v H∧generic P ev o=some v:=by
 have opt:ofOpt H (generic P ev o)=.bad∨∃ v,ofOpt H (generic P ev o)=.val v H∧generic P ev o=some v:=by
  cases hg:generic P ev o with
  | none=>exact .inl rfl
  | some v=>exact .inr ⟨v,rfl,rfl⟩
 unfold opV
 unfold convFit at hc
 cases hop:o.op <;> rw [hop] at h hc <;> first | (simp [cls,freeOp] at h; done) | skip
 ·rename_i s d x
  show oConvert P H ev o s d (ev x)=.bad∨∃ v,oConvert P H ev o s d (ev x)=.val v H∧_
  unfold oConvert
  simp only [Bool.and_eq_true] at hc
  cases hg:generic P ev o with
  | some v=>exact .inr ⟨v,rfl,rfl⟩
  | none =>
   left
   dsimp only
   split
   ·rw [plain_noconv hc.1 hc.2]
   ·rfl
 ·rename_i c
  simp only [cls,freeOp] at h
  show callOp P H ev o c=.bad∨∃ v,callOp P H ev o c=.val v H∧_
  unfold callOp
  split
  ·exact .inl rfl
  ·split
   ·rename_i b hcb
    rw [hcb] at h
    unfold oBuiltin
    cases b <;> first | (cases h; done) | exact opt
   ·rename_i hcb; rw [hcb] at h; cases h
   ·rename_i hcb; rw [hcb] at h; cases h
def acts:R→Bool
 | .dfr _ _ _ _=>false
 | .panic _ _=>false
 | .recover=>false
 | _=>true
theorem acts_enter (f:FuncId) (args:List AV) : acts (enterF P H f args)=true:=by unfold enterF; split <;> rfl
theorem acts_chain (h:cls o.op=.chain) : acts (opV P H ev o)=true:=by
 have upd:∀ (t:TypeId) (m k x:Option AV),acts (oMapUpdate P H t m k x)=true:=by
  intro t m k x
  unfold oMapUpdate
  split
  ·split <;> rfl
  ·rfl
 unfold opV
 cases hop:o.op <;> rw [hop] at h <;> first | (simp [cls,freeOp] at h; done) | skip
 ·exact upd _ _ _ _
 ·rename_i t a x
  show acts (oStore P H t (ev a) (ev x))=true
  unfold oStore
  split
  ·split <;> rfl
  ·rfl
 ·exact upd _ _ _ _
 ·rename_i c
  simp only [cls,freeOp] at h
  show acts (callOp P H ev o c)=true
  unfold callOp
  split
  ·rfl
  ·split
   ·rename_i b hcb
    rw [hcb] at h
    unfold oBuiltin
    cases b <;> first | (cases h; done) | skip
    ·dsimp only; unfold oAppend; split
     ·split <;> rfl
     ·rfl
    ·dsimp only; unfold oCopy; split
     ·split <;> rfl
     ·rfl
   ·unfold oInvoke
    split
    ·split
     ·split
      ·exact acts_enter _ _
      ·rfl
     ·rfl
    ·rfl
   ·unfold oValue; split <;> first | exact acts_enter _ _ | rfl
theorem quiet_form (h1:cls o.op≠.chain) (h2:cls o.op≠.no) (h3:cls o.op≠.alloc) (hc:convFit P o=true) : opV P H ev o=.bad∨∃ v,opV P H ev o=.val v H∧quiet P H ev o=some v:=by
 cases hcl:cls o.op with
 | free =>
  have hf:freeOp o.op=true:=by
   cases hf:freeOp o.op with
   | true=>rfl
   | false =>
    exfalso
    unfold cls at hcl
    rw [hf] at hcl
    dsimp only at hcl
    split at hcl <;> first | (cases hcl; done) | skip
    split at hcl <;> cases hcl
  have:=vb_free (P:=P) (H:=H) (ev:=ev) hf
  cases hv:opV P H ev o with
  | val v H' =>
   obtain ⟨rfl,_⟩:=freeOp_sound hf H v H' hv
   exact .inr ⟨v,rfl,by unfold quiet; rw [hcl]; dsimp only; rw [hv]⟩
  | bad=>exact .inl rfl
  | _=>rw [hv] at this; cases this
 | read =>
  have:=vb_read (P:=P) (H:=H) (ev:=ev) hcl
  cases hv:opV P H ev o with
  | val v H' =>
   have:=read_keeps hcl hv
   subst this
   exact .inr ⟨v,rfl,by unfold quiet; rw [hcl]; dsimp only; rw [hv]⟩
  | bad=>exact .inl rfl
  | _=>rw [hv] at this; cases this
 | gen =>
  rcases gen_form (P:=P) (H:=H) (ev:=ev) hcl hc with h | ⟨v,h4,h5⟩
  ·exact .inl h
  ·exact .inr ⟨v,h4,by unfold quiet; rw [hcl]; exact h5⟩
 | chain=>exact absurd hcl h1
 | no=>exact absurd hcl h2
 | alloc=>exact absurd hcl h3
end Go.Ai
end
section
namespace Go.Ai
abbrev AlP:=List (Nat×Nat×Option Blk)
noncomputable def slotOf (fr:Fr) (d:Option Tmp) : Option AV:=match d with | some d=>fr.get d | none=>none
noncomputable def againW (P:Program) (W:WF) (ops:Array Oper) (fr:Fr) (H:Mem) : List Nat→Prop
 | []=>True
 | i :: l=>(match ops[i]? with
  | some o=>oneW P W ops o fr H (fun fr' _=>slotOf fr' o.dst=slotOf fr o.dst) (fun _=>False)
  | none=>False)∧againW P W ops fr H l
noncomputable def keptW (H:Mem) (as:List Nat) : AlP→Prop
 | []=>True
 | (i,a,b) :: l=>(i∈as→H.get a=b)∧keptW H as l
noncomputable def planW (P:Program) (W:WF) (ops:Array Oper) (Q:Out→Prop) : List It→Fr→Mem→AlP→Prop
 | [],fr,H,_=>Q (.norm fr H)
 | .run i :: l,fr,H,als=>match ops[i]? with
  | some o=>oneW P W ops o fr H (fun fr H=>planW P W ops Q l fr H als) Q
  | none=>False
 | .mk i :: l,fr,H,als=>match ops[i]? with
  | some o=>oneW P W ops o fr H (fun fr H'=>planW P W ops Q l fr H' ((i,H.next,H'.get H.next) :: als)) Q
  | none=>False
 | .gate hs as :: l,fr,H,als=>againW P W ops fr H hs∧keptW H as als∧planW P W ops Q l fr H als
noncomputable def clearQ (Q:Out→Prop) : Out→Prop
 | .panic v fr H=>Q (.panic v fr.clear H)
 | r=>Q r
theorem Mem.get_add_same (H:Mem) (b:Blk) : (H.add b).get H.next=some b:=by
 obtain ⟨t,n⟩:=H
 cases t with
 | tr t =>
  show get4 (u4 t n (.v n b)) n=some b
  unfold get4
  rw [at4_same]
  simp [leaf]
 | fn g=>exact if_pos rfl
variable {P:Program} {W:WF} {ops:Array Oper} {g:Nat→Option AV} {ds:List Dfr} {Q:Out→Prop} {S:Nat} {res:ResF} {H:Mem} {held:List Nat} {als:Als} {alsP:AlP} {i:Nat} {o:Oper}
structure PI (ops:Array Oper) (S:Nat) (res:ResF) : Prop where
 un:∀ j,S.testBit j=false→res j=none
 dn:∀ j,S.testBit j=true→∃ v,res j=some v
 down:∀ j k,S.testBit j=true→isAnc (ancs [] ops.toList) j k=true→S.testBit k=true
noncomputable def Gs (ops:Array Oper) (g:Nat→Option AV) (S:Nat) (res:ResF) : Nat→Option AV:=fun t=>match writer t ops.toList 0 with
 | some j=>(match S.testBit j with | true=>res j | false=>g t)
 | none=>g t
theorem bit_or {i j:Nat} : (S ||| 2 ^ i).testBit j=(S.testBit j || decide (i=j)):=by rw [Nat.testBit_or,Nat.testBit_two_pow]
theorem PI.step (h:PI ops S res) (hi:S.testBit i=false) (ha:∀ j,isAnc (ancs [] ops.toList) i j=true→S.testBit j=true) (v:AV) : PI ops (S ||| 2 ^ i) (rput res i v):=by
 refine ⟨fun j hj=>?_,fun j hj=>?_,fun j k hj hk=>?_⟩
 ·rw [bit_or,Bool.or_eq_false_iff] at hj
  have hne:¬j=i:=fun e=>of_decide_eq_false hj.2 e.symm
  unfold rput
  rw [if_neg hne]
  exact h.un j hj.1
 ·unfold rput
  by_cases e:j=i
  ·rw [if_pos e]; exact ⟨v,rfl⟩
  ·rw [if_neg e]
   rw [bit_or] at hj
   have:¬i=j:=fun e'=>e e'.symm
   simp [this] at hj
   exact h.dn j hj
 ·rw [bit_or] at hj ⊢
  by_cases e:i=j
  ·subst e; rw [ha k hk]; rfl
  ·simp [e] at hj
   rw [h.down j k hj hk]; rfl
theorem fit_writer (hfit:fit ops.toList ops.toList 0=true) (ho:ops[i]?=some o) {d:Tmp} (hd:o.dst=some d) : writer d ops.toList 0=some i:=by
 have hone:=fit_spec hfit i o (toList_at.2 ho)
 unfold fitOne at hone
 simp only [Bool.and_eq_true] at hone
 have h:=hone.1.1.1
 rw [hd] at h
 dsimp only at h
 split at h
 ·rename_i j hj
  rw [hj]
  have:=Nat.eq_of_beq_eq_true h
  rw [Nat.zero_add] at this
  rw [this]
 ·cases h
theorem put_eq (hfit:fit ops.toList ops.toList 0=true) (ho:ops[i]?=some o) (v:AV) :
  (Fr.f (Gs ops g S res) ds).put o.dst v=.f (Gs ops g (S ||| 2 ^ i) (rput res i v)) ds:=by
 have other:∀ t,o.dst≠some t→Gs ops g (S ||| 2 ^ i) (rput res i v) t=Gs ops g S res t:=by
  intro t ht
  unfold Gs
  split
  ·rename_i j hj
   obtain ⟨_,oj,hoj,hdj⟩:=writer_spec hj
   have hji:¬i=j:=by
    intro e
    subst e
    have hoj' : ops[i]?=some oj:=toList_at.1 (by simpa using hoj)
    rw [ho] at hoj'
    cases hoj'
    exact ht hdj
   rw [bit_or]
   simp only [hji,decide_false,Bool.or_false]
   unfold rput
   rw [if_neg (fun e=>hji e.symm)]
  ·rfl
 cases hd:o.dst with
 | none =>
  show Fr.f (Gs ops g S res) ds=_
  congr 1
  funext t
  exact (other t (by rw [hd]; simp)).symm
 | some d =>
  show Fr.f (fput (Gs ops g S res) d v) ds=_
  congr 1
  funext t
  unfold fput
  by_cases e:t=d
  ·subst e
   rw [if_pos rfl]
   unfold Gs
   rw [fit_writer hfit ho hd]
   dsimp only
   rw [bit_or]
   simp [rput]
  ·rw [if_neg e]
   exact (other t (by rw [hd]; intro e'; exact e (Option.some.inj e').symm)).symm
theorem mem_tmps {t:Tmp} (h:Operand.tmp t∈o.op.operands.toList) : t∈tmpsOf o:=List.mem_filterMap.2 ⟨_,h,rfl⟩
theorem ev_eq (h:PI ops S res) (hi:S.testBit i=false) (ha:∀ j,isAnc (ancs [] ops.toList) i j=true→S.testBit j=true)
  (hc:(tmpsOf o).all (cmpW (ancs [] ops.toList) ops.toList i)=true) : ∀ x∈o.op.operands.toList,(Fr.f (Gs ops g S res) ds).ev x=envF ops (ancs [] ops.toList) (.f g ds) res i x:=by
 intro x hx
 cases x with
 | tmp t =>
  have hct:=List.all_eq_true.1 hc t (mem_tmps hx)
  show Gs ops g S res t=envTF ops (ancs [] ops.toList) (.f g ds) res i t
  unfold cmpW at hct
  unfold Gs envTF
  split at hct
  ·rename_i hw; rw [hw]; rfl
  ·rename_i j hw
   rw [hw]
   dsimp only
   cases hb:isAnc (ancs [] ops.toList) i j with
   | true=>rw [ha j hb]
   | false =>
    rw [hb,Bool.false_or] at hct
    rw [hct]
    have:S.testBit j=false:=by
     cases hs:S.testBit j with
     | false=>rfl
     | true =>
      exfalso
      rcases Bool.or_eq_true _ _ ▸ hct with h1 | h1
      ·rw [h.down j i hs h1] at hi; cases hi
      ·have:=Nat.eq_of_beq_eq_true h1
       subst this; rw [hs] at hi; cases hi
    rw [this]
    rfl
 | const c=>rfl
 | global c=>rfl
 | func f=>rfl
theorem ev_again (h:PI ops S res) (hi:S.testBit i=true)
  (hc:(tmpsOf o).all (ahead (ancs [] ops.toList) ops.toList i)=true) : ∀ x∈o.op.operands.toList,(Fr.f (Gs ops g S res) ds).ev x=envF ops (ancs [] ops.toList) (.f g ds) res i x:=by
 intro x hx
 cases x with
 | tmp t =>
  have hct:=List.all_eq_true.1 hc t (mem_tmps hx)
  show Gs ops g S res t=envTF ops (ancs [] ops.toList) (.f g ds) res i t
  unfold ahead at hct
  unfold Gs envTF
  split at hct
  ·rename_i hw; rw [hw]; rfl
  ·rename_i j hw
   rw [hw]
   dsimp only
   rw [hct,h.down i j hi hct]
 | const c=>rfl
 | global c=>rfl
 | func f=>rfl
theorem env_stable (h:PI ops S res) (hi:S.testBit i=true) {k:Nat} (hk:S.testBit k=false) (v:AV) (fr:Fr) : envF ops (ancs [] ops.toList) fr (rput res k v) i=envF ops (ancs [] ops.toList) fr res i:=by
 funext x
 cases x with
 | tmp t =>
  show envTF ops (ancs [] ops.toList) fr (rput res k v) i t=envTF ops (ancs [] ops.toList) fr res i t
  unfold envTF
  split
  ·rfl
  ·rename_i j hw
   cases hb:isAnc (ancs [] ops.toList) i j with
   | true =>
    dsimp only
    unfold rput
    rw [if_neg]
    intro e
    subst e
    rw [h.down i j hi hb] at hk; cases hk
   | false=>rfl
 | const c=>rfl
 | global c=>rfl
 | func f=>rfl
theorem topo_anc {tab:List Nat} (h:Nat.beq ((tab.getD i 0) &&& S) (tab.getD i 0)=true) : ∀ j,isAnc tab i j=true→S.testBit j=true:=by
 intro j hj
 have e:=Nat.eq_of_beq_eq_true h
 unfold isAnc at hj
 rw [← e,Nat.testBit_and,Bool.and_eq_true] at hj
 exact hj.2
theorem flatAll_spec {tab:List Nat} {opl:List Oper} : ∀ {l:List Oper} {k:Nat},flatAll P tab opl l k=true→∀ i o,l[i]?=some o→flatOne P tab opl o (k+i)=true
 | [],_,_,i,o,h=>by simp at h
 | x :: l,k,h,i,o,ho=>by
  simp only [flatAll,Bool.and_eq_true] at h
  cases i with
  | zero=>simp at ho; subst ho; exact h.1
  | succ i =>
   have:=flatAll_spec h.2 i o (by simpa using ho)
   rw [show k+(i+1)=k+1+i by omega]; exact this
theorem byGuard_to {x:Option AV} {w:Bool} {A B yes no:Prop} (h:byGuard x w A B) (h1:x=some (.lit (.bool w))→A→yes) (h2:B→no) : byGuard x w yes no:=by
 unfold byGuard at h ⊢
 split at h
 ·rename_i b
  exact ⟨fun e=>h1 (by rw [e]) (h.1 e),fun e=>h2 (h.2 e)⟩
 ·exact h2 h
 ·exact h.elim
theorem slot_eq (hfit:fit ops.toList ops.toList 0=true) (ho:ops[i]?=some o) {gd:Nat×Bool} (hg:o.guard=some gd) (hS:S.testBit gd.1=true) :
  guardSlot ops (.f (Gs ops g S res) ds) gd.1=res gd.1:=by
 have hone:=fit_spec hfit i o (toList_at.2 ho)
 unfold fitOne at hone
 simp only [Bool.and_eq_true] at hone
 have h:=hone.2
 rw [hg] at h
 dsimp only at h
 unfold guardSlot
 cases hj:ops[gd.1]? with
 | none =>
  have hj' : ops.toList[gd.1]?=none:=by rw [Array.getElem?_toList]; exact hj
  rw [hj'] at h; cases h
 | some oj =>
  have hj' : ops.toList[gd.1]?=some oj:=toList_at.2 hj
  rw [hj'] at h
  dsimp only at h ⊢
  cases hd:oj.dst with
  | none=>rw [hd] at h; cases h
  | some d =>
   show Gs ops g S res d=res gd.1
   unfold Gs
   rw [fit_writer hfit hj hd]
   dsimp only
   rw [hS]
end Go.Ai
end
section
namespace Go.Ai
variable {P:Program} {W:WF} {ops:Array Oper} {g:Nat→Option AV} {ds:List Dfr} {Q:Out→Prop} {S:Nat} {res:ResF} {H:Mem} {held:List Nat} {als:Als} {alsP:AlP} {i:Nat} {o:Oper} {s:Hs}
def Rq (P:Program) (ops:Array Oper) (g:Nat→Option AV) (ds:List Dfr) (H:Mem) (res:ResF) (i:Nat) : Prop :=
 ∃ o v,ops[i]?=some o∧res i=some v∧quiet P H (envF ops (ancs [] ops.toList) (.f g ds) res i) o=some v
def Ran (ops:Array Oper) (res:ResF) (i:Nat) : Prop:=∃ o,ops[i]?=some o∧cls o.op=.read∧∀ gd,o.guard=some gd→res gd.1=some (.lit (.bool gd.2))
structure PS (P:Program) (ops:Array Oper) (g:Nat→Option AV) (ds:List Dfr) (s:Hs) (S:Nat) (res:ResF) (H:Mem) (held:List Nat) (als:Als) (alsP:AlP) : Prop where
 pi:PI ops S res
 hd:∀ i∈held,S.testBit i=true∧Ran ops res i∧(i∈s.di∨(i∈s.cl∧Rq P ops g ds H res i))
 al:∀ x∈als,(x.1,x.2.1,some x.2.2)∈alsP∧(x.1∈s.adi∨(x.1∈s.acl∧H.get x.2.1=some x.2.2))
theorem rput_keep {k:Nat} {v:AV} (h:res k=none) : GrF res (rput res k v):=by
 intro j y hj
 unfold rput
 by_cases e:j=k
 ·subst e; rw [h] at hj; cases hj
 ·rw [if_neg e]; exact hj
theorem Ran.grow {res' : ResF} (h:Ran ops res i) (hg:GrF res res') : Ran ops res' i:=by
 obtain ⟨o,h1,h2,h3⟩:=h
 exact ⟨o,h1,h2,fun gd e=>hg _ _ (h3 gd e)⟩
theorem Rq.grow {k:Nat} {v:AV} (hp:PI ops S res) (hi:S.testBit i=true) (hk:S.testBit k=false) (h:Rq P ops g ds H res i) : Rq P ops g ds H (rput res k v) i:=by
 obtain ⟨o,y,h1,h2,h3⟩:=h
 refine ⟨o,y,h1,rput_keep (hp.un k hk) _ _ h2,?_⟩
 rw [env_stable hp hi hk]; exact h3
theorem PS.step (h:PS P ops g ds s S res H held als alsP) (hi:S.testBit i=false) (ha:∀ j,isAnc (ancs [] ops.toList) i j=true→S.testBit j=true) (v:AV) :
  PS P ops g ds s (S ||| 2 ^ i) (rput res i v) H held als alsP :=
 ⟨h.pi.step hi ha v,fun j hj=>let ⟨a,b,c⟩:=h.hd j hj; ⟨by rw [bit_or,a]; rfl,b.grow (rput_keep (h.pi.un i hi)),c.imp id fun ⟨d,e⟩=>⟨d,e.grow h.pi a hi⟩⟩,h.al⟩
theorem PS.soil {H' : Mem} {acl:List Nat} {cl:List Nat} (h:PS P ops g ds s S res H held als alsP) (p:Nat×Nat×Option Blk) : PS P ops g ds ⟨cl,s.cl++s.di,acl,s.acl++s.adi⟩ S res H' held als (p :: alsP) :=
 ⟨h.pi,fun j hj=>let ⟨a,b,c⟩:=h.hd j hj; ⟨a,b,.inl (by rcases c with c | ⟨c,_⟩ <;> simp [c])⟩,
  fun x hx=>let ⟨a,c⟩:=h.al x hx; ⟨List.mem_cons_of_mem _ a,.inl (by rcases c with c | ⟨c,_⟩ <;> simp [c])⟩⟩
variable {KW:StW} {K:Hs→List It}
theorem plan_stage (hfit:fit ops.toList ops.toList 0=true) (hall:flatAll P (ancs [] ops.toList) ops.toList ops.toList 0=true)
  (hK:∀ s S res H held als alsP,PS P ops g ds s S res H held als alsP→topo (ancs [] ops.toList) ops.toList S (K s)=true→planW P W ops Q (K s) (.f (Gs ops g S res) ds) H alsP→KW res H held als) :
  ∀ (L:List Nat) (s:Hs) (S:Nat) (res:ResF) (H:Mem) (held:List Nat) (als:Als) (alsP:AlP),(∀ i∈L,∃ o,ops[i]?=some o∧isChain o.op=false∧cls o.op≠.no) →
   PS P ops g ds s S res H held als alsP→topo (ancs [] ops.toList) ops.toList S (planStage ops.toList L s K)=true→planW P W ops Q (planStage ops.toList L s K) (.f (Gs ops g S res) ds) H alsP →
   stageW P ops (ancs [] ops.toList) (.f g ds) KW L res H held als
 | [],s,S,res,H,held,als,alsP,_,ps,ht,hp=>hK s S res H held als alsP ps ht hp
 | i :: L,s,S,res,H,held,als,alsP,hL,ps,ht,hp=>by
  obtain ⟨o,ho,hch,hno⟩:=hL i (by simp)
  have hL' : ∀ j∈L,∃ o,ops[j]?=some o∧isChain o.op=false∧cls o.op≠.no:=fun j hj=>hL j (by simp [hj])
  have hone:=flatAll_spec hall i o (toList_at.2 ho)
  rw [Nat.zero_add] at hone
  unfold flatOne at hone
  simp only [Bool.and_eq_true] at hone
  obtain ⟨⟨hcmp,hgd⟩,hcv⟩:=hone
  have hnc:cls o.op≠.chain:=by intro e; unfold isChain at hch; rw [e] at hch; cases hch
  have step:∀ {k:Fr→Mem→Prop} {yes no:Prop},(∀ j,isAnc (ancs [] ops.toList) i j=true→S.testBit j=true)→S.testBit i=false→oneW P W ops o (.f (Gs ops g S res) ds) H k Q →
    ((∀ gd,o.guard=some gd→res gd.1=some (.lit (.bool gd.2)))→afterW W o (.f (Gs ops g S res) ds) k Q (opV P H (envF ops (ancs [] ops.toList) (.f g ds) res i) o)→yes) →
    (k (.f (Gs ops g (S ||| 2 ^ i) (rput res i (.lit undef))) ds) H→no)→wantedW (ancs [] ops.toList) res i o yes no:=by
   intro k yes no ha hi h h1 h2
   have hev:=opV_evs (P:=P) (H:=H) (noSelect hno) (ev_eq (g:=g) (ds:=ds) ps.pi hi ha hcmp)
   unfold oneW at h
   unfold wantedW
   split at h
   ·rename_i hg
    rw [hev] at h
    exact h1 (fun gd e=>by rw [hg] at e; cases e) h
   ·rename_i gd hg
    rw [hg] at hgd
    dsimp only at hgd
    rw [slot_eq hfit ho hg (ha _ hgd),put_eq hfit ho,hev] at h
    exact ⟨hgd,byGuard_to h (fun e=>h1 fun gd' e'=>by rw [hg] at e'; cases e'; exact e) h2⟩
  have quietCase:cls o.op≠.alloc→∀ {k:Fr→Mem→Prop},afterW W o (.f (Gs ops g S res) ds) k Q (opV P H (envF ops (ancs [] ops.toList) (.f g ds) res i) o) →
    ∃ v,quiet P H (envF ops (ancs [] ops.toList) (.f g ds) res i) o=some v∧k (.f (Gs ops g (S ||| 2 ^ i) (rput res i v)) ds) H:=by
   intro hna k h
   rcases quiet_form (P:=P) (H:=H) (ev:=envF ops (ancs [] ops.toList) (.f g ds) res i) hnc hno hna hcv with hb | ⟨v,hv,hq⟩
   ·rw [hb] at h; exact h.elim
   ·rw [hv] at h
    refine ⟨v,hq,?_⟩
    have h' : k ((Fr.f (Gs ops g S res) ds).put o.dst v) H:=h
    rw [put_eq hfit ho] at h'
    exact h'
  have ho' : ops.toList[i]?=some o:=toList_at.2 ho
  unfold stageW stepW
  rw [ho]
  dsimp only
  unfold planStage at ht hp
  rw [ho'] at ht hp
  dsimp only at ht hp
  cases hcl:cls o.op with
  | chain=>exact absurd hcl hnc
  | no=>exact absurd hcl hno
  | alloc =>
   rw [hcl] at ht hp
   simp only [topo,Bool.and_eq_true] at ht
   obtain ⟨⟨h1,h2⟩,ht⟩:=ht
   have hi:S.testBit i=false:=by simpa using h1
   have ha:=topo_anc h2
   unfold planW at hp
   rw [ho] at hp
   dsimp only at hp ⊢
   refine step ha hi hp ?_ ?_
   ·intro hgr h
    have hvb:=vb_alloc (P:=P) (H:=H) (ev:=envF ops (ancs [] ops.toList) (.f g ds) res i) hcl
    cases hv:opV P H (envF ops (ancs [] ops.toList) (.f g ds) res i) o with
    | val v H' =>
     rw [hv] at h
     obtain ⟨f,x,e1,e2,_⟩:=alloc_sound (B:=0) hcl hv
     have h' : planW P W ops Q (planStage ops.toList L ⟨[],s.cl++s.di,[i],s.acl++s.adi⟩ K) ((Fr.f (Gs ops g S res) ds).put o.dst v) H' ((i,H.next,H'.get H.next) :: alsP):=h
     rw [put_eq hfit ho] at h'
     have hget:H'.get H.next=some x:=by rw [e2]; exact Mem.get_add_same _ _
     unfold allocW
     dsimp only
     rw [hget]
     refine ⟨ps.pi.un i hi,?_⟩
     refine plan_stage hfit hall hK L _ _ _ _ _ _ _ hL' ?_ ht h'
     have p1:=(ps.step hi ha v).soil (H':=H') (acl:=[i]) (cl:=[]) (i,H.next,H'.get H.next)
     refine ⟨p1.pi,p1.hd,fun y hy=>?_⟩
     rcases List.mem_cons.1 hy with rfl | hy
     ·exact ⟨by rw [hget]; simp,.inr ⟨by simp,hget⟩⟩
     ·exact p1.al y hy
    | bad=>rw [hv] at h; exact h.elim
    | _=>rw [hv] at hvb; cases hvb
   ·intro h
    refine ⟨ps.pi.un i hi,?_⟩
    exact plan_stage hfit hall hK L _ _ _ _ _ _ _ hL' ((ps.step hi ha _).soil _) ht h
  | read =>
   rw [hcl] at ht hp
   simp only [topo,Bool.and_eq_true] at ht
   obtain ⟨⟨h1,h2⟩,ht⟩:=ht
   have hi:S.testBit i=false:=by simpa using h1
   have ha:=topo_anc h2
   unfold planW at hp
   rw [ho] at hp
   dsimp only at hp ⊢
   refine step ha hi hp ?_ ?_
   ·intro hgr h
    obtain ⟨v,hq,h'⟩:=quietCase (by rw [hcl]; simp) h
    unfold quietW
    rw [hq]
    refine ⟨ps.pi.un i hi,?_⟩
    refine plan_stage hfit hall hK L _ _ _ _ _ _ _ hL' ?_ ht h'
    have p1:=ps.step hi ha v
    refine ⟨p1.pi,fun j hj=>?_,p1.al⟩
    rcases List.mem_cons.1 hj with rfl | hj
    ·refine ⟨by rw [bit_or]; simp,⟨o,ho,hcl,fun gd e=>rput_keep (ps.pi.un _ hi) _ _ (hgr gd e)⟩,.inr ⟨by simp,o,v,ho,if_pos rfl,?_⟩⟩
     have:envF ops (ancs [] ops.toList) (.f g ds) (rput res j v) j=envF ops (ancs [] ops.toList) (.f g ds) res j:=by
      funext x
      cases x with
      | tmp t =>
       show envTF ops (ancs [] ops.toList) (.f g ds) (rput res j v) j t=envTF ops (ancs [] ops.toList) (.f g ds) res j t
       unfold envTF
       split
       ·rfl
       ·rename_i k hw
        cases hb:isAnc (ancs [] ops.toList) j k with
        | true =>
         dsimp only
         unfold rput
         rw [if_neg]
         intro e
         subst e
         rw [ha _ hb] at hi; cases hi
        | false=>rfl
      | const c=>rfl
      | global c=>rfl
      | func f=>rfl
     rw [this]; exact hq
    ·obtain ⟨a,b,c⟩:=p1.hd j hj
     exact ⟨a,b,c.imp id fun ⟨d,e⟩=>⟨by simp [d],e⟩⟩
   ·intro h
    refine ⟨ps.pi.un i hi,?_⟩
    refine plan_stage hfit hall hK L _ _ _ _ _ _ _ hL' ?_ ht h
    have p1:=ps.step hi ha (.lit undef)
    exact ⟨p1.pi,fun j hj=>let ⟨a,b,c⟩:=p1.hd j hj; ⟨a,b,c.imp id fun ⟨d,e⟩=>⟨by simp [d],e⟩⟩,p1.al⟩
  | free =>
   rw [hcl] at ht hp
   simp only [topo,Bool.and_eq_true] at ht
   obtain ⟨⟨h1,h2⟩,ht⟩:=ht
   have hi:S.testBit i=false:=by simpa using h1
   have ha:=topo_anc h2
   unfold planW at hp
   rw [ho] at hp
   dsimp only at hp ⊢
   refine step ha hi hp ?_ ?_
   ·intro hgr h
    obtain ⟨v,hq,h'⟩:=quietCase (by rw [hcl]; simp) h
    unfold quietW
    rw [hq]
    exact ⟨ps.pi.un i hi,plan_stage hfit hall hK L _ _ _ _ _ _ _ hL' (ps.step hi ha v) ht h'⟩
   ·intro h
    exact ⟨ps.pi.un i hi,plan_stage hfit hall hK L _ _ _ _ _ _ _ hL' (ps.step hi ha _) ht h⟩
  | gen =>
   rw [hcl] at ht hp
   simp only [topo,Bool.and_eq_true] at ht
   obtain ⟨⟨h1,h2⟩,ht⟩:=ht
   have hi:S.testBit i=false:=by simpa using h1
   have ha:=topo_anc h2
   unfold planW at hp
   rw [ho] at hp
   dsimp only at hp ⊢
   refine step ha hi hp ?_ ?_
   ·intro hgr h
    obtain ⟨v,hq,h'⟩:=quietCase (by rw [hcl]; simp) h
    unfold quietW
    rw [hq]
    exact ⟨ps.pi.un i hi,plan_stage hfit hall hK L _ _ _ _ _ _ _ hL' (ps.step hi ha v) ht h'⟩
   ·intro h
    exact ⟨ps.pi.un i hi,plan_stage hfit hall hK L _ _ _ _ _ _ _ hL' (ps.step hi ha _) ht h⟩
end Go.Ai
end
section
namespace Go.Ai
variable {P:Program} {W:WF} {ops:Array Oper} {g:Nat→Option AV} {ds:List Dfr} {Q:Out→Prop} {S:Nat} {res:ResF} {H:Mem} {held:List Nat} {als:Als} {alsP:AlP} {i:Nat} {o:Oper} {s:Hs} {K:Hs→List It}
theorem recheck_of {tab:List Nat} {fr:Fr} : ∀ {held:List Nat},(∀ i∈held,∃ o v,ops[i]?=some o∧res i=some v∧quiet P H (envF ops tab fr res i) o=some v)→recheckW P ops tab fr res H held
 | [],_=>trivial
 | i :: l,h=>by
  obtain ⟨o,v,h1,h2,h3⟩:=h i (by simp)
  refine ⟨?_,recheck_of fun j hj=>h j (by simp [hj])⟩
  rw [h1]
  exact ⟨v,h2,h3⟩
theorem stays_of:∀ {als:Als},(∀ x∈als,H.get x.2.1=some x.2.2)→staysW H als
 | [],_=>trivial
 | (a,b,c) :: l,h=>⟨h (a,b,c) (by simp),stays_of fun y hy=>h y (by simp [hy])⟩
theorem still_mem {tab:List Nat} {c i:Nat} : ∀ {held:List Nat},i∈still tab c held→i∈held∧isAnc tab c i=false
 | [],h=>by cases h
 | j :: held,h=>by
  unfold still at h
  split at h
  ·obtain ⟨a,b⟩:=still_mem h; exact ⟨by simp [a],b⟩
  ·rename_i hb
   rcases List.mem_cons.1 h with rfl | h
   ·exact ⟨by simp,hb⟩
   ·obtain ⟨a,b⟩:=still_mem h; exact ⟨by simp [a],b⟩
theorem stillA_mem {tab:List Nat} {c:Nat} : ∀ {als:Als} {x:Nat×Nat×Blk},x∈stillA tab c als→x∈als∧isAnc tab c x.1=false
 | [],_,h=>by cases h
 | y :: als,x,h=>by
  unfold stillA at h
  split at h
  ·obtain ⟨a,b⟩:=stillA_mem h; exact ⟨by simp [a],b⟩
  ·rename_i hb
   rcases List.mem_cons.1 h with rfl | h
   ·exact ⟨by simp,hb⟩
   ·obtain ⟨a,b⟩:=stillA_mem h; exact ⟨by simp [a],b⟩
theorem again_mem {fr:Fr} : ∀ {hs:List Nat},againW P W ops fr H hs→∀ i∈hs,∃ o,ops[i]?=some o∧oneW P W ops o fr H (fun fr' _=>slotOf fr' o.dst=slotOf fr o.dst) (fun _=>False)
 | j :: hs,h,i,hi=>by
  rcases List.mem_cons.1 hi with rfl | hi
  ·have h1:=h.1
   split at h1
   ·rename_i o ho; exact ⟨o,ho,h1⟩
   ·exact h1.elim
  ·exact again_mem h.2 i hi
theorem kept_mem {as:List Nat} : ∀ {l:AlP},keptW H as l→∀ x∈l,x.1∈as→H.get x.2.1=x.2.2
 | (i,a,b) :: l,h,x,hx,hm=>by
  rcases List.mem_cons.1 hx with rfl | hx
  ·exact h.1 hm
  ·exact kept_mem h.2 x hx hm
theorem again_Rq (hfit:fit ops.toList ops.toList 0=true) (hall:flatAll P (ancs [] ops.toList) ops.toList ops.toList 0=true) (hp:PI ops S res) (hi:S.testBit i=true) (hr:Ran ops res i)
  (hag:againFit (ancs [] ops.toList) ops.toList i=true) (ho:ops[i]?=some o) (h:oneW P W ops o (.f (Gs ops g S res) ds) H (fun fr' _=>slotOf fr' o.dst=slotOf (.f (Gs ops g S res) ds) o.dst) (fun _=>False)) :
  Rq P ops g ds H res i:=by
 obtain ⟨o',ho',hcl,hg⟩:=hr
 rw [ho] at ho'; cases ho'
 have hone:=flatAll_spec hall i o (toList_at.2 ho)
 rw [Nat.zero_add] at hone
 unfold flatOne at hone
 simp only [Bool.and_eq_true] at hone
 obtain ⟨⟨_,hgd⟩,hcv⟩:=hone
 unfold againFit at hag
 rw [toList_at.2 ho] at hag
 simp only [Bool.and_eq_true] at hag
 obtain ⟨hds,hah⟩:=hag
 obtain ⟨d,hd⟩:=Option.isSome_iff_exists.1 hds
 have hno:cls o.op≠.no:=by rw [hcl]; simp
 have key:afterW W o (.f (Gs ops g S res) ds) (fun fr' _=>slotOf fr' o.dst=slotOf (.f (Gs ops g S res) ds) o.dst) (fun _=>False) (opV P H (Fr.f (Gs ops g S res) ds).ev o)→Rq P ops g ds H res i:=by
  intro h
  rw [opV_evs (P:=P) (H:=H) (noSelect hno) (ev_again (g:=g) (ds:=ds) hp hi hah)] at h
  rcases quiet_form (P:=P) (H:=H) (ev:=envF ops (ancs [] ops.toList) (.f g ds) res i) (o:=o) (by rw [hcl]; simp) hno (by rw [hcl]; simp) hcv with hb | ⟨v,hv,hq⟩
  ·rw [hb] at h; exact h.elim
  ·rw [hv] at h
   have h' : slotOf ((Fr.f (Gs ops g S res) ds).put o.dst v) o.dst=slotOf (.f (Gs ops g S res) ds) o.dst:=h
   rw [hd] at h'
   have h2:some v=Gs ops g S res d:=by
    rw [show slotOf ((Fr.f (Gs ops g S res) ds).put (some d) v) (some d)=some v from if_pos rfl] at h'
    exact h'
   unfold Gs at h2
   rw [fit_writer hfit ho hd] at h2
   dsimp only at h2
   rw [hi] at h2
   exact ⟨o,v,ho,h2.symm,hq⟩
 unfold oneW at h
 split at h
 ·exact key h
 ·rename_i gd hgx
  rw [hgx] at hgd
  have hgd' : isAnc (ancs [] ops.toList) i gd.1=true:=hgd
  rw [slot_eq hfit ho hgx (hp.down _ _ hi hgd'),hg gd hgx] at h
  exact key (h.1 rfl)
theorem gateP_ok (hfit:fit ops.toList ops.toList 0=true) (hall:flatAll P (ancs [] ops.toList) ops.toList ops.toList 0=true) (h:PS P ops g ds s S res H held als alsP)
  (ht:topo (ancs [] ops.toList) ops.toList S (gateK s K)=true) (hp:planW P W ops Q (gateK s K) (.f (Gs ops g S res) ds) H alsP) :
  recheckW P ops (ancs [] ops.toList) (.f g ds) res H held∧staysW H als∧∃ s',s'.di=[]∧s'.adi=[]∧PS P ops g ds s' S res H held als alsP ∧
   topo (ancs [] ops.toList) ops.toList S (K s')=true∧planW P W ops Q (K s') (.f (Gs ops g S res) ds) H alsP:=by
 have done:s.di=[]→s.adi=[]→topo (ancs [] ops.toList) ops.toList S (K s)=true→planW P W ops Q (K s) (.f (Gs ops g S res) ds) H alsP→recheckW P ops (ancs [] ops.toList) (.f g ds) res H held∧staysW H als∧∃ s',s'.di=[]∧s'.adi=[]∧PS P ops g ds s' S res H held als alsP ∧
   topo (ancs [] ops.toList) ops.toList S (K s')=true∧planW P W ops Q (K s') (.f (Gs ops g S res) ds) H alsP:=by
  intro e1 e2 ht hp
  refine ⟨recheck_of fun i hi=>?_,stays_of fun x hx=>?_,s,e1,e2,h,ht,hp⟩
  ·obtain ⟨_,_,c⟩:=h.hd i hi
   rcases c with c | ⟨_,c⟩
   ·rw [e1] at c; cases c
   ·exact c
  ·obtain ⟨_,c⟩:=h.al x hx
   rcases c with c | ⟨_,c⟩
   ·rw [e2] at c; cases c
   ·exact c
 have go:topo (ancs [] ops.toList) ops.toList S (.gate s.di s.adi :: K ⟨s.di++s.cl,[],s.adi++s.acl,[]⟩)=true →
   planW P W ops Q (.gate s.di s.adi :: K ⟨s.di++s.cl,[],s.adi++s.acl,[]⟩) (.f (Gs ops g S res) ds) H alsP→recheckW P ops (ancs [] ops.toList) (.f g ds) res H held∧staysW H als∧∃ s',s'.di=[]∧s'.adi=[]∧PS P ops g ds s' S res H held als alsP ∧
   topo (ancs [] ops.toList) ops.toList S (K s')=true∧planW P W ops Q (K s') (.f (Gs ops g S res) ds) H alsP:=by
  intro ht hp
  simp only [topo,Bool.and_eq_true] at ht
  obtain ⟨hag,ht⟩:=ht
  obtain ⟨h1,h2,h3⟩:=hp
  have hR:∀ i∈held,Rq P ops g ds H res i:=by
   intro i hi
   obtain ⟨a,b,c⟩:=h.hd i hi
   rcases c with c | ⟨_,c⟩
   ·obtain ⟨o,ho,ho'⟩:=again_mem h1 i c
    exact again_Rq hfit hall h.pi a b (List.all_eq_true.1 hag i c) ho ho'
   ·exact c
  have hA:∀ x∈als,H.get x.2.1=some x.2.2:=by
   intro x hx
   obtain ⟨a,c⟩:=h.al x hx
   rcases c with c | ⟨_,c⟩
   ·exact kept_mem h2 _ a c
   ·exact c
  refine ⟨recheck_of hR,stays_of hA,_,rfl,rfl,⟨h.pi,fun i hi=>?_,fun x hx=>?_⟩,ht,h3⟩
  ·obtain ⟨a,b,c⟩:=h.hd i hi
   exact ⟨a,b,.inr ⟨by rcases c with c | ⟨c,_⟩ <;> simp [c],hR i hi⟩⟩
  ·obtain ⟨a,c⟩:=h.al x hx
   exact ⟨a,.inr ⟨by rcases c with c | ⟨c,_⟩ <;> simp [c],hA x hx⟩⟩
 unfold gateK at ht hp
 split at ht
 ·rename_i e1 e2
  rw [e1,e2] at hp
  exact done e1 e2 ht hp
 ·rename_i hne
  split at hp
  ·rename_i e1 e2; exact absurd e2 (hne e1)
  ·exact go ht hp
def WMono (W:WF) : Prop:=∀ (f:FuncId) (args:List AV) (H:Mem) (K K' : COut→Prop),(∀ r,K r→K' r)→W f args H K→W f args H K'
theorem WC_mono' (G:Nat) (P:Program) : WMono (WC G P):=fun _ _ _ _ _ hk h=>h.mono hk
theorem orW_mono {O:CallF} (h:WMono W) : WMono (orW O W):=by
 intro f args H K K' hk hw
 unfold orW at hw ⊢
 split
 ·rename_i e; rw [e] at hw; exact h _ _ _ _ _ hk hw
 ·rename_i hne
  split at hw
  ·rename_i e; exact absurd e hne
  ·exact hk _ hw
theorem act_plan (hW:WMono W) (hfit:fit ops.toList ops.toList 0=true) (hall:flatAll P (ancs [] ops.toList) ops.toList ops.toList 0=true) (hp:PI ops S res) (ho:ops[i]?=some o) (hc:cls o.op=.chain)
  (hi:S.testBit i=false) (ha:∀ j,isAnc (ancs [] ops.toList) i j=true→S.testBit j=true) {k:Fr→Mem→Prop} {K' : ResF→Mem→Prop}
  (h:oneW P W ops o (.f (Gs ops g S res) ds) H k (clearQ Q)) (hK:∀ v H',k (.f (Gs ops g (S ||| 2 ^ i) (rput res i v)) ds) H'→K' (rput res i v) H') :
  actW P W ops (ancs [] ops.toList) (.f g ds) i res H K' Q:=by
 have hone:=flatAll_spec hall i o (toList_at.2 ho)
 rw [Nat.zero_add] at hone
 unfold flatOne at hone
 simp only [Bool.and_eq_true] at hone
 obtain ⟨⟨hcmp,hgd⟩,hcv⟩:=hone
 have hno:cls o.op≠.no:=by rw [hc]; simp
 have hev:=opV_evs (P:=P) (H:=H) (noSelect hno) (ev_eq (g:=g) (ds:=ds) hp hi ha hcmp)
 have put:=fun v=>put_eq (g:=g) (ds:=ds) (S:=S) (res:=res) hfit ho v
 have act:afterW W o (.f (Gs ops g S res) ds) k (clearQ Q) (opV P H (envF ops (ancs [] ops.toList) (.f g ds) res i) o) →
   actRW W (.f g ds) i res K' Q (opV P H (envF ops (ancs [] ops.toList) (.f g ds) res i) o):=by
  intro h
  have hac:=acts_chain (P:=P) (H:=H) (ev:=envF ops (ancs [] ops.toList) (.f g ds) res i) hc
  cases hv:opV P H (envF ops (ancs [] ops.toList) (.f g ds) res i) o with
  | val v H' =>
   rw [hv] at h
   refine ⟨hp.un i hi,hK v H' ?_⟩
   rw [← put]; exact h
  | skip H' =>
   rw [hv] at h
   refine ⟨hp.un i hi,hK _ H' ?_⟩
   rw [← put]; exact h
  | enter f args H' =>
   rw [hv] at h
   refine hW _ _ _ _ _ ?_ h
   intro r hr
   cases r with
   | ret v H2 =>
    refine ⟨hp.un i hi,hK v H2 ?_⟩
    rw [← put]; exact hr
   | panic v H2=>exact hr
   | bad=>exact hr
  | bad=>rw [hv] at h; exact h.elim
  | dfr _ _ _ _=>rw [hv] at hac; cases hac
  | recover=>rw [hv] at hac; cases hac
  | panic _ _=>rw [hv] at hac; cases hac
 unfold actW
 rw [ho]
 dsimp only
 unfold oneW at h
 unfold wantedW
 split at h
 ·rename_i hg
  rw [hev] at h
  exact act h
 ·rename_i gd hg
  rw [hg] at hgd
  dsimp only at hgd
  rw [slot_eq hfit ho hg (ha _ hgd),put,hev] at h
  exact ⟨hgd,byGuard_to h (fun _=>act) fun h=>⟨hp.un i hi,hK _ _ h⟩⟩
theorem Gs_bits {S' : Nat} (h:∀ j,j < ops.size→S.testBit j=S'.testBit j) : Gs ops g S res=Gs ops g S' res:=by
 funext t
 unfold Gs
 split
 ·rename_i j hj
  obtain ⟨_,o,ho,_⟩:=writer_spec hj
  have:j < ops.size:=lt_of_at (toList_at.1 (by simpa using ho))
  rw [h j this]
 ·rfl
theorem fin_plan (hfit:fit ops.toList ops.toList 0=true) {KF:Fr→Prop} (hall:∀ j,j < ops.size→∃ v,res j=some v) : ∀ (l:List Oper) (k:Nat),ops.toList.drop k=l→k+l.length=ops.size →
  KF (.f (Gs ops g (2 ^ ops.size - 1) res) ds)→finW res KF l k (.f (Gs ops g (2 ^ k - 1) res) ds)
 | [],k,_,hl,h=>by
  have:k=ops.size:=by simpa using hl
  subst this
  exact h
 | o :: l,k,hk,hl,h=>by
  have hlt:k < ops.size:=by simp at hl; omega
  obtain ⟨v,hv⟩:=hall k hlt
  have hko:ops.toList[k]?=some o:=by
   have:(ops.toList.drop k)[0]?=some o:=by rw [hk]; rfl
   simpa using this
  unfold finW
  rw [hv]
  dsimp only
  rw [put_eq hfit (toList_at.1 hko)]
  have e1:rput res k v=res:=by
   funext j
   unfold rput
   by_cases e:j=k
   ·subst e; rw [if_pos rfl,hv]
   ·rw [if_neg e]
  rw [e1,Gs_bits (S':=2 ^ (k+1) - 1) (fun j _=>by
   rw [bit_or,Nat.testBit_two_pow_sub_one,Nat.testBit_two_pow_sub_one]
   by_cases e:k=j
   ·subst e; simp
   ·simp only [e,decide_false,Bool.or_false,decide_eq_decide]; omega)]
  refine fin_plan hfit hall l (k+1) ?_ (by simp at hl; omega) h
  have:=congrArg List.tail hk
  simpa using this
theorem plan_stages (hW:WMono W) (hfit:fit ops.toList ops.toList 0=true) (hall:flatAll P (ancs [] ops.toList) ops.toList ops.toList 0=true) (all:List Nat) :
  ∀ (cs:List Nat) (k:Nat) (s:Hs) (S:Nat) (res:ResF) (H:Mem) (held:List Nat) (als:Als) (alsP:AlP),(∀ c∈cs,∃ o,ops[c]?=some o∧isChain o.op=true) →
   PS P ops g ds s S res H held als alsP→topo (ancs [] ops.toList) ops.toList S (planIn (ancs [] ops.toList) all ops.toList k cs s)=true →
   planW P W ops (clearQ Q) (planIn (ancs [] ops.toList) all ops.toList k cs s) (.f (Gs ops g S res) ds) H alsP →
   stagesW P W ops (ancs [] ops.toList) (.f g ds) all Q k cs res H held als:=by
 intro cs
 induction cs with
 | nil =>
  intro k s S res H held als alsP _ ps ht hp
  rw [stagesW_eq]
  unfold planIn at ht hp
  refine plan_stage hfit hall ?_ _ _ _ _ _ _ _ _ (fun j hj=>?_) ps ht hp
  ·intro s S res H held als alsP ps ht hp
   obtain ⟨h1,h2,s',_,_,ps',ht',hp'⟩:=gateP_ok hfit hall ps ht hp
   refine ⟨h1,h2,?_⟩
   have hS:S+1=2 ^ ops.toList.length:=Nat.eq_of_beq_eq_true ht'
   have hS' : S=2 ^ ops.size - 1:=by rw [Array.length_toList] at hS; omega
   have hq:Q (.norm (.f (Gs ops g S res) ds) H):=hp'
   subst hS'
   have hz:Fr.f g ds=.f (Gs ops g (2 ^ 0 - 1) res) ds:=by
    congr 1
    funext t
    unfold Gs
    split
    ·rw [show (2 ^ 0 - 1:Nat)=0 from rfl,Nat.zero_testBit]
    ·rfl
   show finW res (fun fr=>Q (.norm fr H)) ops.toList 0 (.f g ds)
   rw [hz]
   refine fin_plan hfit (fun j hj=>ps'.pi.dn j ?_) ops.toList 0 rfl (by simp) hq
   rw [Nat.testBit_two_pow_sub_one]; simpa using hj
  ·obtain ⟨_,oj,hoj,hcj,_⟩:=mem_stageOf.1 hj
   have hoj' : ops[j]?=some oj:=toList_at.1 (by simpa using hoj)
   exact ⟨oj,hoj',hcj,fit_no hfit hoj'⟩
 | cons c cs ih =>
  intro k s S res H held als alsP hcs ps ht hp
  rw [stagesW_eq]
  unfold planIn at ht hp
  refine plan_stage hfit hall ?_ _ _ _ _ _ _ _ _ (fun j hj=>?_) ps ht hp
  ·intro s S res H held als alsP ps ht hp
   obtain ⟨h1,h2,s',e1,e2,ps',ht',hp'⟩:=gateP_ok hfit hall ps ht hp
   refine ⟨h1,h2,?_⟩
   simp only [topo,Bool.and_eq_true] at ht'
   obtain ⟨⟨t1,t2⟩,ht'⟩:=ht'
   have hi:S.testBit c=false:=by simpa using t1
   have ha:=topo_anc t2
   obtain ⟨o,ho,hch⟩:=hcs c (by simp)
   have hcl:cls o.op=.chain:=by
    unfold isChain at hch
    cases h:cls o.op <;> rw [h] at hch <;> first | rfl | cases hch
   unfold planW at hp'
   rw [ho] at hp'
   dsimp only at hp'
   refine act_plan hW hfit hall ps'.pi ho hcl hi ha hp' ?_
   intro v H' hk
   refine ih _ _ _ _ _ _ _ _ (fun c hc=>hcs c (by simp [hc])) ?_ ht' hk
   have p1:=ps'.step hi ha v
   refine ⟨p1.pi,fun j hj=>?_,fun x hx=>?_⟩
   ·have hm:j∈held∧isAnc (ancs [] ops.toList) c j=false:=still_mem hj
    obtain ⟨a,b,d⟩:=p1.hd j hm.1
    refine ⟨a,b,.inl ?_⟩
    rcases d with d | ⟨d,_⟩
    ·rw [e1] at d; cases d
    ·exact List.mem_filter.2 ⟨d,by rw [hm.2]; rfl⟩
   ·have hm:x∈als∧isAnc (ancs [] ops.toList) c x.1=false:=stillA_mem hx
    obtain ⟨a,d⟩:=p1.al x hm.1
    refine ⟨a,.inl ?_⟩
    rcases d with d | ⟨d,_⟩
    ·rw [e2] at d; cases d
    ·exact List.mem_filter.2 ⟨d,by rw [hm.2]; rfl⟩
  ·obtain ⟨_,oj,hoj,hcj,_⟩:=mem_stageOf.1 hj
   have hoj' : ops[j]?=some oj:=toList_at.1 (by simpa using hoj)
   exact ⟨oj,hoj',hcj,fit_no hfit hoj'⟩
theorem planW_drawn (hW:WMono W) (hok:flatOk P ops.toList=true) (h:planW P W ops (clearQ Q) (planOf ops.toList) (.f g ds) H []) : drawnW P W ops (.f g ds) H Q:=by
 unfold flatOk at hok
 simp only [Bool.and_eq_true] at hok
 obtain ⟨⟨⟨h1,h2⟩,h3⟩,h4⟩:=hok
 have hfit:fit ops.toList ops.toList 0=true:=by
  unfold planOk at h1
  simp only [Bool.and_eq_true] at h1
  exact h1.2
 have hz:Fr.f g ds=.f (Gs ops g 0 (fun _=>none)) ds:=by
  congr 1
  funext t
  unfold Gs
  split
  ·rw [Nat.zero_testBit]
  ·rfl
 refine ⟨h1,h2,?_⟩
 unfold planOf at h h4
 rw [hz] at h
 refine plan_stages hW hfit h3 _ _ _ _ 0 _ _ _ _ [] (fun c hc=>?_) ⟨⟨fun _ _=>rfl,fun j hj=>?_,fun j k hj=>?_⟩,fun _ h=>(by cases h),fun _ h=>(by cases h)⟩ h4 h
 ·obtain ⟨_,o,ho,hch⟩:=mem_chainOf.1 hc
  exact ⟨o,toList_at.1 (by simpa using ho),hch⟩
 ·rw [Nat.zero_testBit] at hj; cases hj
 ·rw [Nat.zero_testBit] at hj; cases hj
end Go.Ai
end
section
namespace Go.Ai
open Go.RowKit (Below)
def planAt:List (Nat×List It)→Nat→List It
 | [],_=>[]
 | (k,l) :: r,i=>if k=i then l else planAt r i
def codeOk (P:Program) (plan:List (Nat×List It)) : Code→Bool
 | .region id ops true=>flatOk P ops.toList && decide (planOf ops.toList=planAt plan id)
 | .seq a b=>codeOk P plan a && codeOk P plan b
 | .cond _ a b=>codeOk P plan a && codeOk P plan b
 | .block _ b=>codeOk P plan b
 | .loop b=>codeOk P plan b
 | _=>true
noncomputable def regP (P:Program) (W:WF) (ops:Array Oper) (Q:Out→Prop) (l:List It) (fr:Fr) (H:Mem) : Prop:=match fr with
 | .f g ds=>planW P W ops (clearQ Q) l (.f g ds) H []
 | _=>False
noncomputable def execP (P:Program) (W:WF) (L:LF) (plan:List (Nat×List It)) : Code→Fr→Mem→(Out→Prop)→Prop
 | .skip,fr,H,Q=>Q (.norm fr H)
 | .region _ ops false,fr,H,Q=>seqW P W ops Q ops.toList fr H
 | .region id ops true,fr,H,Q=>regP P W ops Q (planAt plan id) fr H
 | .seq a b,fr,H,Q=>execP P W L plan a fr H (thenW (fun fr H=>execP P W L plan b fr H Q) Q)
 | .cond c a b,fr,H,Q=>condW (fr.ev c) (execP P W L plan a fr H Q) (execP P W L plan b fr H Q)
 | .block id b,fr,H,Q=>execP P W L plan b fr H (inBlockW id Q)
 | .loop b,fr,H,Q=>L b fr H Q
 | .exit id,fr,H,Q=>Q (.exit id fr H)
 | .label _,fr,H,Q=>Q (.norm fr H)
 | .ret,fr,H,Q=>Q (.ret fr H)
 | _,_,_,_=>False
variable {B G:Nat} {P:Program} {n n0:Nat} {ρ0 ρ:Rn} {w0 w:World} {fr:Fr} {H:Mem} {a:Act} {W:WF} {Q:Out→Prop} {plan:List (Nat×List It)}
theorem execP_sound (hW:WOK G P W) (hM:WMono W) (hG:G=P.globals.size) : ∀ (c:Code) (fr:Fr) (H:Mem) (Q:Out→Prop),dstsOk n c=true→codeOk P plan c=true→execP P W (LX G P n) plan c fr H Q→XW G P n c fr H Q:=by
 intro c
 induction c with
 | skip=>intro fr H Q _ _ h B n0 ρ0 w0 ρ a w s; exact wp_skip ⟨_,h,ρ,s⟩
 | region id ops draw =>
  intro fr H Q hd hc h B n0 ρ0 w0 ρ a w s
  cases draw with
  | false=>exact wp_region_list (seqW_sound hW hG ops.toList fr H ρ a w (fun o ho=>List.all_eq_true.1 hd o ho) s h)
  | true =>
   simp only [codeOk,Bool.and_eq_true,decide_eq_true_eq] at hc
   have h' : regP P W ops Q (planAt plan id) fr H:=h
   rw [← hc.2] at h'
   cases fr with
   | f g ds=>exact drawnW_sound hW hG s hd (planW_drawn hM hc.1 h')
   | _=>exact h'.elim
 | seq x y ihx ihy =>
  intro fr H Q hd hc h B n0 ρ0 w0 ρ a w s
  simp only [dstsOk,Bool.and_eq_true] at hd
  simp only [codeOk,Bool.and_eq_true] at hc
  refine wp_seq (Code.wp_mono ?_ (ihx fr H _ hd.1 hc.1 h B n0 ρ0 w0 ρ a w s))
  rintro e a' w' ⟨out,hq,ho⟩
  cases out with
  | norm fr' H' =>
   cases e with
   | normal=>obtain ⟨ρ',s'⟩:=ho; exact ihy fr' H' Q hd.2 hc.2 hq B n0 ρ0 w0 ρ' a' w' s'
   | _=>exact ho.elim
  | exit id fr' H'=>cases e <;> first | exact ho.elim | exact ⟨_,hq,ho⟩
  | ret fr' H'=>cases e <;> first | exact ho.elim | exact ⟨_,hq,ho⟩
  | panic v fr' H'=>cases e <;> first | exact ho.elim | exact ⟨_,hq,ho⟩
  | bad=>exact hq.elim
 | cond cnd x y ihx ihy =>
  intro fr H Q hd hc h B n0 ρ0 w0 ρ a w s
  simp only [dstsOk,Bool.and_eq_true] at hd
  simp only [codeOk,Bool.and_eq_true] at hc
  have h' : condW (fr.ev cnd) (execP P W (LX G P n) plan x fr H Q) (execP P W (LX G P n) plan y fr H Q):=h
  unfold condW at h'
  split at h'
  ·rename_i b hev
   have:=s.ev _ _ hev
   cases b with
   | true=>exact wp_cond_true this (ihx fr H Q hd.1 hc.1 (h'.1 rfl) B n0 ρ0 w0 ρ a w s)
   | false=>exact wp_cond_false this (ihy fr H Q hd.2 hc.2 (h'.2 rfl) B n0 ρ0 w0 ρ a w s)
  ·exact h'.elim
 | block id b ih =>
  intro fr H Q hd hc h B n0 ρ0 w0 ρ a w s
  refine wp_block (Code.wp_mono ?_ (ih fr H _ hd hc h B n0 ρ0 w0 ρ a w s))
  rintro e a' w' ⟨out,hq,ho⟩
  cases out with
  | norm fr' H'=>cases e <;> first | exact ho.elim | exact ⟨_,hq,ho⟩
  | exit id' fr' H' =>
   cases e with
   | exit id2 =>
    obtain ⟨rfl,ρ',s'⟩:=ho
    have hq' : if id2=id then Q (.norm fr' H') else Q (.exit id2 fr' H'):=hq
    by_cases e:id2=id
    ·subst e
     rw [if_pos rfl] at hq'
     simp only [Exit.inBlock,if_true]
     exact ⟨_,hq',ρ',s'⟩
    ·rw [if_neg e] at hq'
     simp only [Exit.inBlock,e,if_false]
     exact ⟨_,hq',rfl,ρ',s'⟩
   | _=>exact ho.elim
  | ret fr' H'=>cases e <;> first | exact ho.elim | exact ⟨_,hq,ho⟩
  | panic v fr' H'=>cases e <;> first | exact ho.elim | exact ⟨_,hq,ho⟩
  | bad=>exact hq.elim
 | loop b ih =>
  intro fr H Q hd hc h B n0 ρ0 w0 ρ a w s
  exact LW.wp (h B n0 ρ0 w0 ρ a w s)
 | rangeFunc f ps x y ihx ihy=>intro fr H Q hd hc h; exact h.elim
 | exit id=>intro fr H Q hd hc h B n0 ρ0 w0 ρ a w s; exact wp_exit ⟨_,h,rfl,ρ,s⟩
 | scope b ih=>intro fr H Q hd hc h; exact h.elim
 | label l=>intro fr H Q hd hc h B n0 ρ0 w0 ρ a w s; exact wp_label ⟨_,h,ρ,s⟩
 | goto l=>intro fr H Q hd hc h; exact h.elim
 | ret=>intro fr H Q hd hc h B n0 ρ0 w0 ρ a w s; exact wp_ret ⟨_,h,ρ,s⟩
 | refuse why=>intro fr H Q hd hc h; exact h.elim
theorem LX.roundP {O:CallF} (hO:∀ B,CallOK B G P O) (hG:G=P.globals.size) (plan:List (Nat×List It)) {b:Code} (hd:(dstsOk n b && codeOk P plan b)=true)
  (h:execP P (orW O (WC G P)) (LX G P n) plan b fr H (thenW (fun fr H=>LX G P n b fr H Q) Q)) : LX G P n b fr H Q:=by
 rw [Bool.and_eq_true] at hd
 intro B n0 ρ0 w0 ρ a w s
 refine LW.unroll (Code.wp_mono ?_ (execP_sound (orW_ok hO) (orW_mono (WC_mono' G P)) hG b fr H _ hd.1 hd.2 h B n0 ρ0 w0 ρ a w s))
 rintro e a' w' ⟨out,hq,ho⟩
 cases out with
 | norm fr' H' =>
  cases e with
  | normal=>obtain ⟨ρ',s'⟩:=ho; exact hq B n0 ρ0 w0 ρ' a' w' s'
  | _=>exact ho.elim
 | exit id fr' H'=>cases e <;> first | exact ho.elim | exact ⟨_,hq,ho⟩
 | ret fr' H'=>cases e <;> first | exact ho.elim | exact ⟨_,hq,ho⟩
 | panic v fr' H'=>cases e <;> first | exact ho.elim | exact ⟨_,hq,ho⟩
 | bad=>exact hq.elim
theorem WC.enterP {f:FuncId} {fn:Func} {c:Code} {args:List AV} {K:COut→Prop} {O:CallF} (hO:∀ B,CallOK B G P O) (hG:G=P.globals.size) (plan:List (Nat×List It)) (hf:P.funcs[f]?=some fn) (hb:fn.body=some c)
  (hd:(dstsOk fn.ntmps c && codeOk P plan c)=true) (hl:args.length≤fn.ntmps) (h:execP P (orW O (WC G P)) (LX G P fn.ntmps) plan c (frameW args) H (leaveW P O fn K)) : WC G P f args H K:=by
 rw [Bool.and_eq_true] at hd
 intro B ρ us w s hv
 have s1:St B G fn.ntmps H.next ρ w ρ (frameW args) H { tmps:=us++Array.replicate (fn.ntmps - us.size) undef,defers:=[] } w:=⟨Ext.refl _ _ _ _,s,frameW_entered hv hl,Nat.le_refl _⟩
 refine calls_of_wp_defers hf hb (Code.wp_mono ?_ (execP_sound (orW_ok hO) (orW_mono (WC_mono' G P)) hG c _ H _ hd.1 hd.2 h B H.next ρ w ρ _ w s1))
 rintro e a' w' ⟨out,hq,ho⟩
 have fin:∀ {fr' : Fr} {u:Mode} {H' : Mem} {ρ' : Rn} {m:FrameMode},(match leave P O (fun _ _ _=>.bad) fn fr' fr'.defers u H' with | .bad=>False | r=>K r)→St B G fn.ntmps H.next ρ w ρ' fr' H' a' w'→MR ρ' u m →
   Leaves P fn a'.tmps (fun e w'=>∃ r,K r∧CPost B G H.next ρ w r e w') a'.defers m w':=by
  intro fr' u H' ρ' m hm s' hmr
  have key:∀ r,leave P O (fun _ _ _=>.bad) fn fr' fr'.defers u H'=r→r≠.bad→K r→Leaves P fn a'.tmps (fun e w'=>∃ r,K r∧CPost B G H.next ρ w r e w') a'.defers m w':=by
   intro r hr hne hk
   refine Leaves_mono (fun e w' hc=>⟨r,hk,hc⟩) ?_
   exact leave_sound (hO B) (badLoop_ok B G P) hG hne _ _ u H' ρ' m w' s'.frel.dfr s' hmr hr
  generalize hr:leave P O (fun _ _ _=>.bad) fn fr' fr'.defers u H'=r at hm
  cases r with
  | bad=>exact hm.elim
  | ret v H2=>exact key _ hr (by simp) hm
  | panic v H2=>exact key _ hr (by simp) hm
 cases out with
 | norm fr' H' =>
  cases e with
  | normal=>obtain ⟨ρ',s'⟩:=ho; exact fin (u:=.returning) (m:=.returning) hq s' rfl
  | _=>exact ho.elim
 | ret fr' H' =>
  cases e with
  | ret=>obtain ⟨ρ',s'⟩:=ho; exact fin (u:=.returning) (m:=.returning) hq s' rfl
  | _=>exact ho.elim
 | panic v fr' H' =>
  cases e with
  | panic chain=>obtain ⟨ρ',x,rfl,hx,s'⟩:=ho; exact fin (u:=.panicking v) hq s' ⟨x,rfl,hx⟩
  | _=>exact ho.elim
 | exit id fr' H'=>exact hq.elim
 | bad=>exact hq.elim
end Go.Ai
end
section
namespace Go.Ai
variable {P:Program} {W:WF} {L:LF} {Q:Out→Prop} {fr:Fr} {H:Mem} {plan:List (Nat×List It)} {ops:Array Oper} {al:AlP}
theorem execP_congr {tk:Nat} (_h0:tick=tk) {c:Code} {fr fr' : Fr} {H H' : Mem} (h1:fr=fr') (h2:H=H') : execP P W L plan c fr H Q=execP P W L plan c fr' H' Q:=by rw [h1,h2]
theorem planW_congr {tk:Nat} (_h0:tick=tk) {l:List It} {fr fr' : Fr} {H H' : Mem} (h1:fr=fr') (h2:H=H') : planW P W ops Q l fr H al=planW P W ops Q l fr' H' al:=by rw [h1,h2]
theorem againW_congr {tk:Nat} (_h0:tick=tk) {l:List Nat} {fr fr' : Fr} {H H' : Mem} (h1:fr=fr') (h2:H=H') : againW P W ops fr H l=againW P W ops fr' H' l:=by rw [h1,h2]
theorem regP_congr {tk:Nat} (_h0:tick=tk) {l l' : List It} {fr fr' : Fr} {H H' : Mem} (h0:l=l') (h1:fr=fr') (h2:H=H') : regP P W ops Q l fr H=regP P W ops Q l' fr' H':=by rw [h0,h1,h2]
theorem clearQ_congr {tk:Nat} (_h0:tick=tk) {o o' : Out} (h:o=o') : clearQ Q o=clearQ Q o':=by rw [h]
def atW (l:List Oper) (i:Nat) (k:Oper→Prop) : Prop:=match l[i]? with | some o=>k o | none=>False
theorem atW_zero {o:Oper} {l:List Oper} {k:Oper→Prop} : atW (o :: l) 0 k=k o:=(rfl)
theorem atW_succ {o:Oper} {l:List Oper} {n:Nat} {k:Oper→Prop} : atW (o :: l) (n+1) k=atW l n k:=(rfl)
theorem atW_congr {tk:Nat} (_h0:tick=tk) {l:List Oper} {i:Nat} {k:Oper→Prop} : atW l i k=atW l i k:=rfl
attribute [congr] execP_congr planW_congr againW_congr regP_congr clearQ_congr atW_congr
theorem execP_skip:execP P W L plan .skip fr H Q=Q (.norm fr H):=(rfl)
theorem execP_region {id:Nat} {l:List Oper} : execP P W L plan (.region id l.toArray false) fr H Q=seqW P W l.toArray Q l fr H:=(rfl)
theorem execP_drawn {id:Nat} : execP P W L plan (.region id ops true) fr H Q=regP P W ops Q (planAt plan id) fr H:=(rfl)
theorem execP_seq {a b:Code} : execP P W L plan (.seq a b) fr H Q=execP P W L plan a fr H (thenW (fun fr H=>execP P W L plan b fr H Q) Q):=(rfl)
theorem execP_cond {x:Operand} {a b:Code} : execP P W L plan (.cond x a b) fr H Q=condW (fr.ev x) (execP P W L plan a fr H Q) (execP P W L plan b fr H Q):=(rfl)
theorem execP_block {id:Nat} {b:Code} : execP P W L plan (.block id b) fr H Q=execP P W L plan b fr H (inBlockW id Q):=(rfl)
theorem execP_loop {b:Code} : execP P W L plan (.loop b) fr H Q=L b fr H Q:=(rfl)
theorem execP_exit {id:Nat} : execP P W L plan (.exit id) fr H Q=Q (.exit id fr H):=(rfl)
theorem execP_ret:execP P W L plan .ret fr H Q=Q (.ret fr H):=(rfl)
theorem regP_f {g:Nat→Option AV} {ds:List Dfr} {l:List It} : regP P W ops Q l (.f g ds) H=planW P W ops (clearQ Q) l (.f g ds) H []:=(rfl)
theorem clearQ_norm:clearQ Q (.norm fr H)=Q (.norm fr H):=(rfl)
theorem planW_nil:planW P W ops Q [] fr H al=Q (.norm fr H):=(rfl)
theorem planW_run {l:List Oper} {i:Nat} {r:List It} : planW P W l.toArray Q (.run i :: r) fr H al=atW l i fun o=>oneW P W l.toArray o fr H (fun fr H=>planW P W l.toArray Q r fr H al) Q:=by
 rw [planW,List.getElem?_toArray]; rfl
theorem planW_mk {l:List Oper} {i:Nat} {r:List It} : planW P W l.toArray Q (.mk i :: r) fr H al=atW l i fun o=>oneW P W l.toArray o fr H (fun fr H'=>planW P W l.toArray Q r fr H' ((i,H.next,H'.get H.next) :: al)) Q:=by
 rw [planW,List.getElem?_toArray]; rfl
theorem planW_gate {hs as:List Nat} {r:List It} : planW P W ops Q (.gate hs as :: r) fr H al=(againW P W ops fr H hs∧keptW H as al∧planW P W ops Q r fr H al):=(rfl)
theorem againW_nil:againW P W ops fr H []=True:=(rfl)
theorem againW_cons {l:List Oper} {i:Nat} {hs:List Nat} : againW P W l.toArray fr H (i :: hs)=((atW l i fun o=>oneW P W l.toArray o fr H (fun fr' _=>slotOf fr' o.dst=slotOf fr o.dst) fun _=>False)∧againW P W l.toArray fr H hs):=by
 rw [againW,List.getElem?_toArray]; rfl
theorem slotOf_some {d:Tmp} : slotOf fr (some d)=fr.get d:=(rfl)
theorem keptW_nil {as:List Nat} : keptW H as []=True:=(rfl)
theorem keptW_cons {as:List Nat} {i a:Nat} {b:Option Blk} {l:AlP} : keptW H as ((i,a,b) :: l)=((i∈as→H.get a=b)∧keptW H as l):=(rfl)
attribute [simp] execP_skip execP_region execP_drawn execP_seq execP_cond execP_block execP_loop execP_exit execP_ret regP_f clearQ_norm
 planW_nil planW_run planW_mk planW_gate againW_nil againW_cons slotOf_some keptW_nil keptW_cons atW_zero atW_succ
end Go.Ai
end
section
namespace Go.Ai
variable {P:Program} {W:WF} {L:LF} {Q:Out→Prop} {fr:Fr} {H:Mem}
section
variable {ev:Ev} {d:Option Tmp} {ty:TypeId} {p:String} {af:Array Edge} {g:Option (Nat×Bool)}
end
end Go.Ai
end
section
namespace Go.Ai
variable {B G:Nat} {P:Program} {ρ:Rn} {H:Mem} {w:World}
noncomputable def orR (x:COut) (y:COut) : COut:=COut.rec (motive:=fun _=>COut) (fun v H=>.ret v H) (fun v H=>.panic v H) y x
noncomputable def orC (O c:CallF) : CallF:=fun f a H=>orR (O f a H) (c f a H)
theorem orC_ok {O c:CallF} (hO:CallOK B G P O) (hc:CallOK B G P c) : CallOK B G P (orC O c):=by
 intro f args H hne ρ us w s hv
 unfold orC at hne ⊢
 cases hr:O f args H with
 | bad=>rw [hr] at hne; exact hc f args H hne ρ us w s hv
 | ret v H'=>have:=hO f args H (by rw [hr]; simp) ρ us w s hv; rw [hr] at this; exact this
 | panic v H'=>have:=hO f args H (by rw [hr]; simp) ρ us w s hv; rw [hr] at this; exact this
noncomputable def Mem.fn (H:Mem) : Mem:=⟨.fn H.get,H.next⟩
theorem Sim.toFn (s:Sim B G ρ H w) : Sim B G ρ H.fn w:=⟨s.blk,s.inj,s.fresh,s.glob,s.names,s.base⟩
theorem Sim.ofFn (s:Sim B G ρ H.fn w) : Sim B G ρ H w:=⟨s.blk,s.inj,s.fresh,s.glob,s.names,s.base⟩
theorem WC.ofFn {f:FuncId} {args:List AV} {v:AV} (h:WC G P f args H.fn fun r=>r=.ret v H.fn) : WC G P f args H fun r=>r=.ret v H:=by
 intro B ρ us w s hv
 refine (h B ρ us w s.toFn hv).mono ?_
 rintro e w' ⟨r,rfl,hc⟩
 refine ⟨_,rfl,?_⟩
 cases e with
 | returned u =>
  obtain ⟨ρ',h1,h2,h3,h4⟩:=hc
  exact ⟨ρ',h1,h2.ofFn,h3,Nat.le_refl _⟩
 | panicked chain=>exact hc.elim
 | outgrown=>exact hc.elim
mutual
def belowV (n:Nat) : AV→Bool
 | .lit _=>true
 | .es=>true
 | .ptr a _=>Nat.blt a n
 | .sl a _ _ _=>Nat.blt a n
 | .slq a _ _ _=>Nat.blt a n
 | .map a=>Nat.blt a n
 | .func _ x y=>belowL n x && belowL n y
 | .iface _ v=>belowV n v
 | .agg l=>belowL n l
 | .tup l=>belowL n l
def belowL (n:Nat) : List AV→Bool
 | []=>true
 | v :: l=>belowV n v && belowL n l
end
def restr (n:Nat) (ρ:Rn) : Rn:=fun a=>if a < n then ρ a else none
theorem restr_lt {n a:Nat} {ρ:Rn} (h:Nat.blt a n=true) : restr n ρ a=ρ a:=if_pos (Nat.le_of_ble_eq_true h)
mutual
theorem below_VR {n:Nat} {ρ:Rn} : ∀ {v:AV} {u:Value},belowV n v=true→VR ρ v u→VR (restr n ρ) v u
 | .lit _,_,_,r=>r
 | .es,_,_,r=>r
 | .ptr a _,_,hb,⟨b,o,k,e,r⟩=>⟨b,o,k,(restr_lt (by simpa [belowV] using hb)).trans e,r⟩
 | .sl a _ _ _,_,hb,⟨b,o,k,e,r⟩=>⟨b,o,k,(restr_lt (by simpa [belowV] using hb)).trans e,r⟩
 | .slq a _ _ _,_,hb,⟨b,o,k,e,r⟩=>⟨b,o,k,(restr_lt (by simpa [belowV] using hb)).trans e,r⟩
 | .map a,_,hb,⟨b,o,k,e,r⟩=>⟨b,o,k,(restr_lt (by simpa [belowV] using hb)).trans e,r⟩
 | .func _ _ _,_,hb,⟨f',c',e,r,q⟩=>by
  simp only [belowV,Bool.and_eq_true] at hb
  exact ⟨f',c',e,below_VRs hb.1 r,below_VRs hb.2 q⟩
 | .iface _ _,_,hb,⟨u',e,r⟩=>⟨u',e,below_VR (by simpa [belowV] using hb) r⟩
 | .agg _,_,hb,⟨cs,e,r⟩=>⟨cs,e,below_VRs (by simpa [belowV] using hb) r⟩
 | .tup _,_,hb,⟨cs,e,r⟩=>⟨cs,e,below_VRs (by simpa [belowV] using hb) r⟩
theorem below_VRs {n:Nat} {ρ:Rn} : ∀ {l:List AV} {us:List Value},belowL n l=true→VRs ρ l us→VRs (restr n ρ) l us
 | [],_,_,r=>r
 | _ :: _,_,hb,⟨u,us',e,r,q⟩=>by
  simp only [belowL,Bool.and_eq_true] at hb
  exact ⟨u,us',e,below_VR hb.1 r,below_VRs hb.2 q⟩
end
def startB (n:Nat) : Option Blk→Bool
 | none=>true
 | some (.cells l own _)=>!own && belowL n l
 | _=>false
def retIs (v:AV) : COut→Bool
 | .ret u _=>eqAV u v
 | _=>false
theorem Sim.small {H0:Mem} (s:Sim B G ρ H w) (hG:G≤H0.next) (hst:∀ a,startB H0.next (H0.get a)=true) (hsub:∀ a x,H0.get a=some x→H.get a=some x) (hlt:∀ a x,H0.get a=some x→a < H0.next) :
  Sim w.heap.size G (restr H0.next ρ) H0 w:=by
 refine ⟨fun a x ha=>?_,fun a a' x x' b o k o' k' ha _ _ hown=>?_,fun a ha=>if_neg (Nat.not_lt.2 ha),fun a x hlt' ha=>?_,hG,Nat.le_refl _⟩
 ·have hr:restr H0.next ρ a=ρ a:=if_pos (hlt a x ha)
  rcases s.blk a x (hsub a x ha) with hn | ⟨b,o,k,h1,h2⟩
  ·exact .inl (hr.trans hn)
  ·refine .inr ⟨b,o,k,hr.trans h1,?_⟩
   have hs:=hst a
   rw [ha] at hs
   cases x with
   | cells l own z =>
    simp only [startB,Bool.and_eq_true,Bool.not_eq_true'] at hs
    obtain ⟨c,e,fz,h3,h4,h5⟩:=h2
    refine ⟨c,e,fz,h3,fun i v hi=>?_,fun hown=>by rw [hs.1] at hown; cases hown⟩
    obtain ⟨u,hu,hv⟩:=h4 i v hi
    refine ⟨u,hu,below_VR ?_ hv⟩
    have key:∀ (l:List AV) (i:Nat),belowL H0.next l=true→l[i]?=some v→belowV H0.next v=true:=by
     intro l
     induction l with
     | nil=>intro i _ h; simp at h
     | cons y l ih =>
      intro i hb h
      simp only [belowL,Bool.and_eq_true] at hb
      cases i with
      | zero=>simp at h; subst h; exact hb.1
      | succ i=>exact ih i hb.2 (by simpa using h)
    exact key l i hs.2 hi
   | map _ _=>cases hs
   | siter _ _=>cases hs
   | typ _ _ _=>cases hs
 ·have hs:=hst a
  rw [ha] at hs
  cases x with
  | cells l own z =>
   simp only [startB,Bool.and_eq_true,Bool.not_eq_true'] at hs
   have:own=true:=hown
   rw [hs.1] at this; cases this
  | map _ _=>cases hs
  | siter _ _=>cases hs
  | typ _ _ _=>cases hs
 ·have hr:restr H0.next ρ a=ρ a:=if_pos (hlt a x ha)
  exact hr.trans (s.glob a x hlt' (hsub a x ha))
theorem WC.local {H0:Mem} {O:CallF} {f:FuncId} {args:List AV} {v:AV} (hO:∀ B,CallOK B G P O) (hrun:retIs v (O f args H0)=true) (hv:plainV v=true) (hargs:belowL 0 args=true)
  (hG:G≤H0.next) (hst:∀ a,startB H0.next (H0.get a)=true) (hsub:∀ a x,H0.get a=some x→H.get a=some x) (hlt:∀ a x,H0.get a=some x→a < H0.next) :
  WC G P f args H fun r=>r=.ret v H:=by
 intro B ρ us w s hva
 have mono0:∀ (n:Nat),(∀ v,belowV 0 v=true→belowV n v=true)∧(∀ l,belowL 0 l=true→belowL n l=true):=by
  intro n
  have hV:∀ v,belowV 0 v=true→belowV n v=true:=by
   intro v
   refine AV.rec (motive_1:=fun v=>belowV 0 v=true→belowV n v=true) (motive_2:=fun l=>belowL 0 l=true→belowL n l=true) ?_ ?_ ?_ ?_ ?_ ?_ ?_ ?_ ?_ ?_ ?_ ?_ v
   all_goals intros
   all_goals simp_all [belowV,belowL]
  have hL:∀ l,belowL 0 l=true→belowL n l=true:=by
   intro l
   induction l with
   | nil=>intro _; rfl
   | cons x l ih =>
    intro h
    simp only [belowL,Bool.and_eq_true] at h ⊢
    exact ⟨hV x h.1,ih h.2⟩
  exact ⟨hV,hL⟩
 have s0:=s.small hG hst hsub hlt
 have hrr:∃ u H1,O f args H0=.ret u H1∧u=v:=by
  cases hr:O f args H0 with
  | ret u H1=>rw [hr] at hrun; exact ⟨u,H1,rfl,eqAV_sound _ _ hrun⟩
  | panic u H1=>rw [hr] at hrun; cases hrun
  | bad=>rw [hr] at hrun; cases hrun
 obtain ⟨u,H1,hr,rfl⟩:=hrr
 refine (hO _ f args H0 (by rw [hr]; simp) _ us w s0 (below_VRs ((mono0 H0.next).2 args hargs) hva)).mono ?_
 intro e w' hc
 rw [hr] at hc
 refine ⟨_,rfl,?_⟩
 cases e with
 | returned x =>
  obtain ⟨ρ',h1,h2,h3,h4⟩:=hc
  have hb:=h1.below
  have hb' : Go.RowKit.Below B w w':=⟨hb.os,hb.tape,hb.output,hb.size,fun a ha=>hb.block a (Nat.lt_of_lt_of_le ha s.base)⟩
  refine ⟨ρ,⟨fun _ _=>rfl,h1.keeps,hb'⟩,?_,plain_VR hv h3,Nat.le_refl _⟩
  refine s.other hb.size fun a x b o k ha hra=>?_
  exact hb.block b (s.at ha hra).lt
 | panicked chain=>exact hc.elim
 | outgrown=>exact hc.elim
end Go.Ai
end
section
namespace Go.Ai
variable {B G:Nat} {P:Program} {ρ ρ' : Rn} {H H' H2:Mem} {w w' : World}
end Go.Ai
end
section
namespace Go.Ai
open Go.RowKit (Below)
variable {B G:Nat} {P:Program} {n n0:Nat} {ρ0 ρ:Rn} {w0 w:World} {a:Act} {ops:Array Oper} {o:Oper} {callf:CallF} {fr:Fr} {g:Nat→Option AV} {ds:List Dfr} {H:Mem} {d:Tmp} {v:AV}
def und:Dg→Nat
 | .d0=>0 | .d1=>1 | .d2=>2 | .d3=>3 | .d4=>4 | .d5=>5 | .d6=>6 | .d7=>7
 | .d8=>8 | .d9=>9 | .d10=>10 | .d11=>11 | .d12=>12 | .d13=>13 | .d14=>14 | .d15=>15
theorem und_dig:∀ n,n < 16→und (dig n)=n:=by decide
theorem dig_inj {m k:Nat} (hm:m < 16) (hk:k < 16) (h:dig m=dig k) : m=k:=by
 have:=congrArg und h
 rwa [und_dig _ hm,und_dig _ hk] at this
theorem path2 {j k:Nat} (hj:j < 256) (hk:k < 256) (h0:d0 k=d0 j) (h1:d1 k=d1 j) : k=j:=by
 have e0:k % 16=j % 16:=dig_inj (Nat.mod_lt _ (by omega)) (Nat.mod_lt _ (by omega)) h0
 have e1:k / 16 % 16=j / 16 % 16:=dig_inj (Nat.mod_lt _ (by omega)) (Nat.mod_lt _ (by omega)) h1
 omega
theorem path3 {j k:Nat} (hj:j < 4096) (hk:k < 4096) (h0:d0 k=d0 j) (h1:d1 k=d1 j) (h2:d2 k=d2 j) : k=j:=by
 have e0:k % 16=j % 16:=dig_inj (Nat.mod_lt _ (by omega)) (Nat.mod_lt _ (by omega)) h0
 have e1:k / 16 % 16=j / 16 % 16:=dig_inj (Nat.mod_lt _ (by omega)) (Nat.mod_lt _ (by omega)) h1
 have e2:k / 256 % 16=j / 256 % 16:=dig_inj (Nat.mod_lt _ (by omega)) (Nat.mod_lt _ (by omega)) h2
 omega
theorem leaf_same {α:Type} (k:Nat) (x:α) : leaf k (.v k x)=some x:=by simp [leaf]
theorem get2_ne {α:Type} (t:T2 α) {k j:Nat} (x:Lf α) (hk:k < 256) (hj:j < 256) (hne:j≠k) : get2 (u2 t k x) j=get2 t j:=by
 unfold get2 u2
 rcases Dg.em (d0 k) (d0 j) with h0 | h0
 ·rw [h0,gN_same]
  rcases Dg.em (d1 k) (d1 j) with h1 | h1
  ·exact absurd (path2 hk hj h0 h1) hne
  ·rw [gN_ne _ _ _ _ h1]
 ·rw [gN_ne _ _ _ _ h0]
theorem get3_ne {α:Type} (t:T3 α) {k j:Nat} (x:Lf α) (hk:k < 4096) (hj:j < 4096) (hne:j≠k) : get3 (u3 t k x) j=get3 t j:=by
 unfold get3 u3
 rcases Dg.em (d0 k) (d0 j) with h0 | h0
 ·rw [h0,gN_same]
  rcases Dg.em (d1 k) (d1 j) with h1 | h1
  ·rw [h1,gN_same]
   rcases Dg.em (d2 k) (d2 j) with h2 | h2
   ·exact absurd (path3 hk hj h0 h1 h2) hne
   ·rw [gN_ne _ _ _ _ h2]
  ·rw [gN_ne _ _ _ _ h1]
 ·rw [gN_ne _ _ _ _ h0]
noncomputable def roomOf (fr:Fr) : Nat:=Fr.rec (motive:=fun _=>Nat) (fun _ _=>256) (fun _ _=>4096) (fun _ _=>0) fr
theorem room_upd (fr:Fr) (d:Tmp) (v:AV) : roomOf (fr.upd d v)=roomOf fr:=by
 cases fr <;> simp [Fr.upd,Fr.set,fpS,fpG,fpF,put2_eq,put3_eq,roomOf]
theorem room_put (fr:Fr) (d:Option Tmp) (v:AV) : roomOf (fr.put d v)=roomOf fr:=by
 cases d with
 | none=>rfl
 | some d=>exact room_upd fr d v
theorem room_defer (fr:Fr) (x:Dfr) : roomOf (fr.defer x)=roomOf fr:=by cases fr <;> rfl
theorem get_upd_same (fr:Fr) (d:Tmp) (v:AV) : (fr.upd d v).get d=some v:=by
 cases fr with
 | s t ds=>simp [Fr.upd,Fr.set,fpS,put2_eq,Fr.get,fgS]; unfold get2; rw [at2_same]; exact leaf_same _ _
 | g t ds=>simp [Fr.upd,Fr.set,fpG,put3_eq,Fr.get,fgG]; unfold get3; rw [at3_same]; exact leaf_same _ _
 | f g ds=>exact if_pos rfl
theorem get_upd_ne (fr:Fr) {d k:Tmp} (v:AV) (hd:d < roomOf fr) (hk:k < roomOf fr) (h:k≠d) : (fr.upd d v).get k=fr.get k:=by
 cases fr with
 | s t ds=>simp [Fr.upd,Fr.set,fpS,put2_eq,Fr.get,fgS]; exact get2_ne _ _ hd hk h
 | g t ds=>simp [Fr.upd,Fr.set,fpG,put3_eq,Fr.get,fgG]; exact get3_ne _ _ hd hk h
 | f g ds=>exact if_neg h
structure FE (fr:Fr) (g:Nat→Option AV) (ds:List Dfr) : Prop where
 lo:∀ k,k < roomOf fr→fr.get k=g k
 up:∀ k v,fr.get k=some v→g k=some v
 dfr:fr.defers=ds
theorem FE.refl (fr:Fr) : FE fr fr.get fr.defers:=⟨fun _ _=>rfl,fun _ _ h=>h,rfl⟩
theorem FE.upd (h:FE fr g ds) (hd:d < roomOf fr) (v:AV) : FE (fr.upd d v) (fput g d v) ds:=by
 refine ⟨fun k hk=>?_,fun k y hy=>?_,(Fr.defers_upd fr d v).trans h.dfr⟩
 ·rw [room_upd] at hk
  unfold fput
  by_cases e:k=d
  ·subst e; rw [if_pos rfl]; exact get_upd_same fr k v
  ·rw [if_neg e,get_upd_ne fr v hd hk e]; exact h.lo k hk
 ·unfold fput
  rcases Fr.get_upd hy with ⟨rfl,rfl⟩ | ⟨hne,hy⟩
  ·exact if_pos rfl
  ·rw [if_neg hne]; exact h.up k y hy
def putG (g:Nat→Option AV) (d:Option Tmp) (v:AV) : Nat→Option AV:=match d with | some d=>fput g d v | none=>g
theorem put_f (g:Nat→Option AV) (ds:List Dfr) (d:Option Tmp) (v:AV) : (Fr.f g ds).put d v=.f (putG g d v) ds:=by cases d <;> rfl
theorem FE.put (h:FE fr g ds) {d:Option Tmp} (hd:∀ t,d=some t→t < roomOf fr) (v:AV) : FE (fr.put d v) (putG g d v) ds:=by
 cases d with
 | none=>exact h
 | some d=>exact h.upd (hd d rfl) v
theorem FE.defer (h:FE fr g ds) (x:Dfr) : FE (fr.defer x) g (x :: ds) :=
 ⟨fun k hk=>by rw [room_defer] at hk; rw [Fr.get_defer]; exact h.lo k hk,fun k v hv=>by rw [Fr.get_defer] at hv; exact h.up k v hv,by rw [Fr.defers_defer,h.dfr]⟩
theorem St.toF (s:St B G n n0 ρ0 w0 ρ fr H a w) : St B G n n0 ρ0 w0 ρ (.f fr.get fr.defers) H a w:=⟨s.ext,s.sim,⟨s.frel.slot,s.frel.dfr,s.frel.size,s.frel.only⟩,s.le⟩
theorem St.ofF (h:FE fr g ds) (s:St B G n n0 ρ0 w0 ρ (.f g ds) H a w) : St B G n n0 ρ0 w0 ρ fr H a w :=
 ⟨s.ext,s.sim,⟨fun t v hv hn=>s.frel.slot t v (h.up t v hv) hn,by rw [h.dfr]; exact s.frel.dfr,s.frel.size,fun t v hv=>s.frel.only t v (h.up t v hv)⟩,s.le⟩
def noSel (o:Oper) : Bool:=match o.op with | .select _ _=>false | _=>true
theorem noSel_spec (h:noSel o=true) : ∀ cs b,o.op≠.select cs b:=by
 intro cs b e; unfold noSel at h; rw [e] at h; cases h
def roomy (m:Nat) (o:Oper) : Bool:=dstOk m o && (tmpsOf o).all (fun t=>Nat.blt t m) && noSel o
theorem FE.op (h:FE fr g ds) (hr:roomy (roomOf fr) o=true) : opV P H fr.ev o=opV P H (Fr.f g ds).ev o:=by
 unfold roomy at hr
 simp only [Bool.and_eq_true] at hr
 refine opV_evs (noSel_spec hr.2) fun x hx=>?_
 cases x with
 | tmp t =>
  have:=List.all_eq_true.1 hr.1.2 t (mem_tmps hx)
  exact h.lo t (Nat.le_of_ble_eq_true this)
 | const v=>rfl
 | global g=>rfl
 | func f=>rfl
theorem roomy_dst {m:Nat} (hr:roomy m o=true) : ∀ t,o.dst=some t→t < m:=by
 intro t ht
 unfold roomy dstOk at hr
 rw [ht] at hr
 simp only [Bool.and_eq_true] at hr
 exact Nat.le_of_ble_eq_true hr.1.1
def wOf (callf:CallF) : WF:=fun f args H K=>match callf f args H with
 | .bad=>False
 | r=>K r
theorem wOf_ok (hc:∀ B,CallOK B G P callf) : WOK G P (wOf callf):=by
 intro f args H K h
 refine orW_sound (O:=callf) hc ?_
 unfold wOf at h; unfold orW
 cases hr:callf f args H <;> rw [hr] at h <;> first | exact h.elim | exact h
theorem wOf_mono:WMono (wOf callf):=by
 intro f args H K K' hk h
 unfold wOf at h ⊢
 cases hr:callf f args H <;> rw [hr] at h <;> first | exact h.elim | exact hk _ h
theorem one_W {k:Fr→Mem→Out} {kk:Fr→Mem→Prop} {Q:Out→Prop} {r:Out} (he:FE fr g ds) (hr:roomy (roomOf fr) o=true) (hall:ops.toList.all (roomy (roomOf fr))=true) (h:oneOp P callf ops o fr H k=r) (hne:r≠.bad)
  (hk:∀ fr1 g1 ds1 H1,FE fr1 g1 ds1→roomOf fr1=roomOf fr→k fr1 H1=r→kk (.f g1 ds1) H1)
  (hp:∀ v fr1 H1,FE fr1 g ds→r=.panic v fr1 H1→Q (.panic v (.f g ds) H1)) : oneW P (wOf callf) ops o (.f g ds) H kk Q:=by
 have hput:∀ (v:AV) (H1:Mem),(fr.putK o.dst v fun fr=>k fr H1)=r→kk ((Fr.f g ds).put o.dst v) H1:=by
  intro v H1 h1
  rw [Fr.putK_eq] at h1
  rw [put_f]
  exact hk _ _ _ _ (he.put (roomy_dst hr) v) (room_put fr o.dst v) h1
 have haft:after callf o fr k (opV P H fr.ev o)=r→afterW (wOf callf) o (.f g ds) kk Q (opV P H (Fr.f g ds).ev o):=by
  rw [← he.op hr]
  generalize opV P H fr.ev o=x
  intro h1
  cases x with
  | val v H1=>exact hput v H1 h1
  | skip H1=>exact hput _ H1 h1
  | enter f args H1 =>
   have h2:(match callf f args H1 with | .ret v H=>fr.putK o.dst v fun fr=>k fr H | .panic v H=>.panic v fr H | .bad=>.bad)=r:=h1
   show wOf callf f args H1 _
   unfold wOf
   cases hc:callf f args H1 with
   | ret v H2=>rw [hc] at h2; exact hput v H2 h2
   | panic v H2=>rw [hc] at h2; exact hp v fr H2 he h2.symm
   | bad=>rw [hc] at h2; exact absurd h2.symm hne
  | dfr fn cap args H1 =>
   have h2:((fr.defer (fn,cap,args)).putK o.dst (.lit undef) fun fr=>k fr H1)=r:=h1
   rw [Fr.putK_eq] at h2
   show kk ((Fr.f g ((fn,cap,args) :: ds)).put o.dst (.lit undef)) H1
   rw [put_f]
   exact hk _ _ _ _ ((he.defer _).put (by rw [room_defer]; exact roomy_dst hr) _) ((room_put _ _ _).trans (room_defer _ _)) h2
  | panic v H1=>exact hp v fr H1 he h1.symm
  | _=>exact absurd h1.symm hne
 unfold oneW
 unfold oneOp at h
 cases hg:o.guard with
 | none=>rw [hg] at h; exact haft h
 | some gd =>
  rw [hg] at h
  have h2:guarded P callf ops o fr H k gd=r:=h
  unfold guarded at h2
  have hs:guardSlot ops fr gd.1=guardSlot ops (.f g ds) gd.1:=by
   unfold guardSlot
   split
   ·rename_i p hp'
    have hm:=List.all_eq_true.1 hall p (List.mem_of_getElem? (toList_at.2 hp'))
    split
    ·rename_i d hd; exact he.lo d (roomy_dst hm d hd)
    ·rfl
   ·rfl
  show byGuard (guardSlot ops (.f g ds) gd.1) gd.2 _ _
  rw [← hs]
  have hw:∀ x,wantedG ops fr gd=some x→(x=true→(∃ b,guardSlot ops fr gd.1=some (.lit (.bool b))∧b=gd.2)) ∧
    (x=false→(∃ b,guardSlot ops fr gd.1=some (.lit (.bool b))∧b = !gd.2)∨∃ y,guardSlot ops fr gd.1=some (.lit (.tuple y))):=by
   intro x hx
   unfold wantedG yieldedA at hx
   unfold guardSlot
   generalize gd.2=want at hx ⊢
   cases hp:ops[gd.1]? with
   | none=>simp [hp] at hx
   | some p =>
    cases hd:p.dst with
    | none=>simp [hp,hd] at hx
    | some d =>
     simp only [hp,hd] at hx ⊢
     revert hx
     generalize fr.get d=z
     intro hx
     by_cases hb:∃ b,z=some (.lit (.bool b))
     ·obtain ⟨b,rfl⟩:=hb
      cases b <;> cases want <;> first
       | (obtain rfl:x=true:=(Option.some.inj hx).symm; clear hx; simp)
       | (obtain rfl:x=false:=(Option.some.inj hx).symm; clear hx; simp)
     ·split at hx
      ·rename_i b hz
       exfalso
       split at hz
       ·rename_i b'; exact hb ⟨_,rfl⟩
       ·cases hz
      ·split at hx
       ·rename_i vs
        cases hx
        exact ⟨fun e=>(by cases e),fun _=>.inr ⟨_,rfl⟩⟩
       ·cases hx
  split at h2
  ·rename_i hx
   obtain ⟨b,hb,rfl⟩:=(hw _ hx).1 rfl
   rw [hb]
   exact ⟨fun _=>haft h2,fun e=>by cases hgd:gd.2 <;> simp [hgd] at e⟩
  ·rename_i hx
   rcases (hw _ hx).2 rfl with ⟨b,hb,e⟩ | ⟨y,hy⟩
   ·rw [hb]
    subst e
    exact ⟨fun e=>by cases hgd:gd.2 <;> simp [hgd] at e,fun _=>hput _ _ h2⟩
   ·rw [hy]; exact hput _ _ h2
  ·exact absurd h2.symm hne
end Go.Ai
end
section
namespace Go.Ai
open Go.RowKit (Below)
variable {B G:Nat} {P:Program} {n n0:Nat} {ρ0 ρ:Rn} {w0 w:World} {a:Act} {ops:Array Oper} {callf:CallF} {loopf:LoopF} {fr:Fr} {g:Nat→Option AV} {ds:List Dfr} {H:Mem}
inductive FI where
 | run (o:Oper)
 | mk (i:Nat) (o:Oper)
 | gate (hs as:List Nat)
 | no
def itF (ops:Array Oper) (it:It) : FI:=match it with
 | .run i=>match ops[i]? with | some o=>.run o | none=>.no
 | .mk i=>match ops[i]? with | some o=>.mk i o | none=>.no
 | .gate hs as=>.gate hs as
def eqU (x y:AV) : Bool:=match x,y with
 | .lit (.tuple a),.lit (.tuple b)=>Nat.beq a.size 0 && Nat.beq b.size 0
 | x,y=>eqAV x y
theorem eqU_sound {x y:AV} (h:eqU x y=true) : x=y:=by
 unfold eqU at h
 split at h
 ·rename_i a b
  simp only [Bool.and_eq_true] at h
  have h1:=Nat.eq_of_beq_eq_true h.1
  have h2:=Nat.eq_of_beq_eq_true h.2
  rw [Array.eq_empty_of_size_eq_zero h1,Array.eq_empty_of_size_eq_zero h2]
 ·exact eqAV_sound _ _ h
noncomputable def againC (P:Program) (callf:CallF) (ops:Array Oper) (fr:Fr) (H:Mem) : List Nat→Bool
 | []=>true
 | i :: l=>match ops[i]? with
  | some o=>match oneOp P callf ops o fr H (fun fr' H'=>.norm fr' H') with
   | .norm fr' _=>match slotOf fr' o.dst,slotOf fr o.dst with
    | some x,some y=>match eqU x y with | true=>againC P callf ops fr H l | false=>false
    | _,_=>false
   | _=>false
  | none=>false
def elemN (i:Nat) : List Nat→Bool
 | []=>false
 | j :: l=>match Nat.beq i j with | true=>true | false=>elemN i l
theorem elemN_mem {i:Nat} : ∀ {l:List Nat},i∈l→elemN i l=true
 | j :: l,h=>by
  unfold elemN
  split
  ·rfl
  ·rename_i hb
   rcases List.mem_cons.1 h with rfl | h
   ·simp at hb
   ·exact elemN_mem h
noncomputable def keptC (H:Mem) (as:List Nat) : AlP→Bool
 | []=>true
 | (i,a,b) :: l=>match elemN i as with
  | true=>match H.get a,b with
   | some x,some y=>match eqBlk x y with | true=>keptC H as l | false=>false
   | _,_=>false
  | false=>keptC H as l
abbrev FlF:=Program→CallF→Array Oper→Fr→Mem→AlP→Out
noncomputable def flN:FlF:=fun _ _ _ fr H _=>.norm fr H
noncomputable def flRun (o:Oper) : FlF→FlF:=fun ih P callf ops fr H als=>oneOp P callf ops o fr H fun fr H=>ih P callf ops fr H als
noncomputable def flMk (i:Nat) (o:Oper) : FlF→FlF:=fun ih P callf ops fr H als=>oneOp P callf ops o fr H fun fr H'=>ih P callf ops fr H' ((i,H.next,H'.get H.next) :: als)
noncomputable def flGate (hs as:List Nat) : FlF→FlF:=fun ih P callf ops fr H als=>match againC P callf ops fr H hs,keptC H as als with
 | true,true=>ih P callf ops fr H als
 | _,_=>.bad
noncomputable def flNo:FlF→FlF:=fun _ _ _ _ _ _ _=>.bad
noncomputable def flC (it:It) (_:List It) (ih:FlF) : FlF:=fun P callf ops fr H als=>FI.rec (motive:=fun _=>FlF→FlF) flRun flMk flGate flNo (itF ops it) ih P callf ops fr H als
noncomputable def flatRun (P:Program) (callf:CallF) (ops:Array Oper) (l:List It) (fr:Fr) (H:Mem) (als:AlP) : Out:=List.rec (motive:=fun _=>FlF) flN flC l P callf ops fr H als
def OE (r out:Out) : Prop:=match r,out with
 | .norm fr H,.norm fr' H'=>H'=H∧∃ g ds,fr'=.f g ds∧FE fr g ds
 | .panic v fr H,.panic v' fr' H'=>v'=v∧H'=H∧fr'=fr.clear
 | _,_=>False
theorem clear_eq (fr:Fr) : fr.clear=.s e2 fr.defers:=by cases fr <;> rfl
theorem again_W (he:FE fr g ds) (hall:ops.toList.all (roomy (roomOf fr))=true) : ∀ {l:List Nat},againC P callf ops fr H l=true→againW P (wOf callf) ops (.f g ds) H l
 | [],_=>trivial
 | i :: l,h=>by
  unfold againC at h
  unfold againW
  split at h
  ·rename_i o ho
   have hm:=List.all_eq_true.1 hall o (List.mem_of_getElem? (toList_at.2 ho))
   split at h
   ·rename_i fr2 H2 hr
    split at h
    ·rename_i x y hx hy
     split at h
     ·rename_i hxy
      have hxy':=eqU_sound hxy
      subst hxy'
      refine ⟨?_,again_W he hall h⟩
      try rw [ho]
      try dsimp only
      refine one_W he hm hall hr (by simp) (fun fr1 g1 ds1 H1 he1 _ h1=>?_) (fun v fr1 H1 _ h1=>by cases h1)
      cases h1
      have key:∀ {fr:Fr} {g:Nat→Option AV} {ds:List Dfr},FE fr g ds→∀ {x},slotOf fr o.dst=some x→slotOf (.f g ds) o.dst=some x:=by
       intro fr g ds he x hx
       unfold slotOf at hx ⊢
       split at hx
       ·exact he.up _ _ hx
       ·cases hx
      rw [key he1 hx,key he hy]
     ·cases h
    ·cases h
   ·cases h
  ·cases h
theorem kept_W {as:List Nat} : ∀ {als:AlP},keptC H as als=true→keptW H as als
 | [],_=>trivial
 | (i,a,b) :: l,h=>by
  unfold keptC at h
  unfold keptW
  split at h
  ·split at h
   ·rename_i x y hx
    split at h
    ·rename_i he
     exact ⟨fun _=>hx.trans (congrArg some (eqBlk_sound he)),kept_W h⟩
    ·cases h
   ·cases h
  ·rename_i he
   exact ⟨fun hi=>(by rw [elemN_mem hi] at he; cases he),kept_W h⟩
theorem flat_W:∀ (l:List It) {fr:Fr} {g:Nat→Option AV} {ds:List Dfr} {H:Mem} {als:AlP} {r:Out},FE fr g ds→ops.toList.all (roomy (roomOf fr))=true→flatRun P callf ops l fr H als=r→r≠.bad →
  planW P (wOf callf) ops (clearQ (OE r)) l (.f g ds) H als
 | [],fr,g,ds,H,als,r,he,hall,h,hne=>by
  have h' : Out.norm fr H=r:=h
  subst h'
  exact ⟨rfl,g,ds,rfl,he⟩
 | it :: l,fr,g,ds,H,als,r,he,hall,h,hne=>by
  have h' : FI.rec (motive:=fun _=>FlF→FlF) flRun flMk flGate flNo (itF ops it) (fun P callf ops fr H als=>flatRun P callf ops l fr H als) P callf ops fr H als=r:=h
  have hp:∀ v fr1 H1,FE fr1 g ds→r=.panic v fr1 H1→clearQ (OE r) (.panic v (.f g ds) H1):=by
   rintro v fr1 H1 he1 rfl
   refine ⟨rfl,rfl,?_⟩
   rw [clear_eq,clear_eq,he1.dfr]; rfl
  cases it with
  | run i =>
   unfold planW
   cases ho:ops[i]? with
   | none =>
    rw [show itF ops (.run i)=.no by simp only [itF,ho]] at h'
    exact absurd h'.symm hne
   | some o =>
    rw [show itF ops (.run i)=.run o by simp only [itF,ho]] at h'
    dsimp only
    have hm:=List.all_eq_true.1 hall o (List.mem_of_getElem? (toList_at.2 ho))
    exact one_W he hm hall h' hne (fun fr1 g1 ds1 H1 he1 hr1 h1=>flat_W l he1 (by rw [hr1]; exact hall) h1 hne) hp
  | mk i =>
   unfold planW
   cases ho:ops[i]? with
   | none =>
    rw [show itF ops (.mk i)=.no by simp only [itF,ho]] at h'
    exact absurd h'.symm hne
   | some o =>
    rw [show itF ops (.mk i)=.mk i o by simp only [itF,ho]] at h'
    dsimp only
    have hm:=List.all_eq_true.1 hall o (List.mem_of_getElem? (toList_at.2 ho))
    exact one_W he hm hall h' hne (fun fr1 g1 ds1 H1 he1 hr1 h1=>flat_W l he1 (by rw [hr1]; exact hall) h1 hne) hp
  | gate hs as =>
   have h2:(match againC P callf ops fr H hs,keptC H as als with | true,true=>flatRun P callf ops l fr H als | _,_=>.bad)=r:=h'
   unfold planW
   split at h2
   ·rename_i h3 h4
    exact ⟨again_W he hall h3,kept_W h4,flat_W l he hall h2 hne⟩
   ·exact absurd h2.symm hne
noncomputable def clearO (r:Out) : Out:=match r with
 | .panic v fr H=>.panic v fr.clear H
 | .norm fr H=>.norm fr H
 | _=>.bad
noncomputable def drawnF (P:Program) (callf:CallF) (ops:Array Oper) (fr:Fr) (H:Mem) : Out:=match flatOk P ops.toList,ops.toList.all (roomy (roomOf fr)) with
 | true,true=>clearO (flatRun P callf ops (planOf ops.toList) fr H [])
 | _,_=>.bad
theorem upon_mono {o:Oper} {a:Act} {next next' : Act→World→Prop} {Q Q' : Exit→Act→World→Prop} (hn:∀ a w,next a w→next' a w) (hq:∀ e a w,Q e a w→Q' e a w) {r:Result Next} (h:o.upon P a next Q r) : o.upon P a next' Q' r:=by
 have hl:LetsOut Q→LetsOut Q':=fun ⟨a,w,h⟩=>⟨a,w,hq _ _ _ h⟩
 unfold Oper.upon at h ⊢
 split at h
 ·exact hn _ _ h
 ·exact hn _ _ h
 ·exact hn _ _ h
 ·refine h.mono fun e w' he=>?_
  cases e with
  | returned v=>exact hn _ _ he
  | panicked c=>exact hq _ _ _ he
  | outgrown=>exact hl he
 ·exact h.mono fun v w' he=>hn _ _ he
 ·exact hq _ _ _ h
 ·exact h.elim
theorem wpOps_monoQ {Q Q' : Exit→Act→World→Prop} (hq:∀ e a w,Q e a w→Q' e a w) : ∀ (l:List Nat) (a:Act) (w:World),wpOps P ops Q l a w→wpOps P ops Q' l a w
 | [],a,w,h=>hq _ _ _ h
 | i :: l,a,w,h=>by
  unfold wpOps at h ⊢
  cases ho:ops[i]? with
  | none=>rw [ho] at h; exact wpOps_monoQ hq l a w h
  | some o =>
   rw [ho] at h
   dsimp only at h ⊢
   split at h
   ·rename_i hw
    rw [if_pos hw]
    rcases h with h | ⟨h,a',w',h2⟩
    ·exact .inl (upon_mono (wpOps_monoQ hq l) hq h)
    ·exact .inr ⟨h,a',w',hq _ _ _ h2⟩
   ·rename_i hw
    rw [if_neg hw]
    exact wpOps_monoQ hq l _ _ h
theorem drawnF_ops (hc:∀ B,CallOK B G P callf) (hG:G=P.globals.size) {id:Nat} (s:St B G n n0 ρ0 w0 ρ fr H a w) (hd:dstsOk n (.region id ops true)=true) (hne:drawnF P callf ops fr H≠.bad) (t:Nat) :
  wpOps P ops (OutPost B G n n0 ρ0 w0 (drawnF P callf ops fr H)) (Region.schedule (P.follows .mixedOrders) ops t) a { w with drawn:=w.drawn+1 }:=by
 unfold drawnF at hne ⊢
 split at hne
 ·rename_i hok hall
  generalize hr:flatRun P callf ops (planOf ops.toList) fr H []=r at hne ⊢
  have hr0:r≠.bad:=fun e=>hne (by rw [e]; rfl)
  have key:=drawnW_ops (wOf_ok hc) (id:=id) hG s.toF hd (planW_drawn wOf_mono hok (flat_W _ (FE.refl fr) hall hr hr0)) t
  refine wpOps_monoQ ?_ _ _ _ key
  rintro e a' w' ⟨out,hq,ho⟩
  cases r with
  | norm fr1 H1 =>
   cases out with
   | norm fr2 H2 =>
    obtain ⟨rfl,g,ds,rfl,he⟩:=hq
    cases e with
    | normal=>obtain ⟨ρ',s'⟩:=ho; exact ⟨ρ',St.ofF he s'⟩
    | _=>exact ho.elim
   | _=>exact hq.elim
  | panic v fr1 H1 =>
   cases out with
   | panic v2 fr2 H2 =>
    obtain ⟨rfl,rfl,rfl⟩:=hq
    exact ho
   | _=>exact hq.elim
  | exit=>cases out <;> exact hq.elim
  | ret=>cases out <;> exact hq.elim
  | bad=>exact absurd rfl hr0
 ·exact absurd rfl hne
theorem drawnF_sound (hc:∀ B,CallOK B G P callf) (hG:G=P.globals.size) {id:Nat} (s:St B G n n0 ρ0 w0 ρ fr H a w) (hd:dstsOk n (.region id ops true)=true) (hne:drawnF P callf ops fr H≠.bad) :
  (Code.region id ops true).wp P (OutPost B G n n0 ρ0 w0 (drawnF P callf ops fr H)) a w:=wp_region_draw (drawnF_ops (id:=id) hc hG s hd hne)
/- Codes. -/
noncomputable def xRegionF (_:Nat) (ops:Array Oper) (draw:Bool) : XF:=fun P callf _ fr H=>match draw with
 | false=>seqOps P callf ops ops.toList fr H
 | true=>drawnF P callf ops fr H
noncomputable def execCF:Code→XF:=Code.rec (motive:=fun _=>XF) xSkip xRegionF xSeq xCond xBlock xLoop xRangeFunc xExit xScope xLabel xGoto xRet xRefuse
noncomputable def execF (P:Program) (callf:CallF) (loopf:LoopF) (c:Code) (fr:Fr) (H:Mem) : Out:=execCF c P callf loopf fr H
def GoodF (B G:Nat) (P:Program) (callf:CallF) (loopf:LoopF) (c:Code) : Prop :=
 ∀ (n n0:Nat) (ρ0:Rn) (w0:World) (ρ:Rn) (fr:Fr) (H:Mem) (a:Act) (w:World),dstsOk n c=true→St B G n n0 ρ0 w0 ρ fr H a w→execF P callf loopf c fr H≠.bad →
  c.wp P (OutPost B G n n0 ρ0 w0 (execF P callf loopf c fr H)) a w
theorem good_loopF {callf:CallF} {loopf:LoopF} {b:Code} (hl:LoopOK B G P loopf) (hb:GoodF B G P callf loopf b) (n n0:Nat) (ρ0:Rn) (w0:World) (ρ:Rn) (fr:Fr) (H:Mem) (a:Act) (w:World)
  (hd:dstsOk n b=true) (s:St B G n n0 ρ0 w0 ρ fr H a w) (hne:execF P callf loopf (.loop b) fr H≠.bad) : LW P b (OutPost B G n n0 ρ0 w0 (execF P callf loopf (.loop b) fr H)) a w:=by
 have he:execF P callf loopf (.loop b) fr H=thenO (execF P callf loopf b fr H) (loopf (.loop b)):=rfl
 rw [he] at hne ⊢
 have hr:execF P callf loopf b fr H≠.bad:=fun h=>hne (by rw [h]; rfl)
 refine LW.unroll (Code.wp_mono (thenO_post hne fun fr' H' ρ' a' w' hr' s' hk=>?_) (hb n n0 ρ0 w0 ρ fr H a w hd s hr))
 rw [hr']
 exact hl b n n0 ρ0 w0 ρ' fr' H' a' w' hd s' hk
theorem execF_sound {callf:CallF} {loopf:LoopF} (hcs:∀ B,CallOK B G P callf) (hl:LoopOK B G P loopf) (hG:G=P.globals.size) : ∀ c:Code,GoodF B G P callf loopf c:=by
 intro c
 have hc:=hcs B
 induction c with
 | skip=>intro n n0 ρ0 w0 ρ fr H a w hd s hne; exact wp_skip ⟨ρ,s⟩
 | region id ops draw =>
  intro n n0 ρ0 w0 ρ fr H a w hd s hne
  cases draw with
  | false =>
   refine wp_region_list (seqOps_sound hc hG hne ops.toList fr H ρ a w ?_ s rfl)
   exact fun o ho=>List.all_eq_true.1 hd o ho
  | true=>exact drawnF_sound hcs hG s hd hne
 | seq x y ihx ihy =>
  intro n n0 ρ0 w0 ρ fr H a w hd s hne
  have he:execF P callf loopf (.seq x y) fr H=thenO (execF P callf loopf x fr H) (execF P callf loopf y):=rfl
  rw [he] at hne ⊢
  simp only [dstsOk,Bool.and_eq_true] at hd
  have hr:execF P callf loopf x fr H≠.bad:=fun h=>hne (by rw [h]; rfl)
  refine wp_seq (Code.wp_mono (thenO_post hne fun fr' H' ρ' a' w' hr' s' hk=>?_) (ihx n n0 ρ0 w0 ρ fr H a w hd.1 s hr))
  rw [hr']
  exact ihy n n0 ρ0 w0 ρ' fr' H' a' w' hd.2 s' hk
 | cond cnd x y ihx ihy =>
  intro n n0 ρ0 w0 ρ fr H a w hd s hne
  have he:execF P callf loopf (.cond cnd x y) fr H=condO (fr.ev cnd) (execF P callf loopf x) (execF P callf loopf y) fr H:=rfl
  rw [he] at hne ⊢
  simp only [dstsOk,Bool.and_eq_true] at hd
  unfold condO at hne ⊢
  split at hne
  ·rename_i hev
   have:=s.ev _ _ hev
   exact wp_cond_true this (ihx n n0 ρ0 w0 ρ fr H a w hd.1 s hne)
  ·rename_i hev
   have:=s.ev _ _ hev
   exact wp_cond_false this (ihy n n0 ρ0 w0 ρ fr H a w hd.2 s hne)
  ·exact absurd rfl hne
 | block id b ih =>
  intro n n0 ρ0 w0 ρ fr H a w hd s hne
  have he:execF P callf loopf (.block id b) fr H=blockO id (execF P callf loopf b fr H):=rfl
  rw [he] at hne ⊢
  have hr:execF P callf loopf b fr H≠.bad:=fun h=>hne (by rw [h]; rfl)
  refine wp_block (Code.wp_mono ?_ (ih n n0 ρ0 w0 ρ fr H a w hd s hr))
  intro e a' w' h
  generalize execF P callf loopf b fr H=r at h hne ⊢
  cases r with
  | norm fr' H'=>cases e <;> first | exact h.elim | exact h
  | exit id' fr' H' =>
   cases e with
   | exit id2 =>
    obtain ⟨rfl,ρ',s'⟩:=h
    unfold blockO
    dsimp only
    split
    ·rename_i hb
     have:=Nat.eq_of_beq_eq_true hb
     subst this
     simp only [Exit.inBlock,if_true]
     exact ⟨ρ',s'⟩
    ·rename_i hb
     have hne2:id2≠id:=by intro h0; subst h0; simp at hb
     simp only [Exit.inBlock,hne2,if_false]
     exact ⟨rfl,ρ',s'⟩
   | _=>exact h.elim
  | ret fr' H'=>cases e <;> first | exact h.elim | exact h
  | panic v fr' H'=>cases e <;> first | exact h.elim | exact h
  | bad=>exact absurd rfl hne
 | loop b ih =>
  intro n n0 ρ0 w0 ρ fr H a w hd s hne
  exact (good_loopF hl ih n n0 ρ0 w0 ρ fr H a w hd s hne).wp
 | rangeFunc f ps x y ihx ihy=>intro n n0 ρ0 w0 ρ fr H a w hd s hne; exact absurd rfl hne
 | exit id=>intro n n0 ρ0 w0 ρ fr H a w hd s hne; exact wp_exit ⟨rfl,ρ,s⟩
 | scope b ih=>intro n n0 ρ0 w0 ρ fr H a w hd s hne; exact absurd rfl hne
 | label l=>intro n n0 ρ0 w0 ρ fr H a w hd s hne; exact wp_label ⟨ρ,s⟩
 | goto l=>intro n n0 ρ0 w0 ρ fr H a w hd s hne; exact absurd rfl hne
 | ret=>intro n n0 ρ0 w0 ρ fr H a w hd s hne; exact wp_ret ⟨ρ,s⟩
 | refuse why=>intro n n0 ρ0 w0 ρ fr H a w hd s hne; exact absurd rfl hne
noncomputable def enterQB (P:Program) (callf:CallF) (loopf:LoopF) (fn:Func) (c:Code) (args:List AV) (H:Mem) : COut :=
 match dstsOk fn.ntmps c,Nat.ble (len args) fn.ntmps with
 | true,true=>finish P callf loopf fn (putArgsK args (frame0 fn.ntmps) fun fr=>execF P callf loopf c fr H)
 | _,_=>.bad
noncomputable def enterQ (P:Program) (callf:CallF) (loopf:LoopF) (f:FuncId) (args:List AV) (H:Mem) : COut :=
 match P.funcs[f]? with
 | some fn=>match fn.body with
  | some c=>enterQB P callf loopf fn c args H
  | none=>.bad
 | none=>.bad
theorem enterQ_sound {callf:CallF} {loopf:LoopF} (hcs:∀ B,CallOK B G P callf) (hl:LoopOK B G P loopf) (hG:G=P.globals.size) : CallOK B G P (enterQ P callf loopf):=by
 have hc:=hcs B
 intro f args H hne ρ us w hs hv
 unfold enterQ at hne ⊢
 split at hne
 ·rename_i fn hfn
  split at hne
  ·rename_i c hb
   unfold enterQB at hne ⊢
   split at hne
   ·rename_i hdst hlen
    rw [putArgsK_eq] at hne ⊢
    have hfe:=frame_entered (n:=fn.ntmps) hv (by rw [← len_eq]; exact Nat.le_of_ble_eq_true hlen)
    have s1:St B G fn.ntmps H.next ρ w ρ (putArgs args (frame0 fn.ntmps) 0) H { tmps:=us++Array.replicate (fn.ntmps - us.size) undef,defers:=[] } w:=⟨Ext.refl _ _ _ _,hs,hfe,Nat.le_refl _⟩
    have hr:execF P callf loopf c (putArgs args (frame0 fn.ntmps) 0) H≠.bad:=fun h0=>hne (by rw [h0]; rfl)
    have key:=execF_sound hcs hl hG c fn.ntmps H.next ρ w ρ _ H _ w hdst s1 hr
    refine calls_of_wp_defers hfn hb (Code.wp_mono ?_ key)
    intro e a' w' h
    generalize execF P callf loopf c (putArgs args (frame0 fn.ntmps) 0) H=r at h hne ⊢
    cases r with
    | norm fr' H' =>
     cases e with
     | normal=>obtain ⟨ρ',s'⟩:=h; exact leave_sound hc hl hG hne _ _ .returning H' ρ' .returning w' s'.frel.dfr s' rfl rfl
     | _=>exact h.elim
    | ret fr' H' =>
     cases e with
     | ret=>obtain ⟨ρ',s'⟩:=h; exact leave_sound hc hl hG hne _ _ .returning H' ρ' .returning w' s'.frel.dfr s' rfl rfl
     | _=>exact h.elim
    | panic v fr' H' =>
     cases e with
     | panic chain=>obtain ⟨ρ',x,rfl,hx,s'⟩:=h; exact leave_sound hc hl hG hne _ _ (.panicking v) H' ρ' _ w' s'.frel.dfr s' ⟨x,rfl,hx⟩ rfl
     | _=>exact h.elim
    | exit id fr' H'=>exact absurd rfl hne
    | bad=>exact absurd rfl hne
   ·exact absurd rfl hne
  ·exact absurd rfl hne
 ·exact absurd rfl hne
end Go.Ai
end
section
namespace Go.Ai
open Go.ChangeShapes Go.WideShapes Go.ChangeAt Go.RowKit
variable {H:Type} {enc:TypeId×Value→H} {P:Program}
theorem post_below {f:Func} {s:ChangeSpec} {apart fresh handsOn again:Bool} {W W' : World} {args:Array Value} {v:Value} {ds gs:List (DataW H)} {before pa pv:List MemPlace}
  (hW:DataW.Whole enc P f.params.toList s.vars apart W args.toList ds gs before)
  (hres:∀ (b:Nat) (sp:Nat→Bool) (hd:Bool),DataW.TrodAll enc P W' b sp hd f.resultTypes.toList (v.resultList f.resultTypes.size) (s.fn H (ds++gs)).results [])
  (hargs:∀ sp:Nat→Bool,(∀ p∈before,sp p.block=true)→DataW.TrodAll enc P W' 0 sp true f.params.toList args.toList (s.fn H (ds++gs)).args pa)
  (hvars:∀ sp:Nat→Bool,(∀ p∈before,sp p.block=true)→DataW.TrodVars enc P W' sp s.vars (s.fn H (ds++gs)).vars pv)
  (hps:before=pa++pv) (hB:Below W.heap.size W W')
  (hok:∀ (j:Nat) (t:TypeId) (r:Value),f.resultTypes[j]?=some t→(v.resultList f.resultTypes.size)[j]?=some r→Value.okWide P W' .any 0 t r) :
  s.post enc P f apart fresh handsOn again W args v W':=by
 have hlt:∀ p∈before,p.block < W.heap.size:=fun p hp=>hW.lt p hp
 have hold:∀ p∈before,(fun b=>decide (b < W.heap.size)) p.block=true:=fun p hp=>by simpa using hlt p hp
 refine ⟨ds,gs,before,[],pa,pv,hW,hres _ _ _,hargs _ hold,hvars _ hold,World.keptBut_mono (fun p hp=>⟨hp,?_⟩) (hB.frame (·∈before)),fun _=>?_⟩
 ·rw [hps,List.mem_append] at hp
  exact Or.inr hp
 ·obtain ⟨_,_,_,_,_,hz,hn⟩:=hW
  refine ⟨hok,_,_,([]++pa)++pv,⟨[]++pa,pv,trodAll_append (hargs _ (fun _ _=>rfl)) (hres _ _ _),hvars _ (fun _ _=>rfl),rfl,?_,?_⟩,?_⟩
  ·intro b off hp
   have hp' : MemPlace.cell b off∈before:=by rw [hps]; simpa using hp
   rw [hB.frozen (p:=⟨b,off,none⟩) (hlt _ hp')]
   exact hz b off hp'
  ·intro ha
   have:=hn ha
   rw [hps] at this
   simpa using this
  ·intro p hp _
   rw [hps]
   simpa using hp
end Go.Ai
end
section
namespace Go.Ai
variable {P:Program} {H:Mem}
section
variable {ev:Ev} {d:Option Tmp} {ty:TypeId} {p:String} {af:Array Edge} {g:Option (Nat×Bool)}
theorem pureV_info {t:TypeId} {i:TypeInfo} (h:P.info? t=some i) : pureV P (typeInfo t)=some i:=by
 unfold typeInfo
 show pureV P (match P.info? t with | some d=>pure d | none=>stuck "no such type")=_
 rw [h]; rfl
theorem equal_bool {t:TypeId} {a b:Bool} (ht:P.underlying t=some .bool) : pureV P (Op.equal t (.bool a) (.bool b))=some (a == b):=by
 unfold Op.equal
 show pureV P (Op.equalIn (9999+1) t (.bool a) (.bool b))=_
 unfold Op.equalIn
 exact (pureV_then (m:=underlying t) (pureV_underlying ht)).trans rfl
theorem bin_bneq {t rt:TypeId} {x y:Operand} {a b:Bool} (hx:ev x=some (.lit (.bool a))) (hy:ev y=some (.lit (.bool b))) (ht:P.underlying t=some .bool) :
  binS P H ev ⟨d,.binOp .neq t x y rt,ty,p,af,g⟩ .neq t (some (.lit (.bool a))) (some (.lit (.bool b)))=.val (.lit (.bool (!(a == b)))) H:=by
 unfold binS
 dsimp only
 rw [oBin_generic (v:=.lit (.bool (!(a == b)))) rfl]
 refine generic2 (r:=.bool (!(a == b))) rfl hx hy fun ρ h1 h2=>execOp_bin h1 h2 rfl ?_
 show pureV P (do pure (Value.bool (!(← Op.equal t (.bool a) (.bool b)))))=_
 exact (pureV_then (equal_bool ht)).trans rfl
attribute [simp] bin_bneq
end
end Go.Ai
end
section
namespace Go.Ai
section
variable {G:Nat} {P:Program} {W:WF} {Q:Out→Prop} {fr:Fr} {H:Mem} {ev:Ev} {d:Option Tmp} {ty:TypeId} {p:String} {af:Array Edge} {g:Option (Nat×Bool)}
noncomputable def maxS (P:Program) (H:Mem) (ev:Ev) (o:Oper) (x y:Option AV) : R:=match x,y with
 | some (.lit (.int k a)),some (.lit (.int _ b))=>.val (.lit (.int k (if b > a then b else a))) H
 | _,_=>opV P H ev o
theorem op_max {x y:Operand} {s t:TypeId} : opV P H ev ⟨d,.call ⟨.builtin .max,#[x,y],#[s,t]⟩,ty,p,af,g⟩=maxS P H ev ⟨d,.call ⟨.builtin .max,#[x,y],#[s,t]⟩,ty,p,af,g⟩ (ev x) (ev y):=by
 unfold maxS
 split
 ·rename_i k a k' b hx hy
  have hg:generic P ev ⟨d,.call ⟨.builtin .max,#[x,y],#[s,t]⟩,ty,p,af,g⟩=some (.lit (.int k (if b > a then b else a))):=by
   refine generic2 (u:=.int k a) (u':=.int k' b) (by simp [Op.operands,Call.operands]) hx hy fun ρ h1 h2=>?_
   rw [exec_builtin (b:=.max) (c:=⟨.builtin .max,#[x,y],#[s,t]⟩) rfl rfl]
   have ea:(#[x,y] : Array Operand).map ρ=#[ρ x,ρ y]:=by simp
   have hm:pureV P (Builtin.max_ #[s,t] ty #[ρ x,ρ y])=some (.int k (if b > a then b else a)):=by
    rw [h1,h2]
    rfl
   show pureV P (builtin .max #[s,t] ty _ ((#[x,y] : Array Operand).map ρ))=_
   rw [ea]
   show pureV P (do pure (Next.value (← Builtin.max_ #[s,t] ty #[ρ x,ρ y])))=_
   exact (pureV_then hm).trans rfl
  show callOp P H ev _ ⟨.builtin .max,#[x,y],#[s,t]⟩=_
  unfold callOp
  rw [show (#[x,y] : Array Operand).toList=[x,y] from rfl]
  simp only [evals,hx,hy]
  unfold oBuiltin
  dsimp only
  rw [hg]
  rfl
 ·rfl
theorem maxS_congr {tk:Nat} (_h0:tick=tk) {o:Oper} {x x' y y' : Option AV} {H H' : Mem} (h1:H=H') (h2:x=x') (h3:y=y') : maxS P H ev o x y=maxS P H' ev o x' y':=by rw [h1,h2,h3]
attribute [congr] maxS_congr
theorem maxS_int {o:Oper} {k k' : IntKind} {a b:Int} : maxS P H ev o (some (.lit (.int k a))) (some (.lit (.int k' b)))=.val (.lit (.int k (if b > a then b else a))) H:=(rfl)
attribute [simp] op_max maxS_int
end
end Go.Ai
end
section
namespace Go.Ai
section
variable {P:Program} {H:Mem} {ev:Ev} {d:Option Tmp} {ty:TypeId} {p:String} {af:Array Edge} {g:Option (Nat×Bool)} {x y:Operand} {s t:TypeId} {size bytes:Nat}
theorem firstL_row {a n c:Nat} {l:List AV} {own:Bool} {z:Nat} (h:H.get a=some (.cells l own z)) (hl:l.length=n * size) : firstL H size n (.sl a 0 n c)=some l:=by
 rw [firstL_sl h (by omega),List.drop_zero,List.take_of_length_le (by omega)]
variable {hp:apI P s t=some (size,bytes)} {hs:0 < size} {hb:bytes≤1048576}
theorem ap_nil {b c:Nat} {l:List AV} {own:Bool} {z:Nat} {hx:ev x=some (.lit (.slice none 0 0))} {hy:ev y=some (.sl b 0 1 c)} (hp:apI P s t=some (size,bytes)) (hs:(decide (0 < size) && decide (bytes≤1048576))=true)
  (hg:H.get b=some (.cells l own z)) (hl:l.length=size) :
  ex2 P H ev ⟨d,.call ⟨.builtin .append,#[x,y],#[s,t]⟩,ty,p,af,g⟩ x y (some (.lit (.slice none 0 0))) (some (.sl b 0 1 c)) hx hy=.val (.slq H.next 0 1 0) (H.add (.cells l true size)):=by
 simp only [Bool.and_eq_true,decide_eq_true_eq] at hs
 show opV P H ev _=_
 rw [append_of hx hy hp,appendN_nil (n:=0) rfl hs.1 (firstL_row hg (by omega)) (by omega) (by omega) hs.2]
theorem ap_sl0 {a b c off:Nat} {l l0:List AV} {own own0:Bool} {z z0:Nat} {hx:ev x=some (.sl a off 0 0)} {hy:ev y=some (.sl b 0 1 c)} (hp:apI P s t=some (size,bytes)) (hs:(decide (0 < size) && decide (bytes≤1048576))=true)
  (hg:H.get b=some (.cells l own z)) (hg0:H.get a=some (.cells l0 own0 z0)) (hl:l.length=size) (ho:off≤l0.length) :
  ex2 P H ev ⟨d,.call ⟨.builtin .append,#[x,y],#[s,t]⟩,ty,p,af,g⟩ x y (some (.sl a off 0 0)) (some (.sl b 0 1 c)) hx hy=.val (.slq H.next 0 1 0) (H.add (.cells l true size)):=by
 simp only [Bool.and_eq_true,decide_eq_true_eq] at hs
 show opV P H ev _=_
 rw [append_of hx hy hp,appendN_full (n:=0) rfl hs.1 (firstL_row hg (by omega)) (by omega) hg0 (by omega) (by omega) (by omega) hs.2]
 simp
theorem ap_slq {a b c k:Nat} {l r:List AV} {own:Bool} {z:Nat} {hx:ev x=some (.slq a 0 k 0)} {hy:ev y=some (.sl b 0 1 c)} (hp:apI P s t=some (size,bytes)) (hs:(decide (0 < size) && decide (bytes≤1048576))=true)
  (hg:H.get b=some (.cells l own z)) (hg0:H.get a=some (.cells r true size)) (hl:l.length=size) (hr:r.length=k * size) (hk:k≤1000000) (h1:allOne l=true) :
  ex2 P H ev ⟨d,.call ⟨.builtin .append,#[x,y],#[s,t]⟩,ty,p,af,g⟩ x y (some (.slq a 0 k 0)) (some (.sl b 0 1 c)) hx hy=.val (.slq H.next 0 (k+1) 0) ((H.rm a).add (.cells (r++l) true size)):=by
 simp only [Bool.and_eq_true,decide_eq_true_eq] at hs
 show opV P H ev _=_
 rw [append_of hx hy hp,appendN_grow (n:=0) rfl hs.1 (firstL_row hg (by omega)) (by omega) hg0 hr (by omega) hs.2 h1]
 rfl
/- The same,by what the blocks hold. -/
noncomputable def apN (q:Option (Nat×Nat)) (gb:Option Blk) (H:Mem) (els:R) : R:=match q,gb with
 | some (size,bytes),some (.cells l _ _)=>if 0 < size∧bytes≤1048576∧l.length=size then .val (.slq H.next 0 1 0) (H.add (.cells l true size)) else els
 | _,_=>els
noncomputable def apZ (q:Option (Nat×Nat)) (off:Nat) (ga gb:Option Blk) (H:Mem) (els:R) : R:=match q,ga,gb with
 | some (size,bytes),some (.cells l0 _ _),some (.cells l _ _)=>if 0 < size∧bytes≤1048576∧l.length=size∧off≤l0.length then .val (.slq H.next 0 1 0) (H.add (.cells l true size)) else els
 | _,_,_=>els
noncomputable def apQ (q:Option (Nat×Nat)) (k a:Nat) (ga gb:Option Blk) (H:Mem) (els:R) : R:=match q,ga,gb with
 | some (size,bytes),some (.cells r true z),some (.cells l _ _)=>if z=size∧0 < size∧bytes≤1048576∧l.length=size∧r.length=k * size∧k≤1000000∧allOne l=true then .val (.slq H.next 0 (k+1) 0) ((H.rm a).add (.cells (r++l) true size)) else els
 | _,_,_=>els
theorem ap_nil' {b c:Nat} {hx:ev x=some (.lit (.slice none 0 0))} {hy:ev y=some (.sl b 0 1 c)} :
  ex2 P H ev ⟨d,.call ⟨.builtin .append,#[x,y],#[s,t]⟩,ty,p,af,g⟩ x y (some (.lit (.slice none 0 0))) (some (.sl b 0 1 c)) hx hy=apN (apI P s t) (H.get b) H (opV P H ev ⟨d,.call ⟨.builtin .append,#[x,y],#[s,t]⟩,ty,p,af,g⟩):=by
 unfold apN
 split
 ·rename_i size bytes l own z h1 h2
  split
  ·rename_i h; exact ap_nil h1 (by simp [h.1,h.2.1]) h2 h.2.2
  ·rfl
 ·rfl
theorem ap_sl0' {a b c off:Nat} {hx:ev x=some (.sl a off 0 0)} {hy:ev y=some (.sl b 0 1 c)} :
  ex2 P H ev ⟨d,.call ⟨.builtin .append,#[x,y],#[s,t]⟩,ty,p,af,g⟩ x y (some (.sl a off 0 0)) (some (.sl b 0 1 c)) hx hy=apZ (apI P s t) off (H.get a) (H.get b) H (opV P H ev ⟨d,.call ⟨.builtin .append,#[x,y],#[s,t]⟩,ty,p,af,g⟩):=by
 unfold apZ
 split
 ·rename_i size bytes l0 o0 z0 l own z h1 h2 h3
  split
  ·rename_i h; exact ap_sl0 h1 (by simp [h.1,h.2.1]) h3 h2 h.2.2.1 h.2.2.2
  ·rfl
 ·rfl
theorem ap_slq' {a b c k:Nat} {hx:ev x=some (.slq a 0 k 0)} {hy:ev y=some (.sl b 0 1 c)} :
  ex2 P H ev ⟨d,.call ⟨.builtin .append,#[x,y],#[s,t]⟩,ty,p,af,g⟩ x y (some (.slq a 0 k 0)) (some (.sl b 0 1 c)) hx hy=apQ (apI P s t) k a (H.get a) (H.get b) H (opV P H ev ⟨d,.call ⟨.builtin .append,#[x,y],#[s,t]⟩,ty,p,af,g⟩):=by
 unfold apQ
 split
 ·rename_i size bytes r z l own w h1 h2 h3
  split
  ·rename_i h
   obtain ⟨rfl,e2,e3,e4,e5,e6,e7⟩:=h
   exact ap_slq h1 (by simp [e2,e3]) h3 h2 e4 e5 e6 e7
  ·rfl
 ·rfl
theorem apN_congr {tk:Nat} (_h0:tick=tk) {q q' : Option (Nat×Nat)} {gb gb' : Option Blk} {H:Mem} {els:R} (h1:q=q') (h2:gb=gb') : apN q gb H els=apN q' gb' H els:=by rw [h1,h2]
theorem apZ_congr {tk:Nat} (_h0:tick=tk) {q q' : Option (Nat×Nat)} {off:Nat} {ga ga' gb gb' : Option Blk} {H:Mem} {els:R} (h1:q=q') (h2:ga=ga') (h3:gb=gb') : apZ q off ga gb H els=apZ q' off ga' gb' H els:=by rw [h1,h2,h3]
theorem apQ_congr {tk:Nat} (_h0:tick=tk) {q q' : Option (Nat×Nat)} {k a:Nat} {ga ga' gb gb' : Option Blk} {H:Mem} {els:R} (h1:q=q') (h2:ga=ga') (h3:gb=gb') : apQ q k a ga gb H els=apQ q' k a ga' gb' H els:=by rw [h1,h2,h3]
attribute [congr] apN_congr apZ_congr apQ_congr
variable {els:R} {z w:Nat} {l r l0:List AV} {own own0:Bool} {k a n off:Nat} {G:Nat→Option Blk}
theorem apN_ok (h1:0 < size) (h2:bytes≤1048576) (h3:l.length=size) : apN (some (size,bytes)) (some (.cells l own z)) ⟨.fn G,n⟩ els=.val (.slq n 0 1 0) ⟨.fn (gput G n (some (.cells l true size))),n+1⟩:=if_pos ⟨h1,h2,h3⟩
theorem apZ_ok (h1:0 < size) (h2:bytes≤1048576) (h3:l.length=size) (h4:off≤l0.length) : apZ (some (size,bytes)) off (some (.cells l0 own0 w)) (some (.cells l own z)) ⟨.fn G,n⟩ els=.val (.slq n 0 1 0) ⟨.fn (gput G n (some (.cells l true size))),n+1⟩:=if_pos ⟨h1,h2,h3,h4⟩
theorem apQ_ok (h1:0 < size) (h2:bytes≤1048576) (h3:l.length=size) (h4:r.length=k * size) (h5:k≤1000000) (h6:allOne l=true) :
  apQ (some (size,bytes)) k a (some (.cells r true size)) (some (.cells l own w)) ⟨.fn G,n⟩ els=.val (.slq n 0 (k+1) 0) ⟨.fn (gput (gput G a none) n (some (.cells (r++l) true size))),n+1⟩:=if_pos ⟨rfl,h1,h2,h3,h4,h5,h6⟩
attribute [simp] ap_nil' ap_sl0' ap_slq' apN_ok apZ_ok apQ_ok
end
def rOf:R→Option AV
 | .val v _=>some v
 | _=>none
theorem resVar_cell {P:Program} {g:Nat→Option AV} {ds:List Dfr} {H:Mem} {a:Tmp} {t:TypeId} : resVar P (.f g ds) H (.cell a t)=rOf (oLoad P H t (g a)):=by
 show (match g a with | some p=>load P H t p | none=>none)=_
 unfold oLoad
 cases g a with
 | none=>rfl
 | some p =>
  dsimp only
  cases load P H t p <;> rfl
theorem rOf_val {v:AV} {H:Mem} : rOf (.val v H)=some v:=(rfl)
attribute [simp] resVar_cell rOf_val
theorem bsS_nil' {P:Program} {t:TypeId} {z:List AV} {size n:Nat} {g:Nat→Option Blk} (h:bsI P t=some (z,size)) :
  bsS P ⟨.fn g,n⟩ t 0 (some (z,size)) (some [])=.val (.sl n 0 0 0) ⟨.fn (gput g n (some (.cells [] true 0))),n+1⟩:=by
 unfold bsS
 dsimp only
 rw [if_neg (by omega)]
 exact bsS_nil h
attribute [simp] bsS_nil'
end Go.Ai
end
section
namespace Go.Ai
open Go.ChangeShapes Go.WideShapes Go.ChangeAt Go.RowKit
variable {B G:Nat} {P:Program} {ρ:Rn} {w:World}
end Go.Ai
end
section
namespace Go.Ai
structure GraphM where
 n:Nat
 succ:Nat→List Nat
abbrev SetS:=Nat→Bool
def GraphM.ok (G:GraphM) : Prop:=∀ s,s < G.n→∀ t∈G.succ s,t < G.n
def leS (n:Nat) (X Y:SetS) : Prop:=∀ s,s < n→X s=true→Y s=true
def eqS (n:Nat) (X Y:SetS) : Prop:=∀ s,s < n→X s=Y s
theorem eqS.le {n:Nat} {X Y:SetS} (h:eqS n X Y) : leS n X Y:=fun s hs hx=>by rw [← h s hs]; exact hx
theorem eqS.symm {n:Nat} {X Y:SetS} (h:eqS n X Y) : eqS n Y X:=fun s hs=>(h s hs).symm
theorem eqS.trans {n:Nat} {X Y Z:SetS} (h:eqS n X Y) (h' : eqS n Y Z) : eqS n X Z:=fun s hs=>(h s hs).trans (h' s hs)
def GraphM.pre (G:GraphM) (X:SetS) : SetS:=fun s=>(G.succ s).any X
def GraphM.post (G:GraphM) (X:SetS) : SetS:=fun s=>(G.succ s).all X
def cnt (X:SetS) : Nat→Nat
 | 0=>0
 | k+1=>cnt X k+(if X k then 1 else 0)
end Go.Ai
end
section
namespace Go.Ai
section
variable {P:Program} {H:Mem} {ev:Ev} {d:Option Tmp} {ty:TypeId} {p:String} {af:Array Edge} {g:Option (Nat×Bool)} {x y:Operand} {s t:TypeId} {size bytes:Nat}
noncomputable def apF (q:Option (Nat×Nat)) (k off:Nat) (ga gb:Option Blk) (H:Mem) (els:R) : R:=match q,ga,gb with
 | some (size,bytes),some (.cells l0 _ _),some (.cells l _ _)=>if 0 < size∧bytes≤1048576∧l.length=size∧off+(k+1) * size≤l0.length∧k≤1000000 then .val (.slq H.next 0 (k+1+1) 0) (H.add (.cells ((l0.drop off).take ((k+1) * size)++l) true size)) else els
 | _,_,_=>els
theorem ap_full' {a b c off k:Nat} {hx:ev x=some (.sl a off (k+1) (k+1))} {hy:ev y=some (.sl b 0 1 c)} :
  ex2 P H ev ⟨d,.call ⟨.builtin .append,#[x,y],#[s,t]⟩,ty,p,af,g⟩ x y (some (.sl a off (k+1) (k+1))) (some (.sl b 0 1 c)) hx hy=apF (apI P s t) k off (H.get a) (H.get b) H (opV P H ev ⟨d,.call ⟨.builtin .append,#[x,y],#[s,t]⟩,ty,p,af,g⟩):=by
 unfold apF
 split
 ·rename_i size bytes l0 o0 z0 l own z h1 h2 h3
  split
  ·rename_i h
   obtain ⟨e1,e2,e3,e4,e5⟩:=h
   show opV P H ev _=_
   rw [append_of hx hy h1,appendN_full (n:=0) rfl e1 (firstL_row h3 (by omega)) (by omega) h2 e4 (by omega) (by omega) e2]
  ·rfl
 ·rfl
theorem apF_congr {tk:Nat} (_h0:tick=tk) {q q' : Option (Nat×Nat)} {k off:Nat} {ga ga' gb gb' : Option Blk} {H:Mem} {els:R} (h1:q=q') (h2:ga=ga') (h3:gb=gb') : apF q k off ga gb H els=apF q' k off ga' gb' H els:=by rw [h1,h2,h3]
attribute [congr] apF_congr
variable {els:R} {z w:Nat} {l l0:List AV} {own own0:Bool} {k n off:Nat} {G:Nat→Option Blk}
theorem apF_ok (h1:0 < size) (h2:bytes≤1048576) (h3:l.length=size) (h4:off+(k+1) * size≤l0.length) (h5:k≤1000000) :
  apF (some (size,bytes)) k off (some (.cells l0 own0 w)) (some (.cells l own z)) ⟨.fn G,n⟩ els=.val (.slq n 0 (k+1+1) 0) ⟨.fn (gput G n (some (.cells ((l0.drop off).take ((k+1) * size)++l) true size))),n+1⟩:=if_pos ⟨h1,h2,h3,h4,h5⟩
attribute [simp] ap_full' apF_ok
end
end Go.Ai
end
section
namespace Go.Ai
section
variable {P:Program} {W:WF} {Q:Out→Prop} {fr:Fr} {H:Mem} {ev:Ev} {d:Option Tmp} {ty:TypeId} {p:String} {af:Array Edge} {g:Option (Nat×Bool)}
theorem generic3 {o:Oper} {x y z:Operand} {u u' u'' r:Value} (ho:o.op.operands=#[x,y,z]) (hx:ev x=some (.lit u)) (hy:ev y=some (.lit u')) (hz:ev z=some (.lit u''))
  (hr:∀ ρ:Operand→Value,ρ x=u→ρ y=u'→ρ z=u''→pureV P (execOp ρ o)=some (.value r)) : generic P ev o=some (.lit r):=by
 have h1:o.op.operands.toList=[x,y,z]:=by rw [ho]
 unfold generic
 simp only [h1,List.all_cons,List.all_nil,hx,hy,hz,toLit,Bool.and_true,if_true]
 rw [hr _ (by simp [hx]) (by simp [hy]) (by simp [hz])]
end
end Go.Ai
end
section
namespace Go.Ai
section
variable {P:Program} {W:WF} {Q:Out→Prop} {fr:Fr} {H:Mem} {ev:Ev} {d:Option Tmp} {ty:TypeId} {p:String} {af:Array Edge} {g:Option (Nat×Bool)}
noncomputable def strB (P:Program) (H:Mem) (ev:Ev) (o:Oper) (s t:TypeId) (ed:Option TypeDesc) (x:AV) (off n:Nat) (b:Option Blk) : R:=match ed,b with
 | some (.int .u8),some (.cells l _ _)=>if off+n≤l.length then (match bytesOf ((l.drop off).take n) with | some bs=>.val (.lit (.string ⟨bs.toArray⟩)) H | none=>oConvert P H ev o s t (some x)) else oConvert P H ev o s t (some x)
 | _,_=>oConvert P H ev o s t (some x)
theorem cvS_bytes {s t:TypeId} {x:Operand} {e:TypeId} {a off n c:Nat} (hx:ev x=some (.sl a off n c)) (hs:P.underlying s=some (.slice e)) (ht:P.underlying t=some .string) :
  cvS P H ev ⟨d,.convert s t x,ty,p,af,g⟩ s t (some (.slice e)) (some .string) (some (.sl a off n c))=strB P H ev ⟨d,.convert s t x,ty,p,af,g⟩ s t (P.underlying e) (.sl a off n c) off n (H.get a):=by
 show oConvert P H ev _ s t (some (.sl a off n c))=_
 unfold strB
 split
 ·rename_i l own z he hg
  split
  ·rename_i hle
   split
   ·rename_i bs hbs
    unfold oConvert
    rw [generic_none (x:=x) (by simp [Op.operands]) (fun v' h=>by rw [hx] at h; cases h; rfl)]
    dsimp only
    unfold Go.Ai.convert
    rw [hs,ht]
    dsimp only
    rw [he]
    dsimp only [lenOf]
    have hf:firstL H 1 n (.sl a off n c)=some ((l.drop off).take n):=by
     have:=firstL_sl (size:=1) (n:=n) (c:=c) hg (by rw [Nat.mul_one]; exact hle)
     rw [Nat.mul_one] at this
     exact this
    rw [hf]
    dsimp only
    rw [hbs]
   ·rfl
  ·rfl
 ·rfl
theorem strB_congr {tk:Nat} (_h0:tick=tk) {o:Oper} {s t:TypeId} {ed ed' : Option TypeDesc} {x:AV} {off n:Nat} {b b' : Option Blk} (h1:ed=ed') (h2:b=b') : strB P H ev o s t ed x off n b=strB P H ev o s t ed' x off n b':=by rw [h1,h2]
attribute [congr] strB_congr
noncomputable def strK (H:Mem) (els:R) (x:Option (List UInt8)) : R:=match x with | some bs=>.val (.lit (.string ⟨bs.toArray⟩)) H | none=>els
theorem strK_congr {tk:Nat} (_h0:tick=tk) {H:Mem} {els:R} {x x' : Option (List UInt8)} (h:x=x') : strK H els x=strK H els x':=by rw [h]
attribute [congr] strK_congr
theorem strK_some {els:R} {bs:List UInt8} : strK H els (some bs)=.val (.lit (.string ⟨bs.toArray⟩)) H:=(rfl)
theorem strB_ok {o:Oper} {s t:TypeId} {x:AV} {off n:Nat} {l:List AV} {own:Bool} {z:Nat} (h1:off+n≤l.length) : strB P H ev o s t (some (.int .u8)) x off n (some (.cells l own z))=strK H (oConvert P H ev o s t (some x)) (bytesOf ((l.drop off).take n)):=by
 unfold strB strK; dsimp only; rw [if_pos h1]
def consB (x:UInt8) (l:Option (List UInt8)) : Option (List UInt8):=match l with | some r=>some (x :: r) | none=>none
theorem bytesOf_u8 {n:Int} {l:List AV} : bytesOf (.lit (.int .u8 n) :: l)=consB (UInt8.ofNat n.toNat) (bytesOf l):=by
 show (match bytesOf l with | some r=>some (UInt8.ofNat n.toNat :: r) | none=>none)=_
 unfold consB
 cases bytesOf l <;> rfl
theorem consB_some {x:UInt8} {r:List UInt8} : consB x (some r)=some (x :: r):=(rfl)
attribute [simp] cvS_bytes strB_ok strK_some bytesOf_u8 consB_some
end
end Go.Ai
end
section
namespace Go.Ai
section
variable {P:Program} {H:Mem} {ev:Ev} {d:Option Tmp} {ty:TypeId} {p:String} {af:Array Edge} {g:Option (Nat×Bool)}
end
end Go.Ai
end
section
namespace Go.Ai
section
variable {P:Program} {W:WF} {Q:Out→Prop} {fr:Fr} {H:Mem} {ev:Ev} {d:Option Tmp} {ty:TypeId} {p:String} {af:Array Edge} {g:Option (Nat×Bool)}
end
end Go.Ai
end
section
namespace Go.Ai
set_option maxRecDepth 10000
theorem gput_ne {g:Nat→Option Blk} {a j:Nat} {x:Option Blk} (h:j≠a) : gput g a x j=g j:=if_neg h
theorem gput_eq {g:Nat→Option Blk} {a:Nat} {x:Option Blk} : gput g a x a=x:=if_pos rfl
theorem ba_lawful:LawfulBEq ByteArray where
 eq_of_beq:=fun {a b} h=>by rw [ba_beq] at h; simpa using h
 rfl:=fun {a}=>by rw [ba_beq]; simp
def SliceV (g:Nat→Option Blk) (b:Nat) (sv:AV) (len:Nat) (cs:List AV) : Prop :=
 (len=0∧cs=[]∧(sv=.lit (.slice none 0 0)∨sv=.es))∨∃ a off,a < b∧((∃ c,sv=.sl a off len c)∨∃ c,sv=.slq a off len c)∧Row g a off cs
theorem SliceV.mono {g g' : Nat→Option Blk} {b b' len:Nat} {sv:AV} {cs:List AV} (hb:b≤b') (h:∀ a,a < b→g' a=g a) : SliceV g b sv len cs→SliceV g' b' sv len cs :=
 fun hs=>hs.imp id fun ⟨a,off,h1,h2,h3⟩=>⟨a,off,by omega,h2,h3.mono (h a h1)⟩
theorem sliceV_all {g:Nat→Option Blk} {a n len c:Nat} {cs:List AV} {own:Bool} {z:Nat} (h:g a=some (.cells cs own z)) (ha:a < n) : SliceV g n (.sl a 0 len c) len cs :=
 .inr ⟨a,0,ha,.inl ⟨c,rfl⟩,⟨cs,own,z,h,by simp,by simp⟩⟩
inductive NodeM where
 | mk (op:Nat) (a b:Int) (subs:List NodeM)
def NodeM.op:NodeM→Nat
 | .mk op _ _ _=>op
mutual
def repN (g:Nat→Option Blk) (b:Nat) : NodeM→List AV→Prop
  | .mk op k q subs,cs=>op < 256∧∃ sv,cs=[.lit (.int .u8 op),.lit (.int .i64 k),.lit (.int .i64 q),sv] ∧
    ((subs=[]∧(sv=.lit (.slice none 0 0)∨sv=.es)) ∨
     ∃ a off r,a < b∧((∃ c,sv=.sl a off subs.length c)∨(∃ c,sv=.slq a off subs.length c))∧Row g a off r∧repL g b subs r)
def repL (g:Nat→Option Blk) (b:Nat) : List NodeM→List AV→Prop
 | [],cs=>cs=[]
 | x :: l,cs=>∃ c r,cs=c++r∧repN g b x c∧repL g b l r
end
mutual
theorem repN_ext {g g' : Nat→Option Blk} {b b' : Nat} (hb:b≤b') (h:∀ a x,a < b→g a=some x→g' a=some x) : ∀ {x:NodeM} {cs:List AV},repN g b x cs→repN g' b' x cs
 | .mk op k q subs,cs,⟨h0,sv,h1,h2⟩=>⟨h0,sv,h1,h2.imp id fun ⟨a,off,r,h3,h4,⟨l,own,z,h5,h6⟩,h7⟩=>⟨a,off,r,by omega,h4,⟨l,own,z,h a _ h3 h5,h6⟩,repL_ext hb h h7⟩⟩
theorem repL_ext {g g' : Nat→Option Blk} {b b' : Nat} (hb:b≤b') (h:∀ a x,a < b→g a=some x→g' a=some x) : ∀ {l:List NodeM} {cs:List AV},repL g b l cs→repL g' b' l cs
 | [],_,h0=>h0
 | _ :: _,_,⟨c,r,h1,h2,h3⟩=>⟨c,r,h1,repN_ext hb h h2,repL_ext hb h h3⟩
end
theorem repL_one {g:Nat→Option Blk} {b:Nat} {x:NodeM} {cs:List AV} (h:repN g b x cs) : repL g b [x] cs:=⟨cs,[],by simp,h,rfl⟩
def FreshN (g:Nat→Option Blk) (n n' : Nat) (x:NodeM) (cs:List AV) : Prop:=∃ gk:Nat→Option Blk,(∀ a z,gk a=some z→g a=some z∧n≤a∧a < n')∧repN gk n' x cs
theorem FreshN.keep {g g' : Nat→Option Blk} {n0 n n' n2:Nat} {x:NodeM} {cs:List AV} (h:FreshN g n n' x cs) (h0:n0≤n) (h2:n'≤n2) (hg:∀ a,n≤a→a < n'→g' a=g a) : FreshN g' n0 n2 x cs:=by
 obtain ⟨gk,h1,h3⟩:=h
 refine ⟨gk,fun a z hz=>?_,repN_ext h2 (fun a z _ hz=>hz) h3⟩
 obtain ⟨e1,e2,e3⟩:=h1 a z hz
 exact ⟨(hg a e2 e3).trans e1,by omega,by omega⟩
theorem FreshN.rep {g:Nat→Option Blk} {n n' : Nat} {x:NodeM} {cs:List AV} (h:FreshN g n n' x cs) : repN g n' x cs:=by
 obtain ⟨gk,h1,h3⟩:=h
 exact repN_ext (Nat.le_refl _) (fun a z _ hz=>(h1 a z hz).1) h3
def FreshL (g:Nat→Option Blk) (n n' : Nat) (l:List NodeM) (cs:List AV) : Prop:=∃ gk:Nat→Option Blk,(∀ a z,gk a=some z→g a=some z∧n≤a∧a < n')∧repL gk n' l cs
theorem FreshL.one {g:Nat→Option Blk} {n n' : Nat} {x:NodeM} {cs:List AV} (h:FreshN g n n' x cs) : FreshL g n n' [x] cs:=by
 obtain ⟨gk,h1,h3⟩:=h
 exact ⟨gk,h1,repL_one h3⟩
theorem FreshL.two {g:Nat→Option Blk} {n n' : Nat} {x y:NodeM} {cs ds:List AV} (h:FreshN g n n' x cs) (h' : FreshN g n n' y ds) : FreshL g n n' [x,y] (cs++ds):=by
 obtain ⟨gk,h1,h3⟩:=h
 obtain ⟨gl,h4,h5⟩:=h'
 refine ⟨fun a=>if n≤a∧a < n' then g a else none,fun a z hz=>?_,cs,ds,rfl,repN_ext (Nat.le_refl _) (fun a z _ hz=>?_) h3,repL_one (repN_ext (Nat.le_refl _) (fun a z _ hz=>?_) h5)⟩
 ·dsimp only at hz
  split at hz
  ·rename_i h; exact ⟨hz,h⟩
  ·cases hz
 ·obtain ⟨e1,e2⟩:=h1 a z hz
  rw [if_pos e2,e1]
 ·obtain ⟨e1,e2⟩:=h4 a z hz
  rw [if_pos e2,e1]
def FreshQ (g:Nat→Option Blk) (n q n' : Nat) (x:NodeM) (cs:List AV) : Prop:=∃ gk:Nat→Option Blk,(∀ a z,gk a=some z→g a=some z∧n≤a∧a < n'∧a≠q)∧repN gk n' x cs
theorem FreshQ.rep {g:Nat→Option Blk} {n q n' : Nat} {x:NodeM} {cs:List AV} (h:FreshQ g n q n' x cs) : repN g n' x cs:=by
 obtain ⟨gk,h1,h3⟩:=h
 exact repN_ext (Nat.le_refl _) (fun a z _ hz=>(h1 a z hz).1) h3
theorem FreshQ.fresh {g g' : Nat→Option Blk} {n0 n q n' n2:Nat} {x:NodeM} {cs:List AV} (h:FreshQ g n q n' x cs) (h0:n0≤n) (h2:n'≤n2) (hg:∀ a,n≤a→a < n'→a≠q→g' a=g a) : FreshN g' n0 n2 x cs:=by
 obtain ⟨gk,h1,h3⟩:=h
 refine ⟨gk,fun a z hz=>?_,repN_ext h2 (fun a z _ hz=>hz) h3⟩
 obtain ⟨e1,e2,e3,e4⟩:=h1 a z hz
 exact ⟨(hg a e2 e3 e4).trans e1,by omega,by omega⟩
theorem FreshQ.keep {g g' : Nat→Option Blk} {n q n' n2:Nat} {x:NodeM} {cs:List AV} (h:FreshQ g n q n' x cs) (h2:n'≤n2) (hg:∀ a,n≤a→a < n'→a≠q→g' a=g a) : FreshQ g' n q n2 x cs:=by
 obtain ⟨gk,h1,h3⟩:=h
 refine ⟨gk,fun a z hz=>?_,repN_ext h2 (fun a z _ hz=>hz) h3⟩
 obtain ⟨e1,e2,e3,e4⟩:=h1 a z hz
 exact ⟨(hg a e2 e3 e4).trans e1,by omega,by omega,e4⟩
end Go.Ai
end
section
namespace Go.Ai
set_option maxRecDepth 10000
inductive ParR where
 | ok (x:NodeM) (k:Nat)
 | err (k:Nat)
section
variable (s:ByteArray)
end
end Go.Ai
end
section
namespace Go.Ai
structure MachM where
 inp:Int
 out:Int
 rows:List (List (Int×Int))
def MachM.edge (M:MachM) (s:Nat) (i:Nat) : Int×Int:=((M.rows.getD s []).getD i (-1,-1))
def succL:List (Int×Int)→List Nat
 | []=>[]
 | e :: l=>if e.1 < 0 then succL l else e.1.toNat :: succL l
def MachM.gr (M:MachM) : GraphM:=⟨M.rows.length,fun s=>succL (M.rows.getD s [])⟩
def edgeOK (n:Nat) (out:Int) (e:Int×Int) : Bool:=decide (e=(-1,-1)) || (decide (0≤e.1) && (decide (e.1 < n) && (decide (0≤e.2) && decide (e.2 < out))))
def MachM.ok (M:MachM) : Prop:=1≤M.inp∧M.inp≤16∧1≤M.out∧M.out≤16∧1≤M.rows.length∧M.rows.length≤64∧∀ r∈M.rows,(r.length:Int)=M.inp∧∀ e∈r,edgeOK M.rows.length M.out e=true
theorem eqS.refl (n:Nat) (X:SetS) : eqS n X X:=fun _ _=>rfl
end Go.Ai
end
