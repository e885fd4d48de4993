/- A small verified interpreter over names, its proofs, and what was proved with it. No condition. -/
import Derived.Test.YtfllomlghjolpaaDoorD04
set_option linter.all false
set_option linter.deprecated false
section
namespace Go.Ai
variable {P:Program} {H:Mem} {ev ev' : Ev}
theorem evals_congr:∀ {l:List Operand},(∀ x∈l,ev x=ev' x)→evals ev l=evals ev' l
  | [],_=>rfl
  | x :: l,h=>by
    unfold evals
    rw [h x (by simp),evals_congr fun y hy=>h y (by simp [hy])]
theorem evalParts_congr:∀ {l:List (Nat×Operand)},(∀ x∈l.map (·.2),ev x=ev' x)→evalParts ev l=evalParts ev' l
  | [],_=>rfl
  | (i,x) :: l,h=>by
    unfold evalParts
    rw [h x (by simp),evalParts_congr fun y hy=>h y (by simp at hy ⊢; exact .inr hy)]
theorem all_congr' {α:Type} {p q:α→Bool} : ∀ {l:List α},(∀ x∈l,p x=q x)→l.all p=l.all q
  | [],_=>rfl
  | x :: l,h=>by
    simp only [List.all_cons]
    rw [h x (by simp),all_congr' fun y hy=>h y (by simp [hy])]
theorem ite_pure {c c' : Bool} {s s' : Sem Next} (h1:c=c') (h2:s=s') : (if c=true then (match pureV P s with | some (.value v)=>some (AV.lit v) | _=>none) else none)=(if c'=true then (match pureV P s' with | some (.value v)=>some (AV.lit v) | _=>none) else none):=by
  rw [h1,h2]
theorem generic_congr {o:Oper} (hs:∀ cs b,o.op≠.select cs b) (h:∀ x∈o.op.operands.toList,ev x=ev' x) : generic P ev o=generic P ev' o:=by
  unfold generic
  have h1:(o.op.operands.toList.all fun x=>match ev x with | some v=>(match toLit v with | some _=>true | none=>false) | none=>false)=(o.op.operands.toList.all fun x=>match ev' x with | some v=>(match toLit v with | some _=>true | none=>false) | none=>false) :=
    all_congr' fun x hx=>by rw [h x hx]
  have h2:=execOp_congr (ρ:=fun x=>match ev x with | some v=>(match toLit v with | some u=>u | none=>undef) | none=>undef) (ρ':=fun x=>match ev' x with | some v=>(match toLit v with | some u=>u | none=>undef) | none=>undef) o hs
    fun x hx=>by rw [h x (by simpa using hx)]
  exact ite_pure h1 h2
theorem evOpt_congr {y:Option Operand} (h:∀ x∈y.toArray.toList,ev x=ev' x) : evOpt ev y=evOpt ev' y:=by
  cases y with
  | none=>rfl
  | some y=>unfold evOpt; dsimp only; rw [h y (by simp)]
theorem opV_evs {o:Oper} (hs:∀ cs b,o.op≠.select cs b) (h:∀ x∈o.op.operands.toList,ev x=ev' x) : opV P H ev o=opV P H ev' o:=by
  have hg:=generic_congr (P:=P) hs h
  unfold opV
  cases hop:o.op with
  | select cs b=>exact absurd hop (hs cs b)
  | move x=>rw [hop] at h; show oMove H (ev x)=oMove H (ev' x); rw [h x (by simp [Op.operands])]
  | assign x=>rw [hop] at h; show oMove H (ev x)=oMove H (ev' x); rw [h x (by simp [Op.operands])]
  | pick c a b=>rw [hop] at h; show oPick H (ev c) (ev a) (ev b)=oPick H (ev' c) (ev' a) (ev' b); rw [h c (by simp [Op.operands]),h a (by simp [Op.operands]),h b (by simp [Op.operands])]
  | alloc t=>rfl
  | box t x=>rw [hop] at h; show oBox H (ev x)=oBox H (ev' x); rw [h x (by simp [Op.operands])]
  | build t ps=>rw [hop] at h; show oBuild P H t (evalParts ev ps.toList)=oBuild P H t (evalParts ev' ps.toList); rw [evalParts_congr fun x hx=>h x (by simpa [Op.operands] using hx)]
  | buildSlice t n ps=>rw [hop] at h; show oBuildSlice P H t n (evalParts ev ps.toList)=oBuildSlice P H t n (evalParts ev' ps.toList); rw [evalParts_congr fun x hx=>h x (by simpa [Op.operands] using hx)]
  | insert t m k x=>rw [hop] at h; show oMapUpdate P H t (ev m) (ev k) (ev x)=oMapUpdate P H t (ev' m) (ev' k) (ev' x); rw [h m (by simp [Op.operands]),h k (by simp [Op.operands]),h x (by simp [Op.operands])]
  | mapUpdate t m k x=>rw [hop] at h; show oMapUpdate P H t (ev m) (ev k) (ev x)=oMapUpdate P H t (ev' m) (ev' k) (ev' x); rw [h m (by simp [Op.operands]),h k (by simp [Op.operands]),h x (by simp [Op.operands])]
  | load t a=>rw [hop] at h; show oLoad P H t (ev a)=oLoad P H t (ev' a); rw [h a (by simp [Op.operands])]
  | store t a x=>rw [hop] at h; show oStore P H t (ev a) (ev x)=oStore P H t (ev' a) (ev' x); rw [h a (by simp [Op.operands]),h x (by simp [Op.operands])]
  | nilCheck x=>rw [hop] at h; show oNilCheck P H ev o (ev x)=oNilCheck P H ev' o (ev' x); unfold oNilCheck; rw [h x (by simp [Op.operands]),hg]
  | binOp op t x y r=>rw [hop] at h; show oBin P H ev o op t (ev x) (ev y)=oBin P H ev' o op t (ev' x) (ev' y); unfold oBin; rw [h x (by simp [Op.operands]),h y (by simp [Op.operands]),hg]
  | unOp op t x=>show ofOpt H (generic P ev o)=ofOpt H (generic P ev' o); rw [hg]
  | convert s d x=>rw [hop] at h; show oConvert P H ev o s d (ev x)=oConvert P H ev' o s d (ev' x); unfold oConvert; rw [h x (by simp [Op.operands]),hg]
  | makeInterface t x=>rw [hop] at h; show oMakeInterface P H t (ev x)=oMakeInterface P H t (ev' x); rw [h x (by simp [Op.operands])]
  | makeFunc fn a b =>
    rw [hop] at h
    show oMakeFunc H fn (evals ev a.toList) (evals ev b.toList)=oMakeFunc H fn (evals ev' a.toList) (evals ev' b.toList)
    rw [evals_congr fun x hx=>h x (by simp only [Op.operands,Array.toList_append,List.mem_append]; exact .inl hx),evals_congr (l:=b.toList) fun x hx=>h x (by simp only [Op.operands,Array.toList_append,List.mem_append]; exact .inr hx)]
  | makeMap t r =>
    rw [hop] at h
    show oMakeMap P H ev t r=oMakeMap P H ev' t r
    unfold oMakeMap
    cases r with
    | none=>rfl
    | some x=>dsimp only; rw [h x (by simp [Op.operands])]
  | makeSlice t l c=>rw [hop] at h; show oMakeSlice P H t (ev l) (ev c)=oMakeSlice P H t (ev' l) (ev' c); rw [h l (by simp [Op.operands]),h c (by simp [Op.operands])]
  | slice t x lo hi mx =>
    rw [hop] at h
    show oSlice P H ev o t (ev x) lo hi mx=oSlice P H ev' o t (ev' x) lo hi mx
    unfold oSlice oSliceN
    simp only [Op.operands,Array.toList_append,List.mem_append] at h
    rw [h x (by simp),hg,evOpt_congr fun y hy=>h y (.inl (.inl (.inr hy))),evOpt_congr (y:=hi) fun y hy=>h y (.inl (.inr hy)),evOpt_congr (y:=mx) fun y hy=>h y (.inr hy)]
  | fieldAddr s x f=>rw [hop] at h; show oFieldAddr P H ev o s (ev x) f=oFieldAddr P H ev' o s (ev' x) f; unfold oFieldAddr orGen; rw [h x (by simp [Op.operands]),hg]
  | field t x f=>rw [hop] at h; show oField P H t (ev x) f=oField P H t (ev' x) f; rw [h x (by simp [Op.operands])]
  | indexAddr t x i=>rw [hop] at h; show oIndexAddr P H ev o t (ev x) (ev i)=oIndexAddr P H ev' o t (ev' x) (ev' i); unfold oIndexAddr orGen; rw [h x (by simp [Op.operands]),h i (by simp [Op.operands]),hg]
  | index t x i=>rw [hop] at h; show oIndex P H ev o t (ev x) (ev i)=oIndex P H ev' o t (ev' x) (ev' i); unfold oIndex; rw [h x (by simp [Op.operands]),h i (by simp [Op.operands]),hg]
  | lookup t m k ok=>rw [hop] at h; show oLookup P H ev o t (ev m) (ev k) ok=oLookup P H ev' o t (ev' m) (ev' k) ok; unfold oLookup; rw [h m (by simp [Op.operands]),h k (by simp [Op.operands]),hg]
  | range t x=>rw [hop] at h; show oRange P H t (ev x)=oRange P H t (ev' x); rw [h x (by simp [Op.operands])]
  | next x b=>rw [hop] at h; cases b with
    | true=>show oNext H (ev x)=oNext H (ev' x); rw [h x (by simp [Op.operands])]
    | false=>rfl
  | typeAssert x s t ok=>rw [hop] at h; show oTypeAssert P H ev o (ev x) t ok=oTypeAssert P H ev' o (ev' x) t ok; unfold oTypeAssert; rw [h x (by simp [Op.operands]),hg]
  | extract t i=>rw [hop] at h; show oExtract H (ev t) i=oExtract H (ev' t) i; rw [h t (by simp [Op.operands])]
  | panic x=>rw [hop] at h; show oPanic H (ev x)=oPanic H (ev' x); rw [h x (by simp [Op.operands])]
  | call c =>
    rw [hop] at h
    show callOp P H ev o c=callOp P H ev' o c
    have ha:evals ev c.args.toList=evals ev' c.args.toList:=evals_congr fun x hx=>h x (by simp only [Op.operands,Call.operands]; cases c.callee <;> simp_all)
    unfold callOp
    rw [ha]
    cases hc:c.callee with
    | value f=>dsimp only; rw [h f (by simp [Op.operands,Call.operands,hc])]
    | invoke r m=>dsimp only; unfold oInvoke; rw [h r (by simp [Op.operands,Call.operands,hc])]
    | builtin b=>cases evals ev' c.args.toList <;> cases b <;> simp only [oBuiltin,oLen,oCap,hg]
  | defer c =>
    rw [hop] at h
    show deferOp H ev c=deferOp H ev' c
    have ha:evals ev c.args.toList=evals ev' c.args.toList:=evals_congr fun x hx=>h x (by simp only [Op.operands,Call.operands]; cases c.callee <;> simp_all)
    unfold deferOp
    rw [ha]
    cases hc:c.callee with
    | value f=>cases evals ev' c.args.toList with
      | none=>rfl
      | some args=>dsimp only; rw [h f (by simp [Op.operands,Call.operands,hc])]
    | invoke r m=>cases evals ev' c.args.toList <;> rfl
    | builtin b=>cases evals ev' c.args.toList <;> rfl
  | _=>rfl
theorem noSelect {o:Oper} (h:cls o.op≠.no) : ∀ cs b,o.op≠.select cs b:=by
  intro cs b e
  rw [e] at h
  exact h rfl
end Go.Ai
end
section
namespace Go.Ai
variable {P:Program} {H:Mem} {ev:Ev} {o:Oper}
def vb:R→Bool
  | .val _ _=>true
  | .bad=>true
  | _=>false
theorem vb_opt (x:Option AV) : vb (ofOpt H x)=true:=by cases x <;> rfl
theorem vb_new (l:List AV) (b:Bool) (v:AV) : vb (newBlk H l b v)=true:=by unfold newBlk; rw [Mem.newK_eq]; rfl
theorem vb_free (h:freeOp o.op=true) : vb (opV P H ev o)=true:=by
  have gen:∀ (x:Option AV),vb (match (x:Option AV) with | some v=>R.val v H | none=>.bad)=true:=by intro x; cases x <;> rfl
  have or' : ∀ (x:Option AV),vb (orGen P H ev o x)=true:=by
    intro x; unfold orGen; cases x with
    | none=>exact vb_opt _
    | some v=>rfl
  unfold opV
  cases hop:o.op with
  | move x=>show vb (oMove H (ev x))=true; unfold oMove; cases ev x <;> rfl
  | assign x=>show vb (oMove H (ev x))=true; unfold oMove; cases ev x <;> rfl
  | pick c a b=>show vb (oPick H (ev c) (ev a) (ev b))=true; unfold oPick; split <;> first | exact vb_opt _ | rfl
  | build t ps=>show vb (oBuild P H t (evalParts ev ps.toList))=true; unfold oBuild; split <;> first | exact vb_opt _ | rfl
  | nilCheck x=>show vb (oNilCheck P H ev o (ev x))=true; unfold oNilCheck; split <;> first | exact vb_opt _ | rfl
  | binOp op t x y r =>
    show vb (oBin P H ev o op t (ev x) (ev y))=true
    unfold oBin
    split
    · rfl
    · split
      · rfl
      · unfold oNilEq; split
        · split <;> rfl
        · rfl
  | unOp op t x=>show vb (ofOpt H (generic P ev o))=true; exact vb_opt _
  | makeInterface t x=>show vb (oMakeInterface P H t (ev x))=true; unfold oMakeInterface; split <;> rfl
  | makeFunc fn a b=>show vb (oMakeFunc H fn (evals ev a.toList) (evals ev b.toList))=true; unfold oMakeFunc; split <;> rfl
  | slice t x lo hi mx =>
    show vb (oSlice P H ev o t (ev x) lo hi mx)=true
    unfold oSlice
    split
    · rfl
    · unfold oSliceN; split
      · split <;> first | exact vb_opt _ | rfl
      · rfl
  | fieldAddr s x f=>show vb (oFieldAddr P H ev o s (ev x) f)=true; unfold oFieldAddr; split <;> first | exact or' _ | rfl
  | field t x f=>show vb (oField P H t (ev x) f)=true; unfold oField; split <;> first | exact vb_opt _ | rfl
  | indexAddr t x i=>show vb (oIndexAddr P H ev o t (ev x) (ev i))=true; unfold oIndexAddr; split <;> first | exact or' _ | rfl
  | index t x i =>
    show vb (oIndex P H ev o t (ev x) (ev i))=true
    unfold oIndex; split
    · split <;> first | exact vb_opt _ | rfl
    · rfl
  | typeAssert x s t ok =>
    show vb (oTypeAssert P H ev o (ev x) t ok)=true
    unfold oTypeAssert; split
    · rfl
    · split <;> first | exact vb_opt _ | rfl
  | extract t i =>
    show vb (oExtract H (ev t) i)=true
    unfold oExtract; split
    · exact vb_opt _
    · split <;> rfl
    · rfl
  | _=>rw [hop] at h; cases h
theorem vb_read (h:cls o.op=.read) : vb (opV P H ev o)=true:=by
  unfold opV
  cases hop:o.op <;> rw [hop] at h <;> first | (simp [cls,freeOp] at h; done) | skip
  · rename_i t x
    show vb (oLoad P H t (ev x))=true
    unfold oLoad; split <;> first | exact vb_opt _ | rfl
  · rename_i t m k ok
    show vb (oLookup P H ev o t (ev m) (ev k) ok)=true
    unfold oLookup; split <;> first | exact vb_opt _ | rfl
  · rename_i c
    show vb (callOp P H ev o c)=true
    unfold callOp
    split
    · rfl
    · simp only [cls,freeOp] at h
      split
      · rename_i b hc
        rw [hc] at h
        unfold oBuiltin
        cases b <;> first | (cases h; done) | skip
        · dsimp only; unfold oCap
          split
          · rfl
          · split <;> rfl
        · dsimp only; unfold oLen
          split
          · exact vb_opt _
          · unfold oLenN
            split <;> first | rfl | skip
            split <;> rfl
      · rename_i hc; rw [hc] at h; cases h
      · rename_i hc; rw [hc] at h; cases h
theorem vb_alloc (h:cls o.op=.alloc) : vb (opV P H ev o)=true:=by
  unfold opV
  rcases cls_alloc h with ⟨t,hop⟩ | ⟨t,x,hop⟩ | ⟨t,n,ps,hop⟩ | ⟨t,l,c,hop⟩ | ⟨t,r,hop⟩ <;> rw [hop]
  · show vb (oAlloc P H t)=true; unfold oAlloc; split <;> first | exact vb_new _ _ _ | rfl
  · show vb (oBox H (ev x))=true; unfold oBox; split <;> first | exact vb_new _ _ _ | rfl
  · show vb (oBuildSlice P H t n (evalParts ev ps.toList))=true
    unfold oBuildSlice; split
    · split
      · split <;> first | exact vb_new _ _ _ | rfl
      · rfl
    · rfl
  · show vb (oMakeSlice P H t (ev l) (ev c))=true
    unfold oMakeSlice; split
    · split <;> first | exact vb_new _ _ _ | rfl
    · rfl
  · show vb (oMakeMap P H ev t r)=true
    unfold oMakeMap; split
    · rw [Mem.newK_eq]; rfl
    · split
      · rw [Mem.newK_eq]; rfl
      · rfl
theorem plain_noconv {s d:TypeId} {x:AV} (hs:plainT P s=true) (hd:plainT P d=true) : convert P H s d x=none:=by
  unfold plainT at hs hd
  unfold convert
  split <;> first | rfl | (simp_all; done)
theorem gen_form (h:cls o.op=.gen) (hc:convFit P o=true) : opV P H ev o=.bad∨∃ v,opV P H ev o=.val v H∧generic P ev o=some v:=by
  have opt:ofOpt H (generic P ev o)=.bad∨∃ v,ofOpt H (generic P ev o)=.val v H∧generic P ev o=some v:=by
    cases hg:generic P ev o with
    | none=>exact .inl rfl
    | some v=>exact .inr ⟨v,rfl,rfl⟩
  unfold opV
  unfold convFit at hc
  cases hop:o.op <;> rw [hop] at h hc <;> first | (simp [cls,freeOp] at h; done) | skip
  · rename_i s d x
    show oConvert P H ev o s d (ev x)=.bad∨∃ v,oConvert P H ev o s d (ev x)=.val v H∧_
    unfold oConvert
    simp only [Bool.and_eq_true] at hc
    cases hg:generic P ev o with
    | some v=>exact .inr ⟨v,rfl,rfl⟩
    | none =>
      left
      dsimp only
      split
      · rw [plain_noconv hc.1 hc.2]
      · rfl
  · rename_i c
    simp only [cls,freeOp] at h
    show callOp P H ev o c=.bad∨∃ v,callOp P H ev o c=.val v H∧_
    unfold callOp
    split
    · exact .inl rfl
    · split
      · rename_i b hcb
        rw [hcb] at h
        unfold oBuiltin
        cases b <;> first | (cases h; done) | exact opt
      · rename_i hcb; rw [hcb] at h; cases h
      · rename_i hcb; rw [hcb] at h; cases h
def acts:R→Bool
  | .dfr _ _ _ _=>false
  | .panic _ _=>false
  | .recover=>false
  | _=>true
theorem acts_enter (f:FuncId) (args:List AV) : acts (enterF P H f args)=true:=by unfold enterF; split <;> rfl
theorem acts_chain (h:cls o.op=.chain) : acts (opV P H ev o)=true:=by
  have upd:∀ (t:TypeId) (m k x:Option AV),acts (oMapUpdate P H t m k x)=true:=by
    intro t m k x
    unfold oMapUpdate
    split
    · split <;> rfl
    · rfl
  unfold opV
  cases hop:o.op <;> rw [hop] at h <;> first | (simp [cls,freeOp] at h; done) | skip
  · exact upd _ _ _ _
  · rename_i t a x
    show acts (oStore P H t (ev a) (ev x))=true
    unfold oStore
    split
    · split <;> rfl
    · rfl
  · exact upd _ _ _ _
  · rename_i c
    simp only [cls,freeOp] at h
    show acts (callOp P H ev o c)=true
    unfold callOp
    split
    · rfl
    · split
      · rename_i b hcb
        rw [hcb] at h
        unfold oBuiltin
        cases b <;> first | (cases h; done) | skip
        · dsimp only; unfold oAppend; split
          · split <;> rfl
          · rfl
        · dsimp only; unfold oCopy; split
          · split <;> rfl
          · rfl
      · unfold oInvoke
        split
        · split
          · split
            · exact acts_enter _ _
            · rfl
          · rfl
        · rfl
      · unfold oValue; split <;> first | exact acts_enter _ _ | rfl
theorem quiet_form (h1:cls o.op≠.chain) (h2:cls o.op≠.no) (h3:cls o.op≠.alloc) (hc:convFit P o=true) : opV P H ev o=.bad∨∃ v,opV P H ev o=.val v H∧quiet P H ev o=some v:=by
  cases hcl:cls o.op with
  | free =>
    have hf:freeOp o.op=true:=by
      cases hf:freeOp o.op with
      | true=>rfl
      | false =>
        exfalso
        unfold cls at hcl
        rw [hf] at hcl
        dsimp only at hcl
        split at hcl <;> first | (cases hcl; done) | skip
        split at hcl <;> cases hcl
    have:=vb_free (P:=P) (H:=H) (ev:=ev) hf
    cases hv:opV P H ev o with
    | val v H' =>
      obtain ⟨rfl,_⟩:=freeOp_sound hf H v H' hv
      exact .inr ⟨v,rfl,by unfold quiet; rw [hcl]; dsimp only; rw [hv]⟩
    | bad=>exact .inl rfl
    | _=>rw [hv] at this; cases this
  | read =>
    have:=vb_read (P:=P) (H:=H) (ev:=ev) hcl
    cases hv:opV P H ev o with
    | val v H' =>
      have:=read_keeps hcl hv
      subst this
      exact .inr ⟨v,rfl,by unfold quiet; rw [hcl]; dsimp only; rw [hv]⟩
    | bad=>exact .inl rfl
    | _=>rw [hv] at this; cases this
  | gen =>
    rcases gen_form (P:=P) (H:=H) (ev:=ev) hcl hc with h | ⟨v,h4,h5⟩
    · exact .inl h
    · exact .inr ⟨v,h4,by unfold quiet; rw [hcl]; exact h5⟩
  | chain=>exact absurd hcl h1
  | no=>exact absurd hcl h2
  | alloc=>exact absurd hcl h3
end Go.Ai
end
section
namespace Go.Ai
abbrev AlP:=List (Nat×Nat×Option Blk)
noncomputable def slotOf (fr:Fr) (d:Option Tmp) : Option AV:=match d with | some d=>fr.get d | none=>none
noncomputable def againW (P:Program) (W:WF) (ops:Array Oper) (fr:Fr) (H:Mem) : List Nat→Prop
  | []=>True
  | i :: l=>(match ops[i]? with
    | some o=>oneW P W ops o fr H (fun fr' _=>slotOf fr' o.dst=slotOf fr o.dst) (fun _=>False)
    | none=>False)∧againW P W ops fr H l
noncomputable def keptW (H:Mem) (as:List Nat) : AlP→Prop
  | []=>True
  | (i,a,b) :: l=>(i∈as→H.get a=b)∧keptW H as l
noncomputable def planW (P:Program) (W:WF) (ops:Array Oper) (Q:Out→Prop) : List It→Fr→Mem→AlP→Prop
  | [],fr,H,_=>Q (.norm fr H)
  | .run i :: l,fr,H,als=>match ops[i]? with
    | some o=>oneW P W ops o fr H (fun fr H=>planW P W ops Q l fr H als) Q
    | none=>False
  | .mk i :: l,fr,H,als=>match ops[i]? with
    | some o=>oneW P W ops o fr H (fun fr H'=>planW P W ops Q l fr H' ((i,H.next,H'.get H.next) :: als)) Q
    | none=>False
  | .gate hs as :: l,fr,H,als=>againW P W ops fr H hs∧keptW H as als∧planW P W ops Q l fr H als
noncomputable def clearQ (Q:Out→Prop) : Out→Prop
  | .panic v fr H=>Q (.panic v fr.clear H)
  | r=>Q r
theorem Mem.get_add_same (H:Mem) (b:Blk) : (H.add b).get H.next=some b:=by
  obtain ⟨t,n⟩:=H
  cases t with
  | tr t =>
    show get4 (u4 t n (.v n b)) n=some b
    unfold get4
    rw [at4_same]
    simp [leaf]
  | fn g=>exact if_pos rfl
variable {P:Program} {W:WF} {ops:Array Oper} {g:Nat→Option AV} {ds:List Dfr} {Q:Out→Prop} {S:Nat} {res:ResF} {H:Mem} {held:List Nat} {als:Als} {alsP:AlP} {i:Nat} {o:Oper}
structure PI (ops:Array Oper) (S:Nat) (res:ResF) : Prop where
  un:∀ j,S.testBit j=false→res j=none
  dn:∀ j,S.testBit j=true→∃ v,res j=some v
  down:∀ j k,S.testBit j=true→isAnc (ancs [] ops.toList) j k=true→S.testBit k=true
noncomputable def Gs (ops:Array Oper) (g:Nat→Option AV) (S:Nat) (res:ResF) : Nat→Option AV:=fun t=>match writer t ops.toList 0 with
  | some j=>(match S.testBit j with | true=>res j | false=>g t)
  | none=>g t
theorem bit_or {i j:Nat} : (S ||| 2 ^ i).testBit j=(S.testBit j || decide (i=j)):=by rw [Nat.testBit_or,Nat.testBit_two_pow]
theorem PI.step (h:PI ops S res) (hi:S.testBit i=false) (ha:∀ j,isAnc (ancs [] ops.toList) i j=true→S.testBit j=true) (v:AV) : PI ops (S ||| 2 ^ i) (rput res i v):=by
  refine ⟨fun j hj=>?_,fun j hj=>?_,fun j k hj hk=>?_⟩
  · rw [bit_or,Bool.or_eq_false_iff] at hj
    have hne:¬j=i:=fun e=>of_decide_eq_false hj.2 e.symm
    unfold rput
    rw [if_neg hne]
    exact h.un j hj.1
  · unfold rput
    by_cases e:j=i
    · rw [if_pos e]; exact ⟨v,rfl⟩
    · rw [if_neg e]
      rw [bit_or] at hj
      have:¬i=j:=fun e'=>e e'.symm
      simp [this] at hj
      exact h.dn j hj
  · rw [bit_or] at hj ⊢
    by_cases e:i=j
    · subst e; rw [ha k hk]; rfl
    · simp [e] at hj
      rw [h.down j k hj hk]; rfl
theorem fit_writer (hfit:fit ops.toList ops.toList 0=true) (ho:ops[i]?=some o) {d:Tmp} (hd:o.dst=some d) : writer d ops.toList 0=some i:=by
  have hone:=fit_spec hfit i o (toList_at.2 ho)
  unfold fitOne at hone
  simp only [Bool.and_eq_true] at hone
  have h:=hone.1.1.1
  rw [hd] at h
  dsimp only at h
  split at h
  · rename_i j hj
    rw [hj]
    have:=Nat.eq_of_beq_eq_true h
    rw [Nat.zero_add] at this
    rw [this]
  · cases h
theorem put_eq (hfit:fit ops.toList ops.toList 0=true) (ho:ops[i]?=some o) (v:AV) :
    (Fr.f (Gs ops g S res) ds).put o.dst v=.f (Gs ops g (S ||| 2 ^ i) (rput res i v)) ds:=by
  have other:∀ t,o.dst≠some t→Gs ops g (S ||| 2 ^ i) (rput res i v) t=Gs ops g S res t:=by
    intro t ht
    unfold Gs
    split
    · rename_i j hj
      obtain ⟨_,oj,hoj,hdj⟩:=writer_spec hj
      have hji:¬i=j:=by
        intro e
        subst e
        have hoj' : ops[i]?=some oj:=toList_at.1 (by simpa using hoj)
        rw [ho] at hoj'
        cases hoj'
        exact ht hdj
      rw [bit_or]
      simp only [hji,decide_false,Bool.or_false]
      unfold rput
      rw [if_neg (fun e=>hji e.symm)]
    · rfl
  cases hd:o.dst with
  | none =>
    show Fr.f (Gs ops g S res) ds=_
    congr 1
    funext t
    exact (other t (by rw [hd]; simp)).symm
  | some d =>
    show Fr.f (fput (Gs ops g S res) d v) ds=_
    congr 1
    funext t
    unfold fput
    by_cases e:t=d
    · subst e
      rw [if_pos rfl]
      unfold Gs
      rw [fit_writer hfit ho hd]
      dsimp only
      rw [bit_or]
      simp [rput]
    · rw [if_neg e]
      exact (other t (by rw [hd]; intro e'; exact e (Option.some.inj e').symm)).symm
theorem mem_tmps {t:Tmp} (h:Operand.tmp t∈o.op.operands.toList) : t∈tmpsOf o:=List.mem_filterMap.2 ⟨_,h,rfl⟩
theorem ev_eq (h:PI ops S res) (hi:S.testBit i=false) (ha:∀ j,isAnc (ancs [] ops.toList) i j=true→S.testBit j=true)
    (hc:(tmpsOf o).all (cmpW (ancs [] ops.toList) ops.toList i)=true) : ∀ x∈o.op.operands.toList,(Fr.f (Gs ops g S res) ds).ev x=envF ops (ancs [] ops.toList) (.f g ds) res i x:=by
  intro x hx
  cases x with
  | tmp t =>
    have hct:=List.all_eq_true.1 hc t (mem_tmps hx)
    show Gs ops g S res t=envTF ops (ancs [] ops.toList) (.f g ds) res i t
    unfold cmpW at hct
    unfold Gs envTF
    split at hct
    · rename_i hw; rw [hw]; rfl
    · rename_i j hw
      rw [hw]
      dsimp only
      cases hb:isAnc (ancs [] ops.toList) i j with
      | true=>rw [ha j hb]
      | false =>
        rw [hb,Bool.false_or] at hct
        rw [hct]
        have:S.testBit j=false:=by
          cases hs:S.testBit j with
          | false=>rfl
          | true =>
            exfalso
            rcases Bool.or_eq_true _ _ ▸ hct with h1 | h1
            · rw [h.down j i hs h1] at hi; cases hi
            · have:=Nat.eq_of_beq_eq_true h1
              subst this; rw [hs] at hi; cases hi
        rw [this]
        rfl
  | const c=>rfl
  | global c=>rfl
  | func f=>rfl
theorem ev_again (h:PI ops S res) (hi:S.testBit i=true)
    (hc:(tmpsOf o).all (ahead (ancs [] ops.toList) ops.toList i)=true) : ∀ x∈o.op.operands.toList,(Fr.f (Gs ops g S res) ds).ev x=envF ops (ancs [] ops.toList) (.f g ds) res i x:=by
  intro x hx
  cases x with
  | tmp t =>
    have hct:=List.all_eq_true.1 hc t (mem_tmps hx)
    show Gs ops g S res t=envTF ops (ancs [] ops.toList) (.f g ds) res i t
    unfold ahead at hct
    unfold Gs envTF
    split at hct
    · rename_i hw; rw [hw]; rfl
    · rename_i j hw
      rw [hw]
      dsimp only
      rw [hct,h.down i j hi hct]
  | const c=>rfl
  | global c=>rfl
  | func f=>rfl
theorem env_stable (h:PI ops S res) (hi:S.testBit i=true) {k:Nat} (hk:S.testBit k=false) (v:AV) (fr:Fr) : envF ops (ancs [] ops.toList) fr (rput res k v) i=envF ops (ancs [] ops.toList) fr res i:=by
  funext x
  cases x with
  | tmp t =>
    show envTF ops (ancs [] ops.toList) fr (rput res k v) i t=envTF ops (ancs [] ops.toList) fr res i t
    unfold envTF
    split
    · rfl
    · rename_i j hw
      cases hb:isAnc (ancs [] ops.toList) i j with
      | true =>
        dsimp only
        unfold rput
        rw [if_neg]
        intro e
        subst e
        rw [h.down i j hi hb] at hk; cases hk
      | false=>rfl
  | const c=>rfl
  | global c=>rfl
  | func f=>rfl
theorem topo_anc {tab:List Nat} (h:Nat.beq ((tab.getD i 0) &&& S) (tab.getD i 0)=true) : ∀ j,isAnc tab i j=true→S.testBit j=true:=by
  intro j hj
  have e:=Nat.eq_of_beq_eq_true h
  unfold isAnc at hj
  rw [← e,Nat.testBit_and,Bool.and_eq_true] at hj
  exact hj.2
theorem flatAll_spec {tab:List Nat} {opl:List Oper} : ∀ {l:List Oper} {k:Nat},flatAll P tab opl l k=true→∀ i o,l[i]?=some o→flatOne P tab opl o (k+i)=true
  | [],_,_,i,o,h=>by simp at h
  | x :: l,k,h,i,o,ho=>by
    simp only [flatAll,Bool.and_eq_true] at h
    cases i with
    | zero=>simp at ho; subst ho; exact h.1
    | succ i =>
      have:=flatAll_spec h.2 i o (by simpa using ho)
      rw [show k+(i+1)=k+1+i by omega]; exact this
theorem byGuard_to {x:Option AV} {w:Bool} {A B yes no:Prop} (h:byGuard x w A B) (h1:x=some (.lit (.bool w))→A→yes) (h2:B→no) : byGuard x w yes no:=by
  unfold byGuard at h ⊢
  split at h
  · rename_i b
    exact ⟨fun e=>h1 (by rw [e]) (h.1 e),fun e=>h2 (h.2 e)⟩
  · exact h2 h
  · exact h.elim
theorem slot_eq (hfit:fit ops.toList ops.toList 0=true) (ho:ops[i]?=some o) {gd:Nat×Bool} (hg:o.guard=some gd) (hS:S.testBit gd.1=true) :
    guardSlot ops (.f (Gs ops g S res) ds) gd.1=res gd.1:=by
  have hone:=fit_spec hfit i o (toList_at.2 ho)
  unfold fitOne at hone
  simp only [Bool.and_eq_true] at hone
  have h:=hone.2
  rw [hg] at h
  dsimp only at h
  unfold guardSlot
  cases hj:ops[gd.1]? with
  | none =>
    have hj' : ops.toList[gd.1]?=none:=by rw [Array.getElem?_toList]; exact hj
    rw [hj'] at h; cases h
  | some oj =>
    have hj' : ops.toList[gd.1]?=some oj:=toList_at.2 hj
    rw [hj'] at h
    dsimp only at h ⊢
    cases hd:oj.dst with
    | none=>rw [hd] at h; cases h
    | some d =>
      show Gs ops g S res d=res gd.1
      unfold Gs
      rw [fit_writer hfit hj hd]
      dsimp only
      rw [hS]
end Go.Ai
end
section
namespace Go.Ai
variable {P:Program} {W:WF} {ops:Array Oper} {g:Nat→Option AV} {ds:List Dfr} {Q:Out→Prop} {S:Nat} {res:ResF} {H:Mem} {held:List Nat} {als:Als} {alsP:AlP} {i:Nat} {o:Oper} {s:Hs}
def Rq (P:Program) (ops:Array Oper) (g:Nat→Option AV) (ds:List Dfr) (H:Mem) (res:ResF) (i:Nat) : Prop :=
  ∃ o v,ops[i]?=some o∧res i=some v∧quiet P H (envF ops (ancs [] ops.toList) (.f g ds) res i) o=some v
def Ran (ops:Array Oper) (res:ResF) (i:Nat) : Prop:=∃ o,ops[i]?=some o∧cls o.op=.read∧∀ gd,o.guard=some gd→res gd.1=some (.lit (.bool gd.2))
structure PS (P:Program) (ops:Array Oper) (g:Nat→Option AV) (ds:List Dfr) (s:Hs) (S:Nat) (res:ResF) (H:Mem) (held:List Nat) (als:Als) (alsP:AlP) : Prop where
  pi:PI ops S res
  hd:∀ i∈held,S.testBit i=true∧Ran ops res i∧(i∈s.di∨(i∈s.cl∧Rq P ops g ds H res i))
  al:∀ x∈als,(x.1,x.2.1,some x.2.2)∈alsP∧(x.1∈s.adi∨(x.1∈s.acl∧H.get x.2.1=some x.2.2))
theorem rput_keep {k:Nat} {v:AV} (h:res k=none) : GrF res (rput res k v):=by
  intro j y hj
  unfold rput
  by_cases e:j=k
  · subst e; rw [h] at hj; cases hj
  · rw [if_neg e]; exact hj
theorem Ran.grow {res' : ResF} (h:Ran ops res i) (hg:GrF res res') : Ran ops res' i:=by
  obtain ⟨o,h1,h2,h3⟩:=h
  exact ⟨o,h1,h2,fun gd e=>hg _ _ (h3 gd e)⟩
theorem Rq.grow {k:Nat} {v:AV} (hp:PI ops S res) (hi:S.testBit i=true) (hk:S.testBit k=false) (h:Rq P ops g ds H res i) : Rq P ops g ds H (rput res k v) i:=by
  obtain ⟨o,y,h1,h2,h3⟩:=h
  refine ⟨o,y,h1,rput_keep (hp.un k hk) _ _ h2,?_⟩
  rw [env_stable hp hi hk]; exact h3
theorem PS.step (h:PS P ops g ds s S res H held als alsP) (hi:S.testBit i=false) (ha:∀ j,isAnc (ancs [] ops.toList) i j=true→S.testBit j=true) (v:AV) :
    PS P ops g ds s (S ||| 2 ^ i) (rput res i v) H held als alsP :=
  ⟨h.pi.step hi ha v,fun j hj=>let ⟨a,b,c⟩:=h.hd j hj; ⟨by rw [bit_or,a]; rfl,b.grow (rput_keep (h.pi.un i hi)),c.imp id fun ⟨d,e⟩=>⟨d,e.grow h.pi a hi⟩⟩,h.al⟩
theorem PS.soil {H' : Mem} {acl:List Nat} {cl:List Nat} (h:PS P ops g ds s S res H held als alsP) (p:Nat×Nat×Option Blk) : PS P ops g ds ⟨cl,s.cl++s.di,acl,s.acl++s.adi⟩ S res H' held als (p :: alsP) :=
  ⟨h.pi,fun j hj=>let ⟨a,b,c⟩:=h.hd j hj; ⟨a,b,.inl (by rcases c with c | ⟨c,_⟩ <;> simp [c])⟩,
    fun x hx=>let ⟨a,c⟩:=h.al x hx; ⟨List.mem_cons_of_mem _ a,.inl (by rcases c with c | ⟨c,_⟩ <;> simp [c])⟩⟩
variable {KW:StW} {K:Hs→List It}
theorem plan_stage (hfit:fit ops.toList ops.toList 0=true) (hall:flatAll P (ancs [] ops.toList) ops.toList ops.toList 0=true)
    (hK:∀ s S res H held als alsP,PS P ops g ds s S res H held als alsP→topo (ancs [] ops.toList) ops.toList S (K s)=true→planW P W ops Q (K s) (.f (Gs ops g S res) ds) H alsP→KW res H held als) :
    ∀ (L:List Nat) (s:Hs) (S:Nat) (res:ResF) (H:Mem) (held:List Nat) (als:Als) (alsP:AlP),(∀ i∈L,∃ o,ops[i]?=some o∧isChain o.op=false∧cls o.op≠.no) →
      PS P ops g ds s S res H held als alsP→topo (ancs [] ops.toList) ops.toList S (planStage ops.toList L s K)=true→planW P W ops Q (planStage ops.toList L s K) (.f (Gs ops g S res) ds) H alsP →
      stageW P ops (ancs [] ops.toList) (.f g ds) KW L res H held als
  | [],s,S,res,H,held,als,alsP,_,ps,ht,hp=>hK s S res H held als alsP ps ht hp
  | i :: L,s,S,res,H,held,als,alsP,hL,ps,ht,hp=>by
    obtain ⟨o,ho,hch,hno⟩:=hL i (by simp)
    have hL' : ∀ j∈L,∃ o,ops[j]?=some o∧isChain o.op=false∧cls o.op≠.no:=fun j hj=>hL j (by simp [hj])
    have hone:=flatAll_spec hall i o (toList_at.2 ho)
    rw [Nat.zero_add] at hone
    unfold flatOne at hone
    simp only [Bool.and_eq_true] at hone
    obtain ⟨⟨hcmp,hgd⟩,hcv⟩:=hone
    have hnc:cls o.op≠.chain:=by intro e; unfold isChain at hch; rw [e] at hch; cases hch
    have step:∀ {k:Fr→Mem→Prop} {yes no:Prop},(∀ j,isAnc (ancs [] ops.toList) i j=true→S.testBit j=true)→S.testBit i=false→oneW P W ops o (.f (Gs ops g S res) ds) H k Q →
        ((∀ gd,o.guard=some gd→res gd.1=some (.lit (.bool gd.2)))→afterW W o (.f (Gs ops g S res) ds) k Q (opV P H (envF ops (ancs [] ops.toList) (.f g ds) res i) o)→yes) →
        (k (.f (Gs ops g (S ||| 2 ^ i) (rput res i (.lit undef))) ds) H→no)→wantedW (ancs [] ops.toList) res i o yes no:=by
      intro k yes no ha hi h h1 h2
      have hev:=opV_evs (P:=P) (H:=H) (noSelect hno) (ev_eq (g:=g) (ds:=ds) ps.pi hi ha hcmp)
      unfold oneW at h
      unfold wantedW
      split at h
      · rename_i hg
        rw [hev] at h
        exact h1 (fun gd e=>by rw [hg] at e; cases e) h
      · rename_i gd hg
        rw [hg] at hgd
        dsimp only at hgd
        rw [slot_eq hfit ho hg (ha _ hgd),put_eq hfit ho,hev] at h
        exact ⟨hgd,byGuard_to h (fun e=>h1 fun gd' e'=>by rw [hg] at e'; cases e'; exact e) h2⟩
    have quietCase:cls o.op≠.alloc→∀ {k:Fr→Mem→Prop},afterW W o (.f (Gs ops g S res) ds) k Q (opV P H (envF ops (ancs [] ops.toList) (.f g ds) res i) o) →
        ∃ v,quiet P H (envF ops (ancs [] ops.toList) (.f g ds) res i) o=some v∧k (.f (Gs ops g (S ||| 2 ^ i) (rput res i v)) ds) H:=by
      intro hna k h
      rcases quiet_form (P:=P) (H:=H) (ev:=envF ops (ancs [] ops.toList) (.f g ds) res i) hnc hno hna hcv with hb | ⟨v,hv,hq⟩
      · rw [hb] at h; exact h.elim
      · rw [hv] at h
        refine ⟨v,hq,?_⟩
        have h' : k ((Fr.f (Gs ops g S res) ds).put o.dst v) H:=h
        rw [put_eq hfit ho] at h'
        exact h'
    have ho' : ops.toList[i]?=some o:=toList_at.2 ho
    unfold stageW stepW
    rw [ho]
    dsimp only
    unfold planStage at ht hp
    rw [ho'] at ht hp
    dsimp only at ht hp
    cases hcl:cls o.op with
    | chain=>exact absurd hcl hnc
    | no=>exact absurd hcl hno
    | alloc =>
      rw [hcl] at ht hp
      simp only [topo,Bool.and_eq_true] at ht
      obtain ⟨⟨h1,h2⟩,ht⟩:=ht
      have hi:S.testBit i=false:=by simpa using h1
      have ha:=topo_anc h2
      unfold planW at hp
      rw [ho] at hp
      dsimp only at hp ⊢
      refine step ha hi hp ?_ ?_
      · intro hgr h
        have hvb:=vb_alloc (P:=P) (H:=H) (ev:=envF ops (ancs [] ops.toList) (.f g ds) res i) hcl
        cases hv:opV P H (envF ops (ancs [] ops.toList) (.f g ds) res i) o with
        | val v H' =>
          rw [hv] at h
          obtain ⟨f,x,e1,e2,_⟩:=alloc_sound (B:=0) hcl hv
          have h' : planW P W ops Q (planStage ops.toList L ⟨[],s.cl++s.di,[i],s.acl++s.adi⟩ K) ((Fr.f (Gs ops g S res) ds).put o.dst v) H' ((i,H.next,H'.get H.next) :: alsP):=h
          rw [put_eq hfit ho] at h'
          have hget:H'.get H.next=some x:=by rw [e2]; exact Mem.get_add_same _ _
          unfold allocW
          dsimp only
          rw [hget]
          refine ⟨ps.pi.un i hi,?_⟩
          refine plan_stage hfit hall hK L _ _ _ _ _ _ _ hL' ?_ ht h'
          have p1:=(ps.step hi ha v).soil (H':=H') (acl:=[i]) (cl:=[]) (i,H.next,H'.get H.next)
          refine ⟨p1.pi,p1.hd,fun y hy=>?_⟩
          rcases List.mem_cons.1 hy with rfl | hy
          · exact ⟨by rw [hget]; simp,.inr ⟨by simp,hget⟩⟩
          · exact p1.al y hy
        | bad=>rw [hv] at h; exact h.elim
        | _=>rw [hv] at hvb; cases hvb
      · intro h
        refine ⟨ps.pi.un i hi,?_⟩
        exact plan_stage hfit hall hK L _ _ _ _ _ _ _ hL' ((ps.step hi ha _).soil _) ht h
    | read =>
      rw [hcl] at ht hp
      simp only [topo,Bool.and_eq_true] at ht
      obtain ⟨⟨h1,h2⟩,ht⟩:=ht
      have hi:S.testBit i=false:=by simpa using h1
      have ha:=topo_anc h2
      unfold planW at hp
      rw [ho] at hp
      dsimp only at hp ⊢
      refine step ha hi hp ?_ ?_
      · intro hgr h
        obtain ⟨v,hq,h'⟩:=quietCase (by rw [hcl]; simp) h
        unfold quietW
        rw [hq]
        refine ⟨ps.pi.un i hi,?_⟩
        refine plan_stage hfit hall hK L _ _ _ _ _ _ _ hL' ?_ ht h'
        have p1:=ps.step hi ha v
        refine ⟨p1.pi,fun j hj=>?_,p1.al⟩
        rcases List.mem_cons.1 hj with rfl | hj
        · refine ⟨by rw [bit_or]; simp,⟨o,ho,hcl,fun gd e=>rput_keep (ps.pi.un _ hi) _ _ (hgr gd e)⟩,.inr ⟨by simp,o,v,ho,if_pos rfl,?_⟩⟩
          have:envF ops (ancs [] ops.toList) (.f g ds) (rput res j v) j=envF ops (ancs [] ops.toList) (.f g ds) res j:=by
            funext x
            cases x with
            | tmp t =>
              show envTF ops (ancs [] ops.toList) (.f g ds) (rput res j v) j t=envTF ops (ancs [] ops.toList) (.f g ds) res j t
              unfold envTF
              split
              · rfl
              · rename_i k hw
                cases hb:isAnc (ancs [] ops.toList) j k with
                | true =>
                  dsimp only
                  unfold rput
                  rw [if_neg]
                  intro e
                  subst e
                  rw [ha _ hb] at hi; cases hi
                | false=>rfl
            | const c=>rfl
            | global c=>rfl
            | func f=>rfl
          rw [this]; exact hq
        · obtain ⟨a,b,c⟩:=p1.hd j hj
          exact ⟨a,b,c.imp id fun ⟨d,e⟩=>⟨by simp [d],e⟩⟩
      · intro h
        refine ⟨ps.pi.un i hi,?_⟩
        refine plan_stage hfit hall hK L _ _ _ _ _ _ _ hL' ?_ ht h
        have p1:=ps.step hi ha (.lit undef)
        exact ⟨p1.pi,fun j hj=>let ⟨a,b,c⟩:=p1.hd j hj; ⟨a,b,c.imp id fun ⟨d,e⟩=>⟨by simp [d],e⟩⟩,p1.al⟩
    | free =>
      rw [hcl] at ht hp
      simp only [topo,Bool.and_eq_true] at ht
      obtain ⟨⟨h1,h2⟩,ht⟩:=ht
      have hi:S.testBit i=false:=by simpa using h1
      have ha:=topo_anc h2
      unfold planW at hp
      rw [ho] at hp
      dsimp only at hp ⊢
      refine step ha hi hp ?_ ?_
      · intro hgr h
        obtain ⟨v,hq,h'⟩:=quietCase (by rw [hcl]; simp) h
        unfold quietW
        rw [hq]
        exact ⟨ps.pi.un i hi,plan_stage hfit hall hK L _ _ _ _ _ _ _ hL' (ps.step hi ha v) ht h'⟩
      · intro h
        exact ⟨ps.pi.un i hi,plan_stage hfit hall hK L _ _ _ _ _ _ _ hL' (ps.step hi ha _) ht h⟩
    | gen =>
      rw [hcl] at ht hp
      simp only [topo,Bool.and_eq_true] at ht
      obtain ⟨⟨h1,h2⟩,ht⟩:=ht
      have hi:S.testBit i=false:=by simpa using h1
      have ha:=topo_anc h2
      unfold planW at hp
      rw [ho] at hp
      dsimp only at hp ⊢
      refine step ha hi hp ?_ ?_
      · intro hgr h
        obtain ⟨v,hq,h'⟩:=quietCase (by rw [hcl]; simp) h
        unfold quietW
        rw [hq]
        exact ⟨ps.pi.un i hi,plan_stage hfit hall hK L _ _ _ _ _ _ _ hL' (ps.step hi ha v) ht h'⟩
      · intro h
        exact ⟨ps.pi.un i hi,plan_stage hfit hall hK L _ _ _ _ _ _ _ hL' (ps.step hi ha _) ht h⟩
end Go.Ai
end
section
namespace Go.Ai
variable {P:Program} {W:WF} {ops:Array Oper} {g:Nat→Option AV} {ds:List Dfr} {Q:Out→Prop} {S:Nat} {res:ResF} {H:Mem} {held:List Nat} {als:Als} {alsP:AlP} {i:Nat} {o:Oper} {s:Hs} {K:Hs→List It}
theorem recheck_of {tab:List Nat} {fr:Fr} : ∀ {held:List Nat},(∀ i∈held,∃ o v,ops[i]?=some o∧res i=some v∧quiet P H (envF ops tab fr res i) o=some v)→recheckW P ops tab fr res H held
  | [],_=>trivial
  | i :: l,h=>by
    obtain ⟨o,v,h1,h2,h3⟩:=h i (by simp)
    refine ⟨?_,recheck_of fun j hj=>h j (by simp [hj])⟩
    rw [h1]
    exact ⟨v,h2,h3⟩
theorem stays_of:∀ {als:Als},(∀ x∈als,H.get x.2.1=some x.2.2)→staysW H als
  | [],_=>trivial
  | (a,b,c) :: l,h=>⟨h (a,b,c) (by simp),stays_of fun y hy=>h y (by simp [hy])⟩
theorem still_mem {tab:List Nat} {c i:Nat} : ∀ {held:List Nat},i∈still tab c held→i∈held∧isAnc tab c i=false
  | [],h=>by cases h
  | j :: held,h=>by
    unfold still at h
    split at h
    · obtain ⟨a,b⟩:=still_mem h; exact ⟨by simp [a],b⟩
    · rename_i hb
      rcases List.mem_cons.1 h with rfl | h
      · exact ⟨by simp,hb⟩
      · obtain ⟨a,b⟩:=still_mem h; exact ⟨by simp [a],b⟩
theorem stillA_mem {tab:List Nat} {c:Nat} : ∀ {als:Als} {x:Nat×Nat×Blk},x∈stillA tab c als→x∈als∧isAnc tab c x.1=false
  | [],_,h=>by cases h
  | y :: als,x,h=>by
    unfold stillA at h
    split at h
    · obtain ⟨a,b⟩:=stillA_mem h; exact ⟨by simp [a],b⟩
    · rename_i hb
      rcases List.mem_cons.1 h with rfl | h
      · exact ⟨by simp,hb⟩
      · obtain ⟨a,b⟩:=stillA_mem h; exact ⟨by simp [a],b⟩
theorem again_mem {fr:Fr} : ∀ {hs:List Nat},againW P W ops fr H hs→∀ i∈hs,∃ o,ops[i]?=some o∧oneW P W ops o fr H (fun fr' _=>slotOf fr' o.dst=slotOf fr o.dst) (fun _=>False)
  | j :: hs,h,i,hi=>by
    rcases List.mem_cons.1 hi with rfl | hi
    · have h1:=h.1
      split at h1
      · rename_i o ho; exact ⟨o,ho,h1⟩
      · exact h1.elim
    · exact again_mem h.2 i hi
theorem kept_mem {as:List Nat} : ∀ {l:AlP},keptW H as l→∀ x∈l,x.1∈as→H.get x.2.1=x.2.2
  | (i,a,b) :: l,h,x,hx,hm=>by
    rcases List.mem_cons.1 hx with rfl | hx
    · exact h.1 hm
    · exact kept_mem h.2 x hx hm
theorem again_Rq (hfit:fit ops.toList ops.toList 0=true) (hall:flatAll P (ancs [] ops.toList) ops.toList ops.toList 0=true) (hp:PI ops S res) (hi:S.testBit i=true) (hr:Ran ops res i)
    (hag:againFit (ancs [] ops.toList) ops.toList i=true) (ho:ops[i]?=some o) (h:oneW P W ops o (.f (Gs ops g S res) ds) H (fun fr' _=>slotOf fr' o.dst=slotOf (.f (Gs ops g S res) ds) o.dst) (fun _=>False)) :
    Rq P ops g ds H res i:=by
  obtain ⟨o',ho',hcl,hg⟩:=hr
  rw [ho] at ho'; cases ho'
  have hone:=flatAll_spec hall i o (toList_at.2 ho)
  rw [Nat.zero_add] at hone
  unfold flatOne at hone
  simp only [Bool.and_eq_true] at hone
  obtain ⟨⟨_,hgd⟩,hcv⟩:=hone
  unfold againFit at hag
  rw [toList_at.2 ho] at hag
  simp only [Bool.and_eq_true] at hag
  obtain ⟨hds,hah⟩:=hag
  obtain ⟨d,hd⟩:=Option.isSome_iff_exists.1 hds
  have hno:cls o.op≠.no:=by rw [hcl]; simp
  have key:afterW W o (.f (Gs ops g S res) ds) (fun fr' _=>slotOf fr' o.dst=slotOf (.f (Gs ops g S res) ds) o.dst) (fun _=>False) (opV P H (Fr.f (Gs ops g S res) ds).ev o)→Rq P ops g ds H res i:=by
    intro h
    rw [opV_evs (P:=P) (H:=H) (noSelect hno) (ev_again (g:=g) (ds:=ds) hp hi hah)] at h
    rcases quiet_form (P:=P) (H:=H) (ev:=envF ops (ancs [] ops.toList) (.f g ds) res i) (o:=o) (by rw [hcl]; simp) hno (by rw [hcl]; simp) hcv with hb | ⟨v,hv,hq⟩
    · rw [hb] at h; exact h.elim
    · rw [hv] at h
      have h' : slotOf ((Fr.f (Gs ops g S res) ds).put o.dst v) o.dst=slotOf (.f (Gs ops g S res) ds) o.dst:=h
      rw [hd] at h'
      have h2:some v=Gs ops g S res d:=by
        rw [show slotOf ((Fr.f (Gs ops g S res) ds).put (some d) v) (some d)=some v from if_pos rfl] at h'
        exact h'
      unfold Gs at h2
      rw [fit_writer hfit ho hd] at h2
      dsimp only at h2
      rw [hi] at h2
      exact ⟨o,v,ho,h2.symm,hq⟩
  unfold oneW at h
  split at h
  · exact key h
  · rename_i gd hgx
    rw [hgx] at hgd
    have hgd' : isAnc (ancs [] ops.toList) i gd.1=true:=hgd
    rw [slot_eq hfit ho hgx (hp.down _ _ hi hgd'),hg gd hgx] at h
    exact key (h.1 rfl)
theorem gateP_ok (hfit:fit ops.toList ops.toList 0=true) (hall:flatAll P (ancs [] ops.toList) ops.toList ops.toList 0=true) (h:PS P ops g ds s S res H held als alsP)
    (ht:topo (ancs [] ops.toList) ops.toList S (gateK s K)=true) (hp:planW P W ops Q (gateK s K) (.f (Gs ops g S res) ds) H alsP) :
    recheckW P ops (ancs [] ops.toList) (.f g ds) res H held∧staysW H als∧∃ s',s'.di=[]∧s'.adi=[]∧PS P ops g ds s' S res H held als alsP ∧
      topo (ancs [] ops.toList) ops.toList S (K s')=true∧planW P W ops Q (K s') (.f (Gs ops g S res) ds) H alsP:=by
  have done:s.di=[]→s.adi=[]→topo (ancs [] ops.toList) ops.toList S (K s)=true→planW P W ops Q (K s) (.f (Gs ops g S res) ds) H alsP→recheckW P ops (ancs [] ops.toList) (.f g ds) res H held∧staysW H als∧∃ s',s'.di=[]∧s'.adi=[]∧PS P ops g ds s' S res H held als alsP ∧
      topo (ancs [] ops.toList) ops.toList S (K s')=true∧planW P W ops Q (K s') (.f (Gs ops g S res) ds) H alsP:=by
    intro e1 e2 ht hp
    refine ⟨recheck_of fun i hi=>?_,stays_of fun x hx=>?_,s,e1,e2,h,ht,hp⟩
    · obtain ⟨_,_,c⟩:=h.hd i hi
      rcases c with c | ⟨_,c⟩
      · rw [e1] at c; cases c
      · exact c
    · obtain ⟨_,c⟩:=h.al x hx
      rcases c with c | ⟨_,c⟩
      · rw [e2] at c; cases c
      · exact c
  have go:topo (ancs [] ops.toList) ops.toList S (.gate s.di s.adi :: K ⟨s.di++s.cl,[],s.adi++s.acl,[]⟩)=true →
      planW P W ops Q (.gate s.di s.adi :: K ⟨s.di++s.cl,[],s.adi++s.acl,[]⟩) (.f (Gs ops g S res) ds) H alsP→recheckW P ops (ancs [] ops.toList) (.f g ds) res H held∧staysW H als∧∃ s',s'.di=[]∧s'.adi=[]∧PS P ops g ds s' S res H held als alsP ∧
      topo (ancs [] ops.toList) ops.toList S (K s')=true∧planW P W ops Q (K s') (.f (Gs ops g S res) ds) H alsP:=by
    intro ht hp
    simp only [topo,Bool.and_eq_true] at ht
    obtain ⟨hag,ht⟩:=ht
    obtain ⟨h1,h2,h3⟩:=hp
    have hR:∀ i∈held,Rq P ops g ds H res i:=by
      intro i hi
      obtain ⟨a,b,c⟩:=h.hd i hi
      rcases c with c | ⟨_,c⟩
      · obtain ⟨o,ho,ho'⟩:=again_mem h1 i c
        exact again_Rq hfit hall h.pi a b (List.all_eq_true.1 hag i c) ho ho'
      · exact c
    have hA:∀ x∈als,H.get x.2.1=some x.2.2:=by
      intro x hx
      obtain ⟨a,c⟩:=h.al x hx
      rcases c with c | ⟨_,c⟩
      · exact kept_mem h2 _ a c
      · exact c
    refine ⟨recheck_of hR,stays_of hA,_,rfl,rfl,⟨h.pi,fun i hi=>?_,fun x hx=>?_⟩,ht,h3⟩
    · obtain ⟨a,b,c⟩:=h.hd i hi
      exact ⟨a,b,.inr ⟨by rcases c with c | ⟨c,_⟩ <;> simp [c],hR i hi⟩⟩
    · obtain ⟨a,c⟩:=h.al x hx
      exact ⟨a,.inr ⟨by rcases c with c | ⟨c,_⟩ <;> simp [c],hA x hx⟩⟩
  unfold gateK at ht hp
  split at ht
  · rename_i e1 e2
    rw [e1,e2] at hp
    exact done e1 e2 ht hp
  · rename_i hne
    split at hp
    · rename_i e1 e2; exact absurd e2 (hne e1)
    · exact go ht hp
def WMono (W:WF) : Prop:=∀ (f:FuncId) (args:List AV) (H:Mem) (K K' : COut→Prop),(∀ r,K r→K' r)→W f args H K→W f args H K'
theorem WC_mono' (G:Nat) (P:Program) : WMono (WC G P):=fun _ _ _ _ _ hk h=>h.mono hk
theorem orW_mono {O:CallF} (h:WMono W) : WMono (orW O W):=by
  intro f args H K K' hk hw
  unfold orW at hw ⊢
  split
  · rename_i e; rw [e] at hw; exact h _ _ _ _ _ hk hw
  · rename_i hne
    split at hw
    · rename_i e; exact absurd e hne
    · exact hk _ hw
theorem act_plan (hW:WMono W) (hfit:fit ops.toList ops.toList 0=true) (hall:flatAll P (ancs [] ops.toList) ops.toList ops.toList 0=true) (hp:PI ops S res) (ho:ops[i]?=some o) (hc:cls o.op=.chain)
    (hi:S.testBit i=false) (ha:∀ j,isAnc (ancs [] ops.toList) i j=true→S.testBit j=true) {k:Fr→Mem→Prop} {K' : ResF→Mem→Prop}
    (h:oneW P W ops o (.f (Gs ops g S res) ds) H k (clearQ Q)) (hK:∀ v H',k (.f (Gs ops g (S ||| 2 ^ i) (rput res i v)) ds) H'→K' (rput res i v) H') :
    actW P W ops (ancs [] ops.toList) (.f g ds) i res H K' Q:=by
  have hone:=flatAll_spec hall i o (toList_at.2 ho)
  rw [Nat.zero_add] at hone
  unfold flatOne at hone
  simp only [Bool.and_eq_true] at hone
  obtain ⟨⟨hcmp,hgd⟩,hcv⟩:=hone
  have hno:cls o.op≠.no:=by rw [hc]; simp
  have hev:=opV_evs (P:=P) (H:=H) (noSelect hno) (ev_eq (g:=g) (ds:=ds) hp hi ha hcmp)
  have put:=fun v=>put_eq (g:=g) (ds:=ds) (S:=S) (res:=res) hfit ho v
  have act:afterW W o (.f (Gs ops g S res) ds) k (clearQ Q) (opV P H (envF ops (ancs [] ops.toList) (.f g ds) res i) o) →
      actRW W (.f g ds) i res K' Q (opV P H (envF ops (ancs [] ops.toList) (.f g ds) res i) o):=by
    intro h
    have hac:=acts_chain (P:=P) (H:=H) (ev:=envF ops (ancs [] ops.toList) (.f g ds) res i) hc
    cases hv:opV P H (envF ops (ancs [] ops.toList) (.f g ds) res i) o with
    | val v H' =>
      rw [hv] at h
      refine ⟨hp.un i hi,hK v H' ?_⟩
      rw [← put]; exact h
    | skip H' =>
      rw [hv] at h
      refine ⟨hp.un i hi,hK _ H' ?_⟩
      rw [← put]; exact h
    | enter f args H' =>
      rw [hv] at h
      refine hW _ _ _ _ _ ?_ h
      intro r hr
      cases r with
      | ret v H2 =>
        refine ⟨hp.un i hi,hK v H2 ?_⟩
        rw [← put]; exact hr
      | panic v H2=>exact hr
      | bad=>exact hr
    | bad=>rw [hv] at h; exact h.elim
    | dfr _ _ _ _=>rw [hv] at hac; cases hac
    | recover=>rw [hv] at hac; cases hac
    | panic _ _=>rw [hv] at hac; cases hac
  unfold actW
  rw [ho]
  dsimp only
  unfold oneW at h
  unfold wantedW
  split at h
  · rename_i hg
    rw [hev] at h
    exact act h
  · rename_i gd hg
    rw [hg] at hgd
    dsimp only at hgd
    rw [slot_eq hfit ho hg (ha _ hgd),put,hev] at h
    exact ⟨hgd,byGuard_to h (fun _=>act) fun h=>⟨hp.un i hi,hK _ _ h⟩⟩
theorem Gs_bits {S' : Nat} (h:∀ j,j < ops.size→S.testBit j=S'.testBit j) : Gs ops g S res=Gs ops g S' res:=by
  funext t
  unfold Gs
  split
  · rename_i j hj
    obtain ⟨_,o,ho,_⟩:=writer_spec hj
    have:j < ops.size:=lt_of_at (toList_at.1 (by simpa using ho))
    rw [h j this]
  · rfl
theorem fin_plan (hfit:fit ops.toList ops.toList 0=true) {KF:Fr→Prop} (hall:∀ j,j < ops.size→∃ v,res j=some v) : ∀ (l:List Oper) (k:Nat),ops.toList.drop k=l→k+l.length=ops.size →
    KF (.f (Gs ops g (2 ^ ops.size - 1) res) ds)→finW res KF l k (.f (Gs ops g (2 ^ k - 1) res) ds)
  | [],k,_,hl,h=>by
    have:k=ops.size:=by simpa using hl
    subst this
    exact h
  | o :: l,k,hk,hl,h=>by
    have hlt:k < ops.size:=by simp at hl; omega
    obtain ⟨v,hv⟩:=hall k hlt
    have hko:ops.toList[k]?=some o:=by
      have:(ops.toList.drop k)[0]?=some o:=by rw [hk]; rfl
      simpa using this
    unfold finW
    rw [hv]
    dsimp only
    rw [put_eq hfit (toList_at.1 hko)]
    have e1:rput res k v=res:=by
      funext j
      unfold rput
      by_cases e:j=k
      · subst e; rw [if_pos rfl,hv]
      · rw [if_neg e]
    rw [e1,Gs_bits (S':=2 ^ (k+1) - 1) (fun j _=>by
      rw [bit_or,Nat.testBit_two_pow_sub_one,Nat.testBit_two_pow_sub_one]
      by_cases e:k=j
      · subst e; simp
      · simp only [e,decide_false,Bool.or_false,decide_eq_decide]; omega)]
    refine fin_plan hfit hall l (k+1) ?_ (by simp at hl; omega) h
    have:=congrArg List.tail hk
    simpa using this
theorem plan_stages (hW:WMono W) (hfit:fit ops.toList ops.toList 0=true) (hall:flatAll P (ancs [] ops.toList) ops.toList ops.toList 0=true) (all:List Nat) :
    ∀ (cs:List Nat) (k:Nat) (s:Hs) (S:Nat) (res:ResF) (H:Mem) (held:List Nat) (als:Als) (alsP:AlP),(∀ c∈cs,∃ o,ops[c]?=some o∧isChain o.op=true) →
      PS P ops g ds s S res H held als alsP→topo (ancs [] ops.toList) ops.toList S (planIn (ancs [] ops.toList) all ops.toList k cs s)=true →
      planW P W ops (clearQ Q) (planIn (ancs [] ops.toList) all ops.toList k cs s) (.f (Gs ops g S res) ds) H alsP →
      stagesW P W ops (ancs [] ops.toList) (.f g ds) all Q k cs res H held als:=by
  intro cs
  induction cs with
  | nil =>
    intro k s S res H held als alsP _ ps ht hp
    rw [stagesW_eq]
    unfold planIn at ht hp
    refine plan_stage hfit hall ?_ _ _ _ _ _ _ _ _ (fun j hj=>?_) ps ht hp
    · intro s S res H held als alsP ps ht hp
      obtain ⟨h1,h2,s',_,_,ps',ht',hp'⟩:=gateP_ok hfit hall ps ht hp
      refine ⟨h1,h2,?_⟩
      have hS:S+1=2 ^ ops.toList.length:=Nat.eq_of_beq_eq_true ht'
      have hS' : S=2 ^ ops.size - 1:=by rw [Array.length_toList] at hS; omega
      have hq:Q (.norm (.f (Gs ops g S res) ds) H):=hp'
      subst hS'
      have hz:Fr.f g ds=.f (Gs ops g (2 ^ 0 - 1) res) ds:=by
        congr 1
        funext t
        unfold Gs
        split
        · rw [show (2 ^ 0 - 1:Nat)=0 from rfl,Nat.zero_testBit]
        · rfl
      show finW res (fun fr=>Q (.norm fr H)) ops.toList 0 (.f g ds)
      rw [hz]
      refine fin_plan hfit (fun j hj=>ps'.pi.dn j ?_) ops.toList 0 rfl (by simp) hq
      rw [Nat.testBit_two_pow_sub_one]; simpa using hj
    · obtain ⟨_,oj,hoj,hcj,_⟩:=mem_stageOf.1 hj
      have hoj' : ops[j]?=some oj:=toList_at.1 (by simpa using hoj)
      exact ⟨oj,hoj',hcj,fit_no hfit hoj'⟩
  | cons c cs ih =>
    intro k s S res H held als alsP hcs ps ht hp
    rw [stagesW_eq]
    unfold planIn at ht hp
    refine plan_stage hfit hall ?_ _ _ _ _ _ _ _ _ (fun j hj=>?_) ps ht hp
    · intro s S res H held als alsP ps ht hp
      obtain ⟨h1,h2,s',e1,e2,ps',ht',hp'⟩:=gateP_ok hfit hall ps ht hp
      refine ⟨h1,h2,?_⟩
      simp only [topo,Bool.and_eq_true] at ht'
      obtain ⟨⟨t1,t2⟩,ht'⟩:=ht'
      have hi:S.testBit c=false:=by simpa using t1
      have ha:=topo_anc t2
      obtain ⟨o,ho,hch⟩:=hcs c (by simp)
      have hcl:cls o.op=.chain:=by
        unfold isChain at hch
        cases h:cls o.op <;> rw [h] at hch <;> first | rfl | cases hch
      unfold planW at hp'
      rw [ho] at hp'
      dsimp only at hp'
      refine act_plan hW hfit hall ps'.pi ho hcl hi ha hp' ?_
      intro v H' hk
      refine ih _ _ _ _ _ _ _ _ (fun c hc=>hcs c (by simp [hc])) ?_ ht' hk
      have p1:=ps'.step hi ha v
      refine ⟨p1.pi,fun j hj=>?_,fun x hx=>?_⟩
      · have hm:j∈held∧isAnc (ancs [] ops.toList) c j=false:=still_mem hj
        obtain ⟨a,b,d⟩:=p1.hd j hm.1
        refine ⟨a,b,.inl ?_⟩
        rcases d with d | ⟨d,_⟩
        · rw [e1] at d; cases d
        · exact List.mem_filter.2 ⟨d,by rw [hm.2]; rfl⟩
      · have hm:x∈als∧isAnc (ancs [] ops.toList) c x.1=false:=stillA_mem hx
        obtain ⟨a,d⟩:=p1.al x hm.1
        refine ⟨a,.inl ?_⟩
        rcases d with d | ⟨d,_⟩
        · rw [e2] at d; cases d
        · exact List.mem_filter.2 ⟨d,by rw [hm.2]; rfl⟩
    · obtain ⟨_,oj,hoj,hcj,_⟩:=mem_stageOf.1 hj
      have hoj' : ops[j]?=some oj:=toList_at.1 (by simpa using hoj)
      exact ⟨oj,hoj',hcj,fit_no hfit hoj'⟩
theorem planW_drawn (hW:WMono W) (hok:flatOk P ops.toList=true) (h:planW P W ops (clearQ Q) (planOf ops.toList) (.f g ds) H []) : drawnW P W ops (.f g ds) H Q:=by
  unfold flatOk at hok
  simp only [Bool.and_eq_true] at hok
  obtain ⟨⟨⟨h1,h2⟩,h3⟩,h4⟩:=hok
  have hfit:fit ops.toList ops.toList 0=true:=by
    unfold planOk at h1
    simp only [Bool.and_eq_true] at h1
    exact h1.2
  have hz:Fr.f g ds=.f (Gs ops g 0 (fun _=>none)) ds:=by
    congr 1
    funext t
    unfold Gs
    split
    · rw [Nat.zero_testBit]
    · rfl
  refine ⟨h1,h2,?_⟩
  unfold planOf at h h4
  rw [hz] at h
  refine plan_stages hW hfit h3 _ _ _ _ 0 _ _ _ _ [] (fun c hc=>?_) ⟨⟨fun _ _=>rfl,fun j hj=>?_,fun j k hj=>?_⟩,fun _ h=>(by cases h),fun _ h=>(by cases h)⟩ h4 h
  · obtain ⟨_,o,ho,hch⟩:=mem_chainOf.1 hc
    exact ⟨o,toList_at.1 (by simpa using ho),hch⟩
  · rw [Nat.zero_testBit] at hj; cases hj
  · rw [Nat.zero_testBit] at hj; cases hj
end Go.Ai
end
section
namespace Go.Ai
open Go.RowKit (Below)
def planAt:List (Nat×List It)→Nat→List It
  | [],_=>[]
  | (k,l) :: r,i=>if k=i then l else planAt r i
def codeOk (P:Program) (plan:List (Nat×List It)) : Code→Bool
  | .region id ops true=>flatOk P ops.toList && decide (planOf ops.toList=planAt plan id)
  | .seq a b=>codeOk P plan a && codeOk P plan b
  | .cond _ a b=>codeOk P plan a && codeOk P plan b
  | .block _ b=>codeOk P plan b
  | .loop b=>codeOk P plan b
  | _=>true
noncomputable def regP (P:Program) (W:WF) (ops:Array Oper) (Q:Out→Prop) (l:List It) (fr:Fr) (H:Mem) : Prop:=match fr with
  | .f g ds=>planW P W ops (clearQ Q) l (.f g ds) H []
  | _=>False
noncomputable def execP (P:Program) (W:WF) (L:LF) (plan:List (Nat×List It)) : Code→Fr→Mem→(Out→Prop)→Prop
  | .skip,fr,H,Q=>Q (.norm fr H)
  | .region _ ops false,fr,H,Q=>seqW P W ops Q ops.toList fr H
  | .region id ops true,fr,H,Q=>regP P W ops Q (planAt plan id) fr H
  | .seq a b,fr,H,Q=>execP P W L plan a fr H (thenW (fun fr H=>execP P W L plan b fr H Q) Q)
  | .cond c a b,fr,H,Q=>condW (fr.ev c) (execP P W L plan a fr H Q) (execP P W L plan b fr H Q)
  | .block id b,fr,H,Q=>execP P W L plan b fr H (inBlockW id Q)
  | .loop b,fr,H,Q=>L b fr H Q
  | .exit id,fr,H,Q=>Q (.exit id fr H)
  | .label _,fr,H,Q=>Q (.norm fr H)
  | .ret,fr,H,Q=>Q (.ret fr H)
  | _,_,_,_=>False
variable {B G:Nat} {P:Program} {n n0:Nat} {ρ0 ρ:Rn} {w0 w:World} {fr:Fr} {H:Mem} {a:Act} {W:WF} {Q:Out→Prop} {plan:List (Nat×List It)}
theorem execP_sound (hW:WOK G P W) (hM:WMono W) (hG:G=P.globals.size) : ∀ (c:Code) (fr:Fr) (H:Mem) (Q:Out→Prop),dstsOk n c=true→codeOk P plan c=true→execP P W (LX G P n) plan c fr H Q→XW G P n c fr H Q:=by
  intro c
  induction c with
  | skip=>intro fr H Q _ _ h B n0 ρ0 w0 ρ a w s; exact wp_skip ⟨_,h,ρ,s⟩
  | region id ops draw =>
    intro fr H Q hd hc h B n0 ρ0 w0 ρ a w s
    cases draw with
    | false=>exact wp_region_list (seqW_sound hW hG ops.toList fr H ρ a w (fun o ho=>List.all_eq_true.1 hd o ho) s h)
    | true =>
      simp only [codeOk,Bool.and_eq_true,decide_eq_true_eq] at hc
      have h' : regP P W ops Q (planAt plan id) fr H:=h
      rw [← hc.2] at h'
      cases fr with
      | f g ds=>exact drawnW_sound hW hG s hd (planW_drawn hM hc.1 h')
      | _=>exact h'.elim
  | seq x y ihx ihy =>
    intro fr H Q hd hc h B n0 ρ0 w0 ρ a w s
    simp only [dstsOk,Bool.and_eq_true] at hd
    simp only [codeOk,Bool.and_eq_true] at hc
    refine wp_seq (Code.wp_mono ?_ (ihx fr H _ hd.1 hc.1 h B n0 ρ0 w0 ρ a w s))
    rintro e a' w' ⟨out,hq,ho⟩
    cases out with
    | norm fr' H' =>
      cases e with
      | normal=>obtain ⟨ρ',s'⟩:=ho; exact ihy fr' H' Q hd.2 hc.2 hq B n0 ρ0 w0 ρ' a' w' s'
      | _=>exact ho.elim
    | exit id fr' H'=>cases e <;> first | exact ho.elim | exact ⟨_,hq,ho⟩
    | ret fr' H'=>cases e <;> first | exact ho.elim | exact ⟨_,hq,ho⟩
    | panic v fr' H'=>cases e <;> first | exact ho.elim | exact ⟨_,hq,ho⟩
    | bad=>exact hq.elim
  | cond cnd x y ihx ihy =>
    intro fr H Q hd hc h B n0 ρ0 w0 ρ a w s
    simp only [dstsOk,Bool.and_eq_true] at hd
    simp only [codeOk,Bool.and_eq_true] at hc
    have h' : condW (fr.ev cnd) (execP P W (LX G P n) plan x fr H Q) (execP P W (LX G P n) plan y fr H Q):=h
    unfold condW at h'
    split at h'
    · rename_i b hev
      have:=s.ev _ _ hev
      cases b with
      | true=>exact wp_cond_true this (ihx fr H Q hd.1 hc.1 (h'.1 rfl) B n0 ρ0 w0 ρ a w s)
      | false=>exact wp_cond_false this (ihy fr H Q hd.2 hc.2 (h'.2 rfl) B n0 ρ0 w0 ρ a w s)
    · exact h'.elim
  | block id b ih =>
    intro fr H Q hd hc h B n0 ρ0 w0 ρ a w s
    refine wp_block (Code.wp_mono ?_ (ih fr H _ hd hc h B n0 ρ0 w0 ρ a w s))
    rintro e a' w' ⟨out,hq,ho⟩
    cases out with
    | norm fr' H'=>cases e <;> first | exact ho.elim | exact ⟨_,hq,ho⟩
    | exit id' fr' H' =>
      cases e with
      | exit id2 =>
        obtain ⟨rfl,ρ',s'⟩:=ho
        have hq' : if id2=id then Q (.norm fr' H') else Q (.exit id2 fr' H'):=hq
        by_cases e:id2=id
        · subst e
          rw [if_pos rfl] at hq'
          simp only [Exit.inBlock,if_true]
          exact ⟨_,hq',ρ',s'⟩
        · rw [if_neg e] at hq'
          simp only [Exit.inBlock,e,if_false]
          exact ⟨_,hq',rfl,ρ',s'⟩
      | _=>exact ho.elim
    | ret fr' H'=>cases e <;> first | exact ho.elim | exact ⟨_,hq,ho⟩
    | panic v fr' H'=>cases e <;> first | exact ho.elim | exact ⟨_,hq,ho⟩
    | bad=>exact hq.elim
  | loop b ih =>
    intro fr H Q hd hc h B n0 ρ0 w0 ρ a w s
    exact LW.wp (h B n0 ρ0 w0 ρ a w s)
  | rangeFunc f ps x y ihx ihy=>intro fr H Q hd hc h; exact h.elim
  | exit id=>intro fr H Q hd hc h B n0 ρ0 w0 ρ a w s; exact wp_exit ⟨_,h,rfl,ρ,s⟩
  | scope b ih=>intro fr H Q hd hc h; exact h.elim
  | label l=>intro fr H Q hd hc h B n0 ρ0 w0 ρ a w s; exact wp_label ⟨_,h,ρ,s⟩
  | goto l=>intro fr H Q hd hc h; exact h.elim
  | ret=>intro fr H Q hd hc h B n0 ρ0 w0 ρ a w s; exact wp_ret ⟨_,h,ρ,s⟩
  | refuse why=>intro fr H Q hd hc h; exact h.elim
theorem LX.roundP {O:CallF} (hO:∀ B,CallOK B G P O) (hG:G=P.globals.size) (plan:List (Nat×List It)) {b:Code} (hd:(dstsOk n b && codeOk P plan b)=true)
    (h:execP P (orW O (WC G P)) (LX G P n) plan b fr H (thenW (fun fr H=>LX G P n b fr H Q) Q)) : LX G P n b fr H Q:=by
  rw [Bool.and_eq_true] at hd
  intro B n0 ρ0 w0 ρ a w s
  refine LW.unroll (Code.wp_mono ?_ (execP_sound (orW_ok hO) (orW_mono (WC_mono' G P)) hG b fr H _ hd.1 hd.2 h B n0 ρ0 w0 ρ a w s))
  rintro e a' w' ⟨out,hq,ho⟩
  cases out with
  | norm fr' H' =>
    cases e with
    | normal=>obtain ⟨ρ',s'⟩:=ho; exact hq B n0 ρ0 w0 ρ' a' w' s'
    | _=>exact ho.elim
  | exit id fr' H'=>cases e <;> first | exact ho.elim | exact ⟨_,hq,ho⟩
  | ret fr' H'=>cases e <;> first | exact ho.elim | exact ⟨_,hq,ho⟩
  | panic v fr' H'=>cases e <;> first | exact ho.elim | exact ⟨_,hq,ho⟩
  | bad=>exact hq.elim
theorem WC.enterP {f:FuncId} {fn:Func} {c:Code} {args:List AV} {K:COut→Prop} {O:CallF} (hO:∀ B,CallOK B G P O) (hG:G=P.globals.size) (plan:List (Nat×List It)) (hf:P.funcs[f]?=some fn) (hb:fn.body=some c)
    (hd:(dstsOk fn.ntmps c && codeOk P plan c)=true) (hl:args.length≤fn.ntmps) (h:execP P (orW O (WC G P)) (LX G P fn.ntmps) plan c (frameW args) H (leaveW P O fn K)) : WC G P f args H K:=by
  rw [Bool.and_eq_true] at hd
  intro B ρ us w s hv
  have s1:St B G fn.ntmps H.next ρ w ρ (frameW args) H { tmps:=us++Array.replicate (fn.ntmps - us.size) undef,defers:=[] } w:=⟨Ext.refl _ _ _ _,s,frameW_entered hv hl,Nat.le_refl _⟩
  refine calls_of_wp_defers hf hb (Code.wp_mono ?_ (execP_sound (orW_ok hO) (orW_mono (WC_mono' G P)) hG c _ H _ hd.1 hd.2 h B H.next ρ w ρ _ w s1))
  rintro e a' w' ⟨out,hq,ho⟩
  have fin:∀ {fr' : Fr} {u:Mode} {H' : Mem} {ρ' : Rn} {m:FrameMode},(match leave P O (fun _ _ _=>.bad) fn fr' fr'.defers u H' with | .bad=>False | r=>K r)→St B G fn.ntmps H.next ρ w ρ' fr' H' a' w'→MR ρ' u m →
      Leaves P fn a'.tmps (fun e w'=>∃ r,K r∧CPost B G H.next ρ w r e w') a'.defers m w':=by
    intro fr' u H' ρ' m hm s' hmr
    have key:∀ r,leave P O (fun _ _ _=>.bad) fn fr' fr'.defers u H'=r→r≠.bad→K r→Leaves P fn a'.tmps (fun e w'=>∃ r,K r∧CPost B G H.next ρ w r e w') a'.defers m w':=by
      intro r hr hne hk
      refine Leaves_mono (fun e w' hc=>⟨r,hk,hc⟩) ?_
      exact leave_sound (hO B) (badLoop_ok B G P) hG hne _ _ u H' ρ' m w' s'.frel.dfr s' hmr hr
    generalize hr:leave P O (fun _ _ _=>.bad) fn fr' fr'.defers u H'=r at hm
    cases r with
    | bad=>exact hm.elim
    | ret v H2=>exact key _ hr (by simp) hm
    | panic v H2=>exact key _ hr (by simp) hm
  cases out with
  | norm fr' H' =>
    cases e with
    | normal=>obtain ⟨ρ',s'⟩:=ho; exact fin (u:=.returning) (m:=.returning) hq s' rfl
    | _=>exact ho.elim
  | ret fr' H' =>
    cases e with
    | ret=>obtain ⟨ρ',s'⟩:=ho; exact fin (u:=.returning) (m:=.returning) hq s' rfl
    | _=>exact ho.elim
  | panic v fr' H' =>
    cases e with
    | panic chain=>obtain ⟨ρ',x,rfl,hx,s'⟩:=ho; exact fin (u:=.panicking v) hq s' ⟨x,rfl,hx⟩
    | _=>exact ho.elim
  | exit id fr' H'=>exact hq.elim
  | bad=>exact hq.elim
end Go.Ai
end
section
namespace Go.Ai
variable {P:Program} {W:WF} {L:LF} {Q:Out→Prop} {fr:Fr} {H:Mem} {plan:List (Nat×List It)} {ops:Array Oper} {al:AlP}
theorem execP_congr {tk:Nat} (_h0:tick=tk) {c:Code} {fr fr' : Fr} {H H' : Mem} (h1:fr=fr') (h2:H=H') : execP P W L plan c fr H Q=execP P W L plan c fr' H' Q:=by rw [h1,h2]
theorem planW_congr {tk:Nat} (_h0:tick=tk) {l:List It} {fr fr' : Fr} {H H' : Mem} (h1:fr=fr') (h2:H=H') : planW P W ops Q l fr H al=planW P W ops Q l fr' H' al:=by rw [h1,h2]
theorem againW_congr {tk:Nat} (_h0:tick=tk) {l:List Nat} {fr fr' : Fr} {H H' : Mem} (h1:fr=fr') (h2:H=H') : againW P W ops fr H l=againW P W ops fr' H' l:=by rw [h1,h2]
theorem regP_congr {tk:Nat} (_h0:tick=tk) {l l' : List It} {fr fr' : Fr} {H H' : Mem} (h0:l=l') (h1:fr=fr') (h2:H=H') : regP P W ops Q l fr H=regP P W ops Q l' fr' H':=by rw [h0,h1,h2]
theorem clearQ_congr {tk:Nat} (_h0:tick=tk) {o o' : Out} (h:o=o') : clearQ Q o=clearQ Q o':=by rw [h]
def atW (l:List Oper) (i:Nat) (k:Oper→Prop) : Prop:=match l[i]? with | some o=>k o | none=>False
theorem atW_zero {o:Oper} {l:List Oper} {k:Oper→Prop} : atW (o :: l) 0 k=k o:=(rfl)
theorem atW_succ {o:Oper} {l:List Oper} {n:Nat} {k:Oper→Prop} : atW (o :: l) (n+1) k=atW l n k:=(rfl)
theorem atW_congr {tk:Nat} (_h0:tick=tk) {l:List Oper} {i:Nat} {k:Oper→Prop} : atW l i k=atW l i k:=rfl
attribute [congr] execP_congr planW_congr againW_congr regP_congr clearQ_congr atW_congr
theorem execP_skip:execP P W L plan .skip fr H Q=Q (.norm fr H):=(rfl)
theorem execP_region {id:Nat} {l:List Oper} : execP P W L plan (.region id l.toArray false) fr H Q=seqW P W l.toArray Q l fr H:=(rfl)
theorem execP_drawn {id:Nat} : execP P W L plan (.region id ops true) fr H Q=regP P W ops Q (planAt plan id) fr H:=(rfl)
theorem execP_seq {a b:Code} : execP P W L plan (.seq a b) fr H Q=execP P W L plan a fr H (thenW (fun fr H=>execP P W L plan b fr H Q) Q):=(rfl)
theorem execP_cond {x:Operand} {a b:Code} : execP P W L plan (.cond x a b) fr H Q=condW (fr.ev x) (execP P W L plan a fr H Q) (execP P W L plan b fr H Q):=(rfl)
theorem execP_block {id:Nat} {b:Code} : execP P W L plan (.block id b) fr H Q=execP P W L plan b fr H (inBlockW id Q):=(rfl)
theorem execP_loop {b:Code} : execP P W L plan (.loop b) fr H Q=L b fr H Q:=(rfl)
theorem execP_exit {id:Nat} : execP P W L plan (.exit id) fr H Q=Q (.exit id fr H):=(rfl)
theorem execP_label {id:Nat} : execP P W L plan (.label id) fr H Q=Q (.norm fr H):=(rfl)
theorem execP_ret:execP P W L plan .ret fr H Q=Q (.ret fr H):=(rfl)
theorem planAt_here {k:Nat} {l:List It} {r:List (Nat×List It)} : planAt ((k,l) :: r) k=l:=if_pos rfl
theorem planAt_next {k i:Nat} {l:List It} {r:List (Nat×List It)} (h:¬k=i) : planAt ((k,l) :: r) i=planAt r i:=if_neg h
theorem regP_f {g:Nat→Option AV} {ds:List Dfr} {l:List It} : regP P W ops Q l (.f g ds) H=planW P W ops (clearQ Q) l (.f g ds) H []:=(rfl)
theorem clearQ_norm:clearQ Q (.norm fr H)=Q (.norm fr H):=(rfl)
theorem clearQ_panic {v:AV} : clearQ Q (.panic v fr H)=Q (.panic v fr.clear H):=(rfl)
theorem clear_f {g:Nat→Option AV} {ds:List Dfr} : (Fr.f g ds).clear=.s e2 ds:=(rfl)
theorem planW_nil:planW P W ops Q [] fr H al=Q (.norm fr H):=(rfl)
theorem planW_run {l:List Oper} {i:Nat} {r:List It} : planW P W l.toArray Q (.run i :: r) fr H al=atW l i fun o=>oneW P W l.toArray o fr H (fun fr H=>planW P W l.toArray Q r fr H al) Q:=by
  rw [planW,List.getElem?_toArray]; rfl
theorem planW_mk {l:List Oper} {i:Nat} {r:List It} : planW P W l.toArray Q (.mk i :: r) fr H al=atW l i fun o=>oneW P W l.toArray o fr H (fun fr H'=>planW P W l.toArray Q r fr H' ((i,H.next,H'.get H.next) :: al)) Q:=by
  rw [planW,List.getElem?_toArray]; rfl
theorem planW_gate {hs as:List Nat} {r:List It} : planW P W ops Q (.gate hs as :: r) fr H al=(againW P W ops fr H hs∧keptW H as al∧planW P W ops Q r fr H al):=(rfl)
theorem againW_nil:againW P W ops fr H []=True:=(rfl)
theorem againW_cons {l:List Oper} {i:Nat} {hs:List Nat} : againW P W l.toArray fr H (i :: hs)=((atW l i fun o=>oneW P W l.toArray o fr H (fun fr' _=>slotOf fr' o.dst=slotOf fr o.dst) fun _=>False)∧againW P W l.toArray fr H hs):=by
  rw [againW,List.getElem?_toArray]; rfl
theorem slotOf_some {d:Tmp} : slotOf fr (some d)=fr.get d:=(rfl)
theorem keptW_nil {as:List Nat} : keptW H as []=True:=(rfl)
theorem keptW_cons {as:List Nat} {i a:Nat} {b:Option Blk} {l:AlP} : keptW H as ((i,a,b) :: l)=((i∈as→H.get a=b)∧keptW H as l):=(rfl)
attribute [simp] execP_skip execP_region execP_drawn execP_seq execP_cond execP_block execP_loop execP_exit execP_label execP_ret planAt_here planAt_next regP_f clearQ_norm clearQ_panic clear_f
  planW_nil planW_run planW_mk planW_gate againW_nil againW_cons slotOf_some keptW_nil keptW_cons atW_zero atW_succ
end Go.Ai
end
section
namespace Go.Ai
variable {P:Program} {W:WF} {L:LF} {Q:Out→Prop} {fr:Fr} {H:Mem}
section
variable {ev:Ev} {d:Option Tmp} {ty:TypeId} {p:String} {af:Array Edge} {g:Option (Nat×Bool)}
def arI (P:Program) (t:TypeId) : Option (Nat×Bool×Nat):=match P.underlying t with
  | some (.array n e)=>match P.info? e,tIsAgg P e with
    | some j,some (ag,sz)=>if j.size=sz then some (n,ag,sz) else none
    | _,_=>none
  | _=>none
def fdI (P:Program) (t:TypeId) (f:Nat) : Option (Bool×Nat×Nat):=match P.underlying t with
  | some (.struct fields)=>match fields[f]? with
    | some fd=>match tIsAgg P fd.type with
      | some (ag,sz)=>some (ag,fd.offset,sz)
      | none=>none
    | none=>none
  | _=>none
def partS (ag:Bool) (sz off:Nat) (l:List AV) : Option AV:=match ag with
  | true=>if off+sz≤l.length then some (.agg ((l.drop off).take sz)) else none
  | false=>l[off]?
theorem partS_agg {sz off:Nat} {l:List AV} (h:off+sz≤l.length) : partS true sz off l=some (.agg ((l.drop off).take sz)):=if_pos h
theorem partS_one {sz off:Nat} {l:List AV} : partS false sz off l=l[off]?:=(rfl)
theorem partL_eq {e:TypeId} {ag:Bool} {sz off:Nat} {l:List AV} (h:tIsAgg P e=some (ag,sz)) : partL P e l off=partS ag sz off l:=by
  unfold partL partS
  rw [h]
  cases ag with
  | false=>rfl
  | true =>
    dsimp only
    by_cases hl:off+sz≤l.length
    · rw [if_pos hl,Nat.ble_eq_true_of_le hl]
    · rw [if_neg hl]
      cases hb:Nat.ble (off+sz) l.length with
      | false=>rfl
      | true=>exact absurd (Nat.le_of_ble_eq_true hb) hl
theorem idxS_arr {o:Oper} {t e:TypeId} {n:Nat} {x i:Option AV} : idxS P H ev o t (some (.array n e)) x i=oIndex P H ev o t x i:=(rfl)
theorem oIndex_congr {tk:Nat} (_h0:tick=tk) {o:Oper} {t:TypeId} {x x' i i' : Option AV} {H H' : Mem} (h1:H=H') (h2:x=x') (h3:i=i') : oIndex P H ev o t x i=oIndex P H' ev o t x' i':=by rw [h1,h2,h3]
noncomputable def oiS (P:Program) (H:Mem) (ev:Ev) (o:Oper) (t:TypeId) (r:Option AV) : R:=match r with | some v=>.val v H | none=>ofOpt H (generic P ev o)
theorem oiS_some {o:Oper} {t:TypeId} {v:AV} : oiS P H ev o t (some v)=.val v H:=(rfl)
theorem oiS_congr {tk:Nat} (_h0:tick=tk) {o:Oper} {t:TypeId} {r r' : Option AV} {H H' : Mem} (h1:H=H') (h2:r=r') : oiS P H ev o t r=oiS P H' ev o t r':=by rw [h1,h2]
theorem oIndex_agg {o:Oper} {t:TypeId} {l:List AV} {k:IntKind} {i:Int} {n sz:Nat} {ag:Bool} (hq:arI P t=some (n,ag,sz)) (h0:0≤i) (h:i.toNat < n) :
    oIndex P H ev o t (some (.agg l)) (some (.lit (.int k i)))=oiS P H ev o t (partS ag sz (i.toNat * sz) l):=by
  have hi:index P t (.agg l) (.lit (.int k i))=partS ag sz (i.toNat * sz) l:=by
    unfold arI at hq
    unfold index
    split at hq
    · rename_i m e hd
      split at hq
      · rename_i j ag' sz' hj ha
        split at hq
        · rename_i hjs
          simp only [Option.some.injEq,Prod.mk.injEq] at hq
          obtain ⟨rfl,rfl,rfl⟩:=hq
          rw [hd,natOf_int h0]
          dsimp only [asAggL]
          rw [hj]
          dsimp only
          rw [if_pos h,hjs,partL_eq ha]
        · cases hq
      · cases hq
    · cases hq
  unfold oIndex oiS
  dsimp only
  rw [hi]
  cases partS ag sz (i.toNat * sz) l <;> rfl
attribute [congr] oIndex_congr oiS_congr
theorem oField_congr {tk:Nat} (_h0:tick=tk) {t:TypeId} {f:Nat} {x x' : Option AV} {H H' : Mem} (h1:H=H') (h2:x=x') : oField P H t x f=oField P H' t x' f:=by rw [h1,h2]
attribute [congr] oField_congr
theorem oField_agg {t:TypeId} {l:List AV} {f off sz:Nat} {ag:Bool} (hq:fdI P t f=some (ag,off,sz)) : oField P H t (some (.agg l)) f=ofOpt H (partS ag sz off l):=by
  have:field P t (.agg l) f=partS ag sz off l:=by
    unfold fdI at hq
    unfold field
    split at hq
    · rename_i fields hd
      split at hq
      · rename_i fd hf
        split at hq
        · rename_i ag' sz' ha
          simp only [Option.some.injEq,Prod.mk.injEq] at hq
          obtain ⟨rfl,rfl,rfl⟩:=hq
          rw [hd]
          dsimp only [asAggL]
          rw [hf]
          dsimp only
          exact partL_eq ha
        · cases hq
      · cases hq
    · cases hq
  unfold oField
  dsimp only
  rw [this]
noncomputable def ixQ (P:Program) (H:Mem) (ev:Ev) (o:Oper) (t:TypeId) (q:Option (Nat×Bool×Nat)) (x i:Option AV) : R:=match q,x,i with
  | some (n,ag,sz),some (.agg l),some (.lit (.int _ i))=>if 0≤i∧i.toNat < n then oiS P H ev o t (partS ag sz (i.toNat * sz) l) else oIndex P H ev o t x (some (.lit (.int .i64 i)))
  | _,x,i=>oIndex P H ev o t x i
theorem oIndex_q {o:Oper} {t:TypeId} {l:List AV} {i:Int} : oIndex P H ev o t (some (.agg l)) (some (.lit (.int .i64 i)))=ixQ P H ev o t (arI P t) (some (.agg l)) (some (.lit (.int .i64 i))):=by
  unfold ixQ
  split
  · rename_i n ag sz _ _ k i' hq hl hi
    cases hl; cases hi
    split
    · rename_i h; exact oIndex_agg hq h.1 h.2
    · rfl
  · rfl
theorem ixQ_congr {tk:Nat} (_h0:tick=tk) {o:Oper} {t:TypeId} {q q' : Option (Nat×Bool×Nat)} {x x' i i' : Option AV} {H H' : Mem} (h0:q=q') (h1:H=H') (h2:x=x') (h3:i=i') : ixQ P H ev o t q x i=ixQ P H' ev o t q' x' i':=by rw [h0,h1,h2,h3]
theorem ixQ_some {o:Oper} {t:TypeId} {l:List AV} {i:Int} {n sz:Nat} {ag:Bool} (h0:0≤i) (h:i.toNat < n) : ixQ P H ev o t (some (n,ag,sz)) (some (.agg l)) (some (.lit (.int .i64 i)))=oiS P H ev o t (partS ag sz (i.toNat * sz) l):=if_pos ⟨h0,h⟩
noncomputable def fdQ (P:Program) (H:Mem) (t:TypeId) (f:Nat) (q:Option (Bool×Nat×Nat)) (x:Option AV) : R:=match q,x with
  | some (ag,off,sz),some (.agg l)=>ofOpt H (partS ag sz off l)
  | _,x=>oField P H t x f
theorem op_fieldQ {t:TypeId} {x:Operand} {f:Nat} : opV P H ev ⟨d,.field t x f,ty,p,af,g⟩=fdQ P H t f (fdI P t f) (ev x):=by
  show oField P H t (ev x) f=_
  unfold fdQ
  split
  · rename_i hq hx; rw [hx]; exact oField_agg hq
  · rfl
theorem fdQ_congr {tk:Nat} (_h0:tick=tk) {t:TypeId} {f:Nat} {q q' : Option (Bool×Nat×Nat)} {x x' : Option AV} {H H' : Mem} (h0:q=q') (h1:H=H') (h2:x=x') : fdQ P H t f q x=fdQ P H' t f q' x':=by rw [h0,h1,h2]
theorem fdQ_some {t:TypeId} {l:List AV} {f off sz:Nat} {ag:Bool} : fdQ P H t f (some (ag,off,sz)) (some (.agg l))=ofOpt H (partS ag sz off l):=(rfl)
attribute [congr] ixQ_congr fdQ_congr
attribute [simp] oIndex_q ixQ_some op_fieldQ fdQ_some
attribute [simp] idxS_arr partS_agg partS_one oiS_some
end
end Go.Ai
end
section
namespace Go.Ai
variable {P:Program} {H:Mem}
section
variable {ev:Ev} {d:Option Tmp} {ty:TypeId} {p:String} {af:Array Edge} {g:Option (Nat×Bool)}
theorem pureV_info {t:TypeId} {i:TypeInfo} (h:P.info? t=some i) : pureV P (typeInfo t)=some i:=by
  unfold typeInfo
  show pureV P (match P.info? t with | some d=>pure d | none=>stuck "no such type")=_
  rw [h]; rfl
theorem ia_lit {t:TypeId} {x i:Operand} {b off n sz:Nat} {k:IntKind} {j:Int} (hx:ev x=some (.lit (.pointer (some ⟨b,off,none⟩)))) (hi:ev i=some (.lit (.int k j)))
    (hq:elSz P t=some (some n,sz)) (h0:0≤j) (h:j.toNat < n) :
    iaS P H ev ⟨d,.indexAddr t x i,ty,p,af,g⟩ t (some (some n,sz)) (some (.lit (.pointer (some ⟨b,off,none⟩)))) (some (.lit (.int k j)))=.val (.lit (.pointer (some ⟨b,off+j.toNat * sz,none⟩))) H:=by
  obtain ⟨e,inf,hu,hinf,hs⟩ : ∃ e inf,P.underlying t=some (.array n e)∧P.info? e=some inf∧inf.size=sz:=by
    unfold elSz at hq
    split at hq
    · split at hq <;> cases hq
    · rename_i n' e hu
      split at hq
      · rename_i jj hj; cases hq; exact ⟨e,jj,hu,hj,rfl⟩
      · cases hq
    · cases hq
  have hn:indexAddr P t (.lit (.pointer (some ⟨b,off,none⟩))) (.lit (.int k j))=none:=by
    unfold indexAddr
    rw [hu]
  have hadd:(Addr.add ⟨b,off,none⟩ (j.toNat * sz))=⟨b,off+j.toNat * sz,none⟩:=by
    unfold Addr.add
    split
    · rename_i e0; rw [e0]; rfl
    · rfl
  have hg:generic P ev ⟨d,.indexAddr t x i,ty,p,af,g⟩=some (.lit (.pointer (some ⟨b,off+j.toNat * sz,none⟩))):=by
    refine generic2 (u:=.pointer (some ⟨b,off,none⟩)) (u':=.int k j) rfl hx hi fun ρ h1 h2=>?_
    have key:pureV P (Instr.indexAt t (ρ x) (ρ i))=some (.pointer (some ⟨b,off+j.toNat * sz,none⟩)):=by
      rw [h1,h2]
      unfold Instr.indexAt
      refine (pureV_then (m:=asIntOf (.int k j)) (a:=(k,j)) rfl).trans ?_
      dsimp only
      refine (pureV_then (m:=underlying t) (pureV_underlying hu)).trans ?_
      dsimp only
      refine (pureV_then (m:=Instr.sureAddr (.pointer (some ⟨b,off,none⟩))) (a:=⟨b,off,none⟩) rfl).trans ?_
      refine (pureV_then (m:=pure (some (⟨b,off,none⟩ : Addr),n,e)) (a:=(some (⟨b,off,none⟩ : Addr),n,e)) rfl).trans ?_
      refine (pureV_then (m:=underlying t) (pureV_underlying hu)).trans ?_
      dsimp only
      rw [if_pos ⟨h0,by omega⟩]
      refine (pureV_then (m:=sizeOf e) (a:=sz) ?_).trans ?_
      · unfold sizeOf
        refine (pureV_then (pureV_info hinf)).trans ?_
        rw [hs]; rfl
      · rw [hadd]; rfl
    show pureV P (do pure (Next.value (← Instr.indexAt t (ρ x) (ρ i))))=_
    exact (pureV_then key).trans rfl
  unfold iaS
  dsimp only
  unfold oIndexAddr orGen
  dsimp only
  rw [hn]
  dsimp only
  rw [hg]
  rfl
theorem fa_lit {t:TypeId} {x:Operand} {b off f q:Nat} (hx:ev x=some (.lit (.pointer (some ⟨b,off,none⟩)))) (hq:fldOff P t f=some q) :
    faS P H ev ⟨d,.fieldAddr t x f,ty,p,af,g⟩ t (some q) (some (.lit (.pointer (some ⟨b,off,none⟩)))) f=.val (.lit (.pointer (some ⟨b,off+q,none⟩))) H:=by
  obtain ⟨fields,fd,inf,hu,hfd,hinf,hz,hof⟩ : ∃ fields fd inf,P.underlying t=some (.struct fields)∧fields[f]?=some fd∧P.info? fd.type=some inf∧inf.size≠0∧fd.offset=q:=by
    unfold fldOff at hq
    split at hq
    · rename_i fields hu
      split at hq
      · rename_i fd hfd
        split at hq
        · rename_i inf hi
          split at hq
          · cases hq
          · rename_i hb
            cases hq
            exact ⟨fields,fd,inf,hu,hfd,hi,(fun e=>by rw [e] at hb; cases hb),rfl⟩
        · cases hq
      · cases hq
    · cases hq
  have hn:fieldAddr P t (.lit (.pointer (some ⟨b,off,none⟩))) f=none:=by
    unfold fieldAddr
    rw [hu]
  have hadd:(Addr.add ⟨b,off,none⟩ q)=⟨b,off+q,none⟩:=by
    unfold Addr.add
    split
    · rename_i e0; rw [e0]; rfl
    · rfl
  have hg:generic P ev ⟨d,.fieldAddr t x f,ty,p,af,g⟩=some (.lit (.pointer (some ⟨b,off+q,none⟩))):=by
    refine generic1 (u:=.pointer (some ⟨b,off,none⟩)) rfl hx fun ρ h1=>?_
    have key:pureV P (Instr.fieldAt t (ρ x) f)=some (.pointer (some ⟨b,off+q,none⟩)):=by
      rw [h1]
      unfold Instr.fieldAt
      refine (pureV_then (m:=underlying t) (pureV_underlying hu)).trans ?_
      dsimp only
      rw [hfd]
      dsimp only
      refine (pureV_then (m:=Instr.sureAddr (.pointer (some ⟨b,off,none⟩))) (a:=⟨b,off,none⟩) rfl).trans ?_
      refine (pureV_then (m:=fieldPlace ⟨b,off,none⟩ fd) (a:=⟨b,off+q,none⟩) ?_).trans rfl
      unfold fieldPlace
      refine (pureV_then (m:=sizeOf fd.type) (a:=inf.size) ?_).trans ?_
      · unfold sizeOf
        refine (pureV_then (pureV_info hinf)).trans ?_
        rfl
      · rw [if_neg hz,hof,hadd]; rfl
    show pureV P (do pure (Next.value (← Instr.fieldAt t (ρ x) f)))=_
    exact (pureV_then key).trans rfl
  unfold faS
  dsimp only
  unfold oFieldAddr orGen
  dsimp only
  rw [hn]
  dsimp only
  rw [hg]
  rfl
theorem equal_bool {t:TypeId} {a b:Bool} (ht:P.underlying t=some .bool) : pureV P (Op.equal t (.bool a) (.bool b))=some (a == b):=by
  unfold Op.equal
  show pureV P (Op.equalIn (9999+1) t (.bool a) (.bool b))=_
  unfold Op.equalIn
  exact (pureV_then (m:=underlying t) (pureV_underlying ht)).trans rfl
theorem bin_beql {t rt:TypeId} {x y:Operand} {a b:Bool} (hx:ev x=some (.lit (.bool a))) (hy:ev y=some (.lit (.bool b))) (ht:P.underlying t=some .bool) :
    binS P H ev ⟨d,.binOp .eql t x y rt,ty,p,af,g⟩ .eql t (some (.lit (.bool a))) (some (.lit (.bool b)))=.val (.lit (.bool (a == b))) H:=by
  unfold binS
  dsimp only
  rw [oBin_generic (v:=.lit (.bool (a == b))) rfl]
  refine generic2 (r:=.bool (a == b)) rfl hx hy fun ρ h1 h2=>execOp_bin h1 h2 rfl ?_
  show pureV P (do pure (Value.bool (← Op.equal t (.bool a) (.bool b))))=_
  exact (pureV_then (equal_bool ht)).trans rfl
theorem bin_bneq {t rt:TypeId} {x y:Operand} {a b:Bool} (hx:ev x=some (.lit (.bool a))) (hy:ev y=some (.lit (.bool b))) (ht:P.underlying t=some .bool) :
    binS P H ev ⟨d,.binOp .neq t x y rt,ty,p,af,g⟩ .neq t (some (.lit (.bool a))) (some (.lit (.bool b)))=.val (.lit (.bool (!(a == b)))) H:=by
  unfold binS
  dsimp only
  rw [oBin_generic (v:=.lit (.bool (!(a == b)))) rfl]
  refine generic2 (r:=.bool (!(a == b))) rfl hx hy fun ρ h1 h2=>execOp_bin h1 h2 rfl ?_
  show pureV P (do pure (Value.bool (!(← Op.equal t (.bool a) (.bool b)))))=_
  exact (pureV_then (equal_bool ht)).trans rfl
attribute [simp] bin_beql bin_bneq
attribute [simp] ia_lit fa_lit
end
end Go.Ai
end
section
namespace Go.Ai
structure GraphM where
  n:Nat
  succ:Nat→List Nat
abbrev SetS:=Nat→Bool
def GraphM.ok (G:GraphM) : Prop:=∀ s,s < G.n→∀ t∈G.succ s,t < G.n
def leS (n:Nat) (X Y:SetS) : Prop:=∀ s,s < n→X s=true→Y s=true
def eqS (n:Nat) (X Y:SetS) : Prop:=∀ s,s < n→X s=Y s
theorem eqS.le {n:Nat} {X Y:SetS} (h:eqS n X Y) : leS n X Y:=fun s hs hx=>by rw [← h s hs]; exact hx
theorem eqS.symm {n:Nat} {X Y:SetS} (h:eqS n X Y) : eqS n Y X:=fun s hs=>(h s hs).symm
theorem eqS.trans {n:Nat} {X Y Z:SetS} (h:eqS n X Y) (h' : eqS n Y Z) : eqS n X Z:=fun s hs=>(h s hs).trans (h' s hs)
theorem leS.antisymm {n:Nat} {X Y:SetS} (h:leS n X Y) (h' : leS n Y X) : eqS n X Y:=fun s hs=>by
  cases hx:X s with
  | true=>exact (h s hs hx).symm
  | false =>
    cases hy:Y s with
    | false=>rfl
    | true=>rw [h' s hs hy] at hx; cases hx
def GraphM.ends (G:GraphM) : SetS:=fun s=>(G.succ s).isEmpty
def GraphM.pre (G:GraphM) (X:SetS) : SetS:=fun s=>(G.succ s).any X
def GraphM.post (G:GraphM) (X:SetS) : SetS:=fun s=>(G.succ s).all X
def GraphM.fE (G:GraphM) (a b X:SetS) : SetS:=fun s=>b s || (a s && G.pre X s)
def GraphM.fA (G:GraphM) (a b X:SetS) : SetS:=fun s=>b s || (a s && (!G.ends s && G.post X s))
theorem GraphM.pre_mono {G:GraphM} (hG:G.ok) {X Y:SetS} (h:leS G.n X Y) : leS G.n (G.pre X) (G.pre Y):=fun s hs hx=>by
  simp only [GraphM.pre,List.any_eq_true] at hx ⊢
  obtain ⟨t,h1,h2⟩:=hx
  exact ⟨t,h1,h t (hG s hs t h1) h2⟩
theorem GraphM.post_mono {G:GraphM} (hG:G.ok) {X Y:SetS} (h:leS G.n X Y) : leS G.n (G.post X) (G.post Y):=fun s hs hx=>by
  simp only [GraphM.post,List.all_eq_true] at hx ⊢
  exact fun t ht=>h t (hG s hs t ht) (hx t ht)
theorem GraphM.fE_mono {G:GraphM} (hG:G.ok) (a b:SetS) {X Y:SetS} (h:leS G.n X Y) : leS G.n (G.fE a b X) (G.fE a b Y):=fun s hs hx=>by
  simp only [GraphM.fE,Bool.or_eq_true,Bool.and_eq_true] at hx ⊢
  exact hx.imp id fun ⟨h1,h2⟩=>⟨h1,G.pre_mono hG h s hs h2⟩
theorem GraphM.fA_mono {G:GraphM} (hG:G.ok) (a b:SetS) {X Y:SetS} (h:leS G.n X Y) : leS G.n (G.fA a b X) (G.fA a b Y):=fun s hs hx=>by
  simp only [GraphM.fA,Bool.or_eq_true,Bool.and_eq_true] at hx ⊢
  exact hx.imp id fun ⟨h1,h2,h3⟩=>⟨h1,h2,G.post_mono hG h s hs h3⟩
structure IsL (n:Nat) (F:SetS→SetS) (L:SetS) : Prop where
  fix:eqS n (F L) L
  least:∀ Z,leS n (F Z) Z→leS n L Z
theorem IsL.uniq {n:Nat} {F:SetS→SetS} {L M:SetS} (h:IsL n F L) (h' : IsL n F M) : eqS n L M:=(h.least M h'.fix.le).antisymm (h'.least L h.fix.le)
def iterS (F:SetS→SetS) : Nat→SetS
  | 0=>fun _=>false
  | k+1=>F (iterS F k)
def cnt (X:SetS) : Nat→Nat
  | 0=>0
  | k+1=>cnt X k+(if X k then 1 else 0)
theorem cnt_le (X:SetS) : ∀ k,cnt X k≤k
  | 0=>Nat.le_refl _
  | k+1=>by have:=cnt_le X k; unfold cnt; split <;> omega
theorem cnt_mono {X Y:SetS} : ∀ k,leS k X Y→cnt X k≤cnt Y k
  | 0,_=>Nat.le_refl _
  | k+1,h=>by
    have:=cnt_mono k (fun s hs=>h s (by omega))
    unfold cnt
    cases hx:X k with
    | false=>simp; split <;> omega
    | true=>rw [h k (by omega) hx]; simp; omega
theorem cnt_eq {X Y:SetS} : ∀ k,leS k X Y→cnt Y k≤cnt X k→eqS k X Y
  | 0,_,_=>fun s hs=>by omega
  | k+1,h,hc=>by
    have hm:=cnt_mono k (fun s hs=>h s (by omega))
    unfold cnt at hc
    cases hx:X k with
    | false =>
      rw [hx] at hc
      cases hy:Y k with
      | true=>rw [hy] at hc; simp at hc; omega
      | false =>
        rw [hy] at hc
        have:=cnt_eq k (fun s hs=>h s (by omega)) (by simpa using hc)
        intro s hs
        by_cases e:s=k
        · rw [e,hx,hy]
        · exact this s (by omega)
    | true =>
      have hy:=h k (by omega) hx
      rw [hx,hy] at hc
      have:=cnt_eq k (fun s hs=>h s (by omega)) (by simp at hc; omega)
      intro s hs
      by_cases e:s=k
      · rw [e,hx,hy]
      · exact this s (by omega)
theorem iter_le {n:Nat} {F:SetS→SetS} (hF:∀ X Y,leS n X Y→leS n (F X) (F Y)) : ∀ k,leS n (iterS F k) (iterS F (k+1))
  | 0=>fun _ _ h=>by cases h
  | k+1=>hF _ _ (iter_le hF k)
theorem iter_stable {n:Nat} {F:SetS→SetS} (hF:∀ X Y,leS n X Y→leS n (F X) (F Y)) {k:Nat} (h:eqS n (iterS F k) (iterS F (k+1))) : eqS n (iterS F (k+1)) (iterS F (k+2)):=(hF _ _ h.le).antisymm (hF _ _ h.symm.le)
theorem iter_count {n:Nat} {F:SetS→SetS} (hF:∀ X Y,leS n X Y→leS n (F X) (F Y)) : ∀ k,eqS n (iterS F k) (iterS F (k+1))∨k+1≤cnt (iterS F (k+1)) n
  | 0=>by
    by_cases h:cnt (iterS F (0+1)) n≤cnt (iterS F 0) n
    · exact .inl (cnt_eq n (iter_le hF 0) h)
    · right; omega
  | k+1=>by
    rcases iter_count hF k with h | h
    · exact .inl (iter_stable hF h)
    · by_cases h' : cnt (iterS F (k+1+1)) n≤cnt (iterS F (k+1)) n
      · exact .inl (cnt_eq n (iter_le hF (k+1)) h')
      · right; omega
theorem iter_lfp {n:Nat} {F:SetS→SetS} (hF:∀ X Y,leS n X Y→leS n (F X) (F Y)) : IsL n F (iterS F (n+1)):=by
  have h:eqS n (iterS F n) (iterS F (n+1)):=by
    rcases iter_count hF n with h | h
    · exact h
    · have:=cnt_le (iterS F (n+1)) n; omega
  refine ⟨(iter_stable hF h).symm,fun Z hZ=>?_⟩
  have key:∀ k,leS n (iterS F k) Z:=by
    intro k
    induction k with
    | zero=>exact fun _ _ h=>by cases h
    | succ k ih=>exact fun s hs hx=>hZ s hs (hF _ _ ih s hs hx)
  exact key _
theorem grow_lfp {n:Nat} {F:SetS→SetS} {b X:SetS} (hb:leS n (F X) X) (hl:∀ Z,leS n (F Z) Z→leS n X Z) (hF:∀ X Y,leS n X Y→leS n (F X) (F Y)) : IsL n F X:=by
  refine ⟨hb.antisymm ?_,hl⟩
  exact hl _ (hF _ _ hb)
def notS (X:SetS) : SetS:=fun s=>!X s
theorem not_pre (G:GraphM) (X:SetS) (s:Nat) : G.pre (notS X) s = !G.post X s:=by
  show (G.succ s).any (fun t=>!X t) = !(G.succ s).all X
  rw [List.not_all_eq_any_not]
theorem until_all {G:GraphM} (hG:G.ok) {a b A L E:SetS} (hL:IsL G.n (G.fA a b) L) (hA:IsL G.n (G.fA (fun _=>true) b) A) (hE:IsL G.n (G.fE (notS b) (notS (fun s=>a s || b s))) E) :
    eqS G.n L (fun s=>A s && !E s):=by
  refine leS.antisymm ?_ ?_
  ·
    have h1:leS G.n L A:=hL.least A (fun s hs hx=>by
      rw [← hA.fix s hs]
      simp only [GraphM.fA,Bool.or_eq_true,Bool.and_eq_true] at hx ⊢
      exact hx.imp id fun ⟨_,h⟩=>⟨by trivial,h⟩)
    have h2:leS G.n E (notS L):=hE.least _ (fun s hs hx=>by
      simp only [notS,Bool.not_eq_true']
      rw [← hL.fix s hs]
      simp only [GraphM.fE,GraphM.fA,notS,Bool.or_eq_true,Bool.and_eq_true,Bool.not_eq_true',Bool.or_eq_false_iff,Bool.and_eq_false_iff] at hx ⊢
      rcases hx with ⟨h3,h4⟩ | ⟨h3,h4⟩
      · exact ⟨h4,.inl h3⟩
      · refine ⟨h3,.inr (.inr ?_)⟩
        have:=not_pre G L s
        rw [show G.pre (notS L) s=true from h4] at this
        simpa using this)
    intro s hs hx
    simp only [Bool.and_eq_true,Bool.not_eq_true']
    refine ⟨h1 s hs hx,?_⟩
    cases he:E s with
    | false=>rfl
    | true =>
      have:=h2 s hs he
      simp only [notS,hx] at this
      cases this
  ·
    have h1:leS G.n A (fun s=>L s || E s):=hA.least _ (fun s hs hx=>by
      simp only [Bool.or_eq_true]
      rw [← hL.fix s hs,← hE.fix s hs]
      simp only [GraphM.fA,GraphM.fE,notS,Bool.or_eq_true,Bool.and_eq_true,Bool.not_eq_true',Bool.or_eq_false_iff] at hx ⊢
      rcases hx with h | ⟨_,h2,h3⟩
      · exact .inl (.inl h)
      · cases hb:b s with
        | true=>exact .inl (.inl rfl)
        | false =>
          cases ha:a s with
          | false=>exact .inr (.inl ⟨rfl,rfl⟩)
          | true =>
            by_cases hp:G.pre E s=true
            · exact .inr (.inr ⟨rfl,hp⟩)
            · refine .inl (.inr ⟨rfl,h2,?_⟩)
              simp only [GraphM.post,List.all_eq_true,Bool.or_eq_true] at h3 ⊢
              simp only [GraphM.pre,List.any_eq_true,not_exists,not_and] at hp
              intro t ht
              rcases h3 t ht with h | h
              · exact h
              · exact absurd h (hp t ht))
    intro s hs hx
    simp only [Bool.and_eq_true,Bool.not_eq_true'] at hx
    have:=h1 s hs hx.1
    simp only [Bool.or_eq_true,hx.2] at this
    rcases this with h | h
    · exact h
    · cases h
end Go.Ai
end
section
namespace Go.Ai
variable {B G:Nat} {P:Program} {ρ:Rn} {H:Mem} {w:World}
noncomputable def orR (x:COut) (y:COut) : COut:=COut.rec (motive:=fun _=>COut) (fun v H=>.ret v H) (fun v H=>.panic v H) y x
noncomputable def orC (O c:CallF) : CallF:=fun f a H=>orR (O f a H) (c f a H)
theorem orC_ok {O c:CallF} (hO:CallOK B G P O) (hc:CallOK B G P c) : CallOK B G P (orC O c):=by
  intro f args H hne ρ us w s hv
  unfold orC at hne ⊢
  cases hr:O f args H with
  | bad=>rw [hr] at hne; exact hc f args H hne ρ us w s hv
  | ret v H'=>have:=hO f args H (by rw [hr]; simp) ρ us w s hv; rw [hr] at this; exact this
  | panic v H'=>have:=hO f args H (by rw [hr]; simp) ρ us w s hv; rw [hr] at this; exact this
noncomputable def Mem.fn (H:Mem) : Mem:=⟨.fn H.get,H.next⟩
theorem Sim.toFn (s:Sim B G ρ H w) : Sim B G ρ H.fn w:=⟨s.blk,s.inj,s.fresh,s.glob,s.names,s.base⟩
theorem Sim.ofFn (s:Sim B G ρ H.fn w) : Sim B G ρ H w:=⟨s.blk,s.inj,s.fresh,s.glob,s.names,s.base⟩
theorem WC.ofFn {f:FuncId} {args:List AV} {v:AV} (h:WC G P f args H.fn fun r=>r=.ret v H.fn) : WC G P f args H fun r=>r=.ret v H:=by
  intro B ρ us w s hv
  refine (h B ρ us w s.toFn hv).mono ?_
  rintro e w' ⟨r,rfl,hc⟩
  refine ⟨_,rfl,?_⟩
  cases e with
  | returned u =>
    obtain ⟨ρ',h1,h2,h3,h4⟩:=hc
    exact ⟨ρ',h1,h2.ofFn,h3,Nat.le_refl _⟩
  | panicked chain=>exact hc.elim
  | outgrown=>exact hc.elim
mutual
def belowV (n:Nat) : AV→Bool
  | .lit _=>true
  | .es=>true
  | .ptr a _=>Nat.blt a n
  | .sl a _ _ _=>Nat.blt a n
  | .slq a _ _ _=>Nat.blt a n
  | .map a=>Nat.blt a n
  | .func _ x y=>belowL n x && belowL n y
  | .iface _ v=>belowV n v
  | .agg l=>belowL n l
  | .tup l=>belowL n l
def belowL (n:Nat) : List AV→Bool
  | []=>true
  | v :: l=>belowV n v && belowL n l
end
def restr (n:Nat) (ρ:Rn) : Rn:=fun a=>if a < n then ρ a else none
theorem restr_lt {n a:Nat} {ρ:Rn} (h:Nat.blt a n=true) : restr n ρ a=ρ a:=if_pos (Nat.le_of_ble_eq_true h)
mutual
theorem below_VR {n:Nat} {ρ:Rn} : ∀ {v:AV} {u:Value},belowV n v=true→VR ρ v u→VR (restr n ρ) v u
  | .lit _,_,_,r=>r
  | .es,_,_,r=>r
  | .ptr a _,_,hb,⟨b,o,k,e,r⟩=>⟨b,o,k,(restr_lt (by simpa [belowV] using hb)).trans e,r⟩
  | .sl a _ _ _,_,hb,⟨b,o,k,e,r⟩=>⟨b,o,k,(restr_lt (by simpa [belowV] using hb)).trans e,r⟩
  | .slq a _ _ _,_,hb,⟨b,o,k,e,r⟩=>⟨b,o,k,(restr_lt (by simpa [belowV] using hb)).trans e,r⟩
  | .map a,_,hb,⟨b,o,k,e,r⟩=>⟨b,o,k,(restr_lt (by simpa [belowV] using hb)).trans e,r⟩
  | .func _ _ _,_,hb,⟨f',c',e,r,q⟩=>by
    simp only [belowV,Bool.and_eq_true] at hb
    exact ⟨f',c',e,below_VRs hb.1 r,below_VRs hb.2 q⟩
  | .iface _ _,_,hb,⟨u',e,r⟩=>⟨u',e,below_VR (by simpa [belowV] using hb) r⟩
  | .agg _,_,hb,⟨cs,e,r⟩=>⟨cs,e,below_VRs (by simpa [belowV] using hb) r⟩
  | .tup _,_,hb,⟨cs,e,r⟩=>⟨cs,e,below_VRs (by simpa [belowV] using hb) r⟩
theorem below_VRs {n:Nat} {ρ:Rn} : ∀ {l:List AV} {us:List Value},belowL n l=true→VRs ρ l us→VRs (restr n ρ) l us
  | [],_,_,r=>r
  | _ :: _,_,hb,⟨u,us',e,r,q⟩=>by
    simp only [belowL,Bool.and_eq_true] at hb
    exact ⟨u,us',e,below_VR hb.1 r,below_VRs hb.2 q⟩
end
def startB (n:Nat) : Option Blk→Bool
  | none=>true
  | some (.cells l own _)=>!own && belowL n l
  | _=>false
def retIs (v:AV) : COut→Bool
  | .ret u _=>eqAV u v
  | _=>false
theorem Sim.small {H0:Mem} (s:Sim B G ρ H w) (hG:G≤H0.next) (hst:∀ a,startB H0.next (H0.get a)=true) (hsub:∀ a x,H0.get a=some x→H.get a=some x) (hlt:∀ a x,H0.get a=some x→a < H0.next) :
    Sim w.heap.size G (restr H0.next ρ) H0 w:=by
  refine ⟨fun a x ha=>?_,fun a a' x x' b o k o' k' ha _ _ hown=>?_,fun a ha=>if_neg (Nat.not_lt.2 ha),fun a x hlt' ha=>?_,hG,Nat.le_refl _⟩
  · have hr:restr H0.next ρ a=ρ a:=if_pos (hlt a x ha)
    rcases s.blk a x (hsub a x ha) with hn | ⟨b,o,k,h1,h2⟩
    · exact .inl (hr.trans hn)
    · refine .inr ⟨b,o,k,hr.trans h1,?_⟩
      have hs:=hst a
      rw [ha] at hs
      cases x with
      | cells l own z =>
        simp only [startB,Bool.and_eq_true,Bool.not_eq_true'] at hs
        obtain ⟨c,e,fz,h3,h4,h5⟩:=h2
        refine ⟨c,e,fz,h3,fun i v hi=>?_,fun hown=>by rw [hs.1] at hown; cases hown⟩
        obtain ⟨u,hu,hv⟩:=h4 i v hi
        refine ⟨u,hu,below_VR ?_ hv⟩
        have key:∀ (l:List AV) (i:Nat),belowL H0.next l=true→l[i]?=some v→belowV H0.next v=true:=by
          intro l
          induction l with
          | nil=>intro i _ h; simp at h
          | cons y l ih =>
            intro i hb h
            simp only [belowL,Bool.and_eq_true] at hb
            cases i with
            | zero=>simp at h; subst h; exact hb.1
            | succ i=>exact ih i hb.2 (by simpa using h)
        exact key l i hs.2 hi
      | map _ _=>cases hs
      | siter _ _=>cases hs
  · have hs:=hst a
    rw [ha] at hs
    cases x with
    | cells l own z =>
      simp only [startB,Bool.and_eq_true,Bool.not_eq_true'] at hs
      have:own=true:=hown
      rw [hs.1] at this; cases this
    | map _ _=>cases hs
    | siter _ _=>cases hs
  · have hr:restr H0.next ρ a=ρ a:=if_pos (hlt a x ha)
    exact hr.trans (s.glob a x hlt' (hsub a x ha))
theorem WC.local {H0:Mem} {O:CallF} {f:FuncId} {args:List AV} {v:AV} (hO:∀ B,CallOK B G P O) (hrun:retIs v (O f args H0)=true) (hv:plainV v=true) (hargs:belowL 0 args=true)
    (hG:G≤H0.next) (hst:∀ a,startB H0.next (H0.get a)=true) (hsub:∀ a x,H0.get a=some x→H.get a=some x) (hlt:∀ a x,H0.get a=some x→a < H0.next) :
    WC G P f args H fun r=>r=.ret v H:=by
  intro B ρ us w s hva
  have mono0:∀ (n:Nat),(∀ v,belowV 0 v=true→belowV n v=true)∧(∀ l,belowL 0 l=true→belowL n l=true):=by
    intro n
    have hV:∀ v,belowV 0 v=true→belowV n v=true:=by
      intro v
      refine AV.rec (motive_1:=fun v=>belowV 0 v=true→belowV n v=true) (motive_2:=fun l=>belowL 0 l=true→belowL n l=true) ?_ ?_ ?_ ?_ ?_ ?_ ?_ ?_ ?_ ?_ ?_ ?_ v
      all_goals intros
      all_goals simp_all [belowV,belowL]
    have hL:∀ l,belowL 0 l=true→belowL n l=true:=by
      intro l
      induction l with
      | nil=>intro _; rfl
      | cons x l ih =>
        intro h
        simp only [belowL,Bool.and_eq_true] at h ⊢
        exact ⟨hV x h.1,ih h.2⟩
    exact ⟨hV,hL⟩
  have s0:=s.small hG hst hsub hlt
  have hrr:∃ u H1,O f args H0=.ret u H1∧u=v:=by
    cases hr:O f args H0 with
    | ret u H1=>rw [hr] at hrun; exact ⟨u,H1,rfl,eqAV_sound _ _ hrun⟩
    | panic u H1=>rw [hr] at hrun; cases hrun
    | bad=>rw [hr] at hrun; cases hrun
  obtain ⟨u,H1,hr,rfl⟩:=hrr
  refine (hO _ f args H0 (by rw [hr]; simp) _ us w s0 (below_VRs ((mono0 H0.next).2 args hargs) hva)).mono ?_
  intro e w' hc
  rw [hr] at hc
  refine ⟨_,rfl,?_⟩
  cases e with
  | returned x =>
    obtain ⟨ρ',h1,h2,h3,h4⟩:=hc
    have hb:=h1.below
    have hb' : Go.RowKit.Below B w w':=⟨hb.os,hb.tape,hb.output,hb.size,fun a ha=>hb.block a (Nat.lt_of_lt_of_le ha s.base)⟩
    refine ⟨ρ,⟨fun _ _=>rfl,hb'⟩,?_,plain_VR hv h3,Nat.le_refl _⟩
    refine s.other hb.size fun a x b o k ha hra=>?_
    exact hb.block b (s.at ha hra).lt
  | panicked chain=>exact hc.elim
  | outgrown=>exact hc.elim
end Go.Ai
end
section
namespace Go.Ai
variable {B G:Nat} {P:Program} {ρ ρ' : Rn} {H H' H2:Mem} {w w' : World}
def plainB:Blk→Bool
  | .cells l _ _=>l.all plainV
  | .siter _ _=>true
  | _=>false
theorem plain_BR {ρ'' : Rn} {x:Blk} {b o k:Nat} (h:plainB x=true) (hb:BR B ρ x b o k w) : BR B ρ'' x b o k w:=by
  cases x with
  | cells l own z =>
    obtain ⟨c,e,fz,h1,h2,h3⟩:=hb
    refine ⟨c,e,fz,h1,fun i v hi=>?_,h3⟩
    obtain ⟨u,hu,hv⟩:=h2 i v hi
    exact ⟨u,hu,plain_VR (List.all_eq_true.1 h v (List.mem_of_getElem? hi)) hv⟩
  | siter s p=>exact hb
  | map es c=>cases h
theorem Sim.back2 (s:Sim B G ρ H w) (hx:Ext B H.next ρ w ρ' w') (s' : Sim B G ρ' H' w') (hn:H2.next=H.next)
    (hb:∀ a x,a < H.next→H2.get a=some x→H'.get a=some x∧(H.get a=some x∨plainB x=true)) : Sim B G ρ H2 w':=by
  have hsub:=hx.sub s
  refine ⟨fun a x ha=>?_,fun a a' x x' b o k o' k' ha ha' hne hown hr hr'=>?_,fun a ha=>s.fresh a (by rw [← hn]; exact ha),fun a x hlt ha=>?_,by rw [hn]; exact s.names,s'.base⟩
  · rcases Nat.lt_or_ge a H.next with h1 | h1
    · obtain ⟨h2,h3⟩:=hb a x h1 ha
      rcases s'.blk a x h2 with h | ⟨b,o,k,hr,hbr⟩
      · exact .inl ((hx.same a h1).symm.trans h)
      · have hr0:ρ a=some (b,o,k):=(hx.same a h1).symm.trans hr
        refine .inr ⟨b,o,k,hr0,?_⟩
        rcases h3 with h3 | h3
        · exact (s.at h3 hr0).back hsub hbr
        · exact plain_BR h3 hbr
    · exact .inl (s.fresh a h1)
  · have h1:=s.lt_next hr
    have h1':=s.lt_next hr'
    exact s'.inj a a' x x' b o k o' k' (hb a x h1 ha).1 (hb a' x' h1' ha').1 hne hown ((hx.same a h1).trans hr) ((hx.same a' h1').trans hr')
  · have h1:a < H.next:=Nat.lt_of_lt_of_le hlt s.names
    exact (hx.same a h1).symm.trans (s'.glob a x hlt (hb a x h1 ha).1)
theorem WC.drop2 {f:FuncId} {args:List AV} {g:Nat→Option Blk} {n p:Nat} {v:AV} {x:Blk} (hp:plainV v=true) (hx:plainB x=true)
    (h:WC G P f args ⟨.fn g,n⟩ fun r=>∃ g' n',r=.ret v ⟨.fn g',n'⟩∧n≤n'∧(∀ b,b < n→b≠p→g' b=g b)∧g' p=some x) :
    WC G P f args ⟨.fn g,n⟩ fun r=>r=.ret v ⟨.fn (gput g p (some x)),n⟩:=by
  intro B ρ us w s hv
  refine (h B ρ us w s hv).mono ?_
  rintro e w' ⟨r,⟨g',n',rfl,hn,h1,h2⟩,hc⟩
  refine ⟨_,rfl,?_⟩
  cases e with
  | returned u =>
    obtain ⟨ρ',k1,k2,k3,k4⟩:=hc
    refine ⟨ρ,⟨fun _ _=>rfl,k1.below⟩,s.back2 k1 k2 rfl fun a y hlt ha=>?_,plain_VR hp k3,Nat.le_refl _⟩
    have ha' : gput g p (some x) a=some y:=ha
    unfold gput at ha'
    by_cases e:a=p
    · subst e
      rw [if_pos rfl] at ha'
      cases ha'
      exact ⟨h2,.inr hx⟩
    · rw [if_neg e] at ha'
      exact ⟨(h1 a hlt e).trans ha',.inl ha'⟩
  | panicked chain=>exact hc.elim
  | outgrown=>exact hc.elim
end Go.Ai
end
section
namespace Go.Ai
section
variable {G:Nat} {P:Program} {W:WF} {Q:Out→Prop} {fr:Fr} {H:Mem} {ev:Ev} {d:Option Tmp} {ty:TypeId} {p:String} {af:Array Edge} {g:Option (Nat×Bool)}
theorem unS_neg {x:Operand} {t:TypeId} {k:IntKind} {a:Int} (hx:ev x=some (.lit (.int k a))) : unS P H ev ⟨d,.unOp .neg t x,ty,p,af,g⟩ .neg (some (.lit (.int k a)))=.val (.lit (.int k (k.wrap (0 - a)))) H:=by
  unfold unS
  dsimp only
  rw [generic1 (r:=.int k (k.wrap (0 - a))) rfl hx fun ρ h=>?_]
  · rfl
  · show pureV P (do pure (Next.value (← Op.unary .neg (ρ x))))=_
    rw [h]
    rfl
noncomputable def maxS (P:Program) (H:Mem) (ev:Ev) (o:Oper) (x y:Option AV) : R:=match x,y with
  | some (.lit (.int k a)),some (.lit (.int _ b))=>.val (.lit (.int k (if b > a then b else a))) H
  | _,_=>opV P H ev o
theorem op_max {x y:Operand} {s t:TypeId} : opV P H ev ⟨d,.call ⟨.builtin .max,#[x,y],#[s,t]⟩,ty,p,af,g⟩=maxS P H ev ⟨d,.call ⟨.builtin .max,#[x,y],#[s,t]⟩,ty,p,af,g⟩ (ev x) (ev y):=by
  unfold maxS
  split
  · rename_i k a k' b hx hy
    have hg:generic P ev ⟨d,.call ⟨.builtin .max,#[x,y],#[s,t]⟩,ty,p,af,g⟩=some (.lit (.int k (if b > a then b else a))):=by
      refine generic2 (u:=.int k a) (u':=.int k' b) (by simp [Op.operands,Call.operands]) hx hy fun ρ h1 h2=>?_
      rw [exec_builtin (b:=.max) (c:=⟨.builtin .max,#[x,y],#[s,t]⟩) rfl rfl]
      have ea:(#[x,y] : Array Operand).map ρ=#[ρ x,ρ y]:=by simp
      have hm:pureV P (Builtin.max_ #[s,t] ty #[ρ x,ρ y])=some (.int k (if b > a then b else a)):=by
        rw [h1,h2]
        rfl
      show pureV P (builtin .max #[s,t] ty _ ((#[x,y] : Array Operand).map ρ))=_
      rw [ea]
      show pureV P (do pure (Next.value (← Builtin.max_ #[s,t] ty #[ρ x,ρ y])))=_
      exact (pureV_then hm).trans rfl
    show callOp P H ev _ ⟨.builtin .max,#[x,y],#[s,t]⟩=_
    unfold callOp
    rw [show (#[x,y] : Array Operand).toList=[x,y] from rfl]
    simp only [evals,hx,hy]
    unfold oBuiltin
    dsimp only
    rw [hg]
    rfl
  · rfl
theorem maxS_congr {tk:Nat} (_h0:tick=tk) {o:Oper} {x x' y y' : Option AV} {H H' : Mem} (h1:H=H') (h2:x=x') (h3:y=y') : maxS P H ev o x y=maxS P H' ev o x' y':=by rw [h1,h2,h3]
attribute [congr] maxS_congr
theorem maxS_int {o:Oper} {k k' : IntKind} {a b:Int} : maxS P H ev o (some (.lit (.int k a))) (some (.lit (.int k' b)))=.val (.lit (.int k (if b > a then b else a))) H:=(rfl)
noncomputable def minS (P:Program) (H:Mem) (ev:Ev) (o:Oper) (x y:Option AV) : R:=match x,y with
  | some (.lit (.int k a)),some (.lit (.int _ b))=>.val (.lit (.int k (if b < a then b else a))) H
  | _,_=>opV P H ev o
theorem op_min {x y:Operand} {s t:TypeId} : opV P H ev ⟨d,.call ⟨.builtin .min,#[x,y],#[s,t]⟩,ty,p,af,g⟩=minS P H ev ⟨d,.call ⟨.builtin .min,#[x,y],#[s,t]⟩,ty,p,af,g⟩ (ev x) (ev y):=by
  unfold minS
  split
  · rename_i k a k' b hx hy
    have hg:generic P ev ⟨d,.call ⟨.builtin .min,#[x,y],#[s,t]⟩,ty,p,af,g⟩=some (.lit (.int k (if b < a then b else a))):=by
      refine generic2 (u:=.int k a) (u':=.int k' b) (by simp [Op.operands,Call.operands]) hx hy fun ρ h1 h2=>?_
      rw [exec_builtin (b:=.min) (c:=⟨.builtin .min,#[x,y],#[s,t]⟩) rfl rfl]
      have ea:(#[x,y] : Array Operand).map ρ=#[ρ x,ρ y]:=by simp
      have hm:pureV P (Builtin.min_ #[s,t] ty #[ρ x,ρ y])=some (.int k (if b < a then b else a)):=by
        rw [h1,h2]
        rfl
      show pureV P (builtin .min #[s,t] ty _ ((#[x,y] : Array Operand).map ρ))=_
      rw [ea]
      show pureV P (do pure (Next.value (← Builtin.min_ #[s,t] ty #[ρ x,ρ y])))=_
      exact (pureV_then hm).trans rfl
    show callOp P H ev _ ⟨.builtin .min,#[x,y],#[s,t]⟩=_
    unfold callOp
    rw [show (#[x,y] : Array Operand).toList=[x,y] from rfl]
    simp only [evals,hx,hy]
    unfold oBuiltin
    dsimp only
    rw [hg]
    rfl
  · rfl
theorem minS_congr {tk:Nat} (_h0:tick=tk) {o:Oper} {x x' y y' : Option AV} {H H' : Mem} (h1:H=H') (h2:x=x') (h3:y=y') : minS P H ev o x y=minS P H' ev o x' y':=by rw [h1,h2,h3]
attribute [congr] minS_congr
theorem minS_int {o:Oper} {k k' : IntKind} {a b:Int} : minS P H ev o (some (.lit (.int k a))) (some (.lit (.int k' b)))=.val (.lit (.int k (if b < a then b else a))) H:=(rfl)
attribute [simp] op_min minS_int
attribute [simp] unS_neg op_max maxS_int
end
end Go.Ai
end
section
namespace Go.Ai
section
variable {P:Program} {H:Mem} {ev:Ev} {d:Option Tmp} {ty:TypeId} {p:String} {af:Array Edge} {g:Option (Nat×Bool)} {x y:Operand} {s t:TypeId} {size bytes:Nat}
theorem firstL_row {a n c:Nat} {l:List AV} {own:Bool} {z:Nat} (h:H.get a=some (.cells l own z)) (hl:l.length=n * size) : firstL H size n (.sl a 0 n c)=some l:=by
  rw [firstL_sl h (by omega),List.drop_zero,List.take_of_length_le (by omega)]
theorem firstL_rowq {a n c:Nat} {l:List AV} {own:Bool} {z:Nat} (h:H.get a=some (.cells l own z)) (hl:n * size≤l.length) : firstL H size n (.slq a 0 n c)=some (l.take (n * size)):=by
  rw [firstL_slq h (by omega),List.drop_zero]
variable {hp:apI P s t=some (size,bytes)} {hs:0 < size} {hb:bytes≤1048576}
theorem ap_nil {b c:Nat} {l:List AV} {own:Bool} {z:Nat} {hx:ev x=some (.lit (.slice none 0 0))} {hy:ev y=some (.sl b 0 1 c)} (hp:apI P s t=some (size,bytes)) (hs:(decide (0 < size) && decide (bytes≤1048576))=true)
    (hg:H.get b=some (.cells l own z)) (hl:l.length=size) :
    ex2 P H ev ⟨d,.call ⟨.builtin .append,#[x,y],#[s,t]⟩,ty,p,af,g⟩ x y (some (.lit (.slice none 0 0))) (some (.sl b 0 1 c)) hx hy=.val (.slq H.next 0 1 0) (H.add (.cells l true size)):=by
  simp only [Bool.and_eq_true,decide_eq_true_eq] at hs
  show opV P H ev _=_
  rw [append_of hx hy hp,appendN_nil (n:=0) rfl hs.1 (firstL_row hg (by omega)) (by omega) (by omega) hs.2]
theorem ap_sl0 {a b c off:Nat} {l l0:List AV} {own own0:Bool} {z z0:Nat} {hx:ev x=some (.sl a off 0 0)} {hy:ev y=some (.sl b 0 1 c)} (hp:apI P s t=some (size,bytes)) (hs:(decide (0 < size) && decide (bytes≤1048576))=true)
    (hg:H.get b=some (.cells l own z)) (hg0:H.get a=some (.cells l0 own0 z0)) (hl:l.length=size) (ho:off≤l0.length) :
    ex2 P H ev ⟨d,.call ⟨.builtin .append,#[x,y],#[s,t]⟩,ty,p,af,g⟩ x y (some (.sl a off 0 0)) (some (.sl b 0 1 c)) hx hy=.val (.slq H.next 0 1 0) (H.add (.cells l true size)):=by
  simp only [Bool.and_eq_true,decide_eq_true_eq] at hs
  show opV P H ev _=_
  rw [append_of hx hy hp,appendN_full (n:=0) rfl hs.1 (firstL_row hg (by omega)) (by omega) hg0 (by omega) (by omega) (by omega) hs.2]
  simp
theorem ap_slq {a b c k:Nat} {l r:List AV} {own:Bool} {z:Nat} {hx:ev x=some (.slq a 0 k 0)} {hy:ev y=some (.sl b 0 1 c)} (hp:apI P s t=some (size,bytes)) (hs:(decide (0 < size) && decide (bytes≤1048576))=true)
    (hg:H.get b=some (.cells l own z)) (hg0:H.get a=some (.cells r true size)) (hl:l.length=size) (hr:r.length=k * size) (hk:k≤1000000) (h1:allOne l=true) :
    ex2 P H ev ⟨d,.call ⟨.builtin .append,#[x,y],#[s,t]⟩,ty,p,af,g⟩ x y (some (.slq a 0 k 0)) (some (.sl b 0 1 c)) hx hy=.val (.slq H.next 0 (k+1) 0) ((H.rm a).add (.cells (r++l) true size)):=by
  simp only [Bool.and_eq_true,decide_eq_true_eq] at hs
  show opV P H ev _=_
  rw [append_of hx hy hp,appendN_grow (n:=0) rfl hs.1 (firstL_row hg (by omega)) (by omega) hg0 hr (by omega) hs.2 h1]
  rfl
theorem ap_none {a b c off n m:Nat} {hx:ev x=some (.sl a off n m)} {hy:ev y=some (.slq b 0 0 c)} (hp:(apI P s t).isSome=true) :
    ex2 P H ev ⟨d,.call ⟨.builtin .append,#[x,y],#[s,t]⟩,ty,p,af,g⟩ x y (some (.sl a off n m)) (some (.slq b 0 0 c)) hx hy=.val (.sl a off n m) H:=by
  cases hq:apI P s t with
  | none=>rw [hq] at hp; cases hp
  | some q =>
    obtain ⟨q1,q2⟩:=q
    show opV P H ev _=_
    rw [append_of hx hy hq]
    rfl
theorem ap_some {a b c off n:Nat} {r l0:List AV} {own own0:Bool} {z z0:Nat} {hx:ev x=some (.sl a off 0 0)} {hy:ev y=some (.slq b 0 (n+1) c)} (hp:apI P s t=some (size,bytes)) (hs:(decide (0 < size) && decide (bytes≤1048576))=true)
    (hg:H.get b=some (.cells r own z)) (hg0:H.get a=some (.cells l0 own0 z0)) (hl:(n+1) * size≤r.length) (ho:off≤l0.length) (hn:n≤1000000) :
    ex2 P H ev ⟨d,.call ⟨.builtin .append,#[x,y],#[s,t]⟩,ty,p,af,g⟩ x y (some (.sl a off 0 0)) (some (.slq b 0 (n+1) c)) hx hy=.val (.slq H.next 0 (n+1) 0) (H.add (.cells (r.take ((n+1) * size)) true size)):=by
  simp only [Bool.and_eq_true,decide_eq_true_eq] at hs
  show opV P H ev _=_
  rw [append_of hx hy hp,appendN_full (n:=n) rfl hs.1 (firstL_rowq hg hl) (by rw [List.length_take]; omega) hg0 (by omega) (by omega) (by omega) hs.2]
  simp
/- The same,by what the blocks hold. -/
noncomputable def apN (q:Option (Nat×Nat)) (gb:Option Blk) (H:Mem) (els:R) : R:=match q,gb with
  | some (size,bytes),some (.cells l _ _)=>if 0 < size∧bytes≤1048576∧l.length=size then .val (.slq H.next 0 1 0) (H.add (.cells l true size)) else els
  | _,_=>els
noncomputable def apZ (q:Option (Nat×Nat)) (off:Nat) (ga gb:Option Blk) (H:Mem) (els:R) : R:=match q,ga,gb with
  | some (size,bytes),some (.cells l0 _ _),some (.cells l _ _)=>if 0 < size∧bytes≤1048576∧l.length=size∧off≤l0.length then .val (.slq H.next 0 1 0) (H.add (.cells l true size)) else els
  | _,_,_=>els
noncomputable def apQ (q:Option (Nat×Nat)) (k a:Nat) (ga gb:Option Blk) (H:Mem) (els:R) : R:=match q,ga,gb with
  | some (size,bytes),some (.cells r true z),some (.cells l _ _)=>if z=size∧0 < size∧bytes≤1048576∧l.length=size∧r.length=k * size∧k≤1000000∧allOne l=true then .val (.slq H.next 0 (k+1) 0) ((H.rm a).add (.cells (r++l) true size)) else els
  | _,_,_=>els
noncomputable def apM (q:Option (Nat×Nat)) (n off:Nat) (ga gb:Option Blk) (H:Mem) (els:R) : R:=match q,ga,gb with
  | some (size,bytes),some (.cells l0 _ _),some (.cells r _ _)=>if 0 < size∧bytes≤1048576∧(n+1) * size≤r.length∧off≤l0.length∧n≤1000000 then .val (.slq H.next 0 (n+1) 0) (H.add (.cells (r.take ((n+1) * size)) true size)) else els
  | _,_,_=>els
theorem ap_nil' {b c:Nat} {hx:ev x=some (.lit (.slice none 0 0))} {hy:ev y=some (.sl b 0 1 c)} :
    ex2 P H ev ⟨d,.call ⟨.builtin .append,#[x,y],#[s,t]⟩,ty,p,af,g⟩ x y (some (.lit (.slice none 0 0))) (some (.sl b 0 1 c)) hx hy=apN (apI P s t) (H.get b) H (opV P H ev ⟨d,.call ⟨.builtin .append,#[x,y],#[s,t]⟩,ty,p,af,g⟩):=by
  unfold apN
  split
  · rename_i size bytes l own z h1 h2
    split
    · rename_i h; exact ap_nil h1 (by simp [h.1,h.2.1]) h2 h.2.2
    · rfl
  · rfl
theorem ap_sl0' {a b c off:Nat} {hx:ev x=some (.sl a off 0 0)} {hy:ev y=some (.sl b 0 1 c)} :
    ex2 P H ev ⟨d,.call ⟨.builtin .append,#[x,y],#[s,t]⟩,ty,p,af,g⟩ x y (some (.sl a off 0 0)) (some (.sl b 0 1 c)) hx hy=apZ (apI P s t) off (H.get a) (H.get b) H (opV P H ev ⟨d,.call ⟨.builtin .append,#[x,y],#[s,t]⟩,ty,p,af,g⟩):=by
  unfold apZ
  split
  · rename_i size bytes l0 o0 z0 l own z h1 h2 h3
    split
    · rename_i h; exact ap_sl0 h1 (by simp [h.1,h.2.1]) h3 h2 h.2.2.1 h.2.2.2
    · rfl
  · rfl
theorem ap_slq' {a b c k:Nat} {hx:ev x=some (.slq a 0 k 0)} {hy:ev y=some (.sl b 0 1 c)} :
    ex2 P H ev ⟨d,.call ⟨.builtin .append,#[x,y],#[s,t]⟩,ty,p,af,g⟩ x y (some (.slq a 0 k 0)) (some (.sl b 0 1 c)) hx hy=apQ (apI P s t) k a (H.get a) (H.get b) H (opV P H ev ⟨d,.call ⟨.builtin .append,#[x,y],#[s,t]⟩,ty,p,af,g⟩):=by
  unfold apQ
  split
  · rename_i size bytes r z l own w h1 h2 h3
    split
    · rename_i h
      obtain ⟨rfl,e2,e3,e4,e5,e6,e7⟩:=h
      exact ap_slq h1 (by simp [e2,e3]) h3 h2 e4 e5 e6 e7
    · rfl
  · rfl
theorem ap_some' {a b c off n:Nat} {hx:ev x=some (.sl a off 0 0)} {hy:ev y=some (.slq b 0 (n+1) c)} :
    ex2 P H ev ⟨d,.call ⟨.builtin .append,#[x,y],#[s,t]⟩,ty,p,af,g⟩ x y (some (.sl a off 0 0)) (some (.slq b 0 (n+1) c)) hx hy=apM (apI P s t) n off (H.get a) (H.get b) H (opV P H ev ⟨d,.call ⟨.builtin .append,#[x,y],#[s,t]⟩,ty,p,af,g⟩):=by
  unfold apM
  split
  · rename_i size bytes l0 o0 z0 r own w h1 h2 h3
    split
    · rename_i h
      obtain ⟨e2,e3,e4,e5,e6⟩:=h
      exact ap_some h1 (by simp [e2,e3]) h3 h2 e4 e5 e6
    · rfl
  · rfl
theorem apN_congr {tk:Nat} (_h0:tick=tk) {q q' : Option (Nat×Nat)} {gb gb' : Option Blk} {H:Mem} {els:R} (h1:q=q') (h2:gb=gb') : apN q gb H els=apN q' gb' H els:=by rw [h1,h2]
theorem apZ_congr {tk:Nat} (_h0:tick=tk) {q q' : Option (Nat×Nat)} {off:Nat} {ga ga' gb gb' : Option Blk} {H:Mem} {els:R} (h1:q=q') (h2:ga=ga') (h3:gb=gb') : apZ q off ga gb H els=apZ q' off ga' gb' H els:=by rw [h1,h2,h3]
theorem apQ_congr {tk:Nat} (_h0:tick=tk) {q q' : Option (Nat×Nat)} {k a:Nat} {ga ga' gb gb' : Option Blk} {H:Mem} {els:R} (h1:q=q') (h2:ga=ga') (h3:gb=gb') : apQ q k a ga gb H els=apQ q' k a ga' gb' H els:=by rw [h1,h2,h3]
theorem apM_congr {tk:Nat} (_h0:tick=tk) {q q' : Option (Nat×Nat)} {n off:Nat} {ga ga' gb gb' : Option Blk} {H:Mem} {els:R} (h1:q=q') (h2:ga=ga') (h3:gb=gb') : apM q n off ga gb H els=apM q' n off ga' gb' H els:=by rw [h1,h2,h3]
attribute [congr] apN_congr apZ_congr apQ_congr apM_congr
variable {els:R} {z w:Nat} {l r l0:List AV} {own own0:Bool} {k a n off:Nat} {G:Nat→Option Blk}
theorem apN_ok (h1:0 < size) (h2:bytes≤1048576) (h3:l.length=size) : apN (some (size,bytes)) (some (.cells l own z)) ⟨.fn G,n⟩ els=.val (.slq n 0 1 0) ⟨.fn (gput G n (some (.cells l true size))),n+1⟩:=if_pos ⟨h1,h2,h3⟩
theorem apZ_ok (h1:0 < size) (h2:bytes≤1048576) (h3:l.length=size) (h4:off≤l0.length) : apZ (some (size,bytes)) off (some (.cells l0 own0 w)) (some (.cells l own z)) ⟨.fn G,n⟩ els=.val (.slq n 0 1 0) ⟨.fn (gput G n (some (.cells l true size))),n+1⟩:=if_pos ⟨h1,h2,h3,h4⟩
theorem apQ_ok (h1:0 < size) (h2:bytes≤1048576) (h3:l.length=size) (h4:r.length=k * size) (h5:k≤1000000) (h6:allOne l=true) :
    apQ (some (size,bytes)) k a (some (.cells r true size)) (some (.cells l own w)) ⟨.fn G,n⟩ els=.val (.slq n 0 (k+1) 0) ⟨.fn (gput (gput G a none) n (some (.cells (r++l) true size))),n+1⟩:=if_pos ⟨rfl,h1,h2,h3,h4,h5,h6⟩
theorem apM_ok {m:Nat} (h1:0 < size) (h2:bytes≤1048576) (h3:(m+1) * size≤r.length) (h4:off≤l0.length) (h5:m≤1000000) :
    apM (some (size,bytes)) m off (some (.cells l0 own0 w)) (some (.cells r own z)) ⟨.fn G,n⟩ els=.val (.slq n 0 (m+1) 0) ⟨.fn (gput G n (some (.cells (r.take ((m+1) * size)) true size))),n+1⟩:=if_pos ⟨h1,h2,h3,h4,h5⟩
attribute [simp] ap_nil' ap_sl0' ap_slq' ap_none ap_some' apN_ok apZ_ok apQ_ok apM_ok
end
def rOf:R→Option AV
  | .val v _=>some v
  | _=>none
theorem resVar_cell {P:Program} {g:Nat→Option AV} {ds:List Dfr} {H:Mem} {a:Tmp} {t:TypeId} : resVar P (.f g ds) H (.cell a t)=rOf (oLoad P H t (g a)):=by
  show (match g a with | some p=>load P H t p | none=>none)=_
  unfold oLoad
  cases g a with
  | none=>rfl
  | some p =>
    dsimp only
    cases load P H t p <;> rfl
theorem rOf_val {v:AV} {H:Mem} : rOf (.val v H)=some v:=(rfl)
attribute [simp] resVar_cell rOf_val
theorem bsS_nil' {P:Program} {t:TypeId} {z:List AV} {size n:Nat} {g:Nat→Option Blk} (h:bsI P t=some (z,size)) :
    bsS P ⟨.fn g,n⟩ t 0 (some (z,size)) (some [])=.val (.sl n 0 0 0) ⟨.fn (gput g n (some (.cells [] true 0))),n+1⟩:=by
  unfold bsS
  dsimp only
  rw [if_neg (by omega)]
  exact bsS_nil h
attribute [simp] bsS_nil'
end Go.Ai
end
section
namespace Go.Ai
section
variable {P:Program} {H:Mem} {ev:Ev} {d:Option Tmp} {ty:TypeId} {p:String} {af:Array Edge} {g:Option (Nat×Bool)} {x y:Operand} {s t:TypeId} {size bytes:Nat}
noncomputable def apF (q:Option (Nat×Nat)) (k off:Nat) (ga gb:Option Blk) (H:Mem) (els:R) : R:=match q,ga,gb with
  | some (size,bytes),some (.cells l0 _ _),some (.cells l _ _)=>if 0 < size∧bytes≤1048576∧l.length=size∧off+(k+1) * size≤l0.length∧k≤1000000 then .val (.slq H.next 0 (k+1+1) 0) (H.add (.cells ((l0.drop off).take ((k+1) * size)++l) true size)) else els
  | _,_,_=>els
theorem ap_full' {a b c off k:Nat} {hx:ev x=some (.sl a off (k+1) (k+1))} {hy:ev y=some (.sl b 0 1 c)} :
    ex2 P H ev ⟨d,.call ⟨.builtin .append,#[x,y],#[s,t]⟩,ty,p,af,g⟩ x y (some (.sl a off (k+1) (k+1))) (some (.sl b 0 1 c)) hx hy=apF (apI P s t) k off (H.get a) (H.get b) H (opV P H ev ⟨d,.call ⟨.builtin .append,#[x,y],#[s,t]⟩,ty,p,af,g⟩):=by
  unfold apF
  split
  · rename_i size bytes l0 o0 z0 l own z h1 h2 h3
    split
    · rename_i h
      obtain ⟨e1,e2,e3,e4,e5⟩:=h
      show opV P H ev _=_
      rw [append_of hx hy h1,appendN_full (n:=0) rfl e1 (firstL_row h3 (by omega)) (by omega) h2 e4 (by omega) (by omega) e2]
    · rfl
  · rfl
theorem apF_congr {tk:Nat} (_h0:tick=tk) {q q' : Option (Nat×Nat)} {k off:Nat} {ga ga' gb gb' : Option Blk} {H:Mem} {els:R} (h1:q=q') (h2:ga=ga') (h3:gb=gb') : apF q k off ga gb H els=apF q' k off ga' gb' H els:=by rw [h1,h2,h3]
attribute [congr] apF_congr
variable {els:R} {z w:Nat} {l l0:List AV} {own own0:Bool} {k n off:Nat} {G:Nat→Option Blk}
theorem apF_ok (h1:0 < size) (h2:bytes≤1048576) (h3:l.length=size) (h4:off+(k+1) * size≤l0.length) (h5:k≤1000000) :
    apF (some (size,bytes)) k off (some (.cells l0 own0 w)) (some (.cells l own z)) ⟨.fn G,n⟩ els=.val (.slq n 0 (k+1+1) 0) ⟨.fn (gput G n (some (.cells ((l0.drop off).take ((k+1) * size)++l) true size))),n+1⟩:=if_pos ⟨h1,h2,h3,h4,h5⟩
attribute [simp] ap_full' apF_ok
end
end Go.Ai
end
section
namespace Go.Ai
section
variable {P:Program} {W:WF} {Q:Out→Prop} {fr:Fr} {H:Mem} {ev:Ev} {d:Option Tmp} {ty:TypeId} {p:String} {af:Array Edge} {g:Option (Nat×Bool)}
theorem generic3 {o:Oper} {x y z:Operand} {u u' u'' r:Value} (ho:o.op.operands=#[x,y,z]) (hx:ev x=some (.lit u)) (hy:ev y=some (.lit u')) (hz:ev z=some (.lit u''))
    (hr:∀ ρ:Operand→Value,ρ x=u→ρ y=u'→ρ z=u''→pureV P (execOp ρ o)=some (.value r)) : generic P ev o=some (.lit r):=by
  have h1:o.op.operands.toList=[x,y,z]:=by rw [ho]
  unfold generic
  simp only [h1,List.all_cons,List.all_nil,hx,hy,hz,toLit,Bool.and_true,if_true]
  rw [hr _ (by simp [hx]) (by simp [hy]) (by simp [hz])]
theorem bound_ok {k:IntKind} {i:Int} {y:Nat} {c:BoundsCode} (h0:0≤i) (h1:i≤y) : pureV P (Instr.sliceBound (.int k i) y c)=some i.toNat:=by
  show pureV P (do let (k,i) ← asIntOf (.int k i); if 0≤i∧i≤y then pure i.toNat else boundsPanic k i y c)=_
  rw [pureV_then (a:=(k,i)) rfl]
  show pureV P (if 0≤i∧i≤y then pure i.toNat else boundsPanic k i y c)=_
  rw [if_pos ⟨h0,h1⟩]
  rfl
theorem bounds_str {k k' : IntKind} {i j:Int} {n:Nat} (h0:0≤i) (h1:i≤j) (h2:j≤n) : pureV P (Instr.sliceBounds false n n (some (.int k i)) (some (.int k' j)) none)=some (i.toNat,j.toNat,n):=by
  unfold Instr.sliceBounds
  refine (pureV_then (a:=n) rfl).trans ?_
  refine (pureV_then (a:=j.toNat) (bound_ok (by omega) h2)).trans ?_
  refine (pureV_then (a:=i.toNat) (bound_ok h0 (by omega))).trans ?_
  rfl
noncomputable def subStr (P:Program) (H:Mem) (ev:Ev) (o:Oper) (td:Option TypeDesc) (s:ByteArray) (i j:Int) : R:=match td with
  | some .string=>if 0≤i∧i≤j∧j≤s.size then .val (.lit (.string (s.extract i.toNat j.toNat))) H else opV P H ev o
  | _=>opV P H ev o
theorem slice_str {t:TypeId} {x lo hi:Operand} {s:ByteArray} {k k' : IntKind} {i j:Int} {hx:ev x=some (.lit (.string s))} {hl:ev lo=some (.lit (.int k i))} {hh:ev hi=some (.lit (.int k' j))} :
    ex3 P H ev ⟨d,.slice t x (some lo) (some hi) none,ty,p,af,g⟩ x lo hi (some (.lit (.string s))) (some (.lit (.int k i))) (some (.lit (.int k' j))) hx hl hh=subStr P H ev ⟨d,.slice t x (some lo) (some hi) none,ty,p,af,g⟩ (P.underlying t) s i j:=by
  unfold subStr
  split
  · rename_i hd
    split
    · rename_i h
      obtain ⟨h0,h1,h2⟩:=h
      show opV P H ev _=_
      show oSlice P H ev _ t (ev x) (some lo) (some hi) none=_
      unfold oSlice
      rw [generic3 (r:=.string (s.extract i.toNat j.toNat)) (x:=x) (y:=lo) (z:=hi) (by simp [Op.operands]) hx hl hh fun ρ e1 e2 e3=>?_]
      show pureV P (do pure (Next.value (← Instr.sliceAt t (ρ x) (some (ρ lo)) (some (ρ hi)) none)))=_
      rw [e1,e2,e3]
      have key:pureV P (Instr.slice t (.string s) (some (.int k i)) (some (.int k' j)) none)=some (.string (s.extract i.toNat j.toNat)):=by
        unfold Instr.slice
        refine (pureV_then (m:=underlying t) (a:=TypeDesc.string) (pureV_underlying hd)).trans ?_
        dsimp only
        refine (pureV_then (a:=(i.toNat,j.toNat,s.size)) (bounds_str h0 h1 h2)).trans ?_
        rfl
      have key2:pureV P (Instr.sliceAt t (.string s) (some (.int k i)) (some (.int k' j)) none)=some (.string (s.extract i.toNat j.toNat)):=by
        unfold Instr.sliceAt
        refine (pureV_then (m:=underlying t) (a:=TypeDesc.string) (pureV_underlying hd)).trans ?_
        exact key
      rw [pureV_then key2]
      rfl
    · rfl
  · rfl
theorem subStr_congr {tk:Nat} (_h0:tick=tk) {o:Oper} {td td' : Option TypeDesc} {s s' : ByteArray} {i i' j j' : Int} (h1:td=td') (h2:s=s') (h3:i=i') (h4:j=j') : subStr P H ev o td s i j=subStr P H ev o td' s' i' j':=by rw [h1,h2,h3,h4]
attribute [congr] subStr_congr
theorem subStr_ok {o:Oper} {s:ByteArray} {i j:Int} (h0:0≤i) (h1:i≤j) (h2:j≤s.size) : subStr P H ev o (some .string) s i j=.val (.lit (.string (s.extract i.toNat j.toNat))) H:=if_pos ⟨h0,h1,h2⟩
attribute [simp] slice_str subStr_ok
end
end Go.Ai
end
section
namespace Go.Ai
section
variable {P:Program} {W:WF} {Q:Out→Prop} {fr:Fr} {H:Mem} {ev:Ev} {d:Option Tmp} {ty:TypeId} {p:String} {af:Array Edge} {g:Option (Nat×Bool)}
noncomputable def shrS (P:Program) (H:Mem) (ev:Ev) (o:Oper) (t:TypeId) (x y:Option AV) : R:=match x,y with
  | some (.lit (.int k a)),some (.lit (.int k' b))=>if 0≤b∧b≤63∧b.toNat≤k.bits then .val (.lit (.int k (a.fdiv (2 ^ b.toNat)))) H else oBin P H ev o .shr t (some (.lit (.int k a))) (some (.lit (.int k' b)))
  | x,y=>oBin P H ev o .shr t x y
theorem op_shr {t rt:TypeId} {x y:Operand} : opV P H ev ⟨d,.binOp .shr t x y rt,ty,p,af,g⟩=shrS P H ev ⟨d,.binOp .shr t x y rt,ty,p,af,g⟩ t (ev x) (ev y):=by
  rw [op_bin]
  unfold shrS
  split
  · rename_i k a k' b hx hy
    rw [hx,hy]
    split
    · rename_i h
      obtain ⟨h0,h1,h2⟩:=h
      have hf:fastBin .shr (.lit (.int k a)) (.lit (.int k' b))=none:=by unfold fastBin; dsimp only; cases kEq k k' <;> rfl
      refine oBin_generic hf (generic2 rfl hx hy fun ρ e1 e2=>execOp_bin e1 e2 rfl ?_)
      show pureV P (Op.shift .shr k a k' b)=_
      unfold Op.shift
      rw [if_neg (by omega)]
      dsimp only
      rw [Nat.min_eq_left h2]
      rfl
    · rfl
  · rfl
theorem shrS_congr {tk:Nat} (_h0:tick=tk) {o:Oper} {t:TypeId} {x x' y y' : Option AV} {H H' : Mem} (h1:H=H') (h2:x=x') (h3:y=y') : shrS P H ev o t x y=shrS P H' ev o t x' y':=by rw [h1,h2,h3]
attribute [congr] shrS_congr
theorem shrS_ok {o:Oper} {t:TypeId} {k k' : IntKind} {a b:Int} (h0:0≤b) (h1:b≤63) (h2:b.toNat≤k.bits) : shrS P H ev o t (some (.lit (.int k a))) (some (.lit (.int k' b)))=.val (.lit (.int k (a.fdiv (2 ^ b.toNat)))) H:=if_pos ⟨h0,h1,h2⟩
theorem bits_i64:IntKind.i64.bits=64:=(rfl)
theorem bits_u64:IntKind.u64.bits=64:=(rfl)
theorem binS_shr {t rt:TypeId} {x y:Operand} {k k' : IntKind} {a b:Int} (hx:ev x=some (.lit (.int k a))) (hy:ev y=some (.lit (.int k' b))) (h0:0≤b) (h1:b≤63) (h2:b.toNat≤k.bits) :
    binS P H ev ⟨d,.binOp .shr t x y rt,ty,p,af,g⟩ .shr t (some (.lit (.int k a))) (some (.lit (.int k' b)))=.val (.lit (.int k (a / (2 ^ b.toNat)))) H:=by
  have e:=op_bin' (P:=P) (H:=H) (ev:=ev) (d:=d) (ty:=ty) (p:=p) (af:=af) (g:=g) (op:=.shr) (t:=t) (rt:=rt) (x:=x) (y:=y)
  rw [hx,hy] at e
  rw [← e,op_shr,hx,hy]
  rw [shrS_ok h0 h1 h2,Int.fdiv_eq_ediv_of_nonneg _ (Int.le_of_lt (Int.pow_pos (by decide)))]
theorem intK2_shr {t rt:TypeId} {x y:Operand} {k:IntKind} {a b:Int} (hx:ev x=some (.lit (.int k a))) (hy:ev y=some (.lit (.int k b))) (h0:0≤b) (h1:b≤63) (h2:b.toNat≤k.bits) :
    intK2 P H ev ⟨d,.binOp .shr t x y rt,ty,p,af,g⟩ .shr t k a b (intR .shr k a b)=.val (.lit (.int k (a / (2 ^ b.toNat)))) H:=by
  rw [← binS_intR]
  exact binS_shr hx hy h0 h1 h2
theorem wrap_u64 {a:Int} (h1:0≤a) (h2:a≤18446744073709551615) : IntKind.u64.wrap a=a:=by
  simp only [IntKind.wrap,IntKind.bits,IntKind.signed]
  simp
  omega
theorem wrap_u32 {a:Int} (h1:0≤a) (h2:a≤4294967295) : IntKind.u32.wrap a=a:=by
  simp only [IntKind.wrap,IntKind.bits,IntKind.signed]
  simp
  omega
theorem idxS_any {t:TypeId} {x i:Operand} {s:ByteArray} {k:IntKind} {j:Int} (hx:ev x=some (.lit (.string s))) (hi:ev i=some (.lit (.int k j))) (hd:P.underlying t=some .string) (h0:0≤j) (h:j.toNat < s.size) :
    idxS P H ev ⟨d,.index t x i,ty,p,af,g⟩ t (some .string) (some (.lit (.string s))) (some (.lit (.int k j)))=.val (.lit (.int .u8 (bAt s j.toNat))) H:=by
  have e:=op_idx (P:=P) (H:=H) (ev:=ev) (d:=d) (ty:=ty) (p:=p) (af:=af) (g:=g) (t:=t) (x:=x) (i:=i)
  rw [hd,hx,hi] at e
  rw [← e]
  show oIndex P H ev _ t (ev x) (ev i)=_
  have hg:generic P ev ⟨d,.index t x i,ty,p,af,g⟩=some (.lit (.int .u8 (s[j.toNat]'h).toNat)):=by
    refine generic2 rfl hx hi fun ρ h1 h2=>?_
    show pureV P (do pure (Next.value (← Instr.index t (ρ x) (ρ i))))=_
    rw [pureV_then (a:=.int .u8 (s[j.toNat]'h).toNat)]
    · rfl
    · rw [h1,h2]
      refine (pureV_then (m:=underlying t) (a:=TypeDesc.string) (pureV_underlying hd)).trans ?_
      dsimp only
      rw [if_pos h0,getElem?_pos s j.toNat h]
      rfl
  have hn:index P t (.lit (.string s)) (.lit (.int k j))=none:=by unfold index; rw [hd]
  rw [hx,hi]
  unfold oIndex
  dsimp only
  rw [hn,hg]
  unfold bAt
  rw [dif_pos h]
  rfl
noncomputable def subArr (P:Program) (H:Mem) (ev:Ev) (o:Oper) (q:Option (Option Nat×Nat)) (a off:Nat) (i j:Int) : R:=match q with
  | some (some n,sz)=>if 0≤i∧i≤j∧j≤n∧i < n then .val (.sl a (off+i.toNat * sz) (j.toNat - i.toNat) (n - i.toNat)) H else opV P H ev o
  | _=>opV P H ev o
theorem elSzA_inv {t:TypeId} {n sz:Nat} (h:elSz P t=some (some n,sz)) : ∃ e i,P.underlying t=some (.array n e)∧P.info? e=some i∧i.size=sz:=by
  unfold elSz at h
  split at h
  · split at h <;> cases h
  · rename_i m e hu
    split at h
    · rename_i j hj; cases h; exact ⟨e,j,hu,hj,rfl⟩
    · cases h
  · cases h
theorem slice_arr {t:TypeId} {x lo hi:Operand} {a off:Nat} {k k' : IntKind} {i j:Int} {hx:ev x=some (.ptr a off)} {hl:ev lo=some (.lit (.int k i))} {hh:ev hi=some (.lit (.int k' j))} :
    ex3 P H ev ⟨d,.slice t x (some lo) (some hi) none,ty,p,af,g⟩ x lo hi (some (.ptr a off)) (some (.lit (.int k i))) (some (.lit (.int k' j))) hx hl hh=subArr P H ev ⟨d,.slice t x (some lo) (some hi) none,ty,p,af,g⟩ (elSz P t) a off i j:=by
  unfold subArr
  split
  · rename_i n sz hq
    split
    · rename_i h
      obtain ⟨h0,h1,h2,h4⟩:=h
      show opV P H ev _=_
      rw [slice_of hx rfl]
      obtain ⟨e,i',h5,h6,h7⟩:=elSzA_inv hq
      unfold oSliceN evOpt
      dsimp only
      rw [hl,hh]
      dsimp only
      unfold sliceOp
      rw [h5]
      dsimp only
      rw [h6]
      dsimp only
      have hb:bounds (some (.lit (.int k i))) (some (.lit (.int k' j))) none n n=some (i.toNat,j.toNat,n):=by
        unfold bounds natOr
        dsimp only
        rw [natOf_int h0,natOf_int (by omega)]
        simp only [okMx,Nat.ble_eq_true_of_le (show i.toNat≤j.toNat by omega),Nat.ble_eq_true_of_le (show j.toNat≤n by omega),Nat.ble_eq_true_of_le (Nat.le_refl n),Bool.and_true]
      rw [hb]
      unfold sliceSl
      have hb2:Nat.beq n i.toNat=false:=by
        cases hb2:Nat.beq n i.toNat with
        | false=>rfl
        | true=>have:=Nat.eq_of_beq_eq_true hb2; omega
      dsimp only
      rw [hb2,h7]
      simp [natK_eq,ofOpt]
    · rfl
  · rfl
theorem subArr_congr {tk:Nat} (_h0:tick=tk) {o:Oper} {q q' : Option (Option Nat×Nat)} {a a' off off' : Nat} {i i' j j' : Int} (h1:q=q') (h2:a=a') (h3:off=off') (h4:i=i') (h5:j=j') : subArr P H ev o q a off i j=subArr P H ev o q' a' off' i' j':=by rw [h1,h2,h3,h4,h5]
attribute [congr] subArr_congr
theorem subArr_ok {o:Oper} {n sz a off:Nat} {i j:Int} (h0:0≤i) (h1:i≤j) (h2:j≤n) (h3:i < n) : subArr P H ev o (some (some n,sz)) a off i j=.val (.sl a (off+i.toNat * sz) (j.toNat - i.toNat) (n - i.toNat)) H:=if_pos ⟨h0,h1,h2,h3⟩
noncomputable def strB (P:Program) (H:Mem) (ev:Ev) (o:Oper) (s t:TypeId) (ed:Option TypeDesc) (x:AV) (off n:Nat) (b:Option Blk) : R:=match ed,b with
  | some (.int .u8),some (.cells l _ _)=>if off+n≤l.length then (match bytesOf ((l.drop off).take n) with | some bs=>.val (.lit (.string ⟨bs.toArray⟩)) H | none=>oConvert P H ev o s t (some x)) else oConvert P H ev o s t (some x)
  | _,_=>oConvert P H ev o s t (some x)
theorem cvS_bytes {s t:TypeId} {x:Operand} {e:TypeId} {a off n c:Nat} (hx:ev x=some (.sl a off n c)) (hs:P.underlying s=some (.slice e)) (ht:P.underlying t=some .string) :
    cvS P H ev ⟨d,.convert s t x,ty,p,af,g⟩ s t (some (.slice e)) (some .string) (some (.sl a off n c))=strB P H ev ⟨d,.convert s t x,ty,p,af,g⟩ s t (P.underlying e) (.sl a off n c) off n (H.get a):=by
  show oConvert P H ev _ s t (some (.sl a off n c))=_
  unfold strB
  split
  · rename_i l own z he hg
    split
    · rename_i hle
      split
      · rename_i bs hbs
        unfold oConvert
        rw [generic_none (x:=x) (by simp [Op.operands]) (fun v' h=>by rw [hx] at h; cases h; rfl)]
        dsimp only
        unfold Go.Ai.convert
        rw [hs,ht]
        dsimp only
        rw [he]
        dsimp only [lenOf]
        have hf:firstL H 1 n (.sl a off n c)=some ((l.drop off).take n):=by
          have:=firstL_sl (size:=1) (n:=n) (c:=c) hg (by rw [Nat.mul_one]; exact hle)
          rw [Nat.mul_one] at this
          exact this
        rw [hf]
        dsimp only
        rw [hbs]
      · rfl
    · rfl
  · rfl
theorem strB_congr {tk:Nat} (_h0:tick=tk) {o:Oper} {s t:TypeId} {ed ed' : Option TypeDesc} {x:AV} {off n:Nat} {b b' : Option Blk} (h1:ed=ed') (h2:b=b') : strB P H ev o s t ed x off n b=strB P H ev o s t ed' x off n b':=by rw [h1,h2]
attribute [congr] strB_congr
noncomputable def strK (H:Mem) (els:R) (x:Option (List UInt8)) : R:=match x with | some bs=>.val (.lit (.string ⟨bs.toArray⟩)) H | none=>els
theorem strK_congr {tk:Nat} (_h0:tick=tk) {H:Mem} {els:R} {x x' : Option (List UInt8)} (h:x=x') : strK H els x=strK H els x':=by rw [h]
attribute [congr] strK_congr
theorem strK_some {els:R} {bs:List UInt8} : strK H els (some bs)=.val (.lit (.string ⟨bs.toArray⟩)) H:=(rfl)
theorem strB_ok {o:Oper} {s t:TypeId} {x:AV} {off n:Nat} {l:List AV} {own:Bool} {z:Nat} (h1:off+n≤l.length) : strB P H ev o s t (some (.int .u8)) x off n (some (.cells l own z))=strK H (oConvert P H ev o s t (some x)) (bytesOf ((l.drop off).take n)):=by
  unfold strB strK; dsimp only; rw [if_pos h1]
def consB (x:UInt8) (l:Option (List UInt8)) : Option (List UInt8):=match l with | some r=>some (x :: r) | none=>none
theorem bytesOf_nil:bytesOf []=some []:=(rfl)
theorem bytesOf_u8 {n:Int} {l:List AV} : bytesOf (.lit (.int .u8 n) :: l)=consB (UInt8.ofNat n.toNat) (bytesOf l):=by
  show (match bytesOf l with | some r=>some (UInt8.ofNat n.toNat :: r) | none=>none)=_
  unfold consB
  cases bytesOf l <;> rfl
theorem consB_some {x:UInt8} {r:List UInt8} : consB x (some r)=some (x :: r):=(rfl)
attribute [simp] bits_i64 bits_u64 idxS_any binS_shr intK2_shr wrap_u64 wrap_u32 slice_arr subArr_ok cvS_bytes strB_ok strK_some bytesOf_nil bytesOf_u8 consB_some
end
end Go.Ai
end
section
namespace Go.Ai
section
variable {P:Program} {H:Mem} {ev:Ev} {d:Option Tmp} {ty:TypeId} {p:String} {af:Array Edge} {g:Option (Nat×Bool)}
def strCells (s:ByteArray) : List AV:=s.data.toList.map fun b=>.lit (.int .u8 (b.toNat:Nat))
theorem pureV_noneBind {α β:Type} {m:Sem α} {k:α→Sem β} (h:pureV P m=none) : pureV P (m >>= k)=none:=by
  show pureV P (m.bind k)=none
  rw [pureV_bind,h]
theorem toBytes_none {e:TypeId} {s:ByteArray} : pureV P (Conv.stringToBytes e s)=none:=by
  unfold Conv.stringToBytes
  exact pureV_noneBind rfl
theorem cvS_str {s t e:TypeId} {x:Operand} {str:ByteArray} (hx:ev x=some (.lit (.string str))) (hs:P.underlying s=some .string) (ht:P.underlying t=some (.slice e)) (he:P.underlying e=some (.int .u8)) (hsz:str.size≤1048576) :
    cvS P H ev ⟨d,.convert s t x,ty,p,af,g⟩ s t (some .string) (some (.slice e)) (some (.lit (.string str)))=.val (.slq H.next 0 str.size 0) (H.add (.cells (strCells str) true 1)):=by
  show oConvert P H ev _ s t (some (.lit (.string str)))=_
  have hg:generic P ev ⟨d,.convert s t x,ty,p,af,g⟩=none:=by
    have h1:(Op.convert s t x).operands.toList=[x]:=by simp [Op.operands]
    unfold generic
    dsimp only
    rw [h1]
    simp only [List.all_cons,List.all_nil,hx,toLit,Bool.and_true,if_true]
    have hn:∀ ρ:Operand→Value,ρ x=.string str→pureV P (execOp ρ ⟨d,.convert s t x,ty,p,af,g⟩)=none:=by
      intro ρ hρ
      show pureV P (do pure (Next.value (← Go.convert s t (ρ x))))=none
      rw [hρ]
      refine pureV_noneBind ?_
      unfold Go.convert
      refine (pureV_then (m:=underlying s) (pureV_underlying hs)).trans ?_
      refine (pureV_then (m:=underlying t) (pureV_underlying ht)).trans ?_
      dsimp only
      refine (pureV_then (m:=underlying e) (pureV_underlying he)).trans ?_
      exact toBytes_none
    rw [hn _ (by simp [hx])]
  unfold oConvert
  rw [hg]
  dsimp only
  unfold Go.Ai.convert
  rw [hs,ht]
  dsimp only
  rw [he]
  dsimp only
  rw [if_pos hsz,newSlq_eq]
  rfl
attribute [simp] cvS_str
end
end Go.Ai
end
section
namespace Go.Ai
section
variable {P:Program} {W:WF} {Q:Out→Prop} {fr:Fr} {H:Mem} {ev:Ev} {d:Option Tmp} {ty:TypeId} {p:String} {af:Array Edge} {g:Option (Nat×Bool)}
theorem equal_nilI {t:TypeId} {ms:Array (String×TypeId)} (ht:P.underlying t=some (.interface ms)) : pureV P (Op.equal t .nilIface .nilIface)=some true:=by
  unfold Op.equal
  show pureV P (Op.equalIn (9999+1) t .nilIface .nilIface)=_
  unfold Op.equalIn
  exact (pureV_then (m:=underlying t) (pureV_underlying ht)).trans rfl
theorem guard_nil {op:BinOp} {t:TypeId} {x:Operand} : pureV P (eqGuard op t x (.const .nilIface) .nilIface .nilIface)=some ():=by
  unfold eqGuard
  cases op <;> cases x <;> rfl
def ifaceT (P:Program) (t:TypeId) : Bool:=match P.underlying t with | some (.interface _)=>true | _=>false
theorem ifaceT_inv {t:TypeId} (h:ifaceT P t=true) : ∃ ms,P.underlying t=some (.interface ms):=by
  unfold ifaceT at h
  split at h
  · rename_i ms e; exact ⟨ms,e⟩
  · cases h
theorem bin_nilneq {t rt:TypeId} {x:Operand} (hx:ev x=some (.lit .nilIface)) (hy:ev (.const .nilIface)=some (.lit .nilIface)) (ht:ifaceT P t=true) :
    binS P H ev ⟨d,.binOp .neq t x (.const .nilIface) rt,ty,p,af,g⟩ .neq t (some (.lit .nilIface)) (some (.lit .nilIface))=.val (.lit (.bool false)) H:=by
  obtain ⟨ms,ht⟩:=ifaceT_inv ht
  unfold binS
  dsimp only
  rw [oBin_generic (v:=.lit (.bool false)) rfl]
  refine generic2 (r:=.bool false) rfl hx hy fun ρ h1 h2=>execOp_bin h1 h2 guard_nil ?_
  show pureV P (do pure (Value.bool (!(← Op.equal t .nilIface .nilIface))))=_
  exact (pureV_then (equal_nilI ht)).trans rfl
theorem bin_ptrneq {t rt T:TypeId} {x y:Operand} {a o:Nat} (hx:ev x=some (.iface T (.ptr a o))) (ht:ifaceT P t=true) :
    binS P H ev ⟨d,.binOp .neq t x y rt,ty,p,af,g⟩ .neq t (some (.iface T (.ptr a o))) (some (.lit .nilIface))=.val (.lit (.bool true)) H:=by
  obtain ⟨ms,ht⟩:=ifaceT_inv ht
  unfold binS
  dsimp only
  have hg:generic P ev ⟨d,.binOp .neq t x y rt,ty,p,af,g⟩=none:=by
    unfold generic
    rw [if_neg]
    intro h
    have:=List.all_eq_true.1 h x (by simp [Op.operands])
    rw [hx] at this
    simp [toLit] at this
  unfold oBin fast2
  dsimp only
  rw [show fastBin .neq (.iface T (.ptr a o)) (.lit .nilIface)=none from rfl]
  dsimp only
  rw [hg]
  dsimp only
  unfold oNilEq
  dsimp only
  rw [ht]
  rfl
theorem op_panic {x:Operand} : opV P H ev ⟨d,.panic x,ty,p,af,g⟩=oPanic H (ev x):=(rfl)
theorem oPanic_congr {tk:Nat} (_h0:tick=tk) {H H' : Mem} {x x' : Option AV} (h1:H=H') (h2:x=x') : oPanic H x=oPanic H' x':=by rw [h1,h2]
attribute [congr] oPanic_congr
theorem oPanic_iface {T:TypeId} {v:AV} : oPanic H (some (.iface T v))=.panic (.iface T v) H:=(rfl)
theorem leaveW_panic {O:CallF} {fn:Func} {K:COut→Prop} {v:AV} {gf:Nat→Option AV} : leaveW P O fn K (.panic v (.f gf []) H)=K (.panic v H):=(rfl)
attribute [simp] leaveW_panic bin_nilneq bin_ptrneq op_panic oPanic_iface
end
end Go.Ai
end
