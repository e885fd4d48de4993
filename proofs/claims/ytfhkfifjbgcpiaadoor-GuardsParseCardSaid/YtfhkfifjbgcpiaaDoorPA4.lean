/- A small verified interpreter over names, its proofs, and what was proved with it. No condition. -/
import Derived.ProofKit
import Derived.Deep.DeepHandedRow
import Derived.Test.YtfhkfifjbgcpiaaDoorPA3
set_option linter.all false
set_option linter.deprecated false
section
namespace Go.Ai
open Go.RowKit (Below)
variable {P:Program} {W:WF} {L:LF} {Q:Out→Prop} {fr:Fr} {H:Mem}
/- What simp looks into: the state,not the code. -/
def tick:Nat:=0
def tock:Nat:=0
theorem tick_tock:tick=tock:=Nat.le_antisymm (Nat.le_refl 0) (Nat.le_refl 0)
attribute [simp] tick_tock
theorem execW_congr {tk:Nat} (_h0:tick=tk) {c:Code} {fr fr' : Fr} {H H' : Mem} (h1:fr=fr') (h2:H=H') : execW P W L c fr H Q=execW P W L c fr' H' Q:=by rw [h1,h2]
theorem seqW_congr {tk:Nat} (_h0:tick=tk) {ops:Array Oper} {l:List Oper} {fr fr' : Fr} {H H' : Mem} (h1:fr=fr') (h2:H=H') : seqW P W ops Q l fr H=seqW P W ops Q l fr' H':=by rw [h1,h2]
theorem oneW_congr {tk:Nat} (_h0:tick=tk) {ops:Array Oper} {o:Oper} {k:Fr→Mem→Prop} {fr fr' : Fr} {H H' : Mem} (h1:fr=fr') (h2:H=H') : oneW P W ops o fr H k Q=oneW P W ops o fr' H' k Q:=by rw [h1,h2]
theorem afterW_congr {tk:Nat} (_h0:tick=tk) {o:Oper} {k:Fr→Mem→Prop} {fr fr' : Fr} {r r' : R} (h1:fr=fr') (h2:r=r') : afterW W o fr k Q r=afterW W o fr' k Q r':=by rw [h1,h2]
theorem opV_congr {tk:Nat} (_h0:tick=tk) {ev:Ev} {o:Oper} {H H' : Mem} (h2:H=H') : opV P H ev o=opV P H' ev o:=by rw [h2]
theorem oBin_congr {tk:Nat} (_h0:tick=tk) {ev:Ev} {o:Oper} {op:BinOp} {t:TypeId} {x x' y y' : Option AV} {H H' : Mem} (h1:H=H') (h2:x=x') (h3:y=y') : oBin P H ev o op t x y=oBin P H' ev o op t x' y':=by rw [h1,h2,h3]
theorem condW_congr {tk:Nat} (_h0:tick=tk) {x x' : Option AV} {a b:Prop} (h:x=x') : condW x a b=condW x' a b:=by rw [h]
theorem byGuard_congr {tk:Nat} (_h0:tick=tk) {x x' : Option AV} {g:Bool} {a b:Prop} (h:x=x') : byGuard x g a b=byGuard x' g a b:=by rw [h]
theorem thenW_congr {tk:Nat} (_h0:tick=tk) {k:Fr→Mem→Prop} {o o' : Out} (h:o=o') : thenW k Q o=thenW k Q o':=by rw [h]
theorem inBlockW_congr {tk:Nat} (_h0:tick=tk) {id:Nat} {o o' : Out} (h:o=o') : inBlockW id Q o=inBlockW id Q o':=by rw [h]
theorem guardSlot_congr {tk:Nat} (_h0:tick=tk) {ops:Array Oper} {j:Nat} {fr fr' : Fr} (h:fr=fr') : guardSlot ops fr j=guardSlot ops fr' j:=by rw [h]
theorem drawnW_congr {tk:Nat} (_h0:tick=tk) {ops:Array Oper} {fr fr' : Fr} {H H' : Mem} (h1:fr=fr') (h2:H=H') : drawnW P W ops fr H Q=drawnW P W ops fr' H' Q:=by rw [h1,h2]
theorem Fr_ev_congr {tk:Nat} (_h0:tick=tk) {fr fr' : Fr} {x:Operand} (h:fr=fr') : fr.ev x=fr'.ev x:=by rw [h]
attribute [congr] execW_congr seqW_congr oneW_congr afterW_congr opV_congr oBin_congr condW_congr byGuard_congr thenW_congr inBlockW_congr guardSlot_congr drawnW_congr Fr_ev_congr
theorem thenW_norm {k:Fr→Mem→Prop} : thenW k Q (.norm fr H)=k fr H:=(rfl)
theorem thenW_exit {k:Fr→Mem→Prop} {id:Nat} : thenW k Q (.exit id fr H)=Q (.exit id fr H):=(rfl)
theorem thenW_ret {k:Fr→Mem→Prop} : thenW k Q (.ret fr H)=Q (.ret fr H):=(rfl)
theorem thenW_panic {k:Fr→Mem→Prop} {v:AV} : thenW k Q (.panic v fr H)=Q (.panic v fr H):=(rfl)
theorem inBlockW_norm {id:Nat} : inBlockW id Q (.norm fr H)=Q (.norm fr H):=(rfl)
theorem inBlockW_ret {id:Nat} : inBlockW id Q (.ret fr H)=Q (.ret fr H):=(rfl)
theorem inBlockW_panic {id:Nat} {v:AV} : inBlockW id Q (.panic v fr H)=Q (.panic v fr H):=(rfl)
theorem inBlockW_exit {id id' : Nat} : inBlockW id Q (.exit id' fr H)=if id'=id then Q (.norm fr H) else Q (.exit id' fr H):=(rfl)
def splitP (p:Prop) (x y:Prop) : Prop:=(p→x)∧(¬p→y)
theorem splitP_congr {tk:Nat} (_h0:tick=tk) {p p' x y:Prop} (h:p=p') : splitP p x y=splitP p' x y:=by rw [h]
attribute [congr] splitP_congr
theorem splitP_true {x y:Prop} : splitP True x y=x:=by simp [splitP]
theorem splitP_false {x y:Prop} : splitP False x y=y:=by simp [splitP]
theorem splitP_not {p x y:Prop} : splitP (¬p) x y=splitP p y x:=by
  by_cases h:p <;> simp [splitP,h]
attribute [simp] splitP_true splitP_false splitP_not
theorem splitI {p x y:Prop} (h1:p→x) (h2:¬p→y) : splitP p x y:=⟨h1,h2⟩
def splitB (b:Bool) (x y:Prop) : Prop:=(b=true→x)∧(b=false→y)
theorem splitB_congr {tk:Nat} (_h0:tick=tk) {b b' : Bool} {x y:Prop} (h:b=b') : splitB b x y=splitB b' x y:=by rw [h]
attribute [congr] splitB_congr
theorem splitB_true {x y:Prop} : splitB true x y=x:=by simp [splitB]
theorem splitB_false {x y:Prop} : splitB false x y=y:=by simp [splitB]
theorem splitB_not {b:Bool} {x y:Prop} : splitB (!b) x y=splitB b y x:=by cases b <;> simp [splitB]
theorem splitB_dec {p:Prop} [Decidable p] {x y:Prop} : splitB (decide p) x y=splitP p x y:=by by_cases h:p <;> simp [splitB,splitP,h]
theorem splitB_and {b c:Bool} {x y:Prop} : splitB (b && c) x y=splitB b (splitB c x y) y:=by cases b <;> simp [splitB]
theorem splitB_or {b c:Bool} {x y:Prop} : splitB (b || c) x y=splitB b x (splitB c x y):=by cases b <;> simp [splitB]
theorem splitBI {b:Bool} {x y:Prop} (h1:b=true→x) (h2:b=false→y) : splitB b x y:=⟨h1,h2⟩
attribute [simp] splitB_true splitB_false splitB_not splitB_dec splitB_and splitB_or
inductive Tg where
  | b
  | o
def tagOf (v:AV) : Tg:=match v with | .lit (.bool _)=>.b | _=>.o
theorem tagOf_bool {b:Bool} : tagOf (.lit (.bool b))=.b:=(rfl)
noncomputable def retW (d:Option Tmp) (k:Fr→Mem→Prop) (fr:Fr) (v:AV) (_:Tg) (H:Mem) : Prop:=k (fr.put d v) H
theorem retW_congr {tk:Nat} (_h0:tick=tk) {d:Option Tmp} {k:Fr→Mem→Prop} {fr fr' : Fr} {v v' : AV} {t t' : Tg} {H H' : Mem} (h1:fr=fr') (h2:v=v') (h3:t=t') (h4:H=H') : retW d k fr v t H=retW d k fr' v' t' H':=by rw [h1,h2,h3,h4]
attribute [congr] retW_congr
theorem retW_bool {d:Option Tmp} {k:Fr→Mem→Prop} {b:Bool} : retW d k fr (.lit (.bool b)) .b H=splitB b (k (fr.put d (.lit (.bool true))) H) (k (fr.put d (.lit (.bool false))) H):=by
  cases b <;> simp [splitB,retW]
theorem retW_any {d:Option Tmp} {k:Fr→Mem→Prop} {v:AV} : retW d k fr v (tagOf v) H=k (fr.put d v) H:=by cases fr <;> rfl
attribute [simp] tagOf_bool retW_bool retW_any
theorem condW_bool {b:Bool} {x y:Prop} : condW (some (.lit (.bool b))) x y=splitB b x y:=by cases b <;> simp [condW,splitB]
theorem byGuard_bool {b g:Bool} {x y:Prop} : byGuard (some (.lit (.bool b))) g x y=splitB b (if g then x else y) (if g then y else x):=by cases b <;> cases g <;> simp [byGuard,splitB]
theorem byGuard_undef {g:Bool} {x y:Prop} : byGuard (some (.lit undef)) g x y=y:=(rfl)
theorem afterW_val {o:Oper} {k:Fr→Mem→Prop} {v:AV} : afterW W o fr k Q (.val v H)=retW o.dst k fr v (tagOf v) H:=(rfl)
theorem afterW_enter {o:Oper} {k:Fr→Mem→Prop} {f:FuncId} {args:List AV} : afterW W o fr k Q (.enter f args H)=W f args H (fun r=>match r with
    | .ret v H=>retW o.dst k fr v (tagOf v) H
    | .panic v H=>Q (.panic v fr H)
    | .bad=>False):=(rfl)
theorem afterW_skip {o:Oper} {k:Fr→Mem→Prop} : afterW W o fr k Q (.skip H)=k (fr.put o.dst (.lit undef)) H:=(rfl)
theorem afterW_panic {o:Oper} {k:Fr→Mem→Prop} {v:AV} : afterW W o fr k Q (.panic v H)=Q (.panic v fr H):=(rfl)
attribute [simp] afterW_val
attribute [simp] thenW_norm thenW_exit thenW_ret thenW_panic inBlockW_norm inBlockW_ret inBlockW_panic inBlockW_exit condW_bool byGuard_bool byGuard_undef afterW_enter afterW_skip afterW_panic
theorem execW_skip:execW P W L .skip fr H Q=Q (.norm fr H):=(rfl)
theorem execW_region {id:Nat} {l:List Oper} : execW P W L (.region id l.toArray false) fr H Q=seqW P W l.toArray Q l fr H:=(rfl)
theorem execW_drawn {id:Nat} {ops:Array Oper} : execW P W L (.region id ops true) fr H Q=drawnW P W ops fr H Q:=(rfl)
theorem execW_seq {a b:Code} : execW P W L (.seq a b) fr H Q=execW P W L a fr H (thenW (fun fr H=>execW P W L b fr H Q) Q):=(rfl)
theorem execW_cond {x:Operand} {a b:Code} : execW P W L (.cond x a b) fr H Q=condW (fr.ev x) (execW P W L a fr H Q) (execW P W L b fr H Q):=(rfl)
theorem execW_block {id:Nat} {b:Code} : execW P W L (.block id b) fr H Q=execW P W L b fr H (inBlockW id Q):=(rfl)
theorem execW_loop {b:Code} : execW P W L (.loop b) fr H Q=L b fr H Q:=(rfl)
theorem execW_exit {id:Nat} : execW P W L (.exit id) fr H Q=Q (.exit id fr H):=(rfl)
theorem execW_label {id:Nat} : execW P W L (.label id) fr H Q=Q (.norm fr H):=(rfl)
theorem execW_ret:execW P W L .ret fr H Q=Q (.ret fr H):=(rfl)
theorem seqW_nil {ops:Array Oper} : seqW P W ops Q [] fr H=Q (.norm fr H):=(rfl)
theorem seqW_cons {ops:Array Oper} {d:Option Tmp} {op:Op} {t:TypeId} {p:String} {af:Array Edge} {g:Option (Nat×Bool)} {l:List Oper} :
    seqW P W ops Q (⟨d,op,t,p,af,g⟩ :: l) fr H=oneW P W ops ⟨d,op,t,p,af,g⟩ fr H (seqW P W ops Q l) Q:=(rfl)
theorem oneW_none {ops:Array Oper} {d:Option Tmp} {op:Op} {t:TypeId} {p:String} {af:Array Edge} {k:Fr→Mem→Prop} :
    oneW P W ops ⟨d,op,t,p,af,none⟩ fr H k Q=afterW W ⟨d,op,t,p,af,none⟩ fr k Q (opV P H fr.ev ⟨d,op,t,p,af,none⟩):=(rfl)
theorem oneW_some {ops:Array Oper} {d:Option Tmp} {op:Op} {t:TypeId} {p:String} {af:Array Edge} {g:Nat×Bool} {k:Fr→Mem→Prop} :
    oneW P W ops ⟨d,op,t,p,af,some g⟩ fr H k Q=byGuard (guardSlot ops fr g.1) g.2 (afterW W ⟨d,op,t,p,af,some g⟩ fr k Q (opV P H fr.ev ⟨d,op,t,p,af,some g⟩)) (k (fr.put d (.lit undef)) H):=(rfl)
noncomputable def getSlot (fr:Fr) (x:Option Nat) : Option AV:=match x with | some d=>fr.get d | none=>none
theorem fr_put {g:Nat→Option AV} {ds:List Dfr} {d:Tmp} {v:AV} : (Fr.f g ds).put (some d) v=.f (fput g d v) ds:=(rfl)
theorem fr_put_none {v:AV} : fr.put none v=fr:=(rfl)
theorem fr_get {g:Nat→Option AV} {ds:List Dfr} {t:Nat} : (Fr.f g ds).get t=g t:=(rfl)
theorem fr_ev_tmp {g:Nat→Option AV} {ds:List Dfr} {t:Nat} : (Fr.f g ds).ev (.tmp t)=g t:=(rfl)
theorem fr_ev_const {v:Value} : fr.ev (.const v)=some (.lit v):=by cases fr <;> rfl
theorem fr_ev_global {g:Nat} : fr.ev (.global g)=some (.lit (.pointer (some ⟨g,0,none⟩))):=by cases fr <;> rfl
theorem fr_ev_func {f:Nat} : fr.ev (.func f)=some (.lit (.func (.func f) #[] #[])):=by cases fr <;> rfl
theorem fr_defers {g:Nat→Option AV} {ds:List Dfr} : (Fr.f g ds).defers=ds:=(rfl)
theorem fput_at {g:Nat→Option AV} {d t:Nat} {v:AV} : fput g d v t=if t=d then some v else g t:=(rfl)
section
variable {ev:Ev} {d:Option Tmp} {ty:TypeId} {p:String} {af:Array Edge} {g:Option (Nat×Bool)}
theorem op_move {x:Operand} : opV P H ev ⟨d,.move x,ty,p,af,g⟩=oMove H (ev x):=(rfl)
theorem op_assign {x:Operand} : opV P H ev ⟨d,.assign x,ty,p,af,g⟩=oMove H (ev x):=(rfl)
theorem op_pick {c a b:Operand} : opV P H ev ⟨d,.pick c a b,ty,p,af,g⟩=oPick H (ev c) (ev a) (ev b):=(rfl)
theorem op_bin {o:BinOp} {t rt:TypeId} {x y:Operand} : opV P H ev ⟨d,.binOp o t x y rt,ty,p,af,g⟩=oBin P H ev ⟨d,.binOp o t x y rt,ty,p,af,g⟩ o t (ev x) (ev y):=(rfl)
end
def slotAt:List Oper→Nat→Option Nat
  | [],_=>none
  | o :: _,0=>o.dst
  | _ :: l,j+1=>slotAt l j
theorem slotAt_zero {d:Option Tmp} {op:Op} {t:TypeId} {p:String} {af:Array Edge} {g:Option (Nat×Bool)} {l:List Oper} : slotAt (⟨d,op,t,p,af,g⟩ :: l) 0=d:=(rfl)
theorem slotAt_succ {o:Oper} {l:List Oper} {j:Nat} : slotAt (o :: l) (j+1)=slotAt l j:=(rfl)
attribute [simp] slotAt_zero slotAt_succ
theorem slotAt_eq:∀ (l:List Oper) (j:Nat),slotAt l j=(l[j]?).bind (·.dst)
  | [],j=>by simp [slotAt]
  | o :: _,0=>rfl
  | _ :: l,j+1=>by simpa [slotAt] using slotAt_eq l j
theorem guardSlot_eq {l:List Oper} {j:Nat} : guardSlot l.toArray fr j=getSlot fr (slotAt l j):=by
  unfold guardSlot getSlot
  rw [slotAt_eq]
  have:(l.toArray)[j]?=l[j]?:=by simp
  rw [this]
  cases h:l[j]? with
  | none=>rfl
  | some o=>simp only [Option.bind_some]; cases o.dst <;> rfl
theorem getSlot_some {d:Nat} : getSlot fr (some d)=fr.get d:=(rfl)
theorem getSlot_congr {tk:Nat} (_h0:tick=tk) {fr fr' : Fr} {x x' : Option Nat} (h1:fr=fr') (h2:x=x') : getSlot fr x=getSlot fr' x':=by rw [h1,h2]
attribute [congr] getSlot_congr
attribute [simp] guardSlot_eq getSlot_some
theorem oMove_some {v:AV} : oMove H (some v)=.val v H:=(rfl)
theorem oPick_bool {a b c:Bool} : oPick H (some (.lit (.bool c))) (some (.lit (.bool a))) (some (.lit (.bool b)))=.val (.lit (.bool (if c then a else b))) H:=by cases c <;> rfl
theorem oPick_true {a b:Option AV} : oPick H (some (.lit (.bool true))) a b=ofOpt H a:=(rfl)
theorem oPick_false {a b:Option AV} : oPick H (some (.lit (.bool false))) a b=ofOpt H b:=(rfl)
theorem ofOpt_some {v:AV} : ofOpt H (some v)=.val v H:=(rfl)
section
variable {ev:Ev} {o:Oper} {t:TypeId} {a b:Int} {k:IntKind}
theorem oBin_of {op:BinOp} {x y:AV} {v:AV} (h:fastBin op x y=some v) : oBin P H ev o op t (some x) (some y)=.val v H:=by
  simp [oBin,fast2,h]
theorem iEq_d (a b:Int) : iEq a b=decide (a=b):=by rw [iEq_eq]; by_cases h:a=b <;> simp [h]
theorem iLt_d (a b:Int) : iLt a b=decide (a < b):=iLt_eq a b
theorem not_lt_d (a b:Int) : (!decide (b < a))=decide (a≤b):=by by_cases h:a≤b <;> simp [h] <;> omega
theorem f_eql (hk:kEq k k=true) : fastBin .eql (.lit (.int k a)) (.lit (.int k b))=some (.lit (.bool (decide (a=b)))):=by simp only [fastBin,hk,iEq_d,bv_eq]
theorem f_neq (hk:kEq k k=true) : fastBin .neq (.lit (.int k a)) (.lit (.int k b))=some (.lit (.bool (!decide (a=b)))):=by simp only [fastBin,hk,iEq_d,bv_eq]
theorem f_lss (hk:kEq k k=true) : fastBin .lss (.lit (.int k a)) (.lit (.int k b))=some (.lit (.bool (decide (a < b)))):=by simp only [fastBin,hk,iLt_d,bv_eq]
theorem f_leq (hk:kEq k k=true) : fastBin .leq (.lit (.int k a)) (.lit (.int k b))=some (.lit (.bool (decide (a≤b)))):=by simp only [fastBin,hk,iLt_d,bv_eq,not_lt_d]
theorem f_gtr (hk:kEq k k=true) : fastBin .gtr (.lit (.int k a)) (.lit (.int k b))=some (.lit (.bool (decide (b < a)))):=by simp only [fastBin,hk,iLt_d,bv_eq]
theorem f_geq (hk:kEq k k=true) : fastBin .geq (.lit (.int k a)) (.lit (.int k b))=some (.lit (.bool (decide (b≤a)))):=by simp only [fastBin,hk,iLt_d,bv_eq,not_lt_d]
end
section
variable {ev:Ev} {o:Oper} {t:TypeId} {a b:Int}
theorem oBin_eql8:oBin P H ev o .eql t (some (.lit (.int .u8 a))) (some (.lit (.int .u8 b)))=.val (.lit (.bool (decide (a=b)))) H:=oBin_of (f_eql rfl)
theorem oBin_neq8:oBin P H ev o .neq t (some (.lit (.int .u8 a))) (some (.lit (.int .u8 b)))=.val (.lit (.bool (!decide (a=b)))) H:=oBin_of (f_neq rfl)
theorem oBin_lss8:oBin P H ev o .lss t (some (.lit (.int .u8 a))) (some (.lit (.int .u8 b)))=.val (.lit (.bool (decide (a < b)))) H:=oBin_of (f_lss rfl)
theorem oBin_leq8:oBin P H ev o .leq t (some (.lit (.int .u8 a))) (some (.lit (.int .u8 b)))=.val (.lit (.bool (decide (a≤b)))) H:=oBin_of (f_leq rfl)
theorem oBin_gtr8:oBin P H ev o .gtr t (some (.lit (.int .u8 a))) (some (.lit (.int .u8 b)))=.val (.lit (.bool (decide (b < a)))) H:=oBin_of (f_gtr rfl)
theorem oBin_geq8:oBin P H ev o .geq t (some (.lit (.int .u8 a))) (some (.lit (.int .u8 b)))=.val (.lit (.bool (decide (b≤a)))) H:=oBin_of (f_geq rfl)
theorem oBin_eql64:oBin P H ev o .eql t (some (.lit (.int .i64 a))) (some (.lit (.int .i64 b)))=.val (.lit (.bool (decide (a=b)))) H:=oBin_of (f_eql rfl)
theorem oBin_neq64:oBin P H ev o .neq t (some (.lit (.int .i64 a))) (some (.lit (.int .i64 b)))=.val (.lit (.bool (!decide (a=b)))) H:=oBin_of (f_neq rfl)
theorem oBin_lss64:oBin P H ev o .lss t (some (.lit (.int .i64 a))) (some (.lit (.int .i64 b)))=.val (.lit (.bool (decide (a < b)))) H:=oBin_of (f_lss rfl)
theorem oBin_leq64:oBin P H ev o .leq t (some (.lit (.int .i64 a))) (some (.lit (.int .i64 b)))=.val (.lit (.bool (decide (a≤b)))) H:=oBin_of (f_leq rfl)
theorem oBin_gtr64:oBin P H ev o .gtr t (some (.lit (.int .i64 a))) (some (.lit (.int .i64 b)))=.val (.lit (.bool (decide (b < a)))) H:=oBin_of (f_gtr rfl)
theorem oBin_geq64:oBin P H ev o .geq t (some (.lit (.int .i64 a))) (some (.lit (.int .i64 b)))=.val (.lit (.bool (decide (b≤a)))) H:=oBin_of (f_geq rfl)
end
attribute [simp] execW_skip execW_region execW_drawn execW_seq execW_cond execW_block execW_loop execW_exit execW_label execW_ret seqW_nil seqW_cons oneW_none oneW_some
  fr_put fr_put_none fr_get fr_ev_tmp fr_ev_const fr_ev_global fr_ev_func fr_defers fput_at op_move op_assign op_pick oMove_some oPick_bool oPick_true oPick_false ofOpt_some
  oBin_eql8 oBin_neq8 oBin_lss8 oBin_leq8 oBin_gtr8 oBin_geq8 oBin_eql64 oBin_neq64 oBin_lss64 oBin_leq64 oBin_gtr64 oBin_geq64
def oneK (x:Option AV) (K:AV→Prop) : Prop:=match x with | some v=>K v | none=>False
noncomputable def endW (P:Program) (rs:List ResultVar) (K:COut→Prop) (fr:Fr) (H:Mem) : Prop:=match resVars P fr H rs with
  | some [v]=>K (.ret v H)
  | some vs=>K (.ret (.tup vs) H)
  | none=>False
theorem endW_congr {tk:Nat} (_h0:tick=tk) {rs rs' : List ResultVar} {K:COut→Prop} {fr fr' : Fr} {H H' : Mem} (h0:rs=rs') (h1:fr=fr') (h2:H=H') : endW P rs K fr H=endW P rs' K fr' H':=by rw [h0,h1,h2]
attribute [congr] endW_congr
theorem leaveW_congr {tk:Nat} (_h0:tick=tk) {O:CallF} {fn:Func} {K:COut→Prop} {o o' : Out} (h:o=o') : leaveW P O fn K o=leaveW P O fn K o':=by rw [h]
attribute [congr] leaveW_congr
theorem leave_nil {O:CallF} {L:LoopF} {fn:Func} : leave P O L fn fr [] .returning H=(match resultsA P fn fr H with | some v=>.ret v H | none=>.bad):=by cases fr <;> rfl
theorem leaveW_ret {O:CallF} {fn:Func} {K:COut→Prop} {g:Nat→Option AV} : leaveW P O fn K (.ret (.f g []) H)=endW P fn.results.toList K (.f g []) H:=by
  show (match leave P O (fun _ _ _=>.bad) fn (.f g []) [] .returning H with | .bad=>False | r=>K r)=_
  rw [leave_nil]
  unfold resultsA endW
  rcases resVars P (.f g []) H fn.results.toList with _ | l
  · rfl
  · match l with
    | []=>rfl
    | [_]=>rfl
    | _ :: _ :: _=>rfl
theorem leaveW_norm {O:CallF} {fn:Func} {K:COut→Prop} {g:Nat→Option AV} : leaveW P O fn K (.norm (.f g []) H)=endW P fn.results.toList K (.f g []) H:=leaveW_ret
theorem resVar_tmp {t:Tmp} : resVar P fr H (.tmp t)=fr.get t:=(rfl)
theorem endW_eq1 {r:ResultVar} {K:COut→Prop} : endW P [r] K fr H=oneK (resVar P fr H r) (fun v=>K (.ret v H)):=by
  unfold endW oneK; simp only [resVars]; cases resVar P fr H r <;> rfl
theorem endW_eq0 {K:COut→Prop} : endW P [] K fr H=K (.ret (.tup []) H):=(rfl)
theorem endW_eq2 {r1 r2:ResultVar} {K:COut→Prop} : endW P [r1,r2] K fr H=oneK (resVar P fr H r1) (fun v1=>oneK (resVar P fr H r2) fun v2=>K (.ret (.tup [v1,v2]) H)):=by
  unfold endW oneK; simp only [resVars]; cases resVar P fr H r1 <;> cases resVar P fr H r2 <;> rfl
theorem endW_eq3 {r1 r2 r3:ResultVar} {K:COut→Prop} : endW P [r1,r2,r3] K fr H=oneK (resVar P fr H r1) (fun v1=>oneK (resVar P fr H r2) fun v2=>oneK (resVar P fr H r3) fun v3=>K (.ret (.tup [v1,v2,v3]) H)):=by
  unfold endW oneK; simp only [resVars]; cases resVar P fr H r1 <;> cases resVar P fr H r2 <;> cases resVar P fr H r3 <;> rfl
theorem oneK_some {v:AV} {K:AV→Prop} : oneK (some v) K=K v:=(rfl)
theorem oneK_congr {tk:Nat} (_h0:tick=tk) {x x' : Option AV} {K:AV→Prop} (h:x=x') : oneK x K=oneK x' K:=by rw [h]
attribute [congr] oneK_congr
theorem frameW_eq {args:List AV} : frameW args=.f (argsF args 0 (fun _=>none)) []:=(rfl)
theorem argsF_nil {i:Nat} {g:Nat→Option AV} : argsF [] i g=g:=(rfl)
theorem argsF_cons {i:Nat} {g:Nat→Option AV} {v:AV} {l:List AV} : argsF (v :: l) i g=argsF l (i+1) (fput g i v):=(rfl)
attribute [simp] leaveW_ret leaveW_norm endW_eq0 endW_eq1 endW_eq2 endW_eq3 oneK_some resVar_tmp frameW_eq argsF_nil argsF_cons
def orK (r:COut) (K:COut→Prop) (x:Prop) : Prop:=match r with | .bad=>x | r=>K r
theorem orW_eq {O:CallF} {f:FuncId} {args:List AV} {K:COut→Prop} : orW O W f args H K=orK (O f args H) K (W f args H K):=by
  unfold orW orK; cases O f args H <;> rfl
theorem orW_congr {tk:Nat} (_h0:tick=tk) {O:CallF} {f:FuncId} {args args' : List AV} {H H' : Mem} {K:COut→Prop} (h1:args=args') (h2:H=H') : orW O W f args H K=orW O W f args' H' K:=by rw [h1,h2]
attribute [congr] orW_congr
theorem orK_congr {tk:Nat} (_h0:tick=tk) {r r' : COut} {K:COut→Prop} {x:Prop} (h:r=r') : orK r K x=orK r' K x:=by rw [h]
theorem orK_ret {v:AV} {K:COut→Prop} {x:Prop} : orK (.ret v H) K x=K (.ret v H):=(rfl)
theorem orK_panic {v:AV} {K:COut→Prop} {x:Prop} : orK (.panic v H) K x=K (.panic v H):=(rfl)
theorem orK_bad {K:COut→Prop} {x:Prop} : orK .bad K x=x:=(rfl)
attribute [congr] orK_congr
attribute [simp] orW_eq orK_ret orK_panic orK_bad
section
variable {ev:Ev} {d:Option Tmp} {ty:TypeId} {p:String} {af:Array Edge} {g:Option (Nat×Bool)}
noncomputable def callS (P:Program) (H:Mem) (ev:Ev) (args:Option (List AV)) (f:Operand) : R:=match args with
  | some args=>oValue P H args (ev f)
  | none=>.bad
theorem op_call {f:Operand} {args:Array Operand} {at_:Array TypeId} : opV P H ev ⟨d,.call ⟨.value f,args,at_⟩,ty,p,af,g⟩=callS P H ev (evals ev args.toList) f:=by
  show callOp P H ev ⟨d,.call ⟨.value f,args,at_⟩,ty,p,af,g⟩ ⟨.value f,args,at_⟩=_
  unfold callOp callS
  cases evals ev args.toList <;> rfl
theorem evals_nil:evals ev []=some []:=(rfl)
noncomputable def consO (a:Option AV) (l:Option (List AV)) : Option (List AV):=match a,l with | some v,some vs=>some (v :: vs) | _,_=>none
theorem evals_cons {x:Operand} {l:List Operand} : evals ev (x :: l)=consO (ev x) (evals ev l):=by
  rw [evals]
  unfold consO
  cases ev x with
  | none=>rfl
  | some v=>cases evals ev l <;> rfl
theorem consO_some {v:AV} {vs:List AV} : consO (some v) (some vs)=some (v :: vs):=(rfl)
theorem callS_some {args:List AV} {f:Operand} : callS P H ev (some args) f=oValue P H args (ev f):=(rfl)
theorem oValue_lit {args:List AV} {f:FuncId} : oValue P H args (some (.lit (.func (.func f) #[] #[])))=enterF P H f args:=by simp [oValue]
theorem oValue_fn {args a c:List AV} {f:FuncId} : oValue P H args (some (.func (.func f) a c))=enterF P H f (a++args++c):=(rfl)
theorem enterF_eq {args:List AV} {f:FuncId} : enterF P H f args=if hasBody P f=true then .enter f args H else .bad:=(rfl)
attribute [simp] op_call evals_nil evals_cons consO_some callS_some oValue_lit oValue_fn enterF_eq
noncomputable def unS (P:Program) (H:Mem) (ev:Ev) (o:Oper) (op:UnOp) (x:Option AV) : R:=match op,x with
  | .not,some (.lit (.bool b))=>.val (.lit (.bool (!b))) H
  | _,_=>ofOpt H (generic P ev o)
theorem generic1 {o:Oper} {x:Operand} {u r:Value} (ho:o.op.operands=#[x]) (hx:ev x=some (.lit u))
    (hr:∀ ρ:Operand→Value,ρ x=u→pureV P (execOp ρ o)=some (.value r)) : generic P ev o=some (.lit r):=by
  have h1:o.op.operands.toList=[x]:=by rw [ho]
  unfold generic
  simp only [h1,List.all_cons,List.all_nil,hx,toLit,Bool.and_true,if_true]
  rw [hr _ (by simp [hx])]
theorem generic2 {o:Oper} {x y:Operand} {u u' r:Value} (ho:o.op.operands=#[x,y]) (hx:ev x=some (.lit u)) (hy:ev y=some (.lit u'))
    (hr:∀ ρ:Operand→Value,ρ x=u→ρ y=u'→pureV P (execOp ρ o)=some (.value r)) : generic P ev o=some (.lit r):=by
  have h1:o.op.operands.toList=[x,y]:=by rw [ho]
  unfold generic
  simp only [h1,List.all_cons,List.all_nil,hx,hy,toLit,Bool.and_true,if_true]
  rw [hr _ (by simp [hx]) (by simp [hy])]
theorem op_un {op:UnOp} {t:TypeId} {x:Operand} : opV P H ev ⟨d,.unOp op t x,ty,p,af,g⟩=unS P H ev ⟨d,.unOp op t x,ty,p,af,g⟩ op (ev x):=by
  show ofOpt H (generic P ev _)=_
  unfold unS
  split
  · rename_i b hx
    rw [generic1 (r:=.bool (!b)) rfl (by assumption) fun ρ h=>by simp [execOp,h,Op.unary]; rfl]; rfl
  · rfl
theorem unS_not {o:Oper} {b:Bool} : unS P H ev o .not (some (.lit (.bool b)))=.val (.lit (.bool (!b))) H:=(rfl)
attribute [simp] op_un unS_not
end
theorem LX_congr {tk:Nat} (_h0:tick=tk) {G n:Nat} {b:Code} {fr fr' : Fr} {H H' : Mem} (h1:fr=fr') (h2:H=H') : LX G P n b fr H Q=LX G P n b fr' H' Q:=by rw [h1,h2]
theorem WC_congr {tk:Nat} (_h0:tick=tk) {G:Nat} {f:FuncId} {args args' : List AV} {H H' : Mem} {K:COut→Prop} (h1:args=args') (h2:H=H') : WC G P f args H K=WC G P f args' H' K:=by rw [h1,h2]
attribute [congr] LX_congr WC_congr
structure Hide (p:Prop) : Prop where
  out:p
theorem LX.ind {G n:Nat} {b:Code} {ds:List Dfr} (I:Nat→(Nat→Option AV)→Mem→Prop) {m0:Nat} {g0:Nat→Option AV} {H0:Mem} (h0:I m0 g0 H0)
    (hs:∀ m g H,I m g H→Hide (∀ m' g' H',m' < m→I m' g' H'→LX G P n b (.f g' ds) H' Q)→LX G P n b (.f g ds) H Q) : LX G P n b (.f g0 ds) H0 Q:=by
  have:∀ m g H,I m g H→LX G P n b (.f g ds) H Q:=by
    intro m
    induction m using Nat.strongRecOn with
    | _ m ih=>exact fun g H hi=>hs m g H hi ⟨fun m' g' H' hlt hi'=>ih m' hlt g' H' hi'⟩
  exact this _ _ _ h0
/-! ### Oracles -/
def addO (f:FuncId) (s:List AV→Mem→COut) (O:CallF) : CallF:=fun f' a H=>if f'=f then s a H else O f' a H
def noO:CallF:=fun _ _ _=>.bad
theorem addO_at {f f' : FuncId} {s:List AV→Mem→COut} {O:CallF} {a:List AV} : addO f s O f' a H=if f'=f then s a H else O f' a H:=(rfl)
theorem noO_at {f:FuncId} {a:List AV} : noO f a H=.bad:=(rfl)
attribute [simp] addO_at noO_at
theorem noO_ok (G:Nat) (P:Program) : ∀ B,CallOK B G P noO:=fun _ _ _ _ h=>absurd rfl h
theorem addO_ok {G:Nat} {f:FuncId} {s:List AV→Mem→COut} {O:CallF} (hs:∀ a H,s a H≠.bad→WC G P f a H (fun r=>r=s a H)) (hO:∀ B,CallOK B G P O) : ∀ B,CallOK B G P (addO f s O):=by
  intro B f' args H hne ρ us w hsim hv
  unfold addO at hne ⊢
  by_cases e:f'=f
  · subst e
    rw [if_pos rfl] at hne ⊢
    refine (hs args H hne B ρ us w hsim hv).mono ?_
    rintro e w' ⟨r,rfl,hc⟩
    exact hc
  · rw [if_neg e] at hne ⊢
    exact hO B f' args H hne ρ us w hsim hv
end Go.Ai
end
section
namespace Go.Ai
open Go.RowKit (Below)
variable {P:Program} {W:WF} {L:LF} {Q:Out→Prop} {fr:Fr} {H:Mem}
/-! ### Memory as a function -/
theorem mem_get {g:Nat→Option Blk} {n a:Nat} : (Mem.mk (.fn g) n).get a=g a:=(rfl)
theorem mem_add {g:Nat→Option Blk} {n:Nat} {b:Blk} : (Mem.mk (.fn g) n).add b=⟨.fn (gput g n (some b)),n+1⟩:=(rfl)
theorem mem_upd {g:Nat→Option Blk} {n a:Nat} {b:Blk} : (Mem.mk (.fn g) n).upd a b=⟨.fn (gput g a (some b)),n⟩:=(rfl)
theorem mem_rm {g:Nat→Option Blk} {n a:Nat} : (Mem.mk (.fn g) n).rm a=⟨.fn (gput g a none),n⟩:=(rfl)
theorem mem_next {t:Store} {n:Nat} : (Mem.mk t n).next=n:=(rfl)
theorem gput_same {g:Nat→Option Blk} {a:Nat} {x:Option Blk} : gput g a x a=x:=(if_pos rfl)
theorem gput_lt {g:Nat→Option Blk} {a j:Nat} {x:Option Blk} (h:j < a) : gput g a x j=g j:=if_neg (by omega)
theorem gput_gt {g:Nat→Option Blk} {a j:Nat} {x:Option Blk} (h:a < j) : gput g a x j=g j:=if_neg (by omega)
theorem gput_twice {g:Nat→Option Blk} {a:Nat} {x y:Option Blk} : gput (gput g a x) a y=gput g a y:=by
  funext j; unfold gput; split <;> rfl
attribute [simp] mem_get mem_add mem_upd mem_rm mem_next gput_same gput_lt gput_gt gput_twice
section
variable {ev:Ev} {d:Option Tmp} {ty:TypeId} {p:String} {af:Array Edge} {g:Option (Nat×Bool)}
/-! ### Operations on two values -/
theorem ba_eq (a b:ByteArray) : (a.toList == b.toList)=decide (a=b):=by
  by_cases h:a=b
  · subst h; simp
  · have:a.toList≠b.toList:=fun e=>h (by
      cases a; cases b
      simp only [ByteArray.toList_eq,ByteArray.mk.injEq] at e ⊢
      exact Array.toList_inj.1 e)
    simp [h,this]
def intR (op:BinOp) (k:IntKind) (a b:Int) : Option AV:=match op with
  | .add=>some (.lit (.int k (k.wrap (a+b))))
  | .sub=>some (.lit (.int k (k.wrap (a - b))))
  | .mul=>some (.lit (.int k (k.wrap (a * b))))
  | .quo=>if b=0 then none else some (.lit (.int k (k.wrap (a.tdiv b))))
  | .rem=>if b=0 then none else some (.lit (.int k (a.tmod b)))
  | .eql=>some (.lit (.bool (decide (a=b))))
  | .neq=>some (.lit (.bool (!decide (a=b))))
  | .lss=>some (.lit (.bool (decide (a < b))))
  | .leq=>some (.lit (.bool (decide (a≤b))))
  | .gtr=>some (.lit (.bool (decide (b < a))))
  | .geq=>some (.lit (.bool (decide (b≤a))))
  | _=>none
noncomputable def binS (P:Program) (H:Mem) (ev:Ev) (o:Oper) (op:BinOp) (t:TypeId) (x y:Option AV) : R:=match op,x,y with
  | .eql,some (.lit (.string a)),some (.lit (.string b))=>.val (.lit (.bool (decide (a=b)))) H
  | .neq,some (.lit (.string a)),some (.lit (.string b))=>.val (.lit (.bool (!decide (a=b)))) H
  | .add,some (.lit (.string a)),some (.lit (.string b))=>if a.size+b.size≤9223372036854775807 then .val (.lit (.string (a++b))) H else oBin P H ev o op t x y
  | op,some (.lit (.int k a)),some (.lit (.int k' b))=>if k=k' then (match intR op k a b with | some v=>.val v H | none=>oBin P H ev o op t (some (.lit (.int k a))) (some (.lit (.int k' b)))) else oBin P H ev o op t (some (.lit (.int k a))) (some (.lit (.int k' b)))
  | op,x,y=>oBin P H ev o op t x y
theorem oBin_generic {o:Oper} {op:BinOp} {t:TypeId} {x y:AV} {v:AV} (hf:fastBin op x y=none) (hg:generic P ev o=some v) : oBin P H ev o op t (some x) (some y)=.val v H:=by
  simp [oBin,fast2,hf,hg]
theorem pureV_then {α β:Type} {m:Sem α} {k:α→Sem β} {a:α} : pureV P m=some a→pureV P (m >>= k)=pureV P (k a):=by
  induction m with
  | pure b=>intro h; cases h; rfl
  | program k' ih=>intro h; exact ih _ h
  | mark m k' ih=>intro h; exact ih h
  | choose q k' ih =>
    intro h
    simp only [pureV] at h
    split at h
    · rename_i hq
      show pureV P (Sem.choose q fun n=>k' n >>= k)=_
      simp only [pureV,hq,if_true]
      exact ih _ h
    · cases h
  | _=>intro h; simp [pureV] at h
theorem execOp_bin {ρ:Operand→Value} {op:BinOp} {t rt:TypeId} {x y:Operand} {u u' r:Value} (hx:ρ x=u) (hy:ρ y=u') (hg:pureV P (eqGuard op t x y u u')=some ()) (hr:pureV P (binOp op t u u')=some r) :
    pureV P (execOp ρ ⟨d,.binOp op t x y rt,ty,p,af,g⟩)=some (.value r):=by
  simp only [execOp,hx,hy]
  rw [pureV_then (a:=r)]
  · rfl
  · rw [pureV_then hg]; exact hr
theorem oBin_val {o:Oper} {op:BinOp} {t:TypeId} {x y:AV} {v:AV} (hf:∀ u,fastBin op x y=some u→u=v) (hg:fastBin op x y=none→generic P ev o=some v) : oBin P H ev o op t (some x) (some y)=.val v H:=by
  cases hfb:fastBin op x y with
  | none=>exact oBin_generic hfb (hg hfb)
  | some u=>rw [oBin_of hfb,hf u hfb]
theorem int_bin {op:BinOp} {t rt:TypeId} {x y:Operand} {k:IntKind} {a b:Int} {v:AV} (hx:ev x=some (.lit (.int k a))) (hy:ev y=some (.lit (.int k b))) (h:intR op k a b=some v) :
    oBin P H ev ⟨d,.binOp op t x y rt,ty,p,af,g⟩ op t (some (.lit (.int k a))) (some (.lit (.int k b)))=.val v H:=by
  have gen:∀ u:Value,pureV P (binOp op t (.int k a) (.int k b))=some u→generic P ev ⟨d,.binOp op t x y rt,ty,p,af,g⟩=some (.lit u):=fun u hu =>
    generic2 rfl hx hy fun ρ h1 h2=>execOp_bin h1 h2 (by unfold eqGuard; cases op <;> rfl) hu
  have fast:∀ n:Int,∀ u,(match kEq k k with | true=>intK n (intV k) | false=>none)=some u→u=.lit (.int k (k.wrap n)):=by
    intro n u hu
    split at hu
    · rw [intK_eq] at hu; exact intV_sound hu
    · cases hu
  have bo:∀ (why:String) (f:Sem Value),(binOp op t (.int k a) (.int k b)=if k≠k then stuck why else f)→binOp op t (.int k a) (.int k b)=f:=fun why f hf=>by rw [hf,if_neg (by simp)]
  have cmp:∀ (c:Bool),(∀ u,fastBin op (.lit (.int k a)) (.lit (.int k b))=some u→u=.lit (.bool c))→pureV P (binOp op t (.int k a) (.int k b))=some (.bool c)→some (AV.lit (.bool c))=some v →
      oBin P H ev ⟨d,.binOp op t x y rt,ty,p,af,g⟩ op t (some (.lit (.int k a))) (some (.lit (.int k b)))=.val v H:=by
    intro c h1 h2 h3
    cases h3
    exact oBin_val h1 fun _=>gen _ h2
  have kd:kEq k k=true∨kEq k k=false:=by cases kEq k k <;> simp
  cases op <;> first | (cases h; done) | skip
  case add=>cases h; exact oBin_val (fast _) fun _=>gen _ (by rw [bo _ _ rfl]; rfl)
  case sub=>cases h; exact oBin_val (fast _) fun _=>gen _ (by rw [bo _ _ rfl]; rfl)
  case mul=>cases h; exact oBin_val (fast _) fun _=>gen _ (by rw [bo _ _ rfl]; rfl)
  case quo =>
    simp only [intR] at h
    split at h
    · cases h
    · rename_i hb; cases h
      exact oBin_val (fun u hu=>by rcases kd with e | e <;> simp [fastBin,e] at hu) fun _=>gen _ (by rw [bo _ _ rfl]; show pureV P (Op.intDiv .quo k a b)=_; unfold Op.intDiv; rw [if_neg hb]; rfl)
  case rem =>
    simp only [intR] at h
    split at h
    · cases h
    · rename_i hb; cases h
      exact oBin_val (fun u hu=>by rcases kd with e | e <;> simp [fastBin,e] at hu) fun _=>gen _ (by rw [bo _ _ rfl]; show pureV P (Op.intDiv .rem k a b)=_; unfold Op.intDiv; rw [if_neg hb]; rfl)
  case eql => exact cmp _ (fun u hu => by rcases kd with e | e; · rw [f_eql e] at hu; cases hu; rfl
                                          · simp [fastBin,e] at hu) (by rw [bo _ _ rfl]; simp [Op.intCmp]; rfl) h
  case neq => exact cmp _ (fun u hu => by rcases kd with e | e; · rw [f_neq e] at hu; cases hu; rfl
                                          · simp [fastBin,e] at hu) (by rw [bo _ _ rfl]; simp [Op.intCmp]; rfl) h
  case lss => exact cmp _ (fun u hu => by rcases kd with e | e; · rw [f_lss e] at hu; cases hu; rfl
                                          · simp [fastBin,e] at hu) (by rw [bo _ _ rfl]; simp [Op.intCmp]; rfl) h
  case leq => exact cmp _ (fun u hu => by rcases kd with e | e; · rw [f_leq e] at hu; cases hu; rfl
                                          · simp [fastBin,e] at hu) (by rw [bo _ _ rfl]; simp [Op.intCmp]; rfl) h
  case gtr => exact cmp _ (fun u hu => by rcases kd with e | e; · rw [f_gtr e] at hu; cases hu; rfl
                                          · simp [fastBin,e] at hu) (by rw [bo _ _ rfl]; simp [Op.intCmp]; rfl) h
  case geq => exact cmp _ (fun u hu => by rcases kd with e | e; · rw [f_geq e] at hu; cases hu; rfl
                                          · simp [fastBin,e] at hu) (by rw [bo _ _ rfl]; simp [Op.intCmp]; rfl) h
theorem op_bin' {op:BinOp} {t rt:TypeId} {x y:Operand} : opV P H ev ⟨d,.binOp op t x y rt,ty,p,af,g⟩=binS P H ev ⟨d,.binOp op t x y rt,ty,p,af,g⟩ op t (ev x) (ev y):=by
  rw [op_bin]
  unfold binS
  split
  · rename_i a b hx hy
    rw [hx,hy,oBin_generic rfl]
    refine generic2 (r:=.bool (decide (a=b))) rfl hx hy fun ρ h1 h2=>execOp_bin h1 h2 rfl ?_
    show some (Value.bool (a.toList == b.toList))=_
    rw [ba_eq]
  · rename_i a b hx hy
    rw [hx,hy,oBin_generic rfl]
    refine generic2 (r:=.bool (!decide (a=b))) rfl hx hy fun ρ h1 h2=>execOp_bin h1 h2 rfl ?_
    show some (Value.bool (!(a.toList == b.toList)))=_
    rw [ba_eq]
  · rename_i a b hx hy
    split
    · rename_i hsz
      rw [hx,hy,oBin_generic rfl]
      refine generic2 (r:=.string (a++b)) rfl hx hy fun ρ h1 h2=>execOp_bin h1 h2 rfl ?_
      have:¬ (((a.size+b.size:Nat) : Int) > IntKind.i64.max):=by
        have:IntKind.i64.max=9223372036854775807:=by decide
        omega
      show pureV P (if ((a.size+b.size:Nat) : Int) > IntKind.i64.max then _ else _)=_
      rw [if_neg this]; rfl
    · rw [hx,hy]
  · rename_i k a k' b hx hy
    rw [hx,hy]
    split
    · rename_i hk
      subst hk
      split
      · rename_i v hv
        exact int_bin hx hy hv
      · rfl
    · rfl
  · rfl
noncomputable def intK2 (P:Program) (H:Mem) (ev:Ev) (o:Oper) (op:BinOp) (t:TypeId) (k:IntKind) (a b:Int) (r:Option AV) : R:=match r with | some v=>.val v H | none=>oBin P H ev o op t (some (.lit (.int k a))) (some (.lit (.int k b)))
theorem binS_congr {tk:Nat} (_h0:tick=tk) {o:Oper} {op:BinOp} {t:TypeId} {x x' y y' : Option AV} {H H' : Mem} (h1:H=H') (h2:x=x') (h3:y=y') : binS P H ev o op t x y=binS P H' ev o op t x' y':=by rw [h1,h2,h3]
attribute [congr] binS_congr
section
variable {o:Oper} {t:TypeId} {a b:Int} {k k' : IntKind} {s s' : ByteArray} {op:BinOp}
theorem binS_seql:binS P H ev o .eql t (some (.lit (.string s))) (some (.lit (.string s')))=.val (.lit (.bool (decide (s=s')))) H:=(rfl)
theorem binS_sneq:binS P H ev o .neq t (some (.lit (.string s))) (some (.lit (.string s')))=.val (.lit (.bool (!decide (s=s')))) H:=(rfl)
theorem binS_sadd (h:s.size+s'.size≤9223372036854775807) : binS P H ev o .add t (some (.lit (.string s))) (some (.lit (.string s')))=.val (.lit (.string (s++s'))) H:=if_pos h
theorem binS_intR:binS P H ev o op t (some (.lit (.int k a))) (some (.lit (.int k b)))=intK2 P H ev o op t k a b (intR op k a b):=by
  cases op <;> simp only [binS,if_true] <;> unfold intK2 <;> rfl
theorem intK2_some {v:AV} : intK2 P H ev o op t k a b (some v)=.val v H:=(rfl)
theorem intR_add:intR .add k a b=some (.lit (.int k (k.wrap (a+b)))):=(rfl)
theorem intR_sub:intR .sub k a b=some (.lit (.int k (k.wrap (a - b)))):=(rfl)
theorem intR_mul:intR .mul k a b=some (.lit (.int k (k.wrap (a * b)))):=(rfl)
theorem intR_quo (h:¬b=0) : intR .quo k a b=some (.lit (.int k (k.wrap (a.tdiv b)))):=if_neg h
theorem intR_rem (h:¬b=0) : intR .rem k a b=some (.lit (.int k (a.tmod b))):=if_neg h
theorem intR_eql:intR .eql k a b=some (.lit (.bool (decide (a=b)))):=(rfl)
theorem intR_neq:intR .neq k a b=some (.lit (.bool (!decide (a=b)))):=(rfl)
theorem intR_lss:intR .lss k a b=some (.lit (.bool (decide (a < b)))):=(rfl)
theorem intR_leq:intR .leq k a b=some (.lit (.bool (decide (a≤b)))):=(rfl)
theorem intR_gtr:intR .gtr k a b=some (.lit (.bool (decide (b < a)))):=(rfl)
theorem intR_geq:intR .geq k a b=some (.lit (.bool (decide (b≤a)))):=(rfl)
theorem wrap_in (h1 : -9223372036854775808≤a) (h2:a≤9223372036854775807) : IntKind.i64.wrap a=a:=wrap_i64 ⟨h1,h2⟩
theorem wrap_b8 (h1:0≤a) (h2:a≤255) : IntKind.u8.wrap a=a:=by
  simp only [IntKind.wrap,IntKind.bits,IntKind.signed]
  simp
  omega
end
attribute [simp] op_bin' binS_seql binS_sneq binS_sadd binS_intR intK2_some intR_add intR_sub intR_mul intR_quo intR_rem intR_eql intR_neq intR_lss intR_leq intR_gtr intR_geq wrap_in wrap_b8
/-! ### Calls of len; an element of a string -/
noncomputable def lenS (P:Program) (H:Mem) (ev:Ev) (o:Oper) (c:Call) (d:Option TypeDesc) (args:Option (List AV)) : R:=match args,d with
  | some [.sl _ _ n _],some (.slice _)=>.val (.lit (.int .i64 n)) H
  | some [.slq _ _ n _],some (.slice _)=>.val (.lit (.int .i64 n)) H
  | some [.es],some (.slice _)=>.val (.lit (.int .i64 0)) H
  | some [.lit (.string s)],some .string=>.val (.lit (.int .i64 s.size)) H
  | some [.lit (.slice none n _)],some (.slice _)=>.val (.lit (.int .i64 n)) H
  | some args,_=>oLen P H ev o c args
  | none,_=>.bad
theorem op_len {x:Operand} {t:TypeId} : opV P H ev ⟨d,.call ⟨.builtin .len,#[x],#[t]⟩,ty,p,af,g⟩=lenS P H ev ⟨d,.call ⟨.builtin .len,#[x],#[t]⟩,ty,p,af,g⟩ ⟨.builtin .len,#[x],#[t]⟩ (P.underlying t) (evals ev [x]):=by
  show callOp P H ev ⟨d,.call ⟨.builtin .len,#[x],#[t]⟩,ty,p,af,g⟩ ⟨.builtin .len,#[x],#[t]⟩=_
  have e:((⟨.builtin .len,#[x],#[t]⟩ : Call).argTypes[0]?).bind P.underlying=P.underlying t:=(rfl)
  have key:∀ args r,evals ev [x]=some args→r≠.bad→oLenN P H ⟨.builtin .len,#[x],#[t]⟩ args=r→callOp P H ev ⟨d,.call ⟨.builtin .len,#[x],#[t]⟩,ty,p,af,g⟩ ⟨.builtin .len,#[x],#[t]⟩=r:=by
    intro args r h1 hne h2
    unfold callOp
    rw [show (#[x] : Array Operand).toList=[x] from rfl,h1]
    dsimp only
    unfold oBuiltin oLen
    dsimp only
    rw [h2]
    cases r <;> first | rfl | exact absurd rfl hne
  unfold lenS
  split
  · rename_i h1 h2; exact key _ _ h1 (by simp) (by unfold oLenN; rw [e,h2]; rfl)
  · rename_i h1 h2; exact key _ _ h1 (by simp) (by unfold oLenN; rw [e,h2]; rfl)
  · rename_i h1 h2; exact key _ _ h1 (by simp) (by unfold oLenN; rw [e,h2]; rfl)
  · rename_i h1 h2; exact key _ _ h1 (by simp) (by unfold oLenN; rw [e,h2]; rfl)
  · rename_i n c e' h1 h2
    have hx:ev x=some (.lit (.slice none n c)):=by
      cases hv:ev x with
      | none=>rw [evals,hv] at h1; cases h1
      | some v=>rw [evals,hv,evals] at h1; cases h1; rfl
    have hg:generic P ev ⟨d,.call ⟨.builtin .len,#[x],#[t]⟩,ty,p,af,g⟩=some (.lit (.int .i64 n)):=by
      refine generic1 (u:=.slice none n c) (r:=.int .i64 n) (by simp [Op.operands,Call.operands]) hx fun ρ hρ=>?_
      rw [exec_builtin (b:=.len) (c:=⟨.builtin .len,#[x],#[t]⟩) rfl rfl]
      have ea:(#[x] : Array Operand).map ρ=#[ρ x]:=by simp
      have hlen:pureV P (Builtin.len_ #[t] ty #[ρ x])=some (goInt n):=by
        rw [hρ]
        refine (pureV_then (m:=underlying t) (a:=TypeDesc.slice e') (by unfold underlying; show pureV P (match P.underlying t with | some d=>pure d | none=>stuck "no such type")=_; rw [h2]; rfl)).trans ?_
        rfl
      show pureV P (builtin .len #[t] ty _ ((#[x] : Array Operand).map ρ))=_
      rw [ea]
      show pureV P (do pure (Next.value (← Builtin.len_ #[t] ty #[ρ x])))=_
      exact (pureV_then hlen).trans rfl
    unfold callOp
    rw [show (#[x] : Array Operand).toList=[x] from rfl,h1]
    dsimp only
    unfold oBuiltin oLen
    dsimp only
    have hn:oLenN P H ⟨.builtin .len,#[x],#[t]⟩ [.lit (.slice none n c)]=.bad:=by unfold oLenN; rw [e,h2]
    rw [hn]
    dsimp only
    rw [hg]
    rfl
  · rename_i h1 _ _ _ _ _; unfold callOp; rw [show (#[x] : Array Operand).toList=[x] from rfl]; simp only [*]; rfl
  · rename_i h1; unfold callOp; rw [show (#[x] : Array Operand).toList=[x] from rfl,h1]
theorem lenS_congr {tk:Nat} (_h0:tick=tk) {o:Oper} {c:Call} {d d' : Option TypeDesc} {a a' : Option (List AV)} {H H' : Mem} (h1:H=H') (h2:d=d') (h3:a=a') : lenS P H ev o c d a=lenS P H' ev o c d' a':=by rw [h1,h2,h3]
attribute [congr] lenS_congr
theorem lenS_sl {o:Oper} {c:Call} {e:TypeId} {a off n k:Nat} : lenS P H ev o c (some (.slice e)) (some [.sl a off n k])=.val (.lit (.int .i64 n)) H:=(rfl)
theorem lenS_slq {o:Oper} {c:Call} {e:TypeId} {a off n k:Nat} : lenS P H ev o c (some (.slice e)) (some [.slq a off n k])=.val (.lit (.int .i64 n)) H:=(rfl)
theorem lenS_es {o:Oper} {c:Call} {e:TypeId} : lenS P H ev o c (some (.slice e)) (some [.es])=.val (.lit (.int .i64 0)) H:=(rfl)
theorem lenS_str {o:Oper} {c:Call} {s:ByteArray} : lenS P H ev o c (some .string) (some [.lit (.string s)])=.val (.lit (.int .i64 s.size)) H:=(rfl)
theorem lenS_nil {o:Oper} {c:Call} {e:TypeId} {n k:Nat} : lenS P H ev o c (some (.slice e)) (some [.lit (.slice none n k)])=.val (.lit (.int .i64 n)) H:=(rfl)
attribute [simp] lenS_nil op_len lenS_sl lenS_slq lenS_es lenS_str
noncomputable def idxS (P:Program) (H:Mem) (ev:Ev) (o:Oper) (t:TypeId) (td:Option TypeDesc) (x i:Option AV) : R:=match td,x,i with
  | some .string,some (.lit (.string s)),some (.lit (.int .i64 i))=>if h:0≤i∧i.toNat < s.size then .val (.lit (.int .u8 (s[i.toNat]'h.2).toNat)) H else oIndex P H ev o t (some (.lit (.string s))) (some (.lit (.int .i64 i)))
  | _,x,i=>oIndex P H ev o t x i
theorem pureV_underlying {t:TypeId} {td:TypeDesc} (h:P.underlying t=some td) : pureV P (underlying t)=some td:=by
  unfold underlying
  show pureV P (match P.underlying t with | some d=>pure d | none=>stuck "no such type")=_
  rw [h]; rfl
theorem op_idx {t:TypeId} {x i:Operand} : opV P H ev ⟨d,.index t x i,ty,p,af,g⟩=idxS P H ev ⟨d,.index t x i,ty,p,af,g⟩ t (P.underlying t) (ev x) (ev i):=by
  show oIndex P H ev _ t (ev x) (ev i)=_
  unfold idxS
  split
  · rename_i s i' hd hx hi
    split
    · rename_i h
      have hg:generic P ev ⟨d,.index t x i,ty,p,af,g⟩=some (.lit (.int .u8 (s[i'.toNat]'h.2).toNat)):=by
        refine generic2 rfl hx hi fun ρ h1 h2=>?_
        show pureV P (do pure (Next.value (← Instr.index t (ρ x) (ρ i))))=_
        rw [pureV_then (a:=.int .u8 (s[i'.toNat]'h.2).toNat)]
        · rfl
        · rw [h1,h2]
          refine (pureV_then (m:=underlying t) (a:=TypeDesc.string) (pureV_underlying hd)).trans ?_
          dsimp only
          rw [if_pos h.1,getElem?_pos s i'.toNat h.2]
          rfl
      have hn:index P t (.lit (.string s)) (.lit (.int .i64 i'))=none:=by unfold index; rw [hd]
      rw [hx,hi]
      unfold oIndex
      dsimp only
      rw [hn,hg]
      rfl
    · rw [hx,hi]
  · rfl
theorem idxS_congr {tk:Nat} (_h0:tick=tk) {o:Oper} {t:TypeId} {td td' : Option TypeDesc} {x x' y y' : Option AV} {H H' : Mem} (h0:td=td') (h1:H=H') (h2:x=x') (h3:y=y') : idxS P H ev o t td x y=idxS P H' ev o t td' x' y':=by rw [h0,h1,h2,h3]
attribute [congr] idxS_congr
def bAt (s:ByteArray) (k:Nat) : Int:=if h:k < s.size then (s[k].toNat:Int) else 0
theorem idxS_str {o:Oper} {t:TypeId} {s:ByteArray} {i:Int} (h0:0≤i) (h:i.toNat < s.size) :
    idxS P H ev o t (some .string) (some (.lit (.string s))) (some (.lit (.int .i64 i)))=.val (.lit (.int .u8 (bAt s i.toNat))) H:=by
  unfold idxS bAt; dsimp only; rw [dif_pos ⟨h0,h⟩,dif_pos h]
attribute [simp] op_idx idxS_str
end
end Go.Ai
end
section
namespace Go.Ai
open Go.RowKit (Below)
variable {P:Program} {W:WF} {L:LF} {Q:Out→Prop} {fr:Fr} {H:Mem}
section
variable {ev:Ev} {d:Option Tmp} {ty:TypeId} {p:String} {af:Array Edge} {g:Option (Nat×Bool)}
theorem ofOpt_congr {tk:Nat} (_h0:tick=tk) {x x' : Option AV} {H H' : Mem} (h1:H=H') (h2:x=x') : ofOpt H x=ofOpt H' x':=by rw [h1,h2]
attribute [congr] ofOpt_congr
/-! ### load -/
theorem op_load {t:TypeId} {a:Operand} : opV P H ev ⟨d,.load t a,ty,p,af,g⟩=oLoad P H t (ev a):=(rfl)
theorem oLoad_congr {tk:Nat} (_h0:tick=tk) {t:TypeId} {x x' : Option AV} {H H' : Mem} (h1:H=H') (h2:x=x') : oLoad P H t x=oLoad P H' t x':=by rw [h1,h2]
theorem oLoad_ptr {t:TypeId} {a off:Nat} : oLoad P H t (some (.ptr a off))=ofOpt H (loadB (tIsAgg P t) (H.get a) off):=(rfl)
theorem oLoad_glob {t:TypeId} {n off:Nat} (h:n < P.globals.size) : oLoad P H t (some (.lit (.pointer (some ⟨n,off,none⟩))))=ofOpt H (loadB (tIsAgg P t) (H.get n) off):=by
  have hb:Nat.blt n P.globals.size=true:=Nat.ble_eq_true_of_le h
  show ofOpt H (match Nat.blt n P.globals.size with | true=>loadB (tIsAgg P t) (H.get n) off | false=>none)=_
  rw [hb]
theorem loadB_one {l:List AV} {own:Bool} {z s off:Nat} : loadB (some (false,s)) (some (.cells l own z)) off=l[off]?:=nth_eq l off
theorem loadB_agg {l:List AV} {own:Bool} {z s off:Nat} (h:off+s≤l.length) : loadB (some (true,s)) (some (.cells l own z)) off=some (.agg ((l.drop off).take s)):=by
  show sliceK l s off none (fun l=>some (AV.agg l))=_
  rw [sliceK_eq,if_pos h]
attribute [congr] oLoad_congr
attribute [simp] op_load oLoad_ptr loadB_one loadB_agg
/-! ### store -/
def putL (l:List AV) (off:Nat) (new:List AV) : List AV:=l.take off++new++l.drop (off+new.length)
theorem op_store {t:TypeId} {a x:Operand} : opV P H ev ⟨d,.store t a x,ty,p,af,g⟩=oStore P H t (ev a) (ev x):=(rfl)
theorem oStore_congr {tk:Nat} (_h0:tick=tk) {t:TypeId} {x x' y y' : Option AV} {H H' : Mem} (h1:H=H') (h2:x=x') (h3:y=y') : oStore P H t x y=oStore P H' t x' y':=by rw [h1,h2,h3]
noncomputable def stS (k:Option (Bool×Nat)) (b:Option Blk) (H:Mem) (a off:Nat) (new:List AV) : R:=match b,k with
  | some (.cells l true z),some (_,size)=>if new.length=size∧allOne new=true∧off+new.length≤l.length then .skip (H.upd a (.cells (putL l off new) true z)) else .bad
  | _,_=>.bad
theorem oStore_ptr {t:TypeId} {a off:Nat} {v:AV} : oStore P H t (some (.ptr a off)) (some v)=stS (tIsAgg P t) (H.get a) H a off (cellsOf v):=by
  show (match store P H t (.ptr a off) v with | some H=>R.skip H | none=>.bad)=_
  have key:store P H t (.ptr a off) v=(match H.get a,tIsAgg P t with
    | some (.cells l true z),some (_,size)=>match Nat.beq (len (cellsOf v)) size && allOne (cellsOf v) with
      | true=>putCellsK none l off (cellsOf v) fun l=>H.setK a (.cells l true z) some
      | false=>none
    | _,_=>none):=rfl
  rw [key]
  unfold stS
  rcases H.get a with _ | b
  · rfl
  · cases b with
    | map es c=>rfl
    | siter s' p'=>rfl
    | cells l own z =>
      cases own with
      | false=>rfl
      | true =>
        rcases tIsAgg P t with _ | ⟨ag,size⟩
        · rfl
        · dsimp only
          cases hb:Nat.beq (len (cellsOf v)) size && allOne (cellsOf v) with
          | false =>
            dsimp only
            rw [if_neg]
            rintro ⟨h3,h4,_⟩
            rw [len_eq,h3,h4,Nat.beq_refl] at hb
            cases hb
          | true =>
            dsimp only
            rw [Bool.and_eq_true] at hb
            have h3:=Nat.eq_of_beq_eq_true hb.1
            rw [len_eq] at h3
            rw [putCellsK_eq]
            by_cases h5:off+(cellsOf v).length≤l.length
            · rw [if_pos h5,if_pos ⟨h3,hb.2,h5⟩,Mem.setK_eq]
              rfl
            · rw [if_neg h5,if_neg (fun h=>h5 h.2.2)]
theorem stS_congr {tk:Nat} (_h0:tick=tk) {k k' : Option (Bool×Nat)} {b b' : Option Blk} {a off off' : Nat} {n n' : List AV} {H H' : Mem} (h1:k=k') (h2:b=b') (h3:H=H') (h4:off=off') (h5:n=n') : stS k b H a off n=stS k' b' H' a off' n':=by rw [h1,h2,h3,h4,h5]
theorem stS_cells {l:List AV} {z:Nat} {ag:Bool} {size a off:Nat} {new:List AV} (h1:new.length=size) (h2:allOne new=true) (h3:off+new.length≤l.length) :
    stS (some (ag,size)) (some (.cells l true z)) H a off new=.skip (H.upd a (.cells (putL l off new) true z)):=if_pos ⟨h1,h2,h3⟩
theorem putL_eq {l new:List AV} {off:Nat} : putL l off new=l.take off++new++l.drop (off+new.length):=(rfl)
theorem cellsOf_int {k:IntKind} {n:Int} : cellsOf (.lit (.int k n))=[.lit (.int k n)]:=(rfl)
theorem cellsOf_bool {n:Bool} : cellsOf (.lit (.bool n))=[.lit (.bool n)]:=(rfl)
theorem cellsOf_string {n:ByteArray} : cellsOf (.lit (.string n))=[.lit (.string n)]:=(rfl)
theorem cellsOf_pointer {n:Option Addr} : cellsOf (.lit (.pointer n))=[.lit (.pointer n)]:=(rfl)
theorem cellsOf_slice {a:Option Addr} {n c:Nat} : cellsOf (.lit (.slice a n c))=[.lit (.slice a n c)]:=(rfl)
theorem cellsOf_ptr {a o:Nat} : cellsOf (.ptr a o)=[.ptr a o]:=(rfl)
theorem cellsOf_sl {a o n c:Nat} : cellsOf (.sl a o n c)=[.sl a o n c]:=(rfl)
theorem cellsOf_slq {a o n c:Nat} : cellsOf (.slq a o n c)=[.slq a o n c]:=(rfl)
theorem cellsOf_es:cellsOf .es=[.es]:=(rfl)
theorem cellsOf_agg {l:List AV} : cellsOf (.agg l)=l:=(rfl)
theorem cellsOf_map {a:Nat} : cellsOf (.map a)=[.map a]:=(rfl)
theorem cellsOf_iface {t:TypeId} {v:AV} : cellsOf (.iface t v)=[.iface t v]:=(rfl)
theorem cellsOf_func {f:Fn} {a b:List AV} : cellsOf (.func f a b)=[.func f a b]:=(rfl)
theorem allOne_nil:allOne []=true:=(rfl)
theorem allOne_cons {v:AV} {l:List AV} : allOne (v :: l)=(oneC v && allOne l):=by rw [allOne]; cases oneC v <;> rfl
theorem oneC_int {k:IntKind} {n:Int} : oneC (.lit (.int k n))=true:=(rfl)
theorem oneC_bool {n:Bool} : oneC (.lit (.bool n))=true:=(rfl)
theorem oneC_string {n:ByteArray} : oneC (.lit (.string n))=true:=(rfl)
theorem oneC_pointer {n:Option Addr} : oneC (.lit (.pointer n))=true:=(rfl)
theorem oneC_slice {a:Option Addr} {n c:Nat} : oneC (.lit (.slice a n c))=true:=(rfl)
theorem oneC_nilFunc:oneC (.lit .nilFunc)=true:=(rfl)
theorem oneC_func {f:Fn} {a b:Array Value} : oneC (.lit (.func f a b))=true:=(rfl)
theorem oneC_funcA {f:Fn} {a b:List AV} : oneC (.func f a b)=true:=(rfl)
theorem oneC_ptr {a o:Nat} : oneC (.ptr a o)=true:=(rfl)
theorem oneC_sl {a o n c:Nat} : oneC (.sl a o n c)=true:=(rfl)
theorem oneC_slq {a o n c:Nat} : oneC (.slq a o n c)=true:=(rfl)
theorem oneC_es:oneC .es=true:=(rfl)
theorem oneC_map {a:Nat} : oneC (.map a)=true:=(rfl)
theorem oneC_iface {t:TypeId} {v:AV} : oneC (.iface t v)=true:=(rfl)
attribute [congr] oStore_congr stS_congr
attribute [simp] op_store oStore_ptr stS_cells putL_eq cellsOf_int cellsOf_bool cellsOf_string cellsOf_pointer cellsOf_slice cellsOf_ptr cellsOf_sl cellsOf_slq cellsOf_es cellsOf_agg cellsOf_map cellsOf_iface cellsOf_func allOne_nil allOne_cons
  oneC_int oneC_bool oneC_string oneC_pointer oneC_slice oneC_nilFunc oneC_func oneC_funcA oneC_ptr oneC_sl oneC_slq oneC_es oneC_map oneC_iface
/-! ### new blocks -/
theorem op_alloc {t:TypeId} : opV P H ev ⟨d,.alloc t,ty,p,af,g⟩=oAlloc P H t:=(rfl)
noncomputable def allocS (z:Option (List AV)) (H:Mem) : R:=match z with | some l=>.val (.ptr H.next 0) (H.add (.cells l true 0)) | none=>.bad
theorem oAlloc_eq {t:TypeId} : oAlloc P H t=allocS (zeroL P t) H:=by
  unfold oAlloc allocS; cases zeroL P t <;> simp [newBlk,Mem.newK_eq]
theorem allocS_some {l:List AV} : allocS (some l) H=.val (.ptr H.next 0) (H.add (.cells l true 0)):=(rfl)
theorem op_box {t:TypeId} {x:Operand} : opV P H ev ⟨d,.box t x,ty,p,af,g⟩=oBox H (ev x):=(rfl)
theorem oBox_some {v:AV} : oBox H (some v)=.val (.ptr H.next 0) (H.add (.cells (cellsOf v) true 0)):=by
  simp [oBox,newBlk,Mem.newK_eq]
attribute [simp] op_alloc oAlloc_eq allocS_some op_box oBox_some
/-! ### addresses -/
def fldOff (P:Program) (s:TypeId) (f:Nat) : Option Nat:=match P.underlying s with
  | some (.struct fields)=>match fields[f]? with
    | some fd=>match P.info? fd.type with
      | some i=>match Nat.beq i.size 0 with | true=>none | false=>some fd.offset
      | none=>none
    | none=>none
  | _=>none
noncomputable def faS (P:Program) (H:Mem) (ev:Ev) (o:Oper) (s:TypeId) (q:Option Nat) (x:Option AV) (f:Nat) : R:=match x,q with
  | some (.ptr a off),some q=>.val (.ptr a (off+q)) H
  | x,_=>oFieldAddr P H ev o s x f
theorem op_fieldAddr {s:TypeId} {x:Operand} {f:Nat} : opV P H ev ⟨d,.fieldAddr s x f,ty,p,af,g⟩=faS P H ev ⟨d,.fieldAddr s x f,ty,p,af,g⟩ s (fldOff P s f) (ev x) f:=by
  show oFieldAddr P H ev _ s (ev x) f=_
  unfold faS
  split
  · rename_i a off q h1 h2
    rw [h1]
    have:fieldAddr P s (.ptr a off) f=some (.ptr a (off+q)):=by
      unfold fldOff at h2
      unfold fieldAddr
      split at h2
      · rename_i fields hu
        rw [hu]
        dsimp only
        split at h2
        · rename_i fd hfd
          rw [hfd]
          dsimp only
          split at h2
          · rename_i i hi
            rw [hi]
            dsimp only
            split at h2
            · cases h2
            · rename_i hb; cases h2; rw [hb]; dsimp only; rw [natK_eq]
          · cases h2
        · cases h2
      · cases h2
    unfold oFieldAddr orGen
    dsimp only
    rw [this]
  · rfl
theorem faS_congr {tk:Nat} (_h0:tick=tk) {o:Oper} {s:TypeId} {q q' : Option Nat} {x x' : Option AV} {f:Nat} {H H' : Mem} (h1:H=H') (h2:q=q') (h3:x=x') : faS P H ev o s q x f=faS P H' ev o s q' x' f:=by rw [h1,h2,h3]
theorem faS_ptr {o:Oper} {s:TypeId} {q a off f:Nat} : faS P H ev o s (some q) (some (.ptr a off)) f=.val (.ptr a (off+q)) H:=(rfl)
attribute [congr] faS_congr
attribute [simp] op_fieldAddr faS_ptr
def elSz (P:Program) (t:TypeId) : Option (Option Nat×Nat):=match P.underlying t with
  | some (.slice e)=>match P.info? e with | some j=>some (none,j.size) | none=>none
  | some (.array n e)=>match P.info? e with | some j=>some (some n,j.size) | none=>none
  | _=>none
noncomputable def iaS (P:Program) (H:Mem) (ev:Ev) (o:Oper) (t:TypeId) (q:Option (Option Nat×Nat)) (x i:Option AV) : R:=match q,x,i with
  | some (none,sz),some (.sl a off n c),some (.lit (.int k i))=>if 0≤i∧i.toNat < n then .val (.ptr a (off+i.toNat * sz)) H else oIndexAddr P H ev o t (some (.sl a off n c)) (some (.lit (.int k i)))
  | some (none,sz),some (.slq a off n c),some (.lit (.int k i))=>if 0≤i∧i.toNat < n then .val (.ptr a (off+i.toNat * sz)) H else oIndexAddr P H ev o t (some (.slq a off n c)) (some (.lit (.int k i)))
  | some (some n,sz),some (.ptr a off),some (.lit (.int k i))=>if 0≤i∧i.toNat < n then .val (.ptr a (off+i.toNat * sz)) H else oIndexAddr P H ev o t (some (.ptr a off)) (some (.lit (.int k i)))
  | _,x,i=>oIndexAddr P H ev o t x i
theorem natOf_int {k:IntKind} {i:Int} (h:0≤i) : natOf (.lit (.int k i))=some i.toNat:=by
  cases i with
  | ofNat n=>rfl
  | negSucc n=>exact absurd h (by omega)
theorem ia_sl {o:Oper} {t:TypeId} {sz a off n c:Nat} {k:IntKind} {i:Int} (hq:elSz P t=some (none,sz)) (h0:0≤i) (h:i.toNat < n) :
    oIndexAddr P H ev o t (some (.sl a off n c)) (some (.lit (.int k i)))=.val (.ptr a (off+i.toNat * sz)) H:=by
  have:indexAddr P t (.sl a off n c) (.lit (.int k i))=some (.ptr a (off+i.toNat * sz)):=by
    unfold elSz at hq
    unfold indexAddr
    rw [natOf_int h0]
    split at hq
    · rename_i e hu
      rw [hu]
      dsimp only
      split at hq
      · rename_i j hj
        cases hq
        rw [hj]
        have hb:Nat.blt i.toNat n=true:=Nat.ble_eq_true_of_le h
        dsimp only
        rw [hb]
        dsimp only
        rw [natK_eq]
      · cases hq
    · split at hq <;> cases hq
    · cases hq
  unfold oIndexAddr orGen
  dsimp only
  rw [this]
theorem ia_slq {o:Oper} {t:TypeId} {sz a off n c:Nat} {k:IntKind} {i:Int} (hq:elSz P t=some (none,sz)) (h0:0≤i) (h:i.toNat < n) :
    oIndexAddr P H ev o t (some (.slq a off n c)) (some (.lit (.int k i)))=.val (.ptr a (off+i.toNat * sz)) H:=by
  have:indexAddr P t (.slq a off n c) (.lit (.int k i))=some (.ptr a (off+i.toNat * sz)):=by
    unfold elSz at hq
    unfold indexAddr
    rw [natOf_int h0]
    split at hq
    · rename_i e hu
      rw [hu]
      dsimp only
      split at hq
      · rename_i j hj
        cases hq
        rw [hj]
        have hb:Nat.blt i.toNat n=true:=Nat.ble_eq_true_of_le h
        dsimp only
        rw [hb]
        dsimp only
        rw [natK_eq]
      · cases hq
    · split at hq <;> cases hq
    · cases hq
  unfold oIndexAddr orGen
  dsimp only
  rw [this]
theorem ia_arr {o:Oper} {t:TypeId} {sz a off n:Nat} {k:IntKind} {i:Int} (hq:elSz P t=some (some n,sz)) (h0:0≤i) (h:i.toNat < n) :
    oIndexAddr P H ev o t (some (.ptr a off)) (some (.lit (.int k i)))=.val (.ptr a (off+i.toNat * sz)) H:=by
  have:indexAddr P t (.ptr a off) (.lit (.int k i))=some (.ptr a (off+i.toNat * sz)):=by
    unfold elSz at hq
    unfold indexAddr
    rw [natOf_int h0]
    split at hq
    · split at hq <;> cases hq
    · rename_i n' e hu
      rw [hu]
      dsimp only
      split at hq
      · rename_i j hj
        cases hq
        rw [hj]
        have hb:Nat.blt i.toNat n=true:=Nat.ble_eq_true_of_le h
        dsimp only
        rw [hb]
        dsimp only
        rw [natK_eq]
      · cases hq
    · cases hq
  unfold oIndexAddr orGen
  dsimp only
  rw [this]
theorem op_indexAddr {t:TypeId} {x i:Operand} : opV P H ev ⟨d,.indexAddr t x i,ty,p,af,g⟩=iaS P H ev ⟨d,.indexAddr t x i,ty,p,af,g⟩ t (elSz P t) (ev x) (ev i):=by
  show oIndexAddr P H ev _ t (ev x) (ev i)=_
  unfold iaS
  split
  · rename_i h1 h2 h3
    rw [h2,h3]
    split
    · rename_i h; exact ia_sl h1 h.1 h.2
    · rfl
  · rename_i h1 h2 h3
    rw [h2,h3]
    split
    · rename_i h; exact ia_slq h1 h.1 h.2
    · rfl
  · rename_i h1 h2 h3
    rw [h2,h3]
    split
    · rename_i h; exact ia_arr h1 h.1 h.2
    · rfl
  · rfl
theorem iaS_congr {tk:Nat} (_h0:tick=tk) {o:Oper} {t:TypeId} {q q' : Option (Option Nat×Nat)} {x x' i i' : Option AV} {H H' : Mem} (h1:H=H') (h0:q=q') (h2:x=x') (h3:i=i') : iaS P H ev o t q x i=iaS P H' ev o t q' x' i':=by rw [h1,h0,h2,h3]
theorem iaS_sl {o:Oper} {t:TypeId} {sz a off n c:Nat} {k:IntKind} {i:Int} (h0:0≤i) (h:i.toNat < n) : iaS P H ev o t (some (none,sz)) (some (.sl a off n c)) (some (.lit (.int k i)))=.val (.ptr a (off+i.toNat * sz)) H:=if_pos ⟨h0,h⟩
theorem iaS_slq {o:Oper} {t:TypeId} {sz a off n c:Nat} {k:IntKind} {i:Int} (h0:0≤i) (h:i.toNat < n) : iaS P H ev o t (some (none,sz)) (some (.slq a off n c)) (some (.lit (.int k i)))=.val (.ptr a (off+i.toNat * sz)) H:=if_pos ⟨h0,h⟩
theorem iaS_arr {o:Oper} {t:TypeId} {sz a off n:Nat} {k:IntKind} {i:Int} (h0:0≤i) (h:i.toNat < n) : iaS P H ev o t (some (some n,sz)) (some (.ptr a off)) (some (.lit (.int k i)))=.val (.ptr a (off+i.toNat * sz)) H:=if_pos ⟨h0,h⟩
attribute [congr] iaS_congr
attribute [simp] op_indexAddr iaS_sl iaS_slq iaS_arr
/-! ### nilCheck,extract -/
theorem op_nilCheck {x:Operand} : opV P H ev ⟨d,.nilCheck x,ty,p,af,g⟩=oNilCheck P H ev ⟨d,.nilCheck x,ty,p,af,g⟩ (ev x):=(rfl)
theorem oNilCheck_congr {tk:Nat} (_h0:tick=tk) {o:Oper} {x x' : Option AV} {H H' : Mem} (h1:H=H') (h2:x=x') : oNilCheck P H ev o x=oNilCheck P H' ev o x':=by rw [h1,h2]
theorem oNilCheck_ptr {o:Oper} {a off:Nat} : oNilCheck P H ev o (some (.ptr a off))=.val (.ptr a off) H:=(rfl)
theorem oNilCheck_func {o:Oper} {f:FuncId} {x y:List AV} : oNilCheck P H ev o (some (.func (.func f) x y))=.val (.func (.func f) x y) H:=(rfl)
theorem oNilCheck_iface {o:Oper} {t:TypeId} {v:AV} : oNilCheck P H ev o (some (.iface t v))=.val (.iface t v) H:=(rfl)
theorem op_extract {x:Operand} {i:Nat} : opV P H ev ⟨d,.extract x i,ty,p,af,g⟩=oExtract H (ev x) i:=(rfl)
theorem oExtract_tup {l:List AV} {i:Nat} : oExtract H (some (.tup l)) i=ofOpt H l[i]?:=(rfl)
attribute [congr] oNilCheck_congr
attribute [simp] op_nilCheck oNilCheck_ptr oNilCheck_func oNilCheck_iface op_extract oExtract_tup
end
end Go.Ai
end
section
namespace Go.Ai
open Go.RowKit (Below)
variable {P:Program} {W:WF} {L:LF} {Q:Out→Prop} {fr:Fr} {H:Mem}
section
variable {ev:Ev} {d:Option Tmp} {ty:TypeId} {p:String} {af:Array Edge} {g:Option (Nat×Bool)}
/-! ### parts of a struct or of a slice -/
theorem evalParts_nil:evalParts ev []=some []:=(rfl)
noncomputable def consP (i:Nat) (a:Option AV) (l:Option (List (Nat×AV))) : Option (List (Nat×AV)):=match a,l with | some v,some vs=>some ((i,v) :: vs) | _,_=>none
theorem evalParts_cons {i:Nat} {x:Operand} {l:List (Nat×Operand)} : evalParts ev ((i,x) :: l)=consP i (ev x) (evalParts ev l):=by
  rw [evalParts]
  unfold consP
  cases ev x with
  | none=>rfl
  | some v=>cases evalParts ev l <;> rfl
theorem consP_some {i:Nat} {v:AV} {vs:List (Nat×AV)} : consP i (some v) (some vs)=some ((i,v) :: vs):=(rfl)
noncomputable def fillL (place:Nat→Option (Nat×Nat)) (cells:List AV) : List (Nat×AV)→Option (List AV)
  | []=>some cells
  | (i,v) :: rest=>match place i with
    | some (off,size)=>if (cellsOf v).length=size∧off+(cellsOf v).length≤cells.length then fillL place (putL cells off (cellsOf v)) rest else none
    | none=>none
theorem afill_eq {place:Nat→Option (Nat×Nat)} : ∀ (ps:List (Nat×AV)) (cells:List AV),afill place cells ps=fillL place cells ps
  | [],_=>rfl
  | (i,v) :: rest,cells=>by
    unfold afill fillL
    cases hp:place i with
    | none=>rfl
    | some r =>
      obtain ⟨off,size⟩:=r
      dsimp only
      cases hb:Nat.beq (len (cellsOf v)) size with
      | false =>
        dsimp only
        rw [if_neg]
        rintro ⟨h3,_⟩
        rw [len_eq,h3,Nat.beq_refl] at hb
        cases hb
      | true =>
        dsimp only
        have h3:=Nat.eq_of_beq_eq_true hb
        rw [len_eq] at h3
        rw [putCellsK_eq]
        by_cases h5:off+(cellsOf v).length≤cells.length
        · rw [if_pos h5,if_pos ⟨h3,h5⟩]
          exact afill_eq rest _
        · rw [if_neg h5,if_neg (fun h=>h5 h.2)]
noncomputable def fillP (q:Option (Nat×Nat)) (place:Nat→Option (Nat×Nat)) (cells new:List AV) (rest:List (Nat×AV)) : Option (List AV):=match q with
  | some (off,size)=>if new.length=size∧off+new.length≤cells.length then fillL place (putL cells off new) rest else none
  | none=>none
theorem fillL_nil {place:Nat→Option (Nat×Nat)} {cells:List AV} : fillL place cells []=some cells:=(rfl)
theorem fillL_cons {place:Nat→Option (Nat×Nat)} {cells:List AV} {i:Nat} {v:AV} {rest:List (Nat×AV)} : fillL place cells ((i,v) :: rest)=fillP (place i) place cells (cellsOf v) rest:=by
  conv=>lhs; unfold fillL
  unfold fillP
  cases place i <;> rfl
theorem fillP_some {place:Nat→Option (Nat×Nat)} {cells new:List AV} {off size:Nat} {rest:List (Nat×AV)} (h1:new.length=size) (h2:off+new.length≤cells.length) :
    fillP (some (off,size)) place cells new rest=fillL place (putL cells off new) rest:=if_pos ⟨h1,h2⟩
attribute [simp] evalParts_nil evalParts_cons consP_some fillL_nil fillL_cons fillP_some
noncomputable def bldI (P:Program) (t:TypeId) : Option (List AV×List (Nat×Nat)):=match zeroL P t,P.underlying t with
  | some zero,some (.struct fields)=>match placesOf P fields.toList with
    | some pl=>some (zero,pl)
    | none=>none
  | _,_=>none
noncomputable def bldS (P:Program) (H:Mem) (t:TypeId) (q:Option (List AV×List (Nat×Nat))) (ps:Option (List (Nat×AV))) : R:=match q,ps with
  | some (z,pl),some ps=>ofOpt H (aggOf (fillL (nth pl) z ps))
  | _,ps=>oBuild P H t ps
theorem op_build {t:TypeId} {ps:Array (Nat×Operand)} : opV P H ev ⟨d,.build t ps,ty,p,af,g⟩=bldS P H t (bldI P t) (evalParts ev ps.toList):=by
  show oBuild P H t (evalParts ev ps.toList)=_
  unfold bldS
  split
  · rename_i z pl l h1 h2
    rw [h2]
    unfold oBuild
    dsimp only
    congr 1
    unfold bldI at h1
    unfold build
    split at h1
    · rename_i zero fields hz hu
      rw [hz,hu]
      dsimp only
      split at h1
      · rename_i pl' hpl
        cases h1
        rw [hpl]
        dsimp only
        rw [afill_eq]
      · cases h1
    · cases h1
  · rfl
theorem bldS_congr {tk:Nat} (_h0:tick=tk) {t:TypeId} {q q' : Option (List AV×List (Nat×Nat))} {x x' : Option (List (Nat×AV))} {H H' : Mem} (h1:H=H') (h2:q=q') (h3:x=x') : bldS P H t q x=bldS P H' t q' x':=by rw [h1,h2,h3]
theorem bldS_some {t:TypeId} {z:List AV} {pl:List (Nat×Nat)} {ps:List (Nat×AV)} : bldS P H t (some (z,pl)) (some ps)=ofOpt H (aggOf (fillL (nth pl) z ps)):=(rfl)
theorem aggOf_some {l:List AV} : aggOf (some l)=some (.agg l):=(rfl)
theorem nth_at {α:Type} {l:List α} {i:Nat} : nth l i=l[i]?:=nth_eq l i
attribute [congr] bldS_congr
attribute [simp] op_build bldS_some aggOf_some nth_at
noncomputable def bsI (P:Program) (t:TypeId) : Option (List AV×Nat):=match elemOfSlice P t with
  | some (e,size,_)=>match zeroL P e with
    | some z=>some (z,size)
    | none=>none
  | none=>none
noncomputable def bsS (P:Program) (H:Mem) (t:TypeId) (n:Nat) (q:Option (List AV×Nat)) (ps:Option (List (Nat×AV))) : R:=match q,ps with
  | some (z,size),some ps=>if n * size≤1048576∧0 < n * size then (match fillL (fun i=>some (i * size,size)) (rep z n) ps with
      | some l=>.val (.sl H.next 0 n n) (H.add (.cells l true 0))
      | none=>.bad) else oBuildSlice P H t n (some ps)
  | _,ps=>oBuildSlice P H t n ps
theorem op_buildSlice {t:TypeId} {n:Nat} {ps:Array (Nat×Operand)} : opV P H ev ⟨d,.buildSlice t n ps,ty,p,af,g⟩=bsS P H t n (bsI P t) (evalParts ev ps.toList):=by
  show oBuildSlice P H t n (evalParts ev ps.toList)=_
  unfold bsS
  split
  · rename_i z size l h1 h2
    rw [h2]
    split
    · rename_i h
      unfold oBuildSlice
      unfold bsI at h1
      split at h1
      · rename_i e sz by_ he
        split at h1
        · rename_i z' hz
          cases h1
          rw [he]
          dsimp only
          have hle:Nat.ble (n * size) 1048576=true:=Nat.ble_eq_true_of_le h.1
          have hz0:zeroFor P e (n * size)=some z:=by
            unfold zeroFor
            have:Nat.beq (n * size) 0=false:=by
              cases hb:Nat.beq (n * size) 0 with
              | false=>rfl
              | true=>have:=Nat.eq_of_beq_eq_true hb; omega
            rw [this]; exact hz
          rw [hle,hz0]
          dsimp only
          rw [afill_eq]
          cases fillL (fun i=>some (i * size,size)) (rep z n) l with
          | none=>rfl
          | some l=>simp [newBlk,Mem.newK_eq]
        · cases h1
      · cases h1
    · rfl
  · rfl
theorem bsS_congr {tk:Nat} (_h0:tick=tk) {t:TypeId} {n:Nat} {q q' : Option (List AV×Nat)} {x x' : Option (List (Nat×AV))} {H H' : Mem} (h1:H=H') (h2:q=q') (h3:x=x') : bsS P H t n q x=bsS P H' t n q' x':=by rw [h1,h2,h3]
noncomputable def bsK (H:Mem) (n:Nat) (l:Option (List AV)) : R:=match l with | some l=>.val (.sl H.next 0 n n) (H.add (.cells l true 0)) | none=>.bad
theorem bsK_some {n:Nat} {l:List AV} : bsK H n (some l)=.val (.sl H.next 0 n n) (H.add (.cells l true 0)):=(rfl)
theorem bsS_some {t:TypeId} {n:Nat} {z:List AV} {size:Nat} {ps:List (Nat×AV)} (h1:n * size≤1048576) (h2:0 < n * size) : bsS P H t n (some (z,size)) (some ps)=bsK H n (fillL (fun i=>some (i * size,size)) (rep z n) ps):=by
  unfold bsS; dsimp only; rw [if_pos ⟨h1,h2⟩]; rfl
theorem bsS_nil {t:TypeId} {z:List AV} {size:Nat} (h:bsI P t=some (z,size)) : oBuildSlice P H t 0 (some [])=.val (.sl H.next 0 0 0) (H.add (.cells [] true 0)):=by
  unfold bsI at h
  split at h
  · rename_i e sz by_ he
    unfold oBuildSlice
    rw [he]
    dsimp only
    simp [zeroFor,rep,afill,newBlk,Mem.newK_eq]
  · cases h
theorem rep_zero {l:List AV} : rep l 0=[]:=(rfl)
theorem rep_succ {l:List AV} {n:Nat} : rep l (n+1)=l++rep l n:=(rfl)
attribute [congr] bsS_congr
attribute [simp] op_buildSlice bsK_some bsS_some rep_zero rep_succ
/-! ### makeInterface,makeFunc -/
noncomputable def miS (P:Program) (H:Mem) (t:TypeId) (td:Option TypeDesc) (x:Option AV) : R:=match td,x with
  | some (.interface _),_=>.bad
  | some _,some v=>.val (.iface t v) H
  | _,_=>.bad
theorem op_makeInterface {t:TypeId} {x:Operand} : opV P H ev ⟨d,.makeInterface t x,ty,p,af,g⟩=miS P H t (P.underlying t) (ev x):=(rfl)
theorem miS_struct {t:TypeId} {fs:Array Field} {v:AV} : miS P H t (some (.struct fs)) (some v)=.val (.iface t v) H:=(rfl)
theorem miS_pointer {t:TypeId} {e:TypeId} {v:AV} : miS P H t (some (.pointer e)) (some v)=.val (.iface t v) H:=(rfl)
theorem op_makeFunc {fn:Fn} {a b:Array Operand} : opV P H ev ⟨d,.makeFunc fn a b,ty,p,af,g⟩=oMakeFunc H fn (evals ev a.toList) (evals ev b.toList):=(rfl)
theorem oMakeFunc_some {fn:Fn} {a b:List AV} : oMakeFunc H fn (some a) (some b)=.val (.func fn a b) H:=(rfl)
attribute [simp] op_makeInterface miS_struct miS_pointer op_makeFunc oMakeFunc_some
/-! ### integers to integers -/
noncomputable def cvS (P:Program) (H:Mem) (ev:Ev) (o:Oper) (s t:TypeId) (sd td:Option TypeDesc) (x:Option AV) : R:=match sd,td,x with
  | some (.int _),some (.int k),some (.lit (.int _ n))=>.val (.lit (.int k (k.wrap n))) H
  | _,_,x=>oConvert P H ev o s t x
theorem op_convert {s t:TypeId} {x:Operand} : opV P H ev ⟨d,.convert s t x,ty,p,af,g⟩=cvS P H ev ⟨d,.convert s t x,ty,p,af,g⟩ s t (P.underlying s) (P.underlying t) (ev x):=by
  show oConvert P H ev _ s t (ev x)=_
  unfold cvS
  split
  · rename_i k' k j n h1 h2 h3
    have hg:generic P ev ⟨d,.convert s t x,ty,p,af,g⟩=some (.lit (.int k (k.wrap n))):=by
      refine generic1 rfl h3 fun ρ h=>?_
      show pureV P (do pure (Next.value (← Go.convert s t (ρ x))))=_
      rw [pureV_then (a:=.int k (k.wrap n))]
      · rfl
      · rw [h]
        refine (pureV_then (m:=underlying s) (pureV_underlying h1)).trans ?_
        refine (pureV_then (m:=underlying t) (pureV_underlying h2)).trans ?_
        rfl
    unfold oConvert
    rw [hg]
  · rfl
theorem cvS_congr {tk:Nat} (_h0:tick=tk) {o:Oper} {s t:TypeId} {sd sd' td td' : Option TypeDesc} {x x' : Option AV} {H H' : Mem} (h1:H=H') (h2:sd=sd') (h3:td=td') (h4:x=x') : cvS P H ev o s t sd td x=cvS P H' ev o s t sd' td' x':=by rw [h1,h2,h3,h4]
theorem cvS_int {o:Oper} {s t:TypeId} {k k' j:IntKind} {n:Int} : cvS P H ev o s t (some (.int k')) (some (.int k)) (some (.lit (.int j n)))=.val (.lit (.int k (k.wrap n))) H:=(rfl)
attribute [congr] cvS_congr
attribute [simp] op_convert cvS_int
/-! ### An operation whose operands are seen -/
noncomputable def ex1 (P:Program) (H:Mem) (ev:Ev) (o:Oper) (x:Operand) (v:Option AV) (_:ev x=v) : R:=opV P H ev o
noncomputable def ex2 (P:Program) (H:Mem) (ev:Ev) (o:Oper) (x y:Operand) (v u:Option AV) (_:ev x=v) (_:ev y=u) : R:=opV P H ev o
noncomputable def ex3 (P:Program) (H:Mem) (ev:Ev) (o:Oper) (x y z:Operand) (v u q:Option AV) (_:ev x=v) (_:ev y=u) (_:ev z=q) : R:=opV P H ev o
theorem ex1_congr {tk:Nat} (_h0:tick=tk) {o:Oper} {x:Operand} {v v' : Option AV} {hv:ev x=v} {H H' : Mem} (h1:H=H') (h2:v=v') : ex1 P H ev o x v hv=ex1 P H' ev o x v' (hv.trans h2):=by subst h1; rfl
theorem ex2_congr {tk:Nat} (_h0:tick=tk) {o:Oper} {x y:Operand} {v v' u u' : Option AV} {hv:ev x=v} {hu:ev y=u} {H H' : Mem} (h1:H=H') (h2:v=v') (h3:u=u') : ex2 P H ev o x y v u hv hu=ex2 P H' ev o x y v' u' (hv.trans h2) (hu.trans h3):=by subst h1; rfl
theorem ex3_congr {tk:Nat} (_h0:tick=tk) {o:Oper} {x y z:Operand} {v v' u u' q q' : Option AV} {hv:ev x=v} {hu:ev y=u} {hq:ev z=q} {H H' : Mem} (h1:H=H') (h2:v=v') (h3:u=u') (h4:q=q') :
    ex3 P H ev o x y z v u q hv hu hq=ex3 P H' ev o x y z v' u' q' (hv.trans h2) (hu.trans h3) (hq.trans h4):=by subst h1; rfl
attribute [congr] ex1_congr ex2_congr ex3_congr
/-! ### slices of slices and of strings -/
theorem op_slice_hi {t:TypeId} {x hi:Operand} : opV P H ev ⟨d,.slice t x none (some hi) none,ty,p,af,g⟩=ex2 P H ev ⟨d,.slice t x none (some hi) none,ty,p,af,g⟩ x hi (ev x) (ev hi) rfl rfl:=(rfl)
theorem op_slice_lo {t:TypeId} {x lo:Operand} : opV P H ev ⟨d,.slice t x (some lo) none none,ty,p,af,g⟩=ex2 P H ev ⟨d,.slice t x (some lo) none none,ty,p,af,g⟩ x lo (ev x) (ev lo) rfl rfl:=(rfl)
theorem op_slice_lh {t:TypeId} {x lo hi:Operand} : opV P H ev ⟨d,.slice t x (some lo) (some hi) none,ty,p,af,g⟩=ex3 P H ev ⟨d,.slice t x (some lo) (some hi) none,ty,p,af,g⟩ x lo hi (ev x) (ev lo) (ev hi) rfl rfl rfl:=(rfl)
theorem generic_none {o:Oper} {x:Operand} (hm:x∈o.op.operands.toList) (hx:∀ v,ev x=some v→toLit v=none) : generic P ev o=none:=by
  unfold generic
  rw [if_neg]
  intro h
  have:=List.all_eq_true.1 h x hm
  cases hv:ev x with
  | none=>rw [hv] at this; cases this
  | some v=>rw [hv] at this; dsimp only at this; rw [hx v hv] at this; cases this
theorem bounds_hi {i:Int} {n c:Nat} {k:IntKind} (h0:0≤i) (h1:i.toNat≤c) : bounds none (some (.lit (.int k i))) none n c=some (0,i.toNat,c):=by
  unfold bounds natOr
  dsimp only
  rw [natOf_int h0]
  simp only [okMx,Nat.ble_eq_true_of_le h1,Nat.ble_eq_true_of_le (Nat.le_refl c),Nat.ble_eq_true_of_le (Nat.zero_le _),Bool.and_true]
theorem slice_of {t:TypeId} {x:Operand} {lo hi:Option Operand} {v:AV} (hx:ev x=some v) (hv:toLit v=none) :
    opV P H ev ⟨d,.slice t x lo hi none,ty,p,af,g⟩=oSliceN P H ev t (some v) lo hi none:=by
  show oSlice P H ev _ t (ev x) lo hi none=_
  unfold oSlice
  rw [generic_none (x:=x) (by simp [Op.operands]) (fun v' h=>by rw [hx] at h; cases h; exact hv),hx]
theorem sliceOp_slice {t e:TypeId} {i:TypeInfo} {x:AV} {lo hi mx:Option AV} (h1:P.underlying t=some (.slice e)) (h2:P.info? e=some i) : sliceOp P t x lo hi mx=sliceN i.size lo hi mx x:=by
  unfold sliceOp; rw [h1]; dsimp only; rw [h2]
theorem elSz_inv {t:TypeId} {sz:Nat} (h:elSz P t=some (none,sz)) : ∃ e i,P.underlying t=some (.slice e)∧P.info? e=some i∧i.size=sz:=by
  unfold elSz at h
  split at h
  · rename_i e hu
    split at h
    · rename_i j hj; cases h; exact ⟨e,j,hu,hj,rfl⟩
    · cases h
  · split at h <;> cases h
  · cases h
theorem slice_sl_hi {t:TypeId} {x hi:Operand} {a off n c:Nat} {k:IntKind} {i:Int} {hx:ev x=some (.sl a off n c)} {hh:ev hi=some (.lit (.int k i))} (he:(elSz P t).map (·.1)=some none) (h0:0≤i) (h1:i.toNat≤c) (h2:0 < c) :
    ex2 P H ev ⟨d,.slice t x none (some hi) none,ty,p,af,g⟩ x hi (some (.sl a off n c)) (some (.lit (.int k i))) hx hh=.val (.sl a off i.toNat c) H:=by
  show opV P H ev _=_
  rw [slice_of hx rfl]
  obtain ⟨q,hq,hq2⟩:=Option.map_eq_some_iff.1 he
  obtain ⟨q1,q2⟩:=q
  dsimp only at hq2
  subst hq2
  obtain ⟨e,i',h3,h4,h5⟩:=elSz_inv hq
  unfold oSliceN evOpt
  dsimp only
  rw [hh]
  dsimp only
  rw [sliceOp_slice h3 h4]
  unfold sliceN
  dsimp only
  rw [bounds_hi h0 h1]
  unfold sliceSl
  have hb:Nat.beq c 0=false:=by
    cases hb:Nat.beq c 0 with
    | false=>rfl
    | true=>have:=Nat.eq_of_beq_eq_true hb; omega
  dsimp only
  rw [hb]
  simp [natK_eq,ofOpt]
theorem slice_slq_hi {t:TypeId} {x hi:Operand} {a off n c:Nat} {k:IntKind} {i:Int} {hx:ev x=some (.slq a off n c)} {hh:ev hi=some (.lit (.int k i))} (he:(elSz P t).map (·.1)=some none) (h0:0≤i) (h1:i.toNat≤n) (h2:0 < n) :
    ex2 P H ev ⟨d,.slice t x none (some hi) none,ty,p,af,g⟩ x hi (some (.slq a off n c)) (some (.lit (.int k i))) hx hh=.val (.slq a off i.toNat c) H:=by
  show opV P H ev _=_
  rw [slice_of hx rfl]
  obtain ⟨q,hq,hq2⟩:=Option.map_eq_some_iff.1 he
  obtain ⟨q1,q2⟩:=q
  dsimp only at hq2
  subst hq2
  obtain ⟨e,i',h3,h4,h5⟩:=elSz_inv hq
  unfold oSliceN evOpt
  dsimp only
  rw [hh]
  dsimp only
  rw [sliceOp_slice h3 h4]
  unfold sliceN
  dsimp only
  rw [bounds_hi h0 h1]
  unfold sliceSlq
  have hb:Nat.blt 0 n=true:=Nat.ble_eq_true_of_le h2
  dsimp only
  rw [hb]
  simp [natK_eq,ofOpt]
attribute [simp] op_slice_hi op_slice_lo op_slice_lh slice_sl_hi slice_slq_hi
/-! ### append -/
theorem op_append {x y:Operand} {s t:TypeId} : opV P H ev ⟨d,.call ⟨.builtin .append,#[x,y],#[s,t]⟩,ty,p,af,g⟩=ex2 P H ev ⟨d,.call ⟨.builtin .append,#[x,y],#[s,t]⟩,ty,p,af,g⟩ x y (ev x) (ev y) rfl rfl:=(rfl)
noncomputable def apI (P:Program) (s t:TypeId) : Option (Nat×Nat):=match elemOfSlice P s,P.underlying t with
  | some (_,size,bytes),some (.slice _)=>some (size,bytes)
  | _,_=>none
theorem append_of {x y:Operand} {s t:TypeId} {v u:AV} {size bytes:Nat} (hx:ev x=some v) (hy:ev y=some u) (h:apI P s t=some (size,bytes)) :
    opV P H ev ⟨d,.call ⟨.builtin .append,#[x,y],#[s,t]⟩,ty,p,af,g⟩=(match appendN H size bytes v u with | some (v,H)=>.val v H | none=>.bad):=by
  show callOp P H ev _ ⟨.builtin .append,#[x,y],#[s,t]⟩=_
  unfold callOp
  have e1:evals ev (#[x,y] : Array Operand).toList=some [v,u]:=by
    show evals ev [x,y]=_
    rw [evals_cons,evals_cons,evals_nil,hx,hy]; rfl
  rw [e1]
  dsimp only
  unfold oBuiltin
  dsimp only
  unfold oAppend
  dsimp only
  have e2:(#[s,t] : Array TypeId)[0]?=some s:=rfl
  have e3:(#[s,t] : Array TypeId)[1]?=some t:=rfl
  rw [e2,e3]
  dsimp only
  unfold append
  unfold apI at h
  split at h
  · rename_i e sz by_ e' he ht
    cases h
    rw [he]
    have:appended P (some t)=true:=by unfold appended; dsimp only; rw [ht]
    rw [this]; rfl
  · cases h
theorem firstL_sl {a off n c size:Nat} {l:List AV} {own:Bool} {z:Nat} (h:H.get a=some (.cells l own z)) (hl:off+n * size≤l.length) : firstL H size n (.sl a off n c)=some ((l.drop off).take (n * size)):=by
  unfold firstL; dsimp only; rw [h]; dsimp only; rw [sliceK_eq,if_pos hl]
theorem firstL_slq {a off n c size:Nat} {l:List AV} {own:Bool} {z:Nat} (h:H.get a=some (.cells l own z)) (hl:off+n * size≤l.length) : firstL H size n (.slq a off n c)=some ((l.drop off).take (n * size)):=by
  unfold firstL; dsimp only; rw [h]; dsimp only; rw [sliceK_eq,if_pos hl]
theorem small_ok {a b c:Nat} (h1:a≤1048576) (h2:b≤1048576) (h3:c≤1048576) : small a b c=true:=by
  unfold small; simp [h1,h2,h3]
theorem newSlq_eq {l:List AV} {n size:Nat} : newSlq H l n size=some (.slq H.next 0 n 0,H.add (.cells l true size)):=by
  unfold newSlq; rw [Mem.newK_eq]
theorem appendN_nil {size bytes n:Nat} {x:AV} {new:List AV} (hn:lenOf x=some (n+1)) (hs:0 < size) (hf:firstL H size (n+1) x=some new) (hl:new.length=(n+1) * size) (h1:n+1≤1048576) (h2:bytes≤1048576) :
    appendN H size bytes (.lit (.slice none 0 0)) x=some (.slq H.next 0 (n+1) 0,H.add (.cells new true size)):=by
  unfold appendN
  rw [hn]
  show (match Nat.beq size 0,firstL H size (n+1) x with | false,some new=>appTo H size bytes (n+1) (.lit (.slice none 0 0)) new | _,_=>none)=_
  have hb:Nat.beq size 0=false:=by
    cases hb:Nat.beq size 0 with
    | false=>rfl
    | true=>have:=Nat.eq_of_beq_eq_true hb; omega
  rw [hb,hf]
  dsimp only
  unfold appTo
  rw [len_eq,hl,Nat.beq_refl]
  dsimp only
  unfold appNil
  rw [small_ok h1 (Nat.zero_le _) h2]
  exact newSlq_eq
theorem appendN_full {size bytes n k off a:Nat} {x:AV} {new l:List AV} {own:Bool} {z:Nat} (hn:lenOf x=some (n+1)) (hs:0 < size) (hf:firstL H size (n+1) x=some new) (hl:new.length=(n+1) * size)
    (hg:H.get a=some (.cells l own z)) (hle:off+k * size≤l.length) (h1:k+(n+1)≤1048576) (h3:k≤1048576) (h2:bytes≤1048576) :
    appendN H size bytes (.sl a off k k) x=some (.slq H.next 0 (k+(n+1)) 0,H.add (.cells ((l.drop off).take (k * size)++new) true size)):=by
  unfold appendN
  rw [hn]
  show (match Nat.beq size 0,firstL H size (n+1) x with | false,some new=>appTo H size bytes (n+1) (.sl a off k k) new | _,_=>none)=_
  have hb:Nat.beq size 0=false:=by
    cases hb:Nat.beq size 0 with
    | false=>rfl
    | true=>have:=Nat.eq_of_beq_eq_true hb; omega
  rw [hb,hf]
  dsimp only
  unfold appTo
  rw [len_eq,hl,Nat.beq_refl]
  dsimp only
  unfold appSl
  have hb2:Nat.ble (k+(n+1)) k=false:=by
    cases hb2:Nat.ble (k+(n+1)) k with
    | false=>rfl
    | true=>have:=Nat.le_of_ble_eq_true hb2; omega
  rw [hb2]
  dsimp only
  rw [hg,small_ok h1 h3 h2]
  dsimp only
  rw [sliceK_eq,if_pos hle,appK_eq]
  exact newSlq_eq
theorem appendN_grow {size bytes n k a:Nat} {x:AV} {new l:List AV} (hn:lenOf x=some (n+1)) (hs:0 < size) (hf:firstL H size (n+1) x=some new) (hl:new.length=(n+1) * size)
    (hg:H.get a=some (.cells l true size)) (hle:l.length=k * size) (h1:k+(n+1)≤1048576) (h2:bytes≤1048576) (h4:allOne new=true) :
    appendN H size bytes (.slq a 0 k 0) x=some (.slq (H.rm a).next 0 (k+(n+1)) 0,(H.rm a).add (.cells (l++new) true size)):=by
  unfold appendN
  rw [hn]
  show (match Nat.beq size 0,firstL H size (n+1) x with | false,some new=>appTo H size bytes (n+1) (.slq a 0 k 0) new | _,_=>none)=_
  have hb:Nat.beq size 0=false:=by
    cases hb:Nat.beq size 0 with
    | false=>rfl
    | true=>have:=Nat.eq_of_beq_eq_true hb; omega
  rw [hb,hf]
  dsimp only
  unfold appTo
  rw [len_eq,hl,Nat.beq_refl]
  dsimp only
  unfold appSlq
  rw [hg]
  dsimp only
  have e1:(Nat.beq size size && Nat.beq 0 (0 * size))=true:=by simp
  have e2:Nat.ble (0+(k+(n+1)) * size) (len l)=false:=by
    rw [len_eq,hle]
    cases hb2:Nat.ble (0+(k+(n+1)) * size) (k * size) with
    | false=>rfl
    | true =>
      have:=Nat.le_of_ble_eq_true hb2
      rw [Nat.zero_add,Nat.add_mul,Nat.succ_mul] at this
      omega
  have e3:(Nat.beq (0+k * size) (len l) && small (k+(n+1)) 0 bytes && allOne new)=true:=by
    rw [len_eq,hle,small_ok h1 (Nat.zero_le _) h2,h4]; simp
  rw [e1,e2,e3]
  dsimp only
  rw [sliceK_eq,if_pos (by omega),appK_eq,Mem.delK_eq,newSlq_eq]
  have:((l.drop 0).take (k * size))=l:=by rw [← hle]; simp
  rw [this]
attribute [simp] op_append
end
end Go.Ai
end
section
namespace Go.Ai
open Go.RowKit (Below)
variable {P:Program} {W:WF} {L:LF} {Q:Out→Prop} {fr:Fr} {H:Mem}
section
variable {ev:Ev} {d:Option Tmp} {ty:TypeId} {p:String} {af:Array Edge} {g:Option (Nat×Bool)}
def smap (l:List (ByteArray×AV×Nat)) : List (AV×AV×Nat):=l.map fun x=>(.lit (.string x.1),x.2.1,x.2.2)
theorem litAll_keys:∀ l:List (ByteArray×AV×Nat),litAll ((smap l).map (·.1))=some (l.map fun x=>Value.string x.1)
  | []=>rfl
  | x :: l=>by
    have:=litAll_keys l
    simp only [smap,List.map_cons] at this ⊢
    simp only [litAll]
    rw [this]
def keyAt (s:ByteArray) : List (ByteArray×AV×Nat)→Nat→Option Nat
  | [],_=>none
  | x :: l,i=>if s=x.1 then some i else keyAt s l (i+1)
theorem ba_beq (a b:ByteArray) : (a == b)=decide (a=b):=by
  by_cases h:a=b
  · subst h
    cases a with
    | mk d=>show (d == d)=_; simp
  · rw [decide_eq_false h]
    cases a with
    | mk d=>cases b with
      | mk e =>
        show (d == e)=false
        simp at h ⊢
        exact h
theorem findNow_keys (s:ByteArray) : ∀ (l:List (ByteArray×AV×Nat)) (i:Nat),Instr.findNow .string (.string s) ((l.map fun x=>Value.string x.1).map fun q=>(⟨q,undef,0⟩ : MapEntry)) i=some ((keyAt s l i).map fun j=>(j,undef))
  | [],i=>rfl
  | x :: l,i=>by
    have ih:=findNow_keys s l (i+1)
    simp only [List.map_cons] at ih ⊢
    unfold Instr.findNow keyAt
    show (match (some (s == x.1) : Option Bool) with | some true=>_ | some false=>_ | none=>none)=_
    rw [ba_beq]
    by_cases h:s=x.1
    · rw [decide_eq_true h,if_pos h]; rfl
    · rw [decide_eq_false h,if_neg h]; exact ih
theorem findK_keys {kt:TypeId} (hk:P.underlying kt=some .string) (s:ByteArray) (l:List (ByteArray×AV×Nat)) : findK P kt (.string s) (smap l)=some (keyAt s l 0):=by
  unfold findK
  rw [litAll_keys]
  dsimp only
  have:pureV P (Instr.findKey kt (.string s) ((l.map fun x=>Value.string x.1).map fun q=>(⟨q,undef,0⟩ : MapEntry)))=some ((keyAt s l 0).map fun j=>(j,undef)):=by
    unfold Instr.findKey
    rw [pureV_then (pureV_underlying hk),findNow_keys]
    rfl
  rw [this]
  cases keyAt s l 0 <;> rfl
theorem checkKey_str {kt:TypeId} {b:Bool} {n:Nat} {s:ByteArray} (hk:P.underlying kt=some .string) : pureV P (Instr.checkKey b (n+1) kt (.string s))=some ():=by
  unfold Instr.checkKey
  rw [pureV_then (pureV_underlying hk)]
  rfl
theorem keyAt_spec (s:ByteArray) : ∀ (l:List (ByteArray×AV×Nat)) (i:Nat),match keyAt s l i with | some j=>i≤j∧∃ x,l[j - i]?=some x∧x.1=s | none=>∀ x∈l,x.1≠s
  | [],i=>by simp [keyAt]
  | x :: l,i=>by
    unfold keyAt
    by_cases h:s=x.1
    · rw [if_pos h]; exact ⟨Nat.le_refl _,x,by simp,h.symm⟩
    · rw [if_neg h]
      have ih:=keyAt_spec s l (i+1)
      cases hk:keyAt s l (i+1) with
      | none =>
        rw [hk] at ih
        intro y hy
        rcases List.mem_cons.1 hy with rfl | hy
        · exact fun e=>h e.symm
        · exact ih y hy
      | some j =>
        rw [hk] at ih
        obtain ⟨h1,y,h2,h3⟩:=ih
        exact ⟨by omega,y,by rw [show j - i=(j - (i+1))+1 by omega]; simpa using h2,h3⟩
def sset (l:List (ByteArray×Nat)) : List (AV×AV×Nat):=smap (l.map fun x=>(x.1,.lit (.bool true),x.2))
def inSet (s:ByteArray) (l:List (ByteArray×Nat)) : Bool:=l.any fun x=>decide (x.1=s)
theorem lookup_set {t kt et:TypeId} {a:Nat} {s:ByteArray} {l:List (ByteArray×Nat)} {c:Nat} (ht:P.underlying t=some (.map kt et)) (hk:P.underlying kt=some .string) (hz:zeroV P et=some (.bool false)) (hg:H.get a=some (.map (sset l) c)) :
    lookup P H t (.map a) (.lit (.string s)) false=some (.lit (.bool (inSet s l))):=by
  unfold lookup
  rw [ht]
  dsimp only [toLit]
  rw [hg]
  dsimp only
  rw [checkKey_str (n:=9999) hk]
  unfold sset
  rw [findK_keys hk]
  dsimp only
  have hs:=keyAt_spec s (l.map fun x=>(x.1,AV.lit (.bool true),x.2)) 0
  cases hka:keyAt s (l.map fun x=>(x.1,AV.lit (.bool true),x.2)) 0 with
  | none =>
    rw [hka] at hs
    unfold lookupIn
    dsimp only
    rw [hz]
    have:inSet s l=false:=by
      unfold inSet
      rw [List.any_eq_false]
      intro x hx
      have:=hs (x.1,.lit (.bool true),x.2) (List.mem_map.2 ⟨x,hx,rfl⟩)
      simpa using this
    rw [this]; rfl
  | some j =>
    rw [hka] at hs
    obtain ⟨_,x,hx,hxs⟩:=hs
    rw [Nat.sub_zero,List.getElem?_map] at hx
    obtain ⟨y,hy,rfl⟩:=Option.map_eq_some_iff.1 hx
    unfold lookupIn
    dsimp only
    rw [nth_eq]
    have:(smap (l.map fun x=>(x.1,AV.lit (.bool true),x.2)))[j]?=some (.lit (.string y.1),.lit (.bool true),y.2):=by
      unfold smap; simp [hy]
    rw [this]
    have:inSet s l=true:=by
      unfold inSet
      rw [List.any_eq_true]
      exact ⟨y,List.mem_of_getElem? hy,by simpa using hxs⟩
    rw [this]; rfl
theorem mapUpdate_set {t kt et:TypeId} {a:Nat} {s:ByteArray} {l:List (ByteArray×Nat)} {c:Nat} (ht:P.underlying t=some (.map kt et)) (hk:P.underlying kt=some .string) (hg:H.get a=some (.map (sset l) c)) (hn:inSet s l=false) :
    mapUpdate P H t (.map a) (.lit (.string s)) (.lit (.bool true))=some (H.upd a (.map (sset (l++[(s,c)])) (c+1))):=by
  unfold mapUpdate
  rw [ht]
  dsimp only [toLit]
  rw [hg]
  dsimp only
  rw [checkKey_str (n:=9999) hk]
  have e:findK P kt (.string s) (sset l)=some (keyAt s (l.map fun x=>(x.1,AV.lit (.bool true),x.2)) 0):=findK_keys hk s _
  rw [e]
  have hs:=keyAt_spec s (l.map fun x=>(x.1,AV.lit (.bool true),x.2)) 0
  cases hka:keyAt s (l.map fun x=>(x.1,AV.lit (.bool true),x.2)) 0 with
  | none =>
    unfold updIn
    dsimp only
    rw [Mem.setK_eq]
    have:sset l++[(.lit (.string s),.lit (.bool true),c)]=sset (l++[(s,c)]):=by simp [sset,smap]
    rw [this]
  | some j =>
    exfalso
    rw [hka] at hs
    obtain ⟨_,x,hx,hxs⟩:=hs
    rw [Nat.sub_zero,List.getElem?_map] at hx
    obtain ⟨y,hy,rfl⟩:=Option.map_eq_some_iff.1 hx
    have:inSet s l=true:=by
      unfold inSet
      rw [List.any_eq_true]
      exact ⟨y,List.mem_of_getElem? hy,by simpa using hxs⟩
    rw [hn] at this; cases this
def isSet (P:Program) (t:TypeId) : Bool:=match P.underlying t with
  | some (.map kt et)=>(match P.underlying kt with | some .string=>true | _=>false) && (match P.info? et with | some i=>(match i.zero with | some (.bool false)=>true | _=>false) | none=>false)
  | _=>false
theorem isSet_inv {t:TypeId} (h:isSet P t=true) : ∃ kt et,P.underlying t=some (.map kt et)∧P.underlying kt=some .string∧zeroV P et=some (.bool false):=by
  unfold isSet at h
  split at h
  · rename_i kt et hu
    rw [Bool.and_eq_true] at h
    obtain ⟨h1,h2⟩:=h
    refine ⟨kt,et,hu,?_,?_⟩
    · split at h1
      · assumption
      · cases h1
    · unfold zeroV
      split at h2
      · rename_i i hi
        rw [hi]
        dsimp only
        split at h2
        · assumption
        · cases h2
      · cases h2
  · cases h
noncomputable def exB2 (P:Program) (H:Mem) (ev:Ev) (o:Oper) (x y:Operand) (a:Nat) (u:AV) (b:Option Blk) (_:ev x=some (.map a)) (_:ev y=some u) (_:H.get a=b) : R:=opV P H ev o
noncomputable def exB3 (P:Program) (H:Mem) (ev:Ev) (o:Oper) (x y z:Operand) (a:Nat) (u v:AV) (b:Option Blk) (_:ev x=some (.map a)) (_:ev y=some u) (_:ev z=some v) (_:H.get a=b) : R:=opV P H ev o
theorem exB2_congr {tk:Nat} (_h0:tick=tk) {o:Oper} {x y:Operand} {a:Nat} {u:AV} {b b' : Option Blk} {hx:ev x=some (.map a)} {hy:ev y=some u} {hb:H.get a=b} (h1:b=b') : exB2 P H ev o x y a u b hx hy hb=exB2 P H ev o x y a u b' hx hy (hb.trans h1):=rfl
theorem exB3_congr {tk:Nat} (_h0:tick=tk) {o:Oper} {x y z:Operand} {a:Nat} {u v:AV} {b b' : Option Blk} {hx:ev x=some (.map a)} {hy:ev y=some u} {hz:ev z=some v} {hb:H.get a=b} (h1:b=b') : exB3 P H ev o x y z a u v b hx hy hz hb=exB3 P H ev o x y z a u v b' hx hy hz (hb.trans h1):=rfl
attribute [congr] exB2_congr exB3_congr
theorem op_lookup {t:TypeId} {m k:Operand} {b:Bool} : opV P H ev ⟨d,.lookup t m k b,ty,p,af,g⟩=ex2 P H ev ⟨d,.lookup t m k b,ty,p,af,g⟩ m k (ev m) (ev k) rfl rfl:=(rfl)
theorem ex2_map {o:Oper} {x y:Operand} {a:Nat} {u:AV} {hx:ev x=some (.map a)} {hy:ev y=some u} : ex2 P H ev o x y (some (.map a)) (some u) hx hy=exB2 P H ev o x y a u (H.get a) hx hy rfl:=(rfl)
theorem ex3_map {o:Oper} {x y z:Operand} {a:Nat} {u v:AV} {hx:ev x=some (.map a)} {hy:ev y=some u} {hz:ev z=some v} : ex3 P H ev o x y z (some (.map a)) (some u) (some v) hx hy hz=exB3 P H ev o x y z a u v (H.get a) hx hy hz rfl:=(rfl)
theorem lookup_ex {t:TypeId} {m k:Operand} {a:Nat} {s:ByteArray} {l:List (ByteArray×Nat)} {c:Nat} {hm:ev m=some (.map a)} {hk:ev k=some (.lit (.string s))} {hg:H.get a=some (.map (sset l) c)} (h:isSet P t=true) :
    exB2 P H ev ⟨d,.lookup t m k false,ty,p,af,g⟩ m k a (.lit (.string s)) (some (.map (sset l) c)) hm hk hg=.val (.lit (.bool (inSet s l))) H:=by
  show oLookup P H ev _ t (ev m) (ev k) false=_
  obtain ⟨kt,et,h1,h2,h3⟩:=isSet_inv h
  unfold oLookup orElse
  rw [generic_none (x:=m) (by simp [Op.operands]) (fun v' h=>by rw [hm] at h; cases h; rfl),hm,hk]
  dsimp only
  rw [lookup_set h1 h2 h3 hg]; rfl
theorem op_mapUpdate {t:TypeId} {m k x:Operand} : opV P H ev ⟨d,.mapUpdate t m k x,ty,p,af,g⟩=ex3 P H ev ⟨d,.mapUpdate t m k x,ty,p,af,g⟩ m k x (ev m) (ev k) (ev x) rfl rfl rfl:=(rfl)
theorem mapUpdate_ex {t:TypeId} {m k x:Operand} {a:Nat} {s:ByteArray} {l:List (ByteArray×Nat)} {c:Nat} {hm:ev m=some (.map a)} {hk:ev k=some (.lit (.string s))} {hx:ev x=some (.lit (.bool true))}
    {hg:H.get a=some (.map (sset l) c)} (h:isSet P t=true) (hn:inSet s l=false) :
    exB3 P H ev ⟨d,.mapUpdate t m k x,ty,p,af,g⟩ m k x a (.lit (.string s)) (.lit (.bool true)) (some (.map (sset l) c)) hm hk hx hg=.skip (H.upd a (.map (sset (l++[(s,c)])) (c+1))):=by
  show oMapUpdate P H t (ev m) (ev k) (ev x)=_
  obtain ⟨kt,et,h1,h2,h3⟩:=isSet_inv h
  unfold oMapUpdate
  rw [hm,hk,hx]
  dsimp only
  rw [mapUpdate_set h1 h2 hg hn]
theorem op_makeMap {t:TypeId} : opV P H ev ⟨d,.makeMap t none,ty,p,af,g⟩=.val (.map H.next) (H.add (.map (sset []) 0)):=by
  show oMakeMap P H ev t none=_
  unfold oMakeMap
  dsimp only
  rw [Mem.newK_eq]; rfl
attribute [simp] ex2_map ex3_map lookup_ex mapUpdate_ex op_lookup op_mapUpdate op_makeMap
end
end Go.Ai
end
section
namespace Go.Ai
open Go.RowKit (Below)
variable {P:Program} {B G:Nat} {ρ ρ' : Rn} {H H' : Mem} {w w' : World}
mutual
theorem VR.back (hs:Sub ρ ρ') : ∀ {v:AV} {u0 u:Value},VR ρ v u0→VR ρ' v u→VR ρ v u
  | .lit _,_,_,_,r=>r
  | .ptr _ _,_,_,⟨b,o,k,e,_⟩,⟨b',o',k',e',r'⟩=>by
    have:=hs _ _ e; rw [this] at e'; cases e'; exact ⟨b,o,k,e,r'⟩
  | .sl _ _ _ _,_,_,⟨b,o,k,e,_⟩,⟨b',o',k',e',r'⟩=>by
    have:=hs _ _ e; rw [this] at e'; cases e'; exact ⟨b,o,k,e,r'⟩
  | .slq _ _ _ _,_,_,⟨b,o,k,e,_⟩,⟨b',o',k',e',r'⟩=>by
    have:=hs _ _ e; rw [this] at e'; cases e'; exact ⟨b,o,k,e,r'⟩
  | .es,_,_,_,r=>r
  | .map _,_,_,⟨b,o,k,e,_⟩,⟨b',o',k',e',r'⟩=>by
    have:=hs _ _ e; rw [this] at e'; cases e'; exact ⟨b,o,k,e,r'⟩
  | .func _ _ _,_,_,⟨_,_,_,r,q⟩,⟨f',c',e',r',q'⟩=>⟨f',c',e',VRs.back hs r r',VRs.back hs q q'⟩
  | .iface _ _,_,_,⟨_,_,r⟩,⟨u',e',r'⟩=>⟨u',e',VR.back hs r r'⟩
  | .agg _,_,_,⟨_,_,r⟩,⟨cs,e',r'⟩=>⟨cs,e',VRs.back hs r r'⟩
  | .tup _,_,_,⟨_,_,r⟩,⟨cs,e',r'⟩=>⟨cs,e',VRs.back hs r r'⟩
theorem VRs.back (hs:Sub ρ ρ') : ∀ {l:List AV} {us0 us:List Value},VRs ρ l us0→VRs ρ' l us→VRs ρ l us
  | [],_,_,_,r=>r
  | _ :: _,_,_,⟨_,_,_,r,q⟩,⟨u,us',e,r',q'⟩=>⟨u,us',e,VR.back hs r r',VRs.back hs q q'⟩
end
theorem ER.back (hs:Sub ρ ρ') : ∀ {l:List (AV×AV×Nat)} {es0 es:List MapEntry},ER ρ l es0→ER ρ' l es→ER ρ l es
  | [],_,_,_,r=>r
  | _ :: _,_,_,⟨_,_,_,r,s,_,z⟩,⟨e,es',q,r',s',t',z'⟩=>⟨e,es',q,r.back hs r',s.back hs s',t',ER.back hs z z'⟩
theorem BR.back (hs:Sub ρ ρ') {x:Blk} {b o k:Nat} (h0:BR B ρ x b o k w) (h:BR B ρ' x b o k w') : BR B ρ x b o k w':=by
  cases x with
  | cells l own z =>
    obtain ⟨c0,e0,fz0,hb0,hc0,ho0⟩:=h0
    obtain ⟨c,e,fz,hb,hc,ho⟩:=h
    refine ⟨c,e,fz,hb,fun i v hi=>?_,ho⟩
    obtain ⟨u0,_,hv0⟩:=hc0 i v hi
    obtain ⟨u,hu,hv⟩:=hc i v hi
    exact ⟨u,hu,hv0.back hs hv⟩
  | map es clock =>
    obtain ⟨es0,_,he0,_⟩:=h0
    obtain ⟨es',hb,he,hB⟩:=h
    exact ⟨es',hb,ER.back hs he0 he,hB⟩
  | siter s pos=>exact h
structure Ge (H H' : Mem) : Prop where
  le:H.next≤H'.next
  same:∀ a,a < H.next→H'.get a=H.get a
theorem Sim.back (s:Sim B G ρ H w) (hx:Ext B H.next ρ w ρ' w') (s' : Sim B G ρ' H' w') (hg:Ge H H') : Sim B G ρ H w':=by
  have hsub:=hx.sub s
  refine ⟨fun a x ha=>?_,s.inj,s.fresh,s.glob,s.names,s'.base⟩
  rcases s.blk a x ha with hn | ⟨b,o,k,hr,hb⟩
  · exact .inl hn
  · have hlt:=s.lt_next hr
    refine .inr ⟨b,o,k,hr,?_⟩
    have hb':=s'.at (by rw [hg.same a hlt]; exact ha) (hsub _ _ hr)
    exact hb.back hsub hb'
def plainV:AV→Bool
  | .lit _=>true
  | .es=>true
  | .iface _ v=>plainV v
  | .tup []=>true
  | .tup [a]=>plainV a
  | .tup [a,b]=>plainV a && plainV b
  | .tup [a,b,c]=>plainV a && plainV b && plainV c
  | _=>false
theorem plain_VR {ρ'' : Rn} : ∀ {v:AV} {u:Value},plainV v=true→VR ρ' v u→VR ρ'' v u
  | .lit _,_,_,r=>r
  | .es,_,_,r=>r
  | .iface t v,_,h,⟨u',e,r⟩=>⟨u',e,plain_VR (v:=v) (by simpa [plainV] using h) r⟩
  | .tup [],_,_,⟨cs,e,r⟩=>⟨cs,e,r⟩
  | .tup [a],_,h,⟨cs,e,u,us,e1,r,q⟩=>⟨cs,e,u,us,e1,plain_VR (v:=a) (by simpa [plainV] using h) r,q⟩
  | .tup [a,b],_,h,⟨cs,e,u,us,e1,r,u2,us2,e2,r2,q⟩=>by
    simp only [plainV,Bool.and_eq_true] at h
    exact ⟨cs,e,u,us,e1,plain_VR (v:=a) h.1 r,u2,us2,e2,plain_VR (v:=b) h.2 r2,q⟩
  | .tup [a,b,c],_,h,⟨cs,e,u,us,e1,r,u2,us2,e2,r2,u3,us3,e3,r3,q⟩=>by
    simp only [plainV,Bool.and_eq_true] at h
    exact ⟨cs,e,u,us,e1,plain_VR (v:=a) h.1.1 r,u2,us2,e2,plain_VR (v:=b) h.1.2 r2,u3,us3,e3,plain_VR (v:=c) h.2 r3,q⟩
  | .ptr _ _,_,h,_=>by simp [plainV] at h
  | .sl _ _ _ _,_,h,_=>by simp [plainV] at h
  | .slq _ _ _ _,_,h,_=>by simp [plainV] at h
  | .map _,_,h,_=>by simp [plainV] at h
  | .func _ _ _,_,h,_=>by simp [plainV] at h
  | .agg _,_,h,_=>by simp [plainV] at h
  | .tup (_ :: _ :: _ :: _ :: _),_,h,_=>by simp [plainV] at h
theorem WC.drop {f:FuncId} {args:List AV} {K:AV→Prop} (h:WC G P f args H fun r=>∃ v H',r=.ret v H'∧plainV v=true∧Ge H H'∧K v) : WC G P f args H fun r=>∃ v,r=.ret v H∧K v:=by
  intro B ρ us w s hv
  refine (h B ρ us w s hv).mono ?_
  rintro e w' ⟨r,⟨v,H',rfl,hp,hg,hk⟩,hc⟩
  refine ⟨_,⟨v,rfl,hk⟩,?_⟩
  cases e with
  | returned u =>
    obtain ⟨ρ',h1,h2,h3,h4⟩:=hc
    exact ⟨ρ,⟨fun _ _=>rfl,h1.below⟩,s.back h1 h2 hg,plain_VR hp h3,Nat.le_refl _⟩
  | panicked chain=>exact hc.elim
  | outgrown=>exact hc.elim
theorem WC.drop1 {f:FuncId} {args:List AV} {v:AV} (hp:plainV v=true) (h:WC G P f args H fun r=>∃ H',r=.ret v H'∧Ge H H') : WC G P f args H fun r=>r=.ret v H:=by
  refine (WC.drop (K:=fun u=>u=v) (h.mono ?_)).mono ?_
  · rintro r ⟨H',rfl,hg⟩; exact ⟨v,H',rfl,hp,hg,rfl⟩
  · rintro r ⟨u,rfl,rfl⟩; rfl
/-! ### rows of cells -/
def Row (g:Nat→Option Blk) (a off:Nat) (cs:List AV) : Prop:=∃ l own z,g a=some (.cells l own z)∧off+cs.length≤l.length∧(l.drop off).take cs.length=cs
theorem Row.agg {g:Nat→Option Blk} {a off:Nat} {cs:List AV} (h:Row g a off cs) {k s:Nat} (hk:k+s≤cs.length) : loadB (some (true,s)) (g a) (off+k)=some (.agg ((cs.drop k).take s)):=by
  obtain ⟨l,own,z,h1,h2,h3⟩:=h
  rw [h1,loadB_agg (by omega)]
  congr 2
  rw [← h3,← List.drop_drop,List.drop_take,List.take_take]
  congr 1
  omega
theorem Row.one {g:Nat→Option Blk} {a off:Nat} {cs:List AV} (h:Row g a off cs) {k s:Nat} (hk:k < cs.length) : loadB (some (false,s)) (g a) (off+k)=some cs[k]:=by
  obtain ⟨l,own,z,h1,h2,h3⟩:=h
  rw [h1,loadB_one]
  have h4:((l.drop off).take cs.length)[k]?=cs[k]?:=by rw [h3]
  rw [List.getElem?_take_of_lt hk,List.getElem?_drop] at h4
  rw [h4,List.getElem?_eq_getElem hk]
theorem Row.mono {g g' : Nat→Option Blk} {a off:Nat} {cs:List AV} (h:Row g a off cs) (hg:g' a=g a) : Row g' a off cs:=by
  obtain ⟨l,own,z,h1,h2⟩:=h
  exact ⟨l,own,z,hg.trans h1,h2⟩
theorem flat_at {α:Type} {f:α→List AV} {sz:Nat} : ∀ (xs:List α) (i:Nat) (h:i < xs.length),(∀ x∈xs,(f x).length=sz)→((xs.flatMap f).drop (i * sz)).take sz=f xs[i]
  | x :: xs,0,_,hf=>by
    have:=hf x (by simp)
    rw [List.flatMap_cons,Nat.zero_mul,List.drop_zero,← this,List.take_left]
    rfl
  | x :: xs,i+1,h,hf=>by
    have h1:=hf x (by simp)
    rw [List.flatMap_cons,Nat.succ_mul,Nat.add_comm,← List.drop_drop,← h1,List.drop_left,h1]
    have:=flat_at xs i (by simpa using h) (fun y hy=>hf y (by simp [hy]))
    simpa using this
  | [],i,h,_=>by simp at h
theorem flat_len {α:Type} {f:α→List AV} {sz:Nat} : ∀ (xs:List α),(∀ x∈xs,(f x).length=sz)→(xs.flatMap f).length=xs.length * sz
  | [],_=>by simp
  | x :: xs,hf=>by
    rw [List.flatMap_cons,List.length_append,hf x (by simp),flat_len xs (fun y hy=>hf y (by simp [hy])),List.length_cons,Nat.succ_mul,Nat.add_comm]
end Go.Ai
end
section
namespace Go.Ai
variable {P:Program} {W:WF} {L:LF} {Q:Out→Prop} {fr:Fr} {H:Mem} {plan:List (Nat×List It)} {ops:Array Oper} {al:AlP}
theorem execP_congr {tk:Nat} (_h0:tick=tk) {c:Code} {fr fr' : Fr} {H H' : Mem} (h1:fr=fr') (h2:H=H') : execP P W L plan c fr H Q=execP P W L plan c fr' H' Q:=by rw [h1,h2]
theorem planW_congr {tk:Nat} (_h0:tick=tk) {l:List It} {fr fr' : Fr} {H H' : Mem} (h1:fr=fr') (h2:H=H') : planW P W ops Q l fr H al=planW P W ops Q l fr' H' al:=by rw [h1,h2]
theorem againW_congr {tk:Nat} (_h0:tick=tk) {l:List Nat} {fr fr' : Fr} {H H' : Mem} (h1:fr=fr') (h2:H=H') : againW P W ops fr H l=againW P W ops fr' H' l:=by rw [h1,h2]
theorem regP_congr {tk:Nat} (_h0:tick=tk) {l l' : List It} {fr fr' : Fr} {H H' : Mem} (h0:l=l') (h1:fr=fr') (h2:H=H') : regP P W ops Q l fr H=regP P W ops Q l' fr' H':=by rw [h0,h1,h2]
theorem clearQ_congr {tk:Nat} (_h0:tick=tk) {o o' : Out} (h:o=o') : clearQ Q o=clearQ Q o':=by rw [h]
def atW (l:List Oper) (i:Nat) (k:Oper→Prop) : Prop:=match l[i]? with | some o=>k o | none=>False
theorem atW_zero {o:Oper} {l:List Oper} {k:Oper→Prop} : atW (o :: l) 0 k=k o:=(rfl)
theorem atW_succ {o:Oper} {l:List Oper} {n:Nat} {k:Oper→Prop} : atW (o :: l) (n+1) k=atW l n k:=(rfl)
theorem atW_congr {tk:Nat} (_h0:tick=tk) {l:List Oper} {i:Nat} {k:Oper→Prop} : atW l i k=atW l i k:=rfl
attribute [congr] execP_congr planW_congr againW_congr regP_congr clearQ_congr atW_congr
theorem execP_skip:execP P W L plan .skip fr H Q=Q (.norm fr H):=(rfl)
theorem execP_region {id:Nat} {l:List Oper} : execP P W L plan (.region id l.toArray false) fr H Q=seqW P W l.toArray Q l fr H:=(rfl)
theorem execP_drawn {id:Nat} : execP P W L plan (.region id ops true) fr H Q=regP P W ops Q (planAt plan id) fr H:=(rfl)
theorem execP_seq {a b:Code} : execP P W L plan (.seq a b) fr H Q=execP P W L plan a fr H (thenW (fun fr H=>execP P W L plan b fr H Q) Q):=(rfl)
theorem execP_cond {x:Operand} {a b:Code} : execP P W L plan (.cond x a b) fr H Q=condW (fr.ev x) (execP P W L plan a fr H Q) (execP P W L plan b fr H Q):=(rfl)
theorem execP_block {id:Nat} {b:Code} : execP P W L plan (.block id b) fr H Q=execP P W L plan b fr H (inBlockW id Q):=(rfl)
theorem execP_loop {b:Code} : execP P W L plan (.loop b) fr H Q=L b fr H Q:=(rfl)
theorem execP_exit {id:Nat} : execP P W L plan (.exit id) fr H Q=Q (.exit id fr H):=(rfl)
theorem execP_label {id:Nat} : execP P W L plan (.label id) fr H Q=Q (.norm fr H):=(rfl)
theorem execP_ret:execP P W L plan .ret fr H Q=Q (.ret fr H):=(rfl)
theorem planAt_here {k:Nat} {l:List It} {r:List (Nat×List It)} : planAt ((k,l) :: r) k=l:=if_pos rfl
theorem planAt_next {k i:Nat} {l:List It} {r:List (Nat×List It)} (h:¬k=i) : planAt ((k,l) :: r) i=planAt r i:=if_neg h
theorem regP_f {g:Nat→Option AV} {ds:List Dfr} {l:List It} : regP P W ops Q l (.f g ds) H=planW P W ops (clearQ Q) l (.f g ds) H []:=(rfl)
theorem clearQ_norm:clearQ Q (.norm fr H)=Q (.norm fr H):=(rfl)
theorem clearQ_panic {v:AV} : clearQ Q (.panic v fr H)=Q (.panic v fr.clear H):=(rfl)
theorem clear_f {g:Nat→Option AV} {ds:List Dfr} : (Fr.f g ds).clear=.s e2 ds:=(rfl)
theorem planW_nil:planW P W ops Q [] fr H al=Q (.norm fr H):=(rfl)
theorem planW_run {l:List Oper} {i:Nat} {r:List It} : planW P W l.toArray Q (.run i :: r) fr H al=atW l i fun o=>oneW P W l.toArray o fr H (fun fr H=>planW P W l.toArray Q r fr H al) Q:=by
  rw [planW,List.getElem?_toArray]; rfl
theorem planW_mk {l:List Oper} {i:Nat} {r:List It} : planW P W l.toArray Q (.mk i :: r) fr H al=atW l i fun o=>oneW P W l.toArray o fr H (fun fr H'=>planW P W l.toArray Q r fr H' ((i,H.next,H'.get H.next) :: al)) Q:=by
  rw [planW,List.getElem?_toArray]; rfl
theorem planW_gate {hs as:List Nat} {r:List It} : planW P W ops Q (.gate hs as :: r) fr H al=(againW P W ops fr H hs∧keptW H as al∧planW P W ops Q r fr H al):=(rfl)
theorem againW_nil:againW P W ops fr H []=True:=(rfl)
theorem againW_cons {l:List Oper} {i:Nat} {hs:List Nat} : againW P W l.toArray fr H (i :: hs)=((atW l i fun o=>oneW P W l.toArray o fr H (fun fr' _=>slotOf fr' o.dst=slotOf fr o.dst) fun _=>False)∧againW P W l.toArray fr H hs):=by
  rw [againW,List.getElem?_toArray]; rfl
theorem slotOf_some {d:Tmp} : slotOf fr (some d)=fr.get d:=(rfl)
theorem keptW_nil {as:List Nat} : keptW H as []=True:=(rfl)
theorem keptW_cons {as:List Nat} {i a:Nat} {b:Option Blk} {l:AlP} : keptW H as ((i,a,b) :: l)=((i∈as→H.get a=b)∧keptW H as l):=(rfl)
attribute [simp] execP_skip execP_region execP_drawn execP_seq execP_cond execP_block execP_loop execP_exit execP_label execP_ret planAt_here planAt_next regP_f clearQ_norm clearQ_panic clear_f
  planW_nil planW_run planW_mk planW_gate againW_nil againW_cons slotOf_some keptW_nil keptW_cons atW_zero atW_succ
end Go.Ai
end
section
namespace Go.Ai
variable {P:Program} {W:WF} {L:LF} {Q:Out→Prop} {fr:Fr} {H:Mem}
section
variable {ev:Ev} {d:Option Tmp} {ty:TypeId} {p:String} {af:Array Edge} {g:Option (Nat×Bool)}
def arI (P:Program) (t:TypeId) : Option (Nat×Bool×Nat):=match P.underlying t with
  | some (.array n e)=>match P.info? e,tIsAgg P e with
    | some j,some (ag,sz)=>if j.size=sz then some (n,ag,sz) else none
    | _,_=>none
  | _=>none
def fdI (P:Program) (t:TypeId) (f:Nat) : Option (Bool×Nat×Nat):=match P.underlying t with
  | some (.struct fields)=>match fields[f]? with
    | some fd=>match tIsAgg P fd.type with
      | some (ag,sz)=>some (ag,fd.offset,sz)
      | none=>none
    | none=>none
  | _=>none
def partS (ag:Bool) (sz off:Nat) (l:List AV) : Option AV:=match ag with
  | true=>if off+sz≤l.length then some (.agg ((l.drop off).take sz)) else none
  | false=>l[off]?
theorem partS_agg {sz off:Nat} {l:List AV} (h:off+sz≤l.length) : partS true sz off l=some (.agg ((l.drop off).take sz)):=if_pos h
theorem partS_one {sz off:Nat} {l:List AV} : partS false sz off l=l[off]?:=(rfl)
theorem partL_eq {e:TypeId} {ag:Bool} {sz off:Nat} {l:List AV} (h:tIsAgg P e=some (ag,sz)) : partL P e l off=partS ag sz off l:=by
  unfold partL partS
  rw [h]
  cases ag with
  | false=>rfl
  | true =>
    dsimp only
    by_cases hl:off+sz≤l.length
    · rw [if_pos hl,Nat.ble_eq_true_of_le hl]
    · rw [if_neg hl]
      cases hb:Nat.ble (off+sz) l.length with
      | false=>rfl
      | true=>exact absurd (Nat.le_of_ble_eq_true hb) hl
theorem idxS_arr {o:Oper} {t e:TypeId} {n:Nat} {x i:Option AV} : idxS P H ev o t (some (.array n e)) x i=oIndex P H ev o t x i:=(rfl)
theorem oIndex_congr {tk:Nat} (_h0:tick=tk) {o:Oper} {t:TypeId} {x x' i i' : Option AV} {H H' : Mem} (h1:H=H') (h2:x=x') (h3:i=i') : oIndex P H ev o t x i=oIndex P H' ev o t x' i':=by rw [h1,h2,h3]
noncomputable def oiS (P:Program) (H:Mem) (ev:Ev) (o:Oper) (t:TypeId) (r:Option AV) : R:=match r with | some v=>.val v H | none=>ofOpt H (generic P ev o)
theorem oiS_some {o:Oper} {t:TypeId} {v:AV} : oiS P H ev o t (some v)=.val v H:=(rfl)
theorem oiS_congr {tk:Nat} (_h0:tick=tk) {o:Oper} {t:TypeId} {r r' : Option AV} {H H' : Mem} (h1:H=H') (h2:r=r') : oiS P H ev o t r=oiS P H' ev o t r':=by rw [h1,h2]
theorem oIndex_agg {o:Oper} {t:TypeId} {l:List AV} {k:IntKind} {i:Int} {n sz:Nat} {ag:Bool} (hq:arI P t=some (n,ag,sz)) (h0:0≤i) (h:i.toNat < n) :
    oIndex P H ev o t (some (.agg l)) (some (.lit (.int k i)))=oiS P H ev o t (partS ag sz (i.toNat * sz) l):=by
  have hi:index P t (.agg l) (.lit (.int k i))=partS ag sz (i.toNat * sz) l:=by
    unfold arI at hq
    unfold index
    split at hq
    · rename_i m e hd
      split at hq
      · rename_i j ag' sz' hj ha
        split at hq
        · rename_i hjs
          simp only [Option.some.injEq,Prod.mk.injEq] at hq
          obtain ⟨rfl,rfl,rfl⟩:=hq
          rw [hd,natOf_int h0]
          dsimp only [asAggL]
          rw [hj]
          dsimp only
          rw [if_pos h,hjs,partL_eq ha]
        · cases hq
      · cases hq
    · cases hq
  unfold oIndex oiS
  dsimp only
  rw [hi]
  cases partS ag sz (i.toNat * sz) l <;> rfl
attribute [congr] oIndex_congr oiS_congr
theorem oField_congr {tk:Nat} (_h0:tick=tk) {t:TypeId} {f:Nat} {x x' : Option AV} {H H' : Mem} (h1:H=H') (h2:x=x') : oField P H t x f=oField P H' t x' f:=by rw [h1,h2]
attribute [congr] oField_congr
theorem oField_agg {t:TypeId} {l:List AV} {f off sz:Nat} {ag:Bool} (hq:fdI P t f=some (ag,off,sz)) : oField P H t (some (.agg l)) f=ofOpt H (partS ag sz off l):=by
  have:field P t (.agg l) f=partS ag sz off l:=by
    unfold fdI at hq
    unfold field
    split at hq
    · rename_i fields hd
      split at hq
      · rename_i fd hf
        split at hq
        · rename_i ag' sz' ha
          simp only [Option.some.injEq,Prod.mk.injEq] at hq
          obtain ⟨rfl,rfl,rfl⟩:=hq
          rw [hd]
          dsimp only [asAggL]
          rw [hf]
          dsimp only
          exact partL_eq ha
        · cases hq
      · cases hq
    · cases hq
  unfold oField
  dsimp only
  rw [this]
noncomputable def ixQ (P:Program) (H:Mem) (ev:Ev) (o:Oper) (t:TypeId) (q:Option (Nat×Bool×Nat)) (x i:Option AV) : R:=match q,x,i with
  | some (n,ag,sz),some (.agg l),some (.lit (.int _ i))=>if 0≤i∧i.toNat < n then oiS P H ev o t (partS ag sz (i.toNat * sz) l) else oIndex P H ev o t x (some (.lit (.int .i64 i)))
  | _,x,i=>oIndex P H ev o t x i
theorem oIndex_q {o:Oper} {t:TypeId} {l:List AV} {i:Int} : oIndex P H ev o t (some (.agg l)) (some (.lit (.int .i64 i)))=ixQ P H ev o t (arI P t) (some (.agg l)) (some (.lit (.int .i64 i))):=by
  unfold ixQ
  split
  · rename_i n ag sz _ _ k i' hq hl hi
    cases hl; cases hi
    split
    · rename_i h; exact oIndex_agg hq h.1 h.2
    · rfl
  · rfl
theorem ixQ_congr {tk:Nat} (_h0:tick=tk) {o:Oper} {t:TypeId} {q q' : Option (Nat×Bool×Nat)} {x x' i i' : Option AV} {H H' : Mem} (h0:q=q') (h1:H=H') (h2:x=x') (h3:i=i') : ixQ P H ev o t q x i=ixQ P H' ev o t q' x' i':=by rw [h0,h1,h2,h3]
theorem ixQ_some {o:Oper} {t:TypeId} {l:List AV} {i:Int} {n sz:Nat} {ag:Bool} (h0:0≤i) (h:i.toNat < n) : ixQ P H ev o t (some (n,ag,sz)) (some (.agg l)) (some (.lit (.int .i64 i)))=oiS P H ev o t (partS ag sz (i.toNat * sz) l):=if_pos ⟨h0,h⟩
noncomputable def fdQ (P:Program) (H:Mem) (t:TypeId) (f:Nat) (q:Option (Bool×Nat×Nat)) (x:Option AV) : R:=match q,x with
  | some (ag,off,sz),some (.agg l)=>ofOpt H (partS ag sz off l)
  | _,x=>oField P H t x f
theorem op_fieldQ {t:TypeId} {x:Operand} {f:Nat} : opV P H ev ⟨d,.field t x f,ty,p,af,g⟩=fdQ P H t f (fdI P t f) (ev x):=by
  show oField P H t (ev x) f=_
  unfold fdQ
  split
  · rename_i hq hx; rw [hx]; exact oField_agg hq
  · rfl
theorem fdQ_congr {tk:Nat} (_h0:tick=tk) {t:TypeId} {f:Nat} {q q' : Option (Bool×Nat×Nat)} {x x' : Option AV} {H H' : Mem} (h0:q=q') (h1:H=H') (h2:x=x') : fdQ P H t f q x=fdQ P H' t f q' x':=by rw [h0,h1,h2]
theorem fdQ_some {t:TypeId} {l:List AV} {f off sz:Nat} {ag:Bool} : fdQ P H t f (some (ag,off,sz)) (some (.agg l))=ofOpt H (partS ag sz off l):=(rfl)
attribute [congr] ixQ_congr fdQ_congr
attribute [simp] oIndex_q ixQ_some op_fieldQ fdQ_some
attribute [simp] idxS_arr partS_agg partS_one oiS_some
end
end Go.Ai
end
section
namespace Go.Ai
variable {P:Program} {H:Mem}
section
variable {ev:Ev} {d:Option Tmp} {ty:TypeId} {p:String} {af:Array Edge} {g:Option (Nat×Bool)}
theorem pureV_info {t:TypeId} {i:TypeInfo} (h:P.info? t=some i) : pureV P (typeInfo t)=some i:=by
  unfold typeInfo
  show pureV P (match P.info? t with | some d=>pure d | none=>stuck "no such type")=_
  rw [h]; rfl
theorem ia_lit {t:TypeId} {x i:Operand} {b off n sz:Nat} {k:IntKind} {j:Int} (hx:ev x=some (.lit (.pointer (some ⟨b,off,none⟩)))) (hi:ev i=some (.lit (.int k j)))
    (hq:elSz P t=some (some n,sz)) (h0:0≤j) (h:j.toNat < n) :
    iaS P H ev ⟨d,.indexAddr t x i,ty,p,af,g⟩ t (some (some n,sz)) (some (.lit (.pointer (some ⟨b,off,none⟩)))) (some (.lit (.int k j)))=.val (.lit (.pointer (some ⟨b,off+j.toNat * sz,none⟩))) H:=by
  obtain ⟨e,inf,hu,hinf,hs⟩ : ∃ e inf,P.underlying t=some (.array n e)∧P.info? e=some inf∧inf.size=sz:=by
    unfold elSz at hq
    split at hq
    · split at hq <;> cases hq
    · rename_i n' e hu
      split at hq
      · rename_i jj hj; cases hq; exact ⟨e,jj,hu,hj,rfl⟩
      · cases hq
    · cases hq
  have hn:indexAddr P t (.lit (.pointer (some ⟨b,off,none⟩))) (.lit (.int k j))=none:=by
    unfold indexAddr
    rw [hu]
  have hadd:(Addr.add ⟨b,off,none⟩ (j.toNat * sz))=⟨b,off+j.toNat * sz,none⟩:=by
    unfold Addr.add
    split
    · rename_i e0; rw [e0]; rfl
    · rfl
  have hg:generic P ev ⟨d,.indexAddr t x i,ty,p,af,g⟩=some (.lit (.pointer (some ⟨b,off+j.toNat * sz,none⟩))):=by
    refine generic2 (u:=.pointer (some ⟨b,off,none⟩)) (u':=.int k j) rfl hx hi fun ρ h1 h2=>?_
    have key:pureV P (Instr.indexAt t (ρ x) (ρ i))=some (.pointer (some ⟨b,off+j.toNat * sz,none⟩)):=by
      rw [h1,h2]
      unfold Instr.indexAt
      refine (pureV_then (m:=asIntOf (.int k j)) (a:=(k,j)) rfl).trans ?_
      dsimp only
      refine (pureV_then (m:=underlying t) (pureV_underlying hu)).trans ?_
      dsimp only
      refine (pureV_then (m:=Instr.sureAddr (.pointer (some ⟨b,off,none⟩))) (a:=⟨b,off,none⟩) rfl).trans ?_
      refine (pureV_then (m:=pure (some (⟨b,off,none⟩ : Addr),n,e)) (a:=(some (⟨b,off,none⟩ : Addr),n,e)) rfl).trans ?_
      refine (pureV_then (m:=underlying t) (pureV_underlying hu)).trans ?_
      dsimp only
      rw [if_pos ⟨h0,by omega⟩]
      refine (pureV_then (m:=sizeOf e) (a:=sz) ?_).trans ?_
      · unfold sizeOf
        refine (pureV_then (pureV_info hinf)).trans ?_
        rw [hs]; rfl
      · rw [hadd]; rfl
    show pureV P (do pure (Next.value (← Instr.indexAt t (ρ x) (ρ i))))=_
    exact (pureV_then key).trans rfl
  unfold iaS
  dsimp only
  unfold oIndexAddr orGen
  dsimp only
  rw [hn]
  dsimp only
  rw [hg]
  rfl
theorem fa_lit {t:TypeId} {x:Operand} {b off f q:Nat} (hx:ev x=some (.lit (.pointer (some ⟨b,off,none⟩)))) (hq:fldOff P t f=some q) :
    faS P H ev ⟨d,.fieldAddr t x f,ty,p,af,g⟩ t (some q) (some (.lit (.pointer (some ⟨b,off,none⟩)))) f=.val (.lit (.pointer (some ⟨b,off+q,none⟩))) H:=by
  obtain ⟨fields,fd,inf,hu,hfd,hinf,hz,hof⟩ : ∃ fields fd inf,P.underlying t=some (.struct fields)∧fields[f]?=some fd∧P.info? fd.type=some inf∧inf.size≠0∧fd.offset=q:=by
    unfold fldOff at hq
    split at hq
    · rename_i fields hu
      split at hq
      · rename_i fd hfd
        split at hq
        · rename_i inf hi
          split at hq
          · cases hq
          · rename_i hb
            cases hq
            exact ⟨fields,fd,inf,hu,hfd,hi,(fun e=>by rw [e] at hb; cases hb),rfl⟩
        · cases hq
      · cases hq
    · cases hq
  have hn:fieldAddr P t (.lit (.pointer (some ⟨b,off,none⟩))) f=none:=by
    unfold fieldAddr
    rw [hu]
  have hadd:(Addr.add ⟨b,off,none⟩ q)=⟨b,off+q,none⟩:=by
    unfold Addr.add
    split
    · rename_i e0; rw [e0]; rfl
    · rfl
  have hg:generic P ev ⟨d,.fieldAddr t x f,ty,p,af,g⟩=some (.lit (.pointer (some ⟨b,off+q,none⟩))):=by
    refine generic1 (u:=.pointer (some ⟨b,off,none⟩)) rfl hx fun ρ h1=>?_
    have key:pureV P (Instr.fieldAt t (ρ x) f)=some (.pointer (some ⟨b,off+q,none⟩)):=by
      rw [h1]
      unfold Instr.fieldAt
      refine (pureV_then (m:=underlying t) (pureV_underlying hu)).trans ?_
      dsimp only
      rw [hfd]
      dsimp only
      refine (pureV_then (m:=Instr.sureAddr (.pointer (some ⟨b,off,none⟩))) (a:=⟨b,off,none⟩) rfl).trans ?_
      refine (pureV_then (m:=fieldPlace ⟨b,off,none⟩ fd) (a:=⟨b,off+q,none⟩) ?_).trans rfl
      unfold fieldPlace
      refine (pureV_then (m:=sizeOf fd.type) (a:=inf.size) ?_).trans ?_
      · unfold sizeOf
        refine (pureV_then (pureV_info hinf)).trans ?_
        rfl
      · rw [if_neg hz,hof,hadd]; rfl
    show pureV P (do pure (Next.value (← Instr.fieldAt t (ρ x) f)))=_
    exact (pureV_then key).trans rfl
  unfold faS
  dsimp only
  unfold oFieldAddr orGen
  dsimp only
  rw [hn]
  dsimp only
  rw [hg]
  rfl
theorem equal_bool {t:TypeId} {a b:Bool} (ht:P.underlying t=some .bool) : pureV P (Op.equal t (.bool a) (.bool b))=some (a == b):=by
  unfold Op.equal
  show pureV P (Op.equalIn (9999+1) t (.bool a) (.bool b))=_
  unfold Op.equalIn
  exact (pureV_then (m:=underlying t) (pureV_underlying ht)).trans rfl
theorem bin_beql {t rt:TypeId} {x y:Operand} {a b:Bool} (hx:ev x=some (.lit (.bool a))) (hy:ev y=some (.lit (.bool b))) (ht:P.underlying t=some .bool) :
    binS P H ev ⟨d,.binOp .eql t x y rt,ty,p,af,g⟩ .eql t (some (.lit (.bool a))) (some (.lit (.bool b)))=.val (.lit (.bool (a == b))) H:=by
  unfold binS
  dsimp only
  rw [oBin_generic (v:=.lit (.bool (a == b))) rfl]
  refine generic2 (r:=.bool (a == b)) rfl hx hy fun ρ h1 h2=>execOp_bin h1 h2 rfl ?_
  show pureV P (do pure (Value.bool (← Op.equal t (.bool a) (.bool b))))=_
  exact (pureV_then (equal_bool ht)).trans rfl
theorem bin_bneq {t rt:TypeId} {x y:Operand} {a b:Bool} (hx:ev x=some (.lit (.bool a))) (hy:ev y=some (.lit (.bool b))) (ht:P.underlying t=some .bool) :
    binS P H ev ⟨d,.binOp .neq t x y rt,ty,p,af,g⟩ .neq t (some (.lit (.bool a))) (some (.lit (.bool b)))=.val (.lit (.bool (!(a == b)))) H:=by
  unfold binS
  dsimp only
  rw [oBin_generic (v:=.lit (.bool (!(a == b)))) rfl]
  refine generic2 (r:=.bool (!(a == b))) rfl hx hy fun ρ h1 h2=>execOp_bin h1 h2 rfl ?_
  show pureV P (do pure (Value.bool (!(← Op.equal t (.bool a) (.bool b)))))=_
  exact (pureV_then (equal_bool ht)).trans rfl
attribute [simp] bin_beql bin_bneq
attribute [simp] ia_lit fa_lit
end
end Go.Ai
end
section
namespace Go.Ai
variable {B G:Nat} {P:Program} {ρ:Rn} {H:Mem} {w:World}
noncomputable def orR (x:COut) (y:COut) : COut:=COut.rec (motive:=fun _=>COut) (fun v H=>.ret v H) (fun v H=>.panic v H) y x
noncomputable def orC (O c:CallF) : CallF:=fun f a H=>orR (O f a H) (c f a H)
theorem orC_ok {O c:CallF} (hO:CallOK B G P O) (hc:CallOK B G P c) : CallOK B G P (orC O c):=by
  intro f args H hne ρ us w s hv
  unfold orC at hne ⊢
  cases hr:O f args H with
  | bad=>rw [hr] at hne; exact hc f args H hne ρ us w s hv
  | ret v H'=>have:=hO f args H (by rw [hr]; simp) ρ us w s hv; rw [hr] at this; exact this
  | panic v H'=>have:=hO f args H (by rw [hr]; simp) ρ us w s hv; rw [hr] at this; exact this
noncomputable def Mem.fn (H:Mem) : Mem:=⟨.fn H.get,H.next⟩
theorem Sim.toFn (s:Sim B G ρ H w) : Sim B G ρ H.fn w:=⟨s.blk,s.inj,s.fresh,s.glob,s.names,s.base⟩
theorem Sim.ofFn (s:Sim B G ρ H.fn w) : Sim B G ρ H w:=⟨s.blk,s.inj,s.fresh,s.glob,s.names,s.base⟩
theorem WC.ofFn {f:FuncId} {args:List AV} {v:AV} (h:WC G P f args H.fn fun r=>r=.ret v H.fn) : WC G P f args H fun r=>r=.ret v H:=by
  intro B ρ us w s hv
  refine (h B ρ us w s.toFn hv).mono ?_
  rintro e w' ⟨r,rfl,hc⟩
  refine ⟨_,rfl,?_⟩
  cases e with
  | returned u =>
    obtain ⟨ρ',h1,h2,h3,h4⟩:=hc
    exact ⟨ρ',h1,h2.ofFn,h3,Nat.le_refl _⟩
  | panicked chain=>exact hc.elim
  | outgrown=>exact hc.elim
mutual
def belowV (n:Nat) : AV→Bool
  | .lit _=>true
  | .es=>true
  | .ptr a _=>Nat.blt a n
  | .sl a _ _ _=>Nat.blt a n
  | .slq a _ _ _=>Nat.blt a n
  | .map a=>Nat.blt a n
  | .func _ x y=>belowL n x && belowL n y
  | .iface _ v=>belowV n v
  | .agg l=>belowL n l
  | .tup l=>belowL n l
def belowL (n:Nat) : List AV→Bool
  | []=>true
  | v :: l=>belowV n v && belowL n l
end
def restr (n:Nat) (ρ:Rn) : Rn:=fun a=>if a < n then ρ a else none
theorem restr_lt {n a:Nat} {ρ:Rn} (h:Nat.blt a n=true) : restr n ρ a=ρ a:=if_pos (Nat.le_of_ble_eq_true h)
mutual
theorem below_VR {n:Nat} {ρ:Rn} : ∀ {v:AV} {u:Value},belowV n v=true→VR ρ v u→VR (restr n ρ) v u
  | .lit _,_,_,r=>r
  | .es,_,_,r=>r
  | .ptr a _,_,hb,⟨b,o,k,e,r⟩=>⟨b,o,k,(restr_lt (by simpa [belowV] using hb)).trans e,r⟩
  | .sl a _ _ _,_,hb,⟨b,o,k,e,r⟩=>⟨b,o,k,(restr_lt (by simpa [belowV] using hb)).trans e,r⟩
  | .slq a _ _ _,_,hb,⟨b,o,k,e,r⟩=>⟨b,o,k,(restr_lt (by simpa [belowV] using hb)).trans e,r⟩
  | .map a,_,hb,⟨b,o,k,e,r⟩=>⟨b,o,k,(restr_lt (by simpa [belowV] using hb)).trans e,r⟩
  | .func _ _ _,_,hb,⟨f',c',e,r,q⟩=>by
    simp only [belowV,Bool.and_eq_true] at hb
    exact ⟨f',c',e,below_VRs hb.1 r,below_VRs hb.2 q⟩
  | .iface _ _,_,hb,⟨u',e,r⟩=>⟨u',e,below_VR (by simpa [belowV] using hb) r⟩
  | .agg _,_,hb,⟨cs,e,r⟩=>⟨cs,e,below_VRs (by simpa [belowV] using hb) r⟩
  | .tup _,_,hb,⟨cs,e,r⟩=>⟨cs,e,below_VRs (by simpa [belowV] using hb) r⟩
theorem below_VRs {n:Nat} {ρ:Rn} : ∀ {l:List AV} {us:List Value},belowL n l=true→VRs ρ l us→VRs (restr n ρ) l us
  | [],_,_,r=>r
  | _ :: _,_,hb,⟨u,us',e,r,q⟩=>by
    simp only [belowL,Bool.and_eq_true] at hb
    exact ⟨u,us',e,below_VR hb.1 r,below_VRs hb.2 q⟩
end
def startB (n:Nat) : Option Blk→Bool
  | none=>true
  | some (.cells l own _)=>!own && belowL n l
  | _=>false
def retIs (v:AV) : COut→Bool
  | .ret u _=>eqAV u v
  | _=>false
theorem Sim.small {H0:Mem} (s:Sim B G ρ H w) (hG:G≤H0.next) (hst:∀ a,startB H0.next (H0.get a)=true) (hsub:∀ a x,H0.get a=some x→H.get a=some x) (hlt:∀ a x,H0.get a=some x→a < H0.next) :
    Sim w.heap.size G (restr H0.next ρ) H0 w:=by
  refine ⟨fun a x ha=>?_,fun a a' x x' b o k o' k' ha _ _ hown=>?_,fun a ha=>if_neg (Nat.not_lt.2 ha),fun a x hlt' ha=>?_,hG,Nat.le_refl _⟩
  · have hr:restr H0.next ρ a=ρ a:=if_pos (hlt a x ha)
    rcases s.blk a x (hsub a x ha) with hn | ⟨b,o,k,h1,h2⟩
    · exact .inl (hr.trans hn)
    · refine .inr ⟨b,o,k,hr.trans h1,?_⟩
      have hs:=hst a
      rw [ha] at hs
      cases x with
      | cells l own z =>
        simp only [startB,Bool.and_eq_true,Bool.not_eq_true'] at hs
        obtain ⟨c,e,fz,h3,h4,h5⟩:=h2
        refine ⟨c,e,fz,h3,fun i v hi=>?_,fun hown=>by rw [hs.1] at hown; cases hown⟩
        obtain ⟨u,hu,hv⟩:=h4 i v hi
        refine ⟨u,hu,below_VR ?_ hv⟩
        have key:∀ (l:List AV) (i:Nat),belowL H0.next l=true→l[i]?=some v→belowV H0.next v=true:=by
          intro l
          induction l with
          | nil=>intro i _ h; simp at h
          | cons y l ih =>
            intro i hb h
            simp only [belowL,Bool.and_eq_true] at hb
            cases i with
            | zero=>simp at h; subst h; exact hb.1
            | succ i=>exact ih i hb.2 (by simpa using h)
        exact key l i hs.2 hi
      | map _ _=>cases hs
      | siter _ _=>cases hs
  · have hs:=hst a
    rw [ha] at hs
    cases x with
    | cells l own z =>
      simp only [startB,Bool.and_eq_true,Bool.not_eq_true'] at hs
      have:own=true:=hown
      rw [hs.1] at this; cases this
    | map _ _=>cases hs
    | siter _ _=>cases hs
  · have hr:restr H0.next ρ a=ρ a:=if_pos (hlt a x ha)
    exact hr.trans (s.glob a x hlt' (hsub a x ha))
theorem WC.local {H0:Mem} {O:CallF} {f:FuncId} {args:List AV} {v:AV} (hO:∀ B,CallOK B G P O) (hrun:retIs v (O f args H0)=true) (hv:plainV v=true) (hargs:belowL 0 args=true)
    (hG:G≤H0.next) (hst:∀ a,startB H0.next (H0.get a)=true) (hsub:∀ a x,H0.get a=some x→H.get a=some x) (hlt:∀ a x,H0.get a=some x→a < H0.next) :
    WC G P f args H fun r=>r=.ret v H:=by
  intro B ρ us w s hva
  have mono0:∀ (n:Nat),(∀ v,belowV 0 v=true→belowV n v=true)∧(∀ l,belowL 0 l=true→belowL n l=true):=by
    intro n
    have hV:∀ v,belowV 0 v=true→belowV n v=true:=by
      intro v
      refine AV.rec (motive_1:=fun v=>belowV 0 v=true→belowV n v=true) (motive_2:=fun l=>belowL 0 l=true→belowL n l=true) ?_ ?_ ?_ ?_ ?_ ?_ ?_ ?_ ?_ ?_ ?_ ?_ v
      all_goals intros
      all_goals simp_all [belowV,belowL]
    have hL:∀ l,belowL 0 l=true→belowL n l=true:=by
      intro l
      induction l with
      | nil=>intro _; rfl
      | cons x l ih =>
        intro h
        simp only [belowL,Bool.and_eq_true] at h ⊢
        exact ⟨hV x h.1,ih h.2⟩
    exact ⟨hV,hL⟩
  have s0:=s.small hG hst hsub hlt
  have hrr:∃ u H1,O f args H0=.ret u H1∧u=v:=by
    cases hr:O f args H0 with
    | ret u H1=>rw [hr] at hrun; exact ⟨u,H1,rfl,eqAV_sound _ _ hrun⟩
    | panic u H1=>rw [hr] at hrun; cases hrun
    | bad=>rw [hr] at hrun; cases hrun
  obtain ⟨u,H1,hr,rfl⟩:=hrr
  refine (hO _ f args H0 (by rw [hr]; simp) _ us w s0 (below_VRs ((mono0 H0.next).2 args hargs) hva)).mono ?_
  intro e w' hc
  rw [hr] at hc
  refine ⟨_,rfl,?_⟩
  cases e with
  | returned x =>
    obtain ⟨ρ',h1,h2,h3,h4⟩:=hc
    have hb:=h1.below
    have hb' : Go.RowKit.Below B w w':=⟨hb.os,hb.tape,hb.output,hb.size,fun a ha=>hb.block a (Nat.lt_of_lt_of_le ha s.base)⟩
    refine ⟨ρ,⟨fun _ _=>rfl,hb'⟩,?_,plain_VR hv h3,Nat.le_refl _⟩
    refine s.other hb.size fun a x b o k ha hra=>?_
    exact hb.block b (s.at ha hra).lt
  | panicked chain=>exact hc.elim
  | outgrown=>exact hc.elim
end Go.Ai
end
section
namespace Go.Ai
variable {B G:Nat} {P:Program} {ρ ρ' : Rn} {H H' H2:Mem} {w w' : World}
def plainB:Blk→Bool
  | .cells l _ _=>l.all plainV
  | .siter _ _=>true
  | _=>false
theorem plain_BR {ρ'' : Rn} {x:Blk} {b o k:Nat} (h:plainB x=true) (hb:BR B ρ x b o k w) : BR B ρ'' x b o k w:=by
  cases x with
  | cells l own z =>
    obtain ⟨c,e,fz,h1,h2,h3⟩:=hb
    refine ⟨c,e,fz,h1,fun i v hi=>?_,h3⟩
    obtain ⟨u,hu,hv⟩:=h2 i v hi
    exact ⟨u,hu,plain_VR (List.all_eq_true.1 h v (List.mem_of_getElem? hi)) hv⟩
  | siter s p=>exact hb
  | map es c=>cases h
theorem Sim.back2 (s:Sim B G ρ H w) (hx:Ext B H.next ρ w ρ' w') (s' : Sim B G ρ' H' w') (hn:H2.next=H.next)
    (hb:∀ a x,a < H.next→H2.get a=some x→H'.get a=some x∧(H.get a=some x∨plainB x=true)) : Sim B G ρ H2 w':=by
  have hsub:=hx.sub s
  refine ⟨fun a x ha=>?_,fun a a' x x' b o k o' k' ha ha' hne hown hr hr'=>?_,fun a ha=>s.fresh a (by rw [← hn]; exact ha),fun a x hlt ha=>?_,by rw [hn]; exact s.names,s'.base⟩
  · rcases Nat.lt_or_ge a H.next with h1 | h1
    · obtain ⟨h2,h3⟩:=hb a x h1 ha
      rcases s'.blk a x h2 with h | ⟨b,o,k,hr,hbr⟩
      · exact .inl ((hx.same a h1).symm.trans h)
      · have hr0:ρ a=some (b,o,k):=(hx.same a h1).symm.trans hr
        refine .inr ⟨b,o,k,hr0,?_⟩
        rcases h3 with h3 | h3
        · exact (s.at h3 hr0).back hsub hbr
        · exact plain_BR h3 hbr
    · exact .inl (s.fresh a h1)
  · have h1:=s.lt_next hr
    have h1':=s.lt_next hr'
    exact s'.inj a a' x x' b o k o' k' (hb a x h1 ha).1 (hb a' x' h1' ha').1 hne hown ((hx.same a h1).trans hr) ((hx.same a' h1').trans hr')
  · have h1:a < H.next:=Nat.lt_of_lt_of_le hlt s.names
    exact (hx.same a h1).symm.trans (s'.glob a x hlt (hb a x h1 ha).1)
theorem WC.drop2 {f:FuncId} {args:List AV} {g:Nat→Option Blk} {n p:Nat} {v:AV} {x:Blk} (hp:plainV v=true) (hx:plainB x=true)
    (h:WC G P f args ⟨.fn g,n⟩ fun r=>∃ g' n',r=.ret v ⟨.fn g',n'⟩∧n≤n'∧(∀ b,b < n→b≠p→g' b=g b)∧g' p=some x) :
    WC G P f args ⟨.fn g,n⟩ fun r=>r=.ret v ⟨.fn (gput g p (some x)),n⟩:=by
  intro B ρ us w s hv
  refine (h B ρ us w s hv).mono ?_
  rintro e w' ⟨r,⟨g',n',rfl,hn,h1,h2⟩,hc⟩
  refine ⟨_,rfl,?_⟩
  cases e with
  | returned u =>
    obtain ⟨ρ',k1,k2,k3,k4⟩:=hc
    refine ⟨ρ,⟨fun _ _=>rfl,k1.below⟩,s.back2 k1 k2 rfl fun a y hlt ha=>?_,plain_VR hp k3,Nat.le_refl _⟩
    have ha' : gput g p (some x) a=some y:=ha
    unfold gput at ha'
    by_cases e:a=p
    · subst e
      rw [if_pos rfl] at ha'
      cases ha'
      exact ⟨h2,.inr hx⟩
    · rw [if_neg e] at ha'
      exact ⟨(h1 a hlt e).trans ha',.inl ha'⟩
  | panicked chain=>exact hc.elim
  | outgrown=>exact hc.elim
end Go.Ai
end
section
namespace Go.Ai
open Go.RowKit (Below)
variable {B G:Nat} {P:Program} {n n0:Nat} {ρ0 ρ:Rn} {w0 w:World} {a:Act} {ops:Array Oper} {o:Oper} {callf:CallF} {fr:Fr} {g:Nat→Option AV} {ds:List Dfr} {H:Mem} {d:Tmp} {v:AV}
def und:Dg→Nat
  | .d0=>0 | .d1=>1 | .d2=>2 | .d3=>3 | .d4=>4 | .d5=>5 | .d6=>6 | .d7=>7
  | .d8=>8 | .d9=>9 | .d10=>10 | .d11=>11 | .d12=>12 | .d13=>13 | .d14=>14 | .d15=>15
theorem und_dig:∀ n,n < 16→und (dig n)=n:=by decide
theorem dig_inj {m k:Nat} (hm:m < 16) (hk:k < 16) (h:dig m=dig k) : m=k:=by
  have:=congrArg und h
  rwa [und_dig _ hm,und_dig _ hk] at this
theorem path2 {j k:Nat} (hj:j < 256) (hk:k < 256) (h0:d0 k=d0 j) (h1:d1 k=d1 j) : k=j:=by
  have e0:k % 16=j % 16:=dig_inj (Nat.mod_lt _ (by omega)) (Nat.mod_lt _ (by omega)) h0
  have e1:k / 16 % 16=j / 16 % 16:=dig_inj (Nat.mod_lt _ (by omega)) (Nat.mod_lt _ (by omega)) h1
  omega
theorem path3 {j k:Nat} (hj:j < 4096) (hk:k < 4096) (h0:d0 k=d0 j) (h1:d1 k=d1 j) (h2:d2 k=d2 j) : k=j:=by
  have e0:k % 16=j % 16:=dig_inj (Nat.mod_lt _ (by omega)) (Nat.mod_lt _ (by omega)) h0
  have e1:k / 16 % 16=j / 16 % 16:=dig_inj (Nat.mod_lt _ (by omega)) (Nat.mod_lt _ (by omega)) h1
  have e2:k / 256 % 16=j / 256 % 16:=dig_inj (Nat.mod_lt _ (by omega)) (Nat.mod_lt _ (by omega)) h2
  omega
theorem leaf_same {α:Type} (k:Nat) (x:α) : leaf k (.v k x)=some x:=by simp [leaf]
theorem get2_ne {α:Type} (t:T2 α) {k j:Nat} (x:Lf α) (hk:k < 256) (hj:j < 256) (hne:j≠k) : get2 (u2 t k x) j=get2 t j:=by
  unfold get2 u2
  rcases Dg.em (d0 k) (d0 j) with h0 | h0
  · rw [h0,gN_same]
    rcases Dg.em (d1 k) (d1 j) with h1 | h1
    · exact absurd (path2 hk hj h0 h1) hne
    · rw [gN_ne _ _ _ _ h1]
  · rw [gN_ne _ _ _ _ h0]
theorem get3_ne {α:Type} (t:T3 α) {k j:Nat} (x:Lf α) (hk:k < 4096) (hj:j < 4096) (hne:j≠k) : get3 (u3 t k x) j=get3 t j:=by
  unfold get3 u3
  rcases Dg.em (d0 k) (d0 j) with h0 | h0
  · rw [h0,gN_same]
    rcases Dg.em (d1 k) (d1 j) with h1 | h1
    · rw [h1,gN_same]
      rcases Dg.em (d2 k) (d2 j) with h2 | h2
      · exact absurd (path3 hk hj h0 h1 h2) hne
      · rw [gN_ne _ _ _ _ h2]
    · rw [gN_ne _ _ _ _ h1]
  · rw [gN_ne _ _ _ _ h0]
noncomputable def roomOf (fr:Fr) : Nat:=Fr.rec (motive:=fun _=>Nat) (fun _ _=>256) (fun _ _=>4096) (fun _ _=>0) fr
theorem room_upd (fr:Fr) (d:Tmp) (v:AV) : roomOf (fr.upd d v)=roomOf fr:=by
  cases fr <;> simp [Fr.upd,Fr.set,fpS,fpG,fpF,put2_eq,put3_eq,roomOf]
theorem room_put (fr:Fr) (d:Option Tmp) (v:AV) : roomOf (fr.put d v)=roomOf fr:=by
  cases d with
  | none=>rfl
  | some d=>exact room_upd fr d v
theorem room_defer (fr:Fr) (x:Dfr) : roomOf (fr.defer x)=roomOf fr:=by cases fr <;> rfl
theorem get_upd_same (fr:Fr) (d:Tmp) (v:AV) : (fr.upd d v).get d=some v:=by
  cases fr with
  | s t ds=>simp [Fr.upd,Fr.set,fpS,put2_eq,Fr.get,fgS]; unfold get2; rw [at2_same]; exact leaf_same _ _
  | g t ds=>simp [Fr.upd,Fr.set,fpG,put3_eq,Fr.get,fgG]; unfold get3; rw [at3_same]; exact leaf_same _ _
  | f g ds=>exact if_pos rfl
theorem get_upd_ne (fr:Fr) {d k:Tmp} (v:AV) (hd:d < roomOf fr) (hk:k < roomOf fr) (h:k≠d) : (fr.upd d v).get k=fr.get k:=by
  cases fr with
  | s t ds=>simp [Fr.upd,Fr.set,fpS,put2_eq,Fr.get,fgS]; exact get2_ne _ _ hd hk h
  | g t ds=>simp [Fr.upd,Fr.set,fpG,put3_eq,Fr.get,fgG]; exact get3_ne _ _ hd hk h
  | f g ds=>exact if_neg h
structure FE (fr:Fr) (g:Nat→Option AV) (ds:List Dfr) : Prop where
  lo:∀ k,k < roomOf fr→fr.get k=g k
  up:∀ k v,fr.get k=some v→g k=some v
  dfr:fr.defers=ds
theorem FE.refl (fr:Fr) : FE fr fr.get fr.defers:=⟨fun _ _=>rfl,fun _ _ h=>h,rfl⟩
theorem FE.upd (h:FE fr g ds) (hd:d < roomOf fr) (v:AV) : FE (fr.upd d v) (fput g d v) ds:=by
  refine ⟨fun k hk=>?_,fun k y hy=>?_,(Fr.defers_upd fr d v).trans h.dfr⟩
  · rw [room_upd] at hk
    unfold fput
    by_cases e:k=d
    · subst e; rw [if_pos rfl]; exact get_upd_same fr k v
    · rw [if_neg e,get_upd_ne fr v hd hk e]; exact h.lo k hk
  · unfold fput
    rcases Fr.get_upd hy with ⟨rfl,rfl⟩ | ⟨hne,hy⟩
    · exact if_pos rfl
    · rw [if_neg hne]; exact h.up k y hy
def putG (g:Nat→Option AV) (d:Option Tmp) (v:AV) : Nat→Option AV:=match d with | some d=>fput g d v | none=>g
theorem put_f (g:Nat→Option AV) (ds:List Dfr) (d:Option Tmp) (v:AV) : (Fr.f g ds).put d v=.f (putG g d v) ds:=by cases d <;> rfl
theorem FE.put (h:FE fr g ds) {d:Option Tmp} (hd:∀ t,d=some t→t < roomOf fr) (v:AV) : FE (fr.put d v) (putG g d v) ds:=by
  cases d with
  | none=>exact h
  | some d=>exact h.upd (hd d rfl) v
theorem FE.defer (h:FE fr g ds) (x:Dfr) : FE (fr.defer x) g (x :: ds) :=
  ⟨fun k hk=>by rw [room_defer] at hk; rw [Fr.get_defer]; exact h.lo k hk,fun k v hv=>by rw [Fr.get_defer] at hv; exact h.up k v hv,by rw [Fr.defers_defer,h.dfr]⟩
theorem St.toF (s:St B G n n0 ρ0 w0 ρ fr H a w) : St B G n n0 ρ0 w0 ρ (.f fr.get fr.defers) H a w:=⟨s.ext,s.sim,⟨s.frel.slot,s.frel.dfr,s.frel.size,s.frel.only⟩,s.le⟩
theorem St.ofF (h:FE fr g ds) (s:St B G n n0 ρ0 w0 ρ (.f g ds) H a w) : St B G n n0 ρ0 w0 ρ fr H a w :=
  ⟨s.ext,s.sim,⟨fun t v hv hn=>s.frel.slot t v (h.up t v hv) hn,by rw [h.dfr]; exact s.frel.dfr,s.frel.size,fun t v hv=>s.frel.only t v (h.up t v hv)⟩,s.le⟩
def noSel (o:Oper) : Bool:=match o.op with | .select _ _=>false | _=>true
theorem noSel_spec (h:noSel o=true) : ∀ cs b,o.op≠.select cs b:=by
  intro cs b e; unfold noSel at h; rw [e] at h; cases h
def roomy (m:Nat) (o:Oper) : Bool:=dstOk m o && (tmpsOf o).all (fun t=>Nat.blt t m) && noSel o
theorem FE.op (h:FE fr g ds) (hr:roomy (roomOf fr) o=true) : opV P H fr.ev o=opV P H (Fr.f g ds).ev o:=by
  unfold roomy at hr
  simp only [Bool.and_eq_true] at hr
  refine opV_evs (noSel_spec hr.2) fun x hx=>?_
  cases x with
  | tmp t =>
    have:=List.all_eq_true.1 hr.1.2 t (mem_tmps hx)
    exact h.lo t (Nat.le_of_ble_eq_true this)
  | const v=>rfl
  | global g=>rfl
  | func f=>rfl
theorem roomy_dst {m:Nat} (hr:roomy m o=true) : ∀ t,o.dst=some t→t < m:=by
  intro t ht
  unfold roomy dstOk at hr
  rw [ht] at hr
  simp only [Bool.and_eq_true] at hr
  exact Nat.le_of_ble_eq_true hr.1.1
def wOf (callf:CallF) : WF:=fun f args H K=>match callf f args H with
  | .bad=>False
  | r=>K r
theorem wOf_ok (hc:∀ B,CallOK B G P callf) : WOK G P (wOf callf):=by
  intro f args H K h
  refine orW_sound (O:=callf) hc ?_
  unfold wOf at h; unfold orW
  cases hr:callf f args H <;> rw [hr] at h <;> first | exact h.elim | exact h
theorem wOf_mono:WMono (wOf callf):=by
  intro f args H K K' hk h
  unfold wOf at h ⊢
  cases hr:callf f args H <;> rw [hr] at h <;> first | exact h.elim | exact hk _ h
theorem one_W {k:Fr→Mem→Out} {kk:Fr→Mem→Prop} {Q:Out→Prop} {r:Out} (he:FE fr g ds) (hr:roomy (roomOf fr) o=true) (hall:ops.toList.all (roomy (roomOf fr))=true) (h:oneOp P callf ops o fr H k=r) (hne:r≠.bad)
    (hk:∀ fr1 g1 ds1 H1,FE fr1 g1 ds1→roomOf fr1=roomOf fr→k fr1 H1=r→kk (.f g1 ds1) H1)
    (hp:∀ v fr1 H1,FE fr1 g ds→r=.panic v fr1 H1→Q (.panic v (.f g ds) H1)) : oneW P (wOf callf) ops o (.f g ds) H kk Q:=by
  have hput:∀ (v:AV) (H1:Mem),(fr.putK o.dst v fun fr=>k fr H1)=r→kk ((Fr.f g ds).put o.dst v) H1:=by
    intro v H1 h1
    rw [Fr.putK_eq] at h1
    rw [put_f]
    exact hk _ _ _ _ (he.put (roomy_dst hr) v) (room_put fr o.dst v) h1
  have haft:after callf o fr k (opV P H fr.ev o)=r→afterW (wOf callf) o (.f g ds) kk Q (opV P H (Fr.f g ds).ev o):=by
    rw [← he.op hr]
    generalize opV P H fr.ev o=x
    intro h1
    cases x with
    | val v H1=>exact hput v H1 h1
    | skip H1=>exact hput _ H1 h1
    | enter f args H1 =>
      have h2:(match callf f args H1 with | .ret v H=>fr.putK o.dst v fun fr=>k fr H | .panic v H=>.panic v fr H | .bad=>.bad)=r:=h1
      show wOf callf f args H1 _
      unfold wOf
      cases hc:callf f args H1 with
      | ret v H2=>rw [hc] at h2; exact hput v H2 h2
      | panic v H2=>rw [hc] at h2; exact hp v fr H2 he h2.symm
      | bad=>rw [hc] at h2; exact absurd h2.symm hne
    | dfr fn cap args H1 =>
      have h2:((fr.defer (fn,cap,args)).putK o.dst (.lit undef) fun fr=>k fr H1)=r:=h1
      rw [Fr.putK_eq] at h2
      show kk ((Fr.f g ((fn,cap,args) :: ds)).put o.dst (.lit undef)) H1
      rw [put_f]
      exact hk _ _ _ _ ((he.defer _).put (by rw [room_defer]; exact roomy_dst hr) _) ((room_put _ _ _).trans (room_defer _ _)) h2
    | panic v H1=>exact hp v fr H1 he h1.symm
    | _=>exact absurd h1.symm hne
  unfold oneW
  unfold oneOp at h
  cases hg:o.guard with
  | none=>rw [hg] at h; exact haft h
  | some gd =>
    rw [hg] at h
    have h2:guarded P callf ops o fr H k gd=r:=h
    unfold guarded at h2
    have hs:guardSlot ops fr gd.1=guardSlot ops (.f g ds) gd.1:=by
      unfold guardSlot
      split
      · rename_i p hp'
        have hm:=List.all_eq_true.1 hall p (List.mem_of_getElem? (toList_at.2 hp'))
        split
        · rename_i d hd; exact he.lo d (roomy_dst hm d hd)
        · rfl
      · rfl
    show byGuard (guardSlot ops (.f g ds) gd.1) gd.2 _ _
    rw [← hs]
    have hw:∀ x,wantedG ops fr gd=some x→(x=true→(∃ b,guardSlot ops fr gd.1=some (.lit (.bool b))∧b=gd.2)) ∧
        (x=false→(∃ b,guardSlot ops fr gd.1=some (.lit (.bool b))∧b = !gd.2)∨∃ y,guardSlot ops fr gd.1=some (.lit (.tuple y))):=by
      intro x hx
      unfold wantedG yieldedA at hx
      unfold guardSlot
      generalize gd.2=want at hx ⊢
      cases hp:ops[gd.1]? with
      | none=>simp [hp] at hx
      | some p =>
        cases hd:p.dst with
        | none=>simp [hp,hd] at hx
        | some d =>
          simp only [hp,hd] at hx ⊢
          revert hx
          generalize fr.get d=z
          intro hx
          by_cases hb:∃ b,z=some (.lit (.bool b))
          · obtain ⟨b,rfl⟩:=hb
            cases b <;> cases want <;> first
              | (obtain rfl:x=true:=(Option.some.inj hx).symm; clear hx; simp)
              | (obtain rfl:x=false:=(Option.some.inj hx).symm; clear hx; simp)
          · split at hx
            · rename_i b hz
              exfalso
              split at hz
              · rename_i b'; exact hb ⟨_,rfl⟩
              · cases hz
            · split at hx
              · rename_i vs
                cases hx
                exact ⟨fun e=>(by cases e),fun _=>.inr ⟨_,rfl⟩⟩
              · cases hx
    split at h2
    · rename_i hx
      obtain ⟨b,hb,rfl⟩:=(hw _ hx).1 rfl
      rw [hb]
      exact ⟨fun _=>haft h2,fun e=>by cases hgd:gd.2 <;> simp [hgd] at e⟩
    · rename_i hx
      rcases (hw _ hx).2 rfl with ⟨b,hb,e⟩ | ⟨y,hy⟩
      · rw [hb]
        subst e
        exact ⟨fun e=>by cases hgd:gd.2 <;> simp [hgd] at e,fun _=>hput _ _ h2⟩
      · rw [hy]; exact hput _ _ h2
    · exact absurd h2.symm hne
end Go.Ai
end
section
namespace Go.Ai
open Go.RowKit (Below)
variable {B G:Nat} {P:Program} {n n0:Nat} {ρ0 ρ:Rn} {w0 w:World} {a:Act} {ops:Array Oper} {callf:CallF} {loopf:LoopF} {fr:Fr} {g:Nat→Option AV} {ds:List Dfr} {H:Mem}
inductive FI where
  | run (o:Oper)
  | mk (i:Nat) (o:Oper)
  | gate (hs as:List Nat)
  | no
def itF (ops:Array Oper) (it:It) : FI:=match it with
  | .run i=>match ops[i]? with | some o=>.run o | none=>.no
  | .mk i=>match ops[i]? with | some o=>.mk i o | none=>.no
  | .gate hs as=>.gate hs as
def eqU (x y:AV) : Bool:=match x,y with
  | .lit (.tuple a),.lit (.tuple b)=>Nat.beq a.size 0 && Nat.beq b.size 0
  | x,y=>eqAV x y
theorem eqU_sound {x y:AV} (h:eqU x y=true) : x=y:=by
  unfold eqU at h
  split at h
  · rename_i a b
    simp only [Bool.and_eq_true] at h
    have h1:=Nat.eq_of_beq_eq_true h.1
    have h2:=Nat.eq_of_beq_eq_true h.2
    rw [Array.eq_empty_of_size_eq_zero h1,Array.eq_empty_of_size_eq_zero h2]
  · exact eqAV_sound _ _ h
noncomputable def againC (P:Program) (callf:CallF) (ops:Array Oper) (fr:Fr) (H:Mem) : List Nat→Bool
  | []=>true
  | i :: l=>match ops[i]? with
    | some o=>match oneOp P callf ops o fr H (fun fr' H'=>.norm fr' H') with
      | .norm fr' _=>match slotOf fr' o.dst,slotOf fr o.dst with
        | some x,some y=>match eqU x y with | true=>againC P callf ops fr H l | false=>false
        | _,_=>false
      | _=>false
    | none=>false
def elemN (i:Nat) : List Nat→Bool
  | []=>false
  | j :: l=>match Nat.beq i j with | true=>true | false=>elemN i l
theorem elemN_mem {i:Nat} : ∀ {l:List Nat},i∈l→elemN i l=true
  | j :: l,h=>by
    unfold elemN
    split
    · rfl
    · rename_i hb
      rcases List.mem_cons.1 h with rfl | h
      · simp at hb
      · exact elemN_mem h
noncomputable def keptC (H:Mem) (as:List Nat) : AlP→Bool
  | []=>true
  | (i,a,b) :: l=>match elemN i as with
    | true=>match H.get a,b with
      | some x,some y=>match eqBlk x y with | true=>keptC H as l | false=>false
      | _,_=>false
    | false=>keptC H as l
abbrev FlF:=Program→CallF→Array Oper→Fr→Mem→AlP→Out
noncomputable def flN:FlF:=fun _ _ _ fr H _=>.norm fr H
noncomputable def flRun (o:Oper) : FlF→FlF:=fun ih P callf ops fr H als=>oneOp P callf ops o fr H fun fr H=>ih P callf ops fr H als
noncomputable def flMk (i:Nat) (o:Oper) : FlF→FlF:=fun ih P callf ops fr H als=>oneOp P callf ops o fr H fun fr H'=>ih P callf ops fr H' ((i,H.next,H'.get H.next) :: als)
noncomputable def flGate (hs as:List Nat) : FlF→FlF:=fun ih P callf ops fr H als=>match againC P callf ops fr H hs,keptC H as als with
  | true,true=>ih P callf ops fr H als
  | _,_=>.bad
noncomputable def flNo:FlF→FlF:=fun _ _ _ _ _ _ _=>.bad
noncomputable def flC (it:It) (_:List It) (ih:FlF) : FlF:=fun P callf ops fr H als=>FI.rec (motive:=fun _=>FlF→FlF) flRun flMk flGate flNo (itF ops it) ih P callf ops fr H als
noncomputable def flatRun (P:Program) (callf:CallF) (ops:Array Oper) (l:List It) (fr:Fr) (H:Mem) (als:AlP) : Out:=List.rec (motive:=fun _=>FlF) flN flC l P callf ops fr H als
def OE (r out:Out) : Prop:=match r,out with
  | .norm fr H,.norm fr' H'=>H'=H∧∃ g ds,fr'=.f g ds∧FE fr g ds
  | .panic v fr H,.panic v' fr' H'=>v'=v∧H'=H∧fr'=fr.clear
  | _,_=>False
theorem clear_eq (fr:Fr) : fr.clear=.s e2 fr.defers:=by cases fr <;> rfl
theorem again_W (he:FE fr g ds) (hall:ops.toList.all (roomy (roomOf fr))=true) : ∀ {l:List Nat},againC P callf ops fr H l=true→againW P (wOf callf) ops (.f g ds) H l
  | [],_=>trivial
  | i :: l,h=>by
    unfold againC at h
    unfold againW
    split at h
    · rename_i o ho
      have hm:=List.all_eq_true.1 hall o (List.mem_of_getElem? (toList_at.2 ho))
      split at h
      · rename_i fr2 H2 hr
        split at h
        · rename_i x y hx hy
          split at h
          · rename_i hxy
            have hxy':=eqU_sound hxy
            subst hxy'
            refine ⟨?_,again_W he hall h⟩
            rw [ho]
            dsimp only
            refine one_W he hm hall hr (by simp) (fun fr1 g1 ds1 H1 he1 _ h1=>?_) (fun v fr1 H1 _ h1=>by cases h1)
            cases h1
            have key:∀ {fr:Fr} {g:Nat→Option AV} {ds:List Dfr},FE fr g ds→∀ {x},slotOf fr o.dst=some x→slotOf (.f g ds) o.dst=some x:=by
              intro fr g ds he x hx
              unfold slotOf at hx ⊢
              split at hx
              · exact he.up _ _ hx
              · cases hx
            rw [key he1 hx,key he hy]
          · cases h
        · cases h
      · cases h
    · cases h
theorem kept_W {as:List Nat} : ∀ {als:AlP},keptC H as als=true→keptW H as als
  | [],_=>trivial
  | (i,a,b) :: l,h=>by
    unfold keptC at h
    unfold keptW
    split at h
    · split at h
      · rename_i x y hx
        split at h
        · rename_i he
          exact ⟨fun _=>hx.trans (congrArg some (eqBlk_sound he)),kept_W h⟩
        · cases h
      · cases h
    · rename_i he
      exact ⟨fun hi=>(by rw [elemN_mem hi] at he; cases he),kept_W h⟩
theorem flat_W:∀ (l:List It) {fr:Fr} {g:Nat→Option AV} {ds:List Dfr} {H:Mem} {als:AlP} {r:Out},FE fr g ds→ops.toList.all (roomy (roomOf fr))=true→flatRun P callf ops l fr H als=r→r≠.bad →
    planW P (wOf callf) ops (clearQ (OE r)) l (.f g ds) H als
  | [],fr,g,ds,H,als,r,he,hall,h,hne=>by
    have h' : Out.norm fr H=r:=h
    subst h'
    exact ⟨rfl,g,ds,rfl,he⟩
  | it :: l,fr,g,ds,H,als,r,he,hall,h,hne=>by
    have h' : FI.rec (motive:=fun _=>FlF→FlF) flRun flMk flGate flNo (itF ops it) (fun P callf ops fr H als=>flatRun P callf ops l fr H als) P callf ops fr H als=r:=h
    have hp:∀ v fr1 H1,FE fr1 g ds→r=.panic v fr1 H1→clearQ (OE r) (.panic v (.f g ds) H1):=by
      rintro v fr1 H1 he1 rfl
      refine ⟨rfl,rfl,?_⟩
      rw [clear_eq,clear_eq,he1.dfr]; rfl
    cases it with
    | run i =>
      unfold planW
      cases ho:ops[i]? with
      | none =>
        rw [show itF ops (.run i)=.no by simp only [itF,ho]] at h'
        exact absurd h'.symm hne
      | some o =>
        rw [show itF ops (.run i)=.run o by simp only [itF,ho]] at h'
        dsimp only
        have hm:=List.all_eq_true.1 hall o (List.mem_of_getElem? (toList_at.2 ho))
        exact one_W he hm hall h' hne (fun fr1 g1 ds1 H1 he1 hr1 h1=>flat_W l he1 (by rw [hr1]; exact hall) h1 hne) hp
    | mk i =>
      unfold planW
      cases ho:ops[i]? with
      | none =>
        rw [show itF ops (.mk i)=.no by simp only [itF,ho]] at h'
        exact absurd h'.symm hne
      | some o =>
        rw [show itF ops (.mk i)=.mk i o by simp only [itF,ho]] at h'
        dsimp only
        have hm:=List.all_eq_true.1 hall o (List.mem_of_getElem? (toList_at.2 ho))
        exact one_W he hm hall h' hne (fun fr1 g1 ds1 H1 he1 hr1 h1=>flat_W l he1 (by rw [hr1]; exact hall) h1 hne) hp
    | gate hs as =>
      have h2:(match againC P callf ops fr H hs,keptC H as als with | true,true=>flatRun P callf ops l fr H als | _,_=>.bad)=r:=h'
      unfold planW
      split at h2
      · rename_i h3 h4
        exact ⟨again_W he hall h3,kept_W h4,flat_W l he hall h2 hne⟩
      · exact absurd h2.symm hne
noncomputable def clearO (r:Out) : Out:=match r with
  | .panic v fr H=>.panic v fr.clear H
  | .norm fr H=>.norm fr H
  | _=>.bad
noncomputable def drawnF (P:Program) (callf:CallF) (ops:Array Oper) (fr:Fr) (H:Mem) : Out:=match flatOk P ops.toList,ops.toList.all (roomy (roomOf fr)) with
  | true,true=>clearO (flatRun P callf ops (planOf ops.toList) fr H [])
  | _,_=>.bad
theorem drawnF_sound (hc:∀ B,CallOK B G P callf) (hG:G=P.globals.size) {id:Nat} (s:St B G n n0 ρ0 w0 ρ fr H a w) (hd:dstsOk n (.region id ops true)=true) (hne:drawnF P callf ops fr H≠.bad) :
    (Code.region id ops true).wp P (OutPost B G n n0 ρ0 w0 (drawnF P callf ops fr H)) a w:=by
  unfold drawnF at hne ⊢
  split at hne
  · rename_i hok hall
    generalize hr:flatRun P callf ops (planOf ops.toList) fr H []=r at hne ⊢
    have hr0:r≠.bad:=fun e=>hne (by rw [e]; rfl)
    have key:=drawnW_sound (wOf_ok hc) (id:=id) hG s.toF hd (planW_drawn wOf_mono hok (flat_W _ (FE.refl fr) hall hr hr0))
    refine Code.wp_mono ?_ key
    rintro e a' w' ⟨out,hq,ho⟩
    cases r with
    | norm fr1 H1 =>
      cases out with
      | norm fr2 H2 =>
        obtain ⟨rfl,g,ds,rfl,he⟩:=hq
        cases e with
        | normal=>obtain ⟨ρ',s'⟩:=ho; exact ⟨ρ',St.ofF he s'⟩
        | _=>exact ho.elim
      | _=>exact hq.elim
    | panic v fr1 H1 =>
      cases out with
      | panic v2 fr2 H2 =>
        obtain ⟨rfl,rfl,rfl⟩:=hq
        exact ho
      | _=>exact hq.elim
    | exit=>cases out <;> exact hq.elim
    | ret=>cases out <;> exact hq.elim
    | bad=>exact absurd rfl hr0
  · exact absurd rfl hne
/- Codes. -/
noncomputable def xRegionF (_:Nat) (ops:Array Oper) (draw:Bool) : XF:=fun P callf _ fr H=>match draw with
  | false=>seqOps P callf ops ops.toList fr H
  | true=>drawnF P callf ops fr H
noncomputable def execCF:Code→XF:=Code.rec (motive:=fun _=>XF) xSkip xRegionF xSeq xCond xBlock xLoop xRangeFunc xExit xScope xLabel xGoto xRet xRefuse
noncomputable def execF (P:Program) (callf:CallF) (loopf:LoopF) (c:Code) (fr:Fr) (H:Mem) : Out:=execCF c P callf loopf fr H
def GoodF (B G:Nat) (P:Program) (callf:CallF) (loopf:LoopF) (c:Code) : Prop :=
  ∀ (n n0:Nat) (ρ0:Rn) (w0:World) (ρ:Rn) (fr:Fr) (H:Mem) (a:Act) (w:World),dstsOk n c=true→St B G n n0 ρ0 w0 ρ fr H a w→execF P callf loopf c fr H≠.bad →
    c.wp P (OutPost B G n n0 ρ0 w0 (execF P callf loopf c fr H)) a w
theorem good_loopF {callf:CallF} {loopf:LoopF} {b:Code} (hl:LoopOK B G P loopf) (hb:GoodF B G P callf loopf b) (n n0:Nat) (ρ0:Rn) (w0:World) (ρ:Rn) (fr:Fr) (H:Mem) (a:Act) (w:World)
    (hd:dstsOk n b=true) (s:St B G n n0 ρ0 w0 ρ fr H a w) (hne:execF P callf loopf (.loop b) fr H≠.bad) : LW P b (OutPost B G n n0 ρ0 w0 (execF P callf loopf (.loop b) fr H)) a w:=by
  have he:execF P callf loopf (.loop b) fr H=thenO (execF P callf loopf b fr H) (loopf (.loop b)):=rfl
  rw [he] at hne ⊢
  have hr:execF P callf loopf b fr H≠.bad:=fun h=>hne (by rw [h]; rfl)
  refine LW.unroll (Code.wp_mono (thenO_post hne fun fr' H' ρ' a' w' hr' s' hk=>?_) (hb n n0 ρ0 w0 ρ fr H a w hd s hr))
  rw [hr']
  exact hl b n n0 ρ0 w0 ρ' fr' H' a' w' hd s' hk
theorem execF_sound {callf:CallF} {loopf:LoopF} (hcs:∀ B,CallOK B G P callf) (hl:LoopOK B G P loopf) (hG:G=P.globals.size) : ∀ c:Code,GoodF B G P callf loopf c:=by
  intro c
  have hc:=hcs B
  induction c with
  | skip=>intro n n0 ρ0 w0 ρ fr H a w hd s hne; exact wp_skip ⟨ρ,s⟩
  | region id ops draw =>
    intro n n0 ρ0 w0 ρ fr H a w hd s hne
    cases draw with
    | false =>
      refine wp_region_list (seqOps_sound hc hG hne ops.toList fr H ρ a w ?_ s rfl)
      exact fun o ho=>List.all_eq_true.1 hd o ho
    | true=>exact drawnF_sound hcs hG s hd hne
  | seq x y ihx ihy =>
    intro n n0 ρ0 w0 ρ fr H a w hd s hne
    have he:execF P callf loopf (.seq x y) fr H=thenO (execF P callf loopf x fr H) (execF P callf loopf y):=rfl
    rw [he] at hne ⊢
    simp only [dstsOk,Bool.and_eq_true] at hd
    have hr:execF P callf loopf x fr H≠.bad:=fun h=>hne (by rw [h]; rfl)
    refine wp_seq (Code.wp_mono (thenO_post hne fun fr' H' ρ' a' w' hr' s' hk=>?_) (ihx n n0 ρ0 w0 ρ fr H a w hd.1 s hr))
    rw [hr']
    exact ihy n n0 ρ0 w0 ρ' fr' H' a' w' hd.2 s' hk
  | cond cnd x y ihx ihy =>
    intro n n0 ρ0 w0 ρ fr H a w hd s hne
    have he:execF P callf loopf (.cond cnd x y) fr H=condO (fr.ev cnd) (execF P callf loopf x) (execF P callf loopf y) fr H:=rfl
    rw [he] at hne ⊢
    simp only [dstsOk,Bool.and_eq_true] at hd
    unfold condO at hne ⊢
    split at hne
    · rename_i hev
      have:=s.ev _ _ hev
      exact wp_cond_true this (ihx n n0 ρ0 w0 ρ fr H a w hd.1 s hne)
    · rename_i hev
      have:=s.ev _ _ hev
      exact wp_cond_false this (ihy n n0 ρ0 w0 ρ fr H a w hd.2 s hne)
    · exact absurd rfl hne
  | block id b ih =>
    intro n n0 ρ0 w0 ρ fr H a w hd s hne
    have he:execF P callf loopf (.block id b) fr H=blockO id (execF P callf loopf b fr H):=rfl
    rw [he] at hne ⊢
    have hr:execF P callf loopf b fr H≠.bad:=fun h=>hne (by rw [h]; rfl)
    refine wp_block (Code.wp_mono ?_ (ih n n0 ρ0 w0 ρ fr H a w hd s hr))
    intro e a' w' h
    generalize execF P callf loopf b fr H=r at h hne ⊢
    cases r with
    | norm fr' H'=>cases e <;> first | exact h.elim | exact h
    | exit id' fr' H' =>
      cases e with
      | exit id2 =>
        obtain ⟨rfl,ρ',s'⟩:=h
        unfold blockO
        dsimp only
        split
        · rename_i hb
          have:=Nat.eq_of_beq_eq_true hb
          subst this
          simp only [Exit.inBlock,if_true]
          exact ⟨ρ',s'⟩
        · rename_i hb
          have hne2:id2≠id:=by intro h0; subst h0; simp at hb
          simp only [Exit.inBlock,hne2,if_false]
          exact ⟨rfl,ρ',s'⟩
      | _=>exact h.elim
    | ret fr' H'=>cases e <;> first | exact h.elim | exact h
    | panic v fr' H'=>cases e <;> first | exact h.elim | exact h
    | bad=>exact absurd rfl hne
  | loop b ih =>
    intro n n0 ρ0 w0 ρ fr H a w hd s hne
    exact (good_loopF hl ih n n0 ρ0 w0 ρ fr H a w hd s hne).wp
  | rangeFunc f ps x y ihx ihy=>intro n n0 ρ0 w0 ρ fr H a w hd s hne; exact absurd rfl hne
  | exit id=>intro n n0 ρ0 w0 ρ fr H a w hd s hne; exact wp_exit ⟨rfl,ρ,s⟩
  | scope b ih=>intro n n0 ρ0 w0 ρ fr H a w hd s hne; exact absurd rfl hne
  | label l=>intro n n0 ρ0 w0 ρ fr H a w hd s hne; exact wp_label ⟨ρ,s⟩
  | goto l=>intro n n0 ρ0 w0 ρ fr H a w hd s hne; exact absurd rfl hne
  | ret=>intro n n0 ρ0 w0 ρ fr H a w hd s hne; exact wp_ret ⟨ρ,s⟩
  | refuse why=>intro n n0 ρ0 w0 ρ fr H a w hd s hne; exact absurd rfl hne
noncomputable def enterQB (P:Program) (callf:CallF) (loopf:LoopF) (fn:Func) (c:Code) (args:List AV) (H:Mem) : COut :=
  match dstsOk fn.ntmps c,Nat.ble (len args) fn.ntmps with
  | true,true=>finish P callf loopf fn (putArgsK args (frame0 fn.ntmps) fun fr=>execF P callf loopf c fr H)
  | _,_=>.bad
noncomputable def enterQ (P:Program) (callf:CallF) (loopf:LoopF) (f:FuncId) (args:List AV) (H:Mem) : COut :=
  match P.funcs[f]? with
  | some fn=>match fn.body with
    | some c=>enterQB P callf loopf fn c args H
    | none=>.bad
  | none=>.bad
theorem enterQ_sound {callf:CallF} {loopf:LoopF} (hcs:∀ B,CallOK B G P callf) (hl:LoopOK B G P loopf) (hG:G=P.globals.size) : CallOK B G P (enterQ P callf loopf):=by
  have hc:=hcs B
  intro f args H hne ρ us w hs hv
  unfold enterQ at hne ⊢
  split at hne
  · rename_i fn hfn
    split at hne
    · rename_i c hb
      unfold enterQB at hne ⊢
      split at hne
      · rename_i hdst hlen
        rw [putArgsK_eq] at hne ⊢
        have hfe:=frame_entered (n:=fn.ntmps) hv (by rw [← len_eq]; exact Nat.le_of_ble_eq_true hlen)
        have s1:St B G fn.ntmps H.next ρ w ρ (putArgs args (frame0 fn.ntmps) 0) H { tmps:=us++Array.replicate (fn.ntmps - us.size) undef,defers:=[] } w:=⟨Ext.refl _ _ _ _,hs,hfe,Nat.le_refl _⟩
        have hr:execF P callf loopf c (putArgs args (frame0 fn.ntmps) 0) H≠.bad:=fun h0=>hne (by rw [h0]; rfl)
        have key:=execF_sound hcs hl hG c fn.ntmps H.next ρ w ρ _ H _ w hdst s1 hr
        refine calls_of_wp_defers hfn hb (Code.wp_mono ?_ key)
        intro e a' w' h
        generalize execF P callf loopf c (putArgs args (frame0 fn.ntmps) 0) H=r at h hne ⊢
        cases r with
        | norm fr' H' =>
          cases e with
          | normal=>obtain ⟨ρ',s'⟩:=h; exact leave_sound hc hl hG hne _ _ .returning H' ρ' .returning w' s'.frel.dfr s' rfl rfl
          | _=>exact h.elim
        | ret fr' H' =>
          cases e with
          | ret=>obtain ⟨ρ',s'⟩:=h; exact leave_sound hc hl hG hne _ _ .returning H' ρ' .returning w' s'.frel.dfr s' rfl rfl
          | _=>exact h.elim
        | panic v fr' H' =>
          cases e with
          | panic chain=>obtain ⟨ρ',x,rfl,hx,s'⟩:=h; exact leave_sound hc hl hG hne _ _ (.panicking v) H' ρ' _ w' s'.frel.dfr s' ⟨x,rfl,hx⟩ rfl
          | _=>exact h.elim
        | exit id fr' H'=>exact absurd rfl hne
        | bad=>exact absurd rfl hne
      · exact absurd rfl hne
    · exact absurd rfl hne
  · exact absurd rfl hne
noncomputable def bothF (P:Program) (O:CallF) (n:Nat) : CallF×LoopF :=
  Nat.rec (motive:=fun _=>CallF×LoopF) (fun _ _ _=>.bad,fun _ _ _=>.bad) (fun _ ih=>(orC O (enterQ P ih.1 ih.2),execF P ih.1 ih.2)) n
noncomputable def callF (P:Program) (O:CallF) (n:Nat) : CallF:=(bothF P O n).1
theorem bothF_sound {O:CallF} (hO:∀ B,CallOK B G P O) (hG:G=P.globals.size) : ∀ n,(∀ B,CallOK B G P (bothF P O n).1)∧∀ B,LoopOK B G P (bothF P O n).2
  | 0=>⟨fun B f args H hne=>absurd rfl hne,fun B b n n0 ρ0 w0 ρ fr H a w hd s hne=>absurd rfl hne⟩
  | m+1=>by
    obtain ⟨hc,hl⟩:=bothF_sound hO hG m
    refine ⟨fun B=>orC_ok (hO B) (enterQ_sound hc (hl B) hG),fun B b n n0 ρ0 w0 ρ fr H a w hd s hne=>?_⟩
    exact good_loopF (hl B) (execF_sound hc (hl B) hG b) n n0 ρ0 w0 ρ fr H a w hd s hne
theorem callF_ok {O:CallF} (hO:∀ B,CallOK B G P O) (hG:G=P.globals.size) (fuel:Nat) : ∀ B,CallOK B G P (callF P O fuel):=(bothF_sound hO hG fuel).1
end Go.Ai
end
section
namespace Go.Ai
open Go.ChangeShapes Go.WideShapes Go.ChangeAt Go.RowKit
variable {H:Type} {enc:TypeId×Value→H} {P:Program}
theorem post_below {f:Func} {s:ChangeSpec} {apart fresh handsOn again:Bool} {W W' : World} {args:Array Value} {v:Value} {ds gs:List (DataW H)} {before pa pv:List MemPlace}
    (hW:DataW.Whole enc P f.params.toList s.vars apart W args.toList ds gs before)
    (hres:∀ (b:Nat) (sp:Nat→Bool) (hd:Bool),DataW.TrodAll enc P W' b sp hd f.resultTypes.toList (v.resultList f.resultTypes.size) (s.fn H (ds++gs)).results [])
    (hargs:∀ sp:Nat→Bool,(∀ p∈before,sp p.block=true)→DataW.TrodAll enc P W' 0 sp true f.params.toList args.toList (s.fn H (ds++gs)).args pa)
    (hvars:∀ sp:Nat→Bool,(∀ p∈before,sp p.block=true)→DataW.TrodVars enc P W' sp s.vars (s.fn H (ds++gs)).vars pv)
    (hps:before=pa++pv) (hB:Below W.heap.size W W')
    (hok:∀ (j:Nat) (t:TypeId) (r:Value),f.resultTypes[j]?=some t→(v.resultList f.resultTypes.size)[j]?=some r→Value.okWide P W' .any 0 t r) :
    s.post enc P f apart fresh handsOn again W args v W':=by
  have hlt:∀ p∈before,p.block < W.heap.size:=fun p hp=>hW.lt p hp
  have hold:∀ p∈before,(fun b=>decide (b < W.heap.size)) p.block=true:=fun p hp=>by simpa using hlt p hp
  refine ⟨ds,gs,before,[],pa,pv,hW,hres _ _ _,hargs _ hold,hvars _ hold,World.keptBut_mono (fun p hp=>⟨hp,?_⟩) (hB.frame (·∈before)),fun _=>?_⟩
  · rw [hps,List.mem_append] at hp
    exact Or.inr hp
  · obtain ⟨_,_,_,_,_,hz,hn⟩:=hW
    refine ⟨hok,_,_,([]++pa)++pv,⟨[]++pa,pv,trodAll_append (hargs _ (fun _ _=>rfl)) (hres _ _ _),hvars _ (fun _ _=>rfl),rfl,?_,?_⟩,?_⟩
    · intro b off hp
      have hp' : MemPlace.cell b off∈before:=by rw [hps]; simpa using hp
      rw [hB.frozen (p:=⟨b,off,none⟩) (hlt _ hp')]
      exact hz b off hp'
    · intro ha
      have:=hn ha
      rw [hps] at this
      simpa using this
    · intro p hp _
      rw [hps]
      simpa using hp
theorem calls_true {O:CallF} {l:List (String×DataW Unit)} {H0:Mem} {f:FuncId} {W:World} (hO:∀ B,CallOK B P.globals.size P O) (hk:(l.all fun x=>x.2.handleName?.isNone || x.2.funcsIn?.isSome)=true)
    (hlay:layG P l (mem0 P)=some H0) (hrun:retIs (.lit (.bool true)) (O f [] H0)=true) (hL:laidMetH P l W) : Calls P f #[] W fun e W'=>e=.returned (.bool true)∧Below W.heap.size W W':=by
  obtain ⟨ρ,s,_⟩:=start_sound hL hk hlay
  cases hr:O f [] H0 with
  | ret v H1 =>
    have hv:v=.lit (.bool true):=by rw [hr] at hrun; exact eqAV_sound _ _ hrun
    refine (hO W.heap.size f [] H0 (by rw [hr]; simp) ρ #[] W s rfl).mono ?_
    intro e W' h
    rw [hr,hv] at h
    cases e with
    | returned u=>obtain ⟨ρ',h1,h2,h3,h4⟩:=h; exact ⟨congrArg _ h3,h1.below⟩
    | _=>exact h.elim
  | panic v H1=>rw [hr] at hrun; cases hrun
  | bad=>rw [hr] at hrun; cases hrun
end Go.Ai
end
section
namespace Go.Ai
section
variable {G:Nat} {P:Program} {W:WF} {Q:Out→Prop} {fr:Fr} {H:Mem} {ev:Ev} {d:Option Tmp} {ty:TypeId} {p:String} {af:Array Edge} {g:Option (Nat×Bool)}
theorem unS_neg {x:Operand} {t:TypeId} {k:IntKind} {a:Int} (hx:ev x=some (.lit (.int k a))) : unS P H ev ⟨d,.unOp .neg t x,ty,p,af,g⟩ .neg (some (.lit (.int k a)))=.val (.lit (.int k (k.wrap (0 - a)))) H:=by
  unfold unS
  dsimp only
  rw [generic1 (r:=.int k (k.wrap (0 - a))) rfl hx fun ρ h=>?_]
  · rfl
  · show pureV P (do pure (Next.value (← Op.unary .neg (ρ x))))=_
    rw [h]
    rfl
noncomputable def maxS (P:Program) (H:Mem) (ev:Ev) (o:Oper) (x y:Option AV) : R:=match x,y with
  | some (.lit (.int k a)),some (.lit (.int _ b))=>.val (.lit (.int k (if b > a then b else a))) H
  | _,_=>opV P H ev o
theorem op_max {x y:Operand} {s t:TypeId} : opV P H ev ⟨d,.call ⟨.builtin .max,#[x,y],#[s,t]⟩,ty,p,af,g⟩=maxS P H ev ⟨d,.call ⟨.builtin .max,#[x,y],#[s,t]⟩,ty,p,af,g⟩ (ev x) (ev y):=by
  unfold maxS
  split
  · rename_i k a k' b hx hy
    have hg:generic P ev ⟨d,.call ⟨.builtin .max,#[x,y],#[s,t]⟩,ty,p,af,g⟩=some (.lit (.int k (if b > a then b else a))):=by
      refine generic2 (u:=.int k a) (u':=.int k' b) (by simp [Op.operands,Call.operands]) hx hy fun ρ h1 h2=>?_
      rw [exec_builtin (b:=.max) (c:=⟨.builtin .max,#[x,y],#[s,t]⟩) rfl rfl]
      have ea:(#[x,y] : Array Operand).map ρ=#[ρ x,ρ y]:=by simp
      have hm:pureV P (Builtin.max_ #[s,t] ty #[ρ x,ρ y])=some (.int k (if b > a then b else a)):=by
        rw [h1,h2]
        rfl
      show pureV P (builtin .max #[s,t] ty _ ((#[x,y] : Array Operand).map ρ))=_
      rw [ea]
      show pureV P (do pure (Next.value (← Builtin.max_ #[s,t] ty #[ρ x,ρ y])))=_
      exact (pureV_then hm).trans rfl
    show callOp P H ev _ ⟨.builtin .max,#[x,y],#[s,t]⟩=_
    unfold callOp
    rw [show (#[x,y] : Array Operand).toList=[x,y] from rfl]
    simp only [evals,hx,hy]
    unfold oBuiltin
    dsimp only
    rw [hg]
    rfl
  · rfl
theorem maxS_congr {tk:Nat} (_h0:tick=tk) {o:Oper} {x x' y y' : Option AV} {H H' : Mem} (h1:H=H') (h2:x=x') (h3:y=y') : maxS P H ev o x y=maxS P H' ev o x' y':=by rw [h1,h2,h3]
attribute [congr] maxS_congr
theorem maxS_int {o:Oper} {k k' : IntKind} {a b:Int} : maxS P H ev o (some (.lit (.int k a))) (some (.lit (.int k' b)))=.val (.lit (.int k (if b > a then b else a))) H:=(rfl)
noncomputable def minS (P:Program) (H:Mem) (ev:Ev) (o:Oper) (x y:Option AV) : R:=match x,y with
  | some (.lit (.int k a)),some (.lit (.int _ b))=>.val (.lit (.int k (if b < a then b else a))) H
  | _,_=>opV P H ev o
theorem op_min {x y:Operand} {s t:TypeId} : opV P H ev ⟨d,.call ⟨.builtin .min,#[x,y],#[s,t]⟩,ty,p,af,g⟩=minS P H ev ⟨d,.call ⟨.builtin .min,#[x,y],#[s,t]⟩,ty,p,af,g⟩ (ev x) (ev y):=by
  unfold minS
  split
  · rename_i k a k' b hx hy
    have hg:generic P ev ⟨d,.call ⟨.builtin .min,#[x,y],#[s,t]⟩,ty,p,af,g⟩=some (.lit (.int k (if b < a then b else a))):=by
      refine generic2 (u:=.int k a) (u':=.int k' b) (by simp [Op.operands,Call.operands]) hx hy fun ρ h1 h2=>?_
      rw [exec_builtin (b:=.min) (c:=⟨.builtin .min,#[x,y],#[s,t]⟩) rfl rfl]
      have ea:(#[x,y] : Array Operand).map ρ=#[ρ x,ρ y]:=by simp
      have hm:pureV P (Builtin.min_ #[s,t] ty #[ρ x,ρ y])=some (.int k (if b < a then b else a)):=by
        rw [h1,h2]
        rfl
      show pureV P (builtin .min #[s,t] ty _ ((#[x,y] : Array Operand).map ρ))=_
      rw [ea]
      show pureV P (do pure (Next.value (← Builtin.min_ #[s,t] ty #[ρ x,ρ y])))=_
      exact (pureV_then hm).trans rfl
    show callOp P H ev _ ⟨.builtin .min,#[x,y],#[s,t]⟩=_
    unfold callOp
    rw [show (#[x,y] : Array Operand).toList=[x,y] from rfl]
    simp only [evals,hx,hy]
    unfold oBuiltin
    dsimp only
    rw [hg]
    rfl
  · rfl
theorem minS_congr {tk:Nat} (_h0:tick=tk) {o:Oper} {x x' y y' : Option AV} {H H' : Mem} (h1:H=H') (h2:x=x') (h3:y=y') : minS P H ev o x y=minS P H' ev o x' y':=by rw [h1,h2,h3]
attribute [congr] minS_congr
theorem minS_int {o:Oper} {k k' : IntKind} {a b:Int} : minS P H ev o (some (.lit (.int k a))) (some (.lit (.int k' b)))=.val (.lit (.int k (if b < a then b else a))) H:=(rfl)
attribute [simp] op_min minS_int
attribute [simp] unS_neg op_max maxS_int
end
end Go.Ai
end
section
namespace Go.Ai
section
variable {P:Program} {H:Mem} {ev:Ev} {d:Option Tmp} {ty:TypeId} {p:String} {af:Array Edge} {g:Option (Nat×Bool)} {x y:Operand} {s t:TypeId} {size bytes:Nat}
theorem firstL_row {a n c:Nat} {l:List AV} {own:Bool} {z:Nat} (h:H.get a=some (.cells l own z)) (hl:l.length=n * size) : firstL H size n (.sl a 0 n c)=some l:=by
  rw [firstL_sl h (by omega),List.drop_zero,List.take_of_length_le (by omega)]
theorem firstL_rowq {a n c:Nat} {l:List AV} {own:Bool} {z:Nat} (h:H.get a=some (.cells l own z)) (hl:n * size≤l.length) : firstL H size n (.slq a 0 n c)=some (l.take (n * size)):=by
  rw [firstL_slq h (by omega),List.drop_zero]
variable {hp:apI P s t=some (size,bytes)} {hs:0 < size} {hb:bytes≤1048576}
theorem ap_nil {b c:Nat} {l:List AV} {own:Bool} {z:Nat} {hx:ev x=some (.lit (.slice none 0 0))} {hy:ev y=some (.sl b 0 1 c)} (hp:apI P s t=some (size,bytes)) (hs:(decide (0 < size) && decide (bytes≤1048576))=true)
    (hg:H.get b=some (.cells l own z)) (hl:l.length=size) :
    ex2 P H ev ⟨d,.call ⟨.builtin .append,#[x,y],#[s,t]⟩,ty,p,af,g⟩ x y (some (.lit (.slice none 0 0))) (some (.sl b 0 1 c)) hx hy=.val (.slq H.next 0 1 0) (H.add (.cells l true size)):=by
  simp only [Bool.and_eq_true,decide_eq_true_eq] at hs
  show opV P H ev _=_
  rw [append_of hx hy hp,appendN_nil (n:=0) rfl hs.1 (firstL_row hg (by omega)) (by omega) (by omega) hs.2]
theorem ap_sl0 {a b c off:Nat} {l l0:List AV} {own own0:Bool} {z z0:Nat} {hx:ev x=some (.sl a off 0 0)} {hy:ev y=some (.sl b 0 1 c)} (hp:apI P s t=some (size,bytes)) (hs:(decide (0 < size) && decide (bytes≤1048576))=true)
    (hg:H.get b=some (.cells l own z)) (hg0:H.get a=some (.cells l0 own0 z0)) (hl:l.length=size) (ho:off≤l0.length) :
    ex2 P H ev ⟨d,.call ⟨.builtin .append,#[x,y],#[s,t]⟩,ty,p,af,g⟩ x y (some (.sl a off 0 0)) (some (.sl b 0 1 c)) hx hy=.val (.slq H.next 0 1 0) (H.add (.cells l true size)):=by
  simp only [Bool.and_eq_true,decide_eq_true_eq] at hs
  show opV P H ev _=_
  rw [append_of hx hy hp,appendN_full (n:=0) rfl hs.1 (firstL_row hg (by omega)) (by omega) hg0 (by omega) (by omega) (by omega) hs.2]
  simp
theorem ap_slq {a b c k:Nat} {l r:List AV} {own:Bool} {z:Nat} {hx:ev x=some (.slq a 0 k 0)} {hy:ev y=some (.sl b 0 1 c)} (hp:apI P s t=some (size,bytes)) (hs:(decide (0 < size) && decide (bytes≤1048576))=true)
    (hg:H.get b=some (.cells l own z)) (hg0:H.get a=some (.cells r true size)) (hl:l.length=size) (hr:r.length=k * size) (hk:k≤1000000) (h1:allOne l=true) :
    ex2 P H ev ⟨d,.call ⟨.builtin .append,#[x,y],#[s,t]⟩,ty,p,af,g⟩ x y (some (.slq a 0 k 0)) (some (.sl b 0 1 c)) hx hy=.val (.slq H.next 0 (k+1) 0) ((H.rm a).add (.cells (r++l) true size)):=by
  simp only [Bool.and_eq_true,decide_eq_true_eq] at hs
  show opV P H ev _=_
  rw [append_of hx hy hp,appendN_grow (n:=0) rfl hs.1 (firstL_row hg (by omega)) (by omega) hg0 hr (by omega) hs.2 h1]
  rfl
theorem ap_none {a b c off n m:Nat} {hx:ev x=some (.sl a off n m)} {hy:ev y=some (.slq b 0 0 c)} (hp:(apI P s t).isSome=true) :
    ex2 P H ev ⟨d,.call ⟨.builtin .append,#[x,y],#[s,t]⟩,ty,p,af,g⟩ x y (some (.sl a off n m)) (some (.slq b 0 0 c)) hx hy=.val (.sl a off n m) H:=by
  cases hq:apI P s t with
  | none=>rw [hq] at hp; cases hp
  | some q =>
    obtain ⟨q1,q2⟩:=q
    show opV P H ev _=_
    rw [append_of hx hy hq]
    rfl
theorem ap_some {a b c off n:Nat} {r l0:List AV} {own own0:Bool} {z z0:Nat} {hx:ev x=some (.sl a off 0 0)} {hy:ev y=some (.slq b 0 (n+1) c)} (hp:apI P s t=some (size,bytes)) (hs:(decide (0 < size) && decide (bytes≤1048576))=true)
    (hg:H.get b=some (.cells r own z)) (hg0:H.get a=some (.cells l0 own0 z0)) (hl:(n+1) * size≤r.length) (ho:off≤l0.length) (hn:n≤1000000) :
    ex2 P H ev ⟨d,.call ⟨.builtin .append,#[x,y],#[s,t]⟩,ty,p,af,g⟩ x y (some (.sl a off 0 0)) (some (.slq b 0 (n+1) c)) hx hy=.val (.slq H.next 0 (n+1) 0) (H.add (.cells (r.take ((n+1) * size)) true size)):=by
  simp only [Bool.and_eq_true,decide_eq_true_eq] at hs
  show opV P H ev _=_
  rw [append_of hx hy hp,appendN_full (n:=n) rfl hs.1 (firstL_rowq hg hl) (by rw [List.length_take]; omega) hg0 (by omega) (by omega) (by omega) hs.2]
  simp
/- The same,by what the blocks hold. -/
noncomputable def apN (q:Option (Nat×Nat)) (gb:Option Blk) (H:Mem) (els:R) : R:=match q,gb with
  | some (size,bytes),some (.cells l _ _)=>if 0 < size∧bytes≤1048576∧l.length=size then .val (.slq H.next 0 1 0) (H.add (.cells l true size)) else els
  | _,_=>els
noncomputable def apZ (q:Option (Nat×Nat)) (off:Nat) (ga gb:Option Blk) (H:Mem) (els:R) : R:=match q,ga,gb with
  | some (size,bytes),some (.cells l0 _ _),some (.cells l _ _)=>if 0 < size∧bytes≤1048576∧l.length=size∧off≤l0.length then .val (.slq H.next 0 1 0) (H.add (.cells l true size)) else els
  | _,_,_=>els
noncomputable def apQ (q:Option (Nat×Nat)) (k a:Nat) (ga gb:Option Blk) (H:Mem) (els:R) : R:=match q,ga,gb with
  | some (size,bytes),some (.cells r true z),some (.cells l _ _)=>if z=size∧0 < size∧bytes≤1048576∧l.length=size∧r.length=k * size∧k≤1000000∧allOne l=true then .val (.slq H.next 0 (k+1) 0) ((H.rm a).add (.cells (r++l) true size)) else els
  | _,_,_=>els
noncomputable def apM (q:Option (Nat×Nat)) (n off:Nat) (ga gb:Option Blk) (H:Mem) (els:R) : R:=match q,ga,gb with
  | some (size,bytes),some (.cells l0 _ _),some (.cells r _ _)=>if 0 < size∧bytes≤1048576∧(n+1) * size≤r.length∧off≤l0.length∧n≤1000000 then .val (.slq H.next 0 (n+1) 0) (H.add (.cells (r.take ((n+1) * size)) true size)) else els
  | _,_,_=>els
theorem ap_nil' {b c:Nat} {hx:ev x=some (.lit (.slice none 0 0))} {hy:ev y=some (.sl b 0 1 c)} :
    ex2 P H ev ⟨d,.call ⟨.builtin .append,#[x,y],#[s,t]⟩,ty,p,af,g⟩ x y (some (.lit (.slice none 0 0))) (some (.sl b 0 1 c)) hx hy=apN (apI P s t) (H.get b) H (opV P H ev ⟨d,.call ⟨.builtin .append,#[x,y],#[s,t]⟩,ty,p,af,g⟩):=by
  unfold apN
  split
  · rename_i size bytes l own z h1 h2
    split
    · rename_i h; exact ap_nil h1 (by simp [h.1,h.2.1]) h2 h.2.2
    · rfl
  · rfl
theorem ap_sl0' {a b c off:Nat} {hx:ev x=some (.sl a off 0 0)} {hy:ev y=some (.sl b 0 1 c)} :
    ex2 P H ev ⟨d,.call ⟨.builtin .append,#[x,y],#[s,t]⟩,ty,p,af,g⟩ x y (some (.sl a off 0 0)) (some (.sl b 0 1 c)) hx hy=apZ (apI P s t) off (H.get a) (H.get b) H (opV P H ev ⟨d,.call ⟨.builtin .append,#[x,y],#[s,t]⟩,ty,p,af,g⟩):=by
  unfold apZ
  split
  · rename_i size bytes l0 o0 z0 l own z h1 h2 h3
    split
    · rename_i h; exact ap_sl0 h1 (by simp [h.1,h.2.1]) h3 h2 h.2.2.1 h.2.2.2
    · rfl
  · rfl
theorem ap_slq' {a b c k:Nat} {hx:ev x=some (.slq a 0 k 0)} {hy:ev y=some (.sl b 0 1 c)} :
    ex2 P H ev ⟨d,.call ⟨.builtin .append,#[x,y],#[s,t]⟩,ty,p,af,g⟩ x y (some (.slq a 0 k 0)) (some (.sl b 0 1 c)) hx hy=apQ (apI P s t) k a (H.get a) (H.get b) H (opV P H ev ⟨d,.call ⟨.builtin .append,#[x,y],#[s,t]⟩,ty,p,af,g⟩):=by
  unfold apQ
  split
  · rename_i size bytes r z l own w h1 h2 h3
    split
    · rename_i h
      obtain ⟨rfl,e2,e3,e4,e5,e6,e7⟩:=h
      exact ap_slq h1 (by simp [e2,e3]) h3 h2 e4 e5 e6 e7
    · rfl
  · rfl
theorem ap_some' {a b c off n:Nat} {hx:ev x=some (.sl a off 0 0)} {hy:ev y=some (.slq b 0 (n+1) c)} :
    ex2 P H ev ⟨d,.call ⟨.builtin .append,#[x,y],#[s,t]⟩,ty,p,af,g⟩ x y (some (.sl a off 0 0)) (some (.slq b 0 (n+1) c)) hx hy=apM (apI P s t) n off (H.get a) (H.get b) H (opV P H ev ⟨d,.call ⟨.builtin .append,#[x,y],#[s,t]⟩,ty,p,af,g⟩):=by
  unfold apM
  split
  · rename_i size bytes l0 o0 z0 r own w h1 h2 h3
    split
    · rename_i h
      obtain ⟨e2,e3,e4,e5,e6⟩:=h
      exact ap_some h1 (by simp [e2,e3]) h3 h2 e4 e5 e6
    · rfl
  · rfl
theorem apN_congr {tk:Nat} (_h0:tick=tk) {q q' : Option (Nat×Nat)} {gb gb' : Option Blk} {H:Mem} {els:R} (h1:q=q') (h2:gb=gb') : apN q gb H els=apN q' gb' H els:=by rw [h1,h2]
theorem apZ_congr {tk:Nat} (_h0:tick=tk) {q q' : Option (Nat×Nat)} {off:Nat} {ga ga' gb gb' : Option Blk} {H:Mem} {els:R} (h1:q=q') (h2:ga=ga') (h3:gb=gb') : apZ q off ga gb H els=apZ q' off ga' gb' H els:=by rw [h1,h2,h3]
theorem apQ_congr {tk:Nat} (_h0:tick=tk) {q q' : Option (Nat×Nat)} {k a:Nat} {ga ga' gb gb' : Option Blk} {H:Mem} {els:R} (h1:q=q') (h2:ga=ga') (h3:gb=gb') : apQ q k a ga gb H els=apQ q' k a ga' gb' H els:=by rw [h1,h2,h3]
theorem apM_congr {tk:Nat} (_h0:tick=tk) {q q' : Option (Nat×Nat)} {n off:Nat} {ga ga' gb gb' : Option Blk} {H:Mem} {els:R} (h1:q=q') (h2:ga=ga') (h3:gb=gb') : apM q n off ga gb H els=apM q' n off ga' gb' H els:=by rw [h1,h2,h3]
attribute [congr] apN_congr apZ_congr apQ_congr apM_congr
variable {els:R} {z w:Nat} {l r l0:List AV} {own own0:Bool} {k a n off:Nat} {G:Nat→Option Blk}
theorem apN_ok (h1:0 < size) (h2:bytes≤1048576) (h3:l.length=size) : apN (some (size,bytes)) (some (.cells l own z)) ⟨.fn G,n⟩ els=.val (.slq n 0 1 0) ⟨.fn (gput G n (some (.cells l true size))),n+1⟩:=if_pos ⟨h1,h2,h3⟩
theorem apZ_ok (h1:0 < size) (h2:bytes≤1048576) (h3:l.length=size) (h4:off≤l0.length) : apZ (some (size,bytes)) off (some (.cells l0 own0 w)) (some (.cells l own z)) ⟨.fn G,n⟩ els=.val (.slq n 0 1 0) ⟨.fn (gput G n (some (.cells l true size))),n+1⟩:=if_pos ⟨h1,h2,h3,h4⟩
theorem apQ_ok (h1:0 < size) (h2:bytes≤1048576) (h3:l.length=size) (h4:r.length=k * size) (h5:k≤1000000) (h6:allOne l=true) :
    apQ (some (size,bytes)) k a (some (.cells r true size)) (some (.cells l own w)) ⟨.fn G,n⟩ els=.val (.slq n 0 (k+1) 0) ⟨.fn (gput (gput G a none) n (some (.cells (r++l) true size))),n+1⟩:=if_pos ⟨rfl,h1,h2,h3,h4,h5,h6⟩
theorem apM_ok {m:Nat} (h1:0 < size) (h2:bytes≤1048576) (h3:(m+1) * size≤r.length) (h4:off≤l0.length) (h5:m≤1000000) :
    apM (some (size,bytes)) m off (some (.cells l0 own0 w)) (some (.cells r own z)) ⟨.fn G,n⟩ els=.val (.slq n 0 (m+1) 0) ⟨.fn (gput G n (some (.cells (r.take ((m+1) * size)) true size))),n+1⟩:=if_pos ⟨h1,h2,h3,h4,h5⟩
attribute [simp] ap_nil' ap_sl0' ap_slq' ap_none ap_some' apN_ok apZ_ok apQ_ok apM_ok
end
def rOf:R→Option AV
  | .val v _=>some v
  | _=>none
theorem resVar_cell {P:Program} {g:Nat→Option AV} {ds:List Dfr} {H:Mem} {a:Tmp} {t:TypeId} : resVar P (.f g ds) H (.cell a t)=rOf (oLoad P H t (g a)):=by
  show (match g a with | some p=>load P H t p | none=>none)=_
  unfold oLoad
  cases g a with
  | none=>rfl
  | some p =>
    dsimp only
    cases load P H t p <;> rfl
theorem rOf_val {v:AV} {H:Mem} : rOf (.val v H)=some v:=(rfl)
attribute [simp] resVar_cell rOf_val
theorem bsS_nil' {P:Program} {t:TypeId} {z:List AV} {size n:Nat} {g:Nat→Option Blk} (h:bsI P t=some (z,size)) :
    bsS P ⟨.fn g,n⟩ t 0 (some (z,size)) (some [])=.val (.sl n 0 0 0) ⟨.fn (gput g n (some (.cells [] true 0))),n+1⟩:=by
  unfold bsS
  dsimp only
  rw [if_neg (by omega)]
  exact bsS_nil h
attribute [simp] bsS_nil'
end Go.Ai
end
section
namespace Go.Ai
open Go.ChangeShapes Go.WideShapes Go.ChangeAt Go.RowKit
variable {B G:Nat} {P:Program} {ρ:Rn} {w:World}
end Go.Ai
end
