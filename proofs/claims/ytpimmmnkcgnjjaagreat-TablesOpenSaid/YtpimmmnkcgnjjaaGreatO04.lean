/- A small verified interpreter over names, its proofs, and what was proved with it. No condition. -/
import Derived.Test.YtpimmmnkcgnjjaaGreatO03
import Derived.Test.YtpimmmnkcgnjjaaGreatO01
set_option linter.all false
set_option linter.deprecated false
section
namespace Go.Ai
open Go.RowKit (Below)
variable {B G:Nat} {P:Program} {n n0:Nat} {ρ0 ρ:Rn} {w0 w:World} {fr:Fr} {H:Mem} {a:Act} {W:WF} {Q:Out→Prop}
theorem d1x (hW:WOK G P W) (hG:G=P.globals.size) : ∀ (c:Code) (fr:Fr) (H:Mem) (Q:Out->Prop),Au n c=true->a6v P W (LX G P n) c fr H Q->XW G P n c fr H Q:=by
 intro c
 induction c with
 | skip=>intro fr H Q _ h B n0 ρ0 w0 ρ a w s;exact wp_skip ⟨_,h,ρ,s⟩
 | region id ops draw =>
  intro fr H Q hd h B n0 ρ0 w0 ρ a w s
  cases draw with
  | false=>exact wp_region_list (b9t hW hG ops.toList fr H ρ a w (fun o ho=>Ec.1 hd o ho) s h)
  | true=>exact d1w hW hG s hd h
 | seq x y ihx ihy =>
  intro fr H Q hd h B n0 ρ0 w0 ρ a w s;simp only[Au,Dq] at hd;refine wp_seq (Code.wp_mono ?_ (ihx fr H _ hd.1 h B n0 ρ0 w0 ρ a w s));rintro e a' w' ⟨out,hq,ho⟩
  cases out with
  | norm fr' H' =>
   cases e with
   | normal=>obtain⟨ρ',s'⟩:=ho;exact ihy fr' H' Q hd.2 hq B n0 ρ0 w0 ρ' a' w' s'
   | _=>exact ho.elim
  | exit id fr' H'=>cases e<;>first|exact ho.elim|exact⟨_,hq,ho⟩
  | ret fr' H'=>cases e<;>first|exact ho.elim|exact⟨_,hq,ho⟩
  | panic v fr' H'=>cases e<;>first|exact ho.elim|exact⟨_,hq,ho⟩
  | bad=>exact hq.elim
 | cond cnd x y ihx ihy =>
  intro fr H Q hd h B n0 ρ0 w0 ρ a w s;simp only[Au,Dq] at hd;have h' : a3u (fr.ev cnd) (a6v P W (LX G P n) x fr H Q) (a6v P W (LX G P n) y fr H Q):=h;unfold a3u at h';split at h'
  ·rename_i b hev;have:=s.ev _ _ hev
   cases b with
   | true=>exact wp_cond_true this (ihx fr H Q hd.1 (h'.1 rfl) B n0 ρ0 w0 ρ a w s)
   | false=>exact wp_cond_false this (ihy fr H Q hd.2 (h'.2 rfl) B n0 ρ0 w0 ρ a w s)
  grind
 | block id b ih =>
  intro fr H Q hd h B n0 ρ0 w0 ρ a w s;refine wp_block (Code.wp_mono ?_ (ih fr H _ hd h B n0 ρ0 w0 ρ a w s));rintro e a' w' ⟨out,hq,ho⟩
  cases out with
  | norm fr' H'=>cases e<;>first|exact ho.elim|exact⟨_,hq,ho⟩
  | exit id' fr' H' =>
   cases e with
   | exit id2 =>
    obtain⟨rfl,ρ',s'⟩:=ho;have hq' : if id2=id then Q (.norm fr' H') else Q (.exit id2 fr' H'):=hq;by_cases e:id2=id
    ·subst e;rw[if_pos rfl] at hq';simp only[Exit.inBlock,if_true];exact⟨_,hq',ρ',s'⟩
    ·rw[if_neg e] at hq';simp only[Exit.inBlock,e,if_false];exact⟨_,hq',rfl,ρ',s'⟩
   | _=>exact ho.elim
  | ret fr' H'=>cases e<;>first|exact ho.elim|exact⟨_,hq,ho⟩
  | panic v fr' H'=>cases e<;>first|exact ho.elim|exact⟨_,hq,ho⟩
  | bad=>exact hq.elim
 | loop b ih =>
  intro fr H Q hd h B n0 ρ0 w0 ρ a w s;exact(h B n0 ρ0 w0 ρ a w s).wp
 | rangeFunc f ps x y ihx ihy=>intro fr H Q hd h;exact h.elim
 | exit id=>intro fr H Q hd h B n0 ρ0 w0 ρ a w s;exact wp_exit ⟨_,h,rfl,ρ,s⟩
 | scope b ih=>intro fr H Q hd h;exact h.elim
 | label l=>intro fr H Q hd h B n0 ρ0 w0 ρ a w s;exact wp_label ⟨_,h,ρ,s⟩
 | goto l=>intro fr H Q hd h;exact h.elim
 | ret=>intro fr H Q hd h B n0 ρ0 w0 ρ a w s;exact wp_ret ⟨_,h,ρ,s⟩
 | refuse why=>intro fr H Q hd h;exact h.elim
theorem LX.round (hW:WOK G P W) (hG:G=P.globals.size) {b:Code} (hd:Au n b=true) (h:a6v P W (LX G P n) b fr H (a3t (fun fr H=>LX G P n b fr H Q) Q)) : LX G P n b fr H Q:=by
 intro B n0 ρ0 w0 ρ a w s;refine LW.unroll (Code.wp_mono ?_ (d1x hW hG b fr H _ hd h B n0 ρ0 w0 ρ a w s));rintro e a' w' ⟨out,hq,ho⟩
 cases out with
 | norm fr' H' =>
  cases e with
  | normal=>obtain⟨ρ',s'⟩:=ho;exact hq B n0 ρ0 w0 ρ' a' w' s'
  | _=>exact ho.elim
 | exit id fr' H'=>cases e<;>first|exact ho.elim|exact⟨_,hq,ho⟩
 | ret fr' H'=>cases e<;>first|exact ho.elim|exact⟨_,hq,ho⟩
 | panic v fr' H'=>cases e<;>first|exact ho.elim|exact⟨_,hq,ho⟩
 | bad=>exact hq.elim
noncomputable def a4l (P:Program) (O:CallF) (fn:Func) (K:Ar->Prop) : Out->Prop
 | .norm fr H=>match De P O (fun _ _ _=>.bad) fn fr fr.defers .returning H with|.bad=>False|r=>K r
 | .ret fr H=>match De P O (fun _ _ _=>.bad) fn fr fr.defers .returning H with|.bad=>False|r=>K r
 | .panic v fr H=>match De P O (fun _ _ _=>.bad) fn fr fr.defers (.panicking v) H with|.bad=>False|r=>K r
 | _=>False
noncomputable def argsF:List AV->Nat->(Nat->Option AV)->Nat->Option AV
 | [],_,g=>g
 | v :: l,i,g=>argsF l (i+1) (a2u g i v)
noncomputable def a4w (args:List AV) : Fr:=.f (argsF args 0 (fun _=>none)) []
theorem argsF_get:∀ (l:List AV) (i:Nat) (g:Nat->Option AV) (t:Nat) (v:AV),argsF l i g t=some v->(i<=t/\l[t-i]?=some v)\/g t=some v
 | [],i,g,t,v,h=>.inr h
 | x :: l,i,g,t,v,h=>by
  rcases argsF_get l (i+1) (a2u g i x) t v h with⟨h1,h2⟩|h1
  ·left;refine⟨by omega,?_⟩;rw[show t-i=(t-(i+1))+1 by omega];simpa using h2
  ·unfold a2u at h1;by_cases e:t=i
   ·rw[if_pos e] at h1;cases h1;left;subst e;simp
   ·rw[if_neg e] at h1;exact .inr h1
theorem b9x {args:List AV} {us:Array Value} (hv:VRs ρ args us.toList) (hle:args.length<=n) :
  a0v n ρ (a4w args) { tmps:=us++Array.replicate (n-us.size) undef,defers:=[] }:=by
 have hsz:us.size=args.length:=by have:=hv.length;grind
 have hget:∀ t v,(a4w args).get t=some v->args[t]?=some v:=by
  intro t v h;rcases argsF_get args 0 _ t v h with⟨_,h1⟩|h1
  all_goals grind
 refine⟨?_,rfl,by grind,?_⟩
 ·intro t v h _;obtain⟨u,hu,hvu⟩:=hv.get t (hget t v h)
  (simp_all;grind)
 grind
theorem d1y (B G:Nat) (P:Program) : a5y B G P (fun _ _ _=>.bad):=fun _ _ _ _ _ _ _ _ _ _ _ _ hne=>absurd rfl hne
theorem b9y {fn:Func} {tmps:Array Value} {R R': Ending->World->Prop} (h:∀ e w,R e w->R' e w) : ∀ {ds:List Deferred} {u:FrameMode} {w:World},Leaves P fn tmps R ds u w->Leaves P fn tmps R' ds u w
 | [],.returning,w,⟨v,h1,h2⟩=>⟨v,h1,h _ _ h2⟩
 | [],.panicking chain,w,h1=>h _ _ h1
 | [],.run,w,h1=>h1.elim
 | d :: ds,u,w,⟨h1,fv,cap,f,args,h2,h3,h4⟩=>⟨h1,fv,cap,f,args,h2,h3,h4.mono fun e u' w' hr=>by
   cases e with
   | returned v=>exact b9y h hr
   | panicked chain=>exact b9y h hr
   | outgrown=>exact h _ _ hr⟩
theorem WC.enter {f:FuncId} {fn:Func} {c:Code} {args:List AV} {K:Ar->Prop} {O:CallF} (hG:G=P.globals.size) (hO:∀ B,Az B G P O) (hW:WOK G P W) (hf:P.funcs[f]?=some fn) (hb:fn.body=some c)
  (hd:Au fn.ntmps c=true) (hl:args.length<=fn.ntmps) (h:a6v P W (LX G P fn.ntmps) c (a4w args) H (a4l P O fn K)) : WC G P f args H K:=by
 intro B ρ us w s hv;have s1:St B G fn.ntmps H.next ρ w ρ (a4w args) H { tmps:=us++Array.replicate (fn.ntmps-us.size) undef,defers:=[] } w:=⟨Ext.refl _ _ _ _,s,b9x hv hl,Dm _⟩;refine calls_of_wp_defers hf hb (Code.wp_mono ?_ (d1x hW hG c _ H _ hd h B H.next ρ w ρ _ w s1));rintro e a' w' ⟨out,hq,ho⟩;have fin:∀ {fr' : Fr} {u:Mode} {H' : Mem} {ρ' : Rn} {m:FrameMode},(match De P O (fun _ _ _=>.bad) fn fr' fr'.defers u H' with|.bad=>False|r=>K r)->St B G fn.ntmps H.next ρ w ρ' fr' H' a' w'->MR ρ' u m ->
   Leaves P fn a'.tmps (fun e w'=>∃ r,K r/\a6r B G H.next ρ w r e w') a'.defers m w':=by
  intro fr' u H' ρ' m hm s' hmr;have key:∀ r,De P O (fun _ _ _=>.bad) fn fr' fr'.defers u H'=r->r≠.bad->K r->Leaves P fn a'.tmps (fun e w'=>∃ r,K r/\a6r B G H.next ρ w r e w') a'.defers m w':=by
   intro r hr hne hk;refine b9y (fun e w' hc=>⟨r,hk,hc⟩) ?_;exact a9y (hO B) (d1y B G P) hG hne _ _ u H' ρ' m w' s'.frel.dfr s' hmr hr
  grind
 cases out with
 | norm fr' H' =>
  cases e with
  | normal=>obtain⟨ρ',s'⟩:=ho;exact fin (u:=.returning) (m:=.returning) hq s' rfl
  | _=>exact ho.elim
 | ret fr' H' =>
  cases e with
  | ret=>obtain⟨ρ',s'⟩:=ho;exact fin (u:=.returning) (m:=.returning) hq s' rfl
  | _=>exact ho.elim
 | panic v fr' H' =>
  cases e with
  | panic chain=>obtain⟨ρ',x,rfl,hx,s'⟩:=ho;exact fin (u:=.panicking v) hq s' ⟨x,rfl,hx⟩
  | _=>exact ho.elim
 | exit id fr' H'=>exact hq.elim
 | bad=>exact hq.elim
end Go.Ai
end
section
namespace Go.Ai
open Go.RowKit (Below)
variable {P:Program} {W:WF} {L:LF} {Q:Out→Prop} {fr:Fr} {H:Mem}
/- What simp looks into: the state,not the code. -/
def tick:Nat:=0
def tock:Nat:=0
theorem tick_tock:tick=tock:=by rfl
attribute [simp] tick_tock
theorem e4c {tk:Nat} (_h0:tick=tk) {ops:Array Oper} {l:List Oper} {fr fr' : Fr} {H H' : Mem} (h1:fr=fr') (h2:H=H') : a3i P W ops Q l fr H=a3i P W ops Q l fr' H':=by grind
theorem e4d {tk:Nat} (_h0:tick=tk) {ops:Array Oper} {o:Oper} {k:Fr->Mem->Prop} {fr fr' : Fr} {H H' : Mem} (h1:fr=fr') (h2:H=H') : a0f P W ops o fr H k Q=a0f P W ops o fr' H' k Q:=by grind
theorem e4e {tk:Nat} (_h0:tick=tk) {o:Oper} {k:Fr->Mem->Prop} {fr fr' : Fr} {r r' : R} (h1:fr=fr') (h2:r=r') : a3h W o fr k Q r=a3h W o fr' k Q r':=by grind
theorem e4f {tk:Nat} (_h0:tick=tk) {ev:Ev} {o:Oper} {H H' : Mem} (h2:H=H') : opV P H ev o=opV P H' ev o:=by rw[h2]
theorem e4g {tk:Nat} (_h0:tick=tk) {ev:Ev} {o:Oper} {op:BinOp} {t:TypeId} {x x' y y' : Option AV} {H H' : Mem} (h1:H=H') (h2:x=x') (h3:y=y') : Bo P H ev o op t x y=Bo P H' ev o op t x' y':=by grind
theorem e4h {tk:Nat} (_h0:tick=tk) {x x' : Option AV} {a b:Prop} (h:x=x') : a3u x a b=a3u x' a b:=by rw[h]
theorem e4i {tk:Nat} (_h0:tick=tk) {x x' : Option AV} {g:Bool} {a b:Prop} (h:x=x') : a2z x g a b=a2z x' g a b:=by rw[h]
theorem e4j {tk:Nat} (_h0:tick=tk) {k:Fr->Mem->Prop} {o o' : Out} (h:o=o') : a3t k Q o=a3t k Q o':=by rw[h]
theorem e4k {tk:Nat} (_h0:tick=tk) {id:Nat} {o o' : Out} (h:o=o') : a6u id Q o=a6u id Q o':=by rw[h]
theorem e4l {tk:Nat} (_h0:tick=tk) {ops:Array Oper} {j:Nat} {fr fr' : Fr} (h:fr=fr') : a0w ops fr j=a0w ops fr' j:=by rw[h]
theorem e4m {tk:Nat} (_h0:tick=tk) {fr fr' : Fr} {x:Operand} (h:fr=fr') : fr.ev x=fr'.ev x:=by rw[h]
attribute [congr] e4c e4d e4e e4f e4g e4h e4i e4j e4k e4l e4m
theorem e4n {k:Fr->Mem->Prop} : a3t k Q (.norm fr H)=k fr H:=(rfl)
theorem e4o {k:Fr->Mem->Prop} {id:Nat} : a3t k Q (.exit id fr H)=Q (.exit id fr H):=(rfl)
theorem e4p {k:Fr->Mem->Prop} : a3t k Q (.ret fr H)=Q (.ret fr H):=(rfl)
theorem e4q {id:Nat} : a6u id Q (.norm fr H)=Q (.norm fr H):=(rfl)
theorem e4r {id:Nat} : a6u id Q (.ret fr H)=Q (.ret fr H):=(rfl)
theorem e4s {id id': Nat} : a6u id Q (.exit id' fr H)=if id'=id then Q (.norm fr H) else Q (.exit id' fr H):=(rfl)
def b6e (p:Prop) (x y:Prop) : Prop:=(p->x)/\(¬p->y)
theorem e4t {tk:Nat} (_h0:tick=tk) {p p' x y:Prop} (h:p=p') : b6e p x y=b6e p' x y:=by rw[h]
attribute [congr] e4t
theorem Ab {p x y:Prop} (h1:p->x) (h2:¬p->y) : b6e p x y:=⟨h1,h2⟩
def a2i (b:Bool) (x y:Prop) : Prop:=(b=true->x)/\(b=false->y)
theorem e4u {tk:Nat} (_h0:tick=tk) {b b' : Bool} {x y:Prop} (h:b=b') : a2i b x y=a2i b' x y:=by rw[h]
attribute [congr] e4u
theorem c4c {x y:Prop} : a2i true x y=x:=by simp[a2i]
theorem c4d {x y:Prop} : a2i false x y=y:=by simp[a2i]
theorem e4v {b:Bool} {x y:Prop} : a2i (!b) x y=a2i b y x:=by grind[a2i]
theorem e4w {p:Prop} [Decidable p] {x y:Prop} : a2i (decide p) x y=b6e p x y:=by grind[b6e,a2i]
theorem Ac {b:Bool} {x y:Prop} (h1:b=true->x) (h2:b=false->y) : a2i b x y:=⟨h1,h2⟩
attribute [simp] c4c c4d e4v e4w
inductive Tg where
 | b
 | o
def b3q (v:AV) : Tg:=match v with|.lit (.bool _)=>.b|_=>.o
theorem e4x {b:Bool} : b3q (.lit (.bool b))=.b:=(rfl)
noncomputable def a7z (d:Option Tmp) (k:Fr->Mem->Prop) (fr:Fr) (v:AV) (_:Tg) (H:Mem) : Prop:=k (fr.put d v) H
theorem e4y {tk:Nat} (_h0:tick=tk) {d:Option Tmp} {k:Fr->Mem->Prop} {fr fr' : Fr} {v v' : AV} {t t' : Tg} {H H' : Mem} (h1:fr=fr') (h2:v=v') (h3:t=t') (h4:H=H') : a7z d k fr v t H=a7z d k fr' v' t' H':=by grind
attribute [congr] e4y
theorem e4z {d:Option Tmp} {k:Fr->Mem->Prop} {b:Bool} : a7z d k fr (.lit (.bool b)) .b H=a2i b (k (fr.put d (.lit (.bool true))) H) (k (fr.put d (.lit (.bool false))) H):=by
 cases b<;>simp[a2i,a7z]
theorem e5a {d:Option Tmp} {k:Fr->Mem->Prop} {v:AV} : a7z d k fr v (b3q v) H=k (fr.put d v) H:=by rfl
attribute [simp] e4x e4z e5a
theorem e5b {b:Bool} {x y:Prop} : a3u (some (.lit (.bool b))) x y=a2i b x y:=by rfl
theorem e5c {b g:Bool} {x y:Prop} : a2z (some (.lit (.bool b))) g x y=a2i b (if g then x else y) (if g then y else x):=by grind[a2i,a2z]
theorem e5d {g:Bool} {x y:Prop} : a2z (some (.lit undef)) g x y=y:=(rfl)
theorem e5e {o:Oper} {k:Fr->Mem->Prop} {v:AV} : a3h W o fr k Q (.val v H)=a7z o.dst k fr v (b3q v) H:=(rfl)
theorem e5f {o:Oper} {k:Fr->Mem->Prop} {f:FuncId} {args:List AV} : a3h W o fr k Q (.enter f args H)=W f args H (fun r=>match r with
  | .ret v H=>a7z o.dst k fr v (b3q v) H
  | .panic v H=>Q (.panic v fr H)
  | .bad=>False):=(rfl)
theorem e5g {o:Oper} {k:Fr->Mem->Prop} : a3h W o fr k Q (.skip H)=k (fr.put o.dst (.lit undef)) H:=(rfl)
attribute [simp] e5e
attribute [simp] e4n e4o e4p e4q e4r e4s e5b e5c e5d e5f e5g
theorem e5h {ops:Array Oper} : a3i P W ops Q [] fr H=Q (.norm fr H):=(rfl)
theorem e5i {ops:Array Oper} {d:Option Tmp} {op:Op} {t:TypeId} {p:String} {af:Array Edge} {g:Option (Nat×Bool)} {l:List Oper} :
  a3i P W ops Q (⟨d,op,t,p,af,g⟩ :: l) fr H=a0f P W ops ⟨d,op,t,p,af,g⟩ fr H (a3i P W ops Q l) Q:=(rfl)
theorem e5j {ops:Array Oper} {d:Option Tmp} {op:Op} {t:TypeId} {p:String} {af:Array Edge} {k:Fr->Mem->Prop} :
  a0f P W ops ⟨d,op,t,p,af,none⟩ fr H k Q=a3h W ⟨d,op,t,p,af,none⟩ fr k Q (opV P H fr.ev ⟨d,op,t,p,af,none⟩):=(rfl)
theorem e5k {ops:Array Oper} {d:Option Tmp} {op:Op} {t:TypeId} {p:String} {af:Array Edge} {g:Nat×Bool} {k:Fr->Mem->Prop} :
  a0f P W ops ⟨d,op,t,p,af,some g⟩ fr H k Q=a2z (a0w ops fr g.1) g.2 (a3h W ⟨d,op,t,p,af,some g⟩ fr k Q (opV P H fr.ev ⟨d,op,t,p,af,some g⟩)) (k (fr.put d (.lit undef)) H):=(rfl)
noncomputable def b6f (fr:Fr) (x:Option Nat) : Option AV:=match x with|some d=>fr.get d|none=>none
theorem e5l {g:Nat->Option AV} {ds:List Dfr} {d:Tmp} {v:AV} : (Fr.f g ds).put (some d) v=.f (a2u g d v) ds:=(rfl)
theorem e5m {v:AV} : fr.put none v=fr:=(rfl)
theorem e5n {g:Nat->Option AV} {ds:List Dfr} {t:Nat} : (Fr.f g ds).get t=g t:=(rfl)
theorem e5o {g:Nat->Option AV} {ds:List Dfr} {t:Nat} : (Fr.f g ds).ev (.tmp t)=g t:=(rfl)
theorem e5p {v:Value} : fr.ev (.const v)=some (.lit v):=by cases fr<;>rfl
theorem e5q {g:Nat} : fr.ev (.global g)=some (.lit (.pointer (some ⟨g,0,none⟩))):=by rfl
theorem e5r {f:Nat} : fr.ev (.func f)=some (.lit (.func (.func f) #[] #[])):=by rfl
theorem d1z {g:Nat->Option AV} {ds:List Dfr} : (Fr.f g ds).defers=ds:=(rfl)
theorem e5s {g:Nat->Option AV} {d t:Nat} {v:AV} : a2u g d v t=if t=d then some v else g t:=(rfl)
section
variable {ev:Ev} {d:Option Tmp} {ty:TypeId} {p:String} {af:Array Edge} {g:Option (Nat×Bool)}
theorem e5t {x:Operand} : opV P H ev ⟨d,.move x,ty,p,af,g⟩=a1q H (ev x):=(rfl)
theorem e5u {x:Operand} : opV P H ev ⟨d,.assign x,ty,p,af,g⟩=a1q H (ev x):=(rfl)
theorem e5v {c a b:Operand} : opV P H ev ⟨d,.pick c a b,ty,p,af,g⟩=a4e H (ev c) (ev a) (ev b):=(rfl)
theorem e5w {o:BinOp} {t rt:TypeId} {x y:Operand} : opV P H ev ⟨d,.binOp o t x y rt,ty,p,af,g⟩=Bo P H ev ⟨d,.binOp o t x y rt,ty,p,af,g⟩ o t (ev x) (ev y):=(rfl)
end
def slotAt:List Oper->Nat->Option Nat
 | [],_=>none
 | o :: _,0=>o.dst
 | _ :: l,j+1=>slotAt l j
theorem e5x {d:Option Tmp} {op:Op} {t:TypeId} {p:String} {af:Array Edge} {g:Option (Nat×Bool)} {l:List Oper} : slotAt (⟨d,op,t,p,af,g⟩ :: l) 0=d:=(rfl)
theorem e5y {o:Oper} {l:List Oper} {j:Nat} : slotAt (o :: l) (j+1)=slotAt l j:=(rfl)
attribute [simp] e5x e5y
theorem slotAt_eq:∀ (l:List Oper) (j:Nat),slotAt l j=(l[j]?).bind (·.dst)
 | [],j=>by rfl
 | o :: _,0=>rfl
 | _ :: l,j+1=>by simpa[slotAt] using slotAt_eq l j
theorem e5z {l:List Oper} {j:Nat} : a0w l.toArray fr j=b6f fr (slotAt l j):=by
 grind[b6f,a0w,slotAt_eq]
theorem e6a {d:Nat} : b6f fr (some d)=fr.get d:=(rfl)
theorem e6b {tk:Nat} (_h0:tick=tk) {fr fr' : Fr} {x x' : Option Nat} (h1:fr=fr') (h2:x=x') : b6f fr x=b6f fr' x':=by grind
attribute [congr] e6b
attribute [simp] e5z e6a
theorem e6c {v:AV} : a1q H (some v)=.val v H:=(rfl)
theorem e6d {a b c:Bool} : a4e H (some (.lit (.bool c))) (some (.lit (.bool a))) (some (.lit (.bool b)))=.val (.lit (.bool (if c then a else b))) H:=by cases c<;>rfl
theorem e6e {a b:Option AV} : a4e H (some (.lit (.bool true))) a b=ofOpt H a:=(rfl)
theorem e6f {a b:Option AV} : a4e H (some (.lit (.bool false))) a b=ofOpt H b:=(rfl)
theorem e6g {v:AV} : ofOpt H (some v)=.val v H:=(rfl)
section
variable {ev:Ev} {o:Oper} {t:TypeId} {a b:Int} {k:IntKind}
theorem a4m {op:BinOp} {x y:AV} {v:AV} (h:Cq op x y=some v) : Bo P H ev o op t (some x) (some y)=.val v H:=by
 grind[b5h,Bo]
theorem d2a (a b:Int) : iEq a b=decide (a=b):=by grind[c2z]
theorem b9z (a b:Int) : iLt a b=decide (a<b):=b5v a b
theorem c4e (hk:kEq k k=true) : Cq .eql (.lit (.int k a)) (.lit (.int k b))=some (.lit (.bool (decide (a=b)))):=by grind[b1s,d2a,Cq]
theorem c4f (hk:kEq k k=true) : Cq .neq (.lit (.int k a)) (.lit (.int k b))=some (.lit (.bool (!decide (a=b)))):=by grind[b1s,d2a,Cq]
theorem c4g (hk:kEq k k=true) : Cq .lss (.lit (.int k a)) (.lit (.int k b))=some (.lit (.bool (decide (a<b)))):=by grind[b1s,b9z,Cq]
theorem c4h (hk:kEq k k=true) : Cq .leq (.lit (.int k a)) (.lit (.int k b))=some (.lit (.bool (decide (a<=b)))):=by grind[b1s,b9z,Cq]
theorem c4i (hk:kEq k k=true) : Cq .gtr (.lit (.int k a)) (.lit (.int k b))=some (.lit (.bool (decide (b<a)))):=by grind[b1s,b9z,Cq]
theorem c4j (hk:kEq k k=true) : Cq .geq (.lit (.int k a)) (.lit (.int k b))=some (.lit (.bool (decide (b<=a)))):=by grind[b1s,b9z,Cq]
end
section
variable {ev:Ev} {o:Oper} {t:TypeId} {a b:Int}
theorem oBin_eql8:Bo P H ev o .eql t (some (.lit (.int .u8 a))) (some (.lit (.int .u8 b)))=.val (.lit (.bool (decide (a=b)))) H:=a4m (c4e rfl)
theorem oBin_neq8:Bo P H ev o .neq t (some (.lit (.int .u8 a))) (some (.lit (.int .u8 b)))=.val (.lit (.bool (!decide (a=b)))) H:=a4m (c4f rfl)
theorem oBin_lss8:Bo P H ev o .lss t (some (.lit (.int .u8 a))) (some (.lit (.int .u8 b)))=.val (.lit (.bool (decide (a<b)))) H:=a4m (c4g rfl)
theorem oBin_leq8:Bo P H ev o .leq t (some (.lit (.int .u8 a))) (some (.lit (.int .u8 b)))=.val (.lit (.bool (decide (a<=b)))) H:=a4m (c4h rfl)
theorem oBin_gtr8:Bo P H ev o .gtr t (some (.lit (.int .u8 a))) (some (.lit (.int .u8 b)))=.val (.lit (.bool (decide (b<a)))) H:=a4m (c4i rfl)
theorem oBin_geq8:Bo P H ev o .geq t (some (.lit (.int .u8 a))) (some (.lit (.int .u8 b)))=.val (.lit (.bool (decide (b<=a)))) H:=a4m (c4j rfl)
theorem oBin_eql64:Bo P H ev o .eql t (some (.li a)) (some (.li b))=.val (.lit (.bool (decide (a=b)))) H:=a4m (c4e rfl)
theorem oBin_neq64:Bo P H ev o .neq t (some (.li a)) (some (.li b))=.val (.lit (.bool (!decide (a=b)))) H:=a4m (c4f rfl)
theorem oBin_lss64:Bo P H ev o .lss t (some (.li a)) (some (.li b))=.val (.lit (.bool (decide (a<b)))) H:=a4m (c4g rfl)
theorem oBin_leq64:Bo P H ev o .leq t (some (.li a)) (some (.li b))=.val (.lit (.bool (decide (a<=b)))) H:=a4m (c4h rfl)
theorem oBin_gtr64:Bo P H ev o .gtr t (some (.li a)) (some (.li b))=.val (.lit (.bool (decide (b<a)))) H:=a4m (c4i rfl)
theorem oBin_geq64:Bo P H ev o .geq t (some (.li a)) (some (.li b))=.val (.lit (.bool (decide (b<=a)))) H:=a4m (c4j rfl)
end
attribute [simp] e5h e5i e5j e5k
 e5l e5m e5n e5o e5p e5q e5r d1z e5s e5t e5u e5v e6c e6d e6e e6f e6g
 oBin_eql8 oBin_neq8 oBin_lss8 oBin_leq8 oBin_gtr8 oBin_geq8 oBin_eql64 oBin_neq64 oBin_lss64 oBin_leq64 oBin_gtr64 oBin_geq64
def a4x (x:Option AV) (K:AV->Prop) : Prop:=match x with|some v=>K v|none=>False
noncomputable def a4y (P:Program) (rs:List ResultVar) (K:Ar->Prop) (fr:Fr) (H:Mem) : Prop:=match a7r P fr H rs with
 | some [v]=>K (.ret v H)
 | some vs=>K (.ret (.tup vs) H)
 | none=>False
theorem e6h {tk:Nat} (_h0:tick=tk) {rs rs' : List ResultVar} {K:Ar->Prop} {fr fr' : Fr} {H H' : Mem} (h0:rs=rs') (h1:fr=fr') (h2:H=H') : a4y P rs K fr H=a4y P rs' K fr' H':=by grind
attribute [congr] e6h
theorem e6i {tk:Nat} (_h0:tick=tk) {O:CallF} {fn:Func} {K:Ar->Prop} {o o' : Out} (h:o=o') : a4l P O fn K o=a4l P O fn K o':=by rw[h]
attribute [congr] e6i
theorem e6j {O:CallF} {L:LoopF} {fn:Func} : De P O L fn fr [] .returning H=(match a2f P fn fr H with|some v=>.ret v H|none=>.bad):=by rfl
theorem d2b {O:CallF} {fn:Func} {K:Ar->Prop} {g:Nat->Option AV} : a4l P O fn K (.ret (.f g []) H)=a4y P fn.results.toList K (.f g []) H:=by
 show (match De P O (fun _ _ _=>.bad) fn (.f g []) [] .returning H with|.bad=>False|r=>K r)=_;grind[e6j,a4y,a2f]
theorem e6k {O:CallF} {fn:Func} {K:Ar->Prop} {g:Nat->Option AV} : a4l P O fn K (.norm (.f g []) H)=a4y P fn.results.toList K (.f g []) H:=d2b
theorem e6l {t:Tmp} : a6o P fr H (.tmp t)=fr.get t:=(rfl)
theorem e6m {r:ResultVar} {K:Ar->Prop} : a4y P [r] K fr H=a4x (a6o P fr H r) (fun v=>K (.ret v H)):=by
 grind[a4x,a4y,a7r]
theorem e6n {K:Ar->Prop} : a4y P [] K fr H=K (.ret (.tup []) H):=(rfl)
theorem e6o {r1 r2:ResultVar} {K:Ar->Prop} : a4y P [r1,r2] K fr H=a4x (a6o P fr H r1) (fun v1=>a4x (a6o P fr H r2) fun v2=>K (.ret (.tup [v1,v2]) H)):=by
 (simp_all[a4x,a4y,a7r];grind)
theorem e6p {r1 r2 r3:ResultVar} {K:Ar->Prop} : a4y P [r1,r2,r3] K fr H=a4x (a6o P fr H r1) (fun v1=>a4x (a6o P fr H r2) fun v2=>a4x (a6o P fr H r3) fun v3=>K (.ret (.tup [v1,v2,v3]) H)):=by
 unfold a4y a4x;grind[a7r]
theorem e6q {v:AV} {K:AV->Prop} : a4x (some v) K=K v:=(rfl)
theorem e6r {tk:Nat} (_h0:tick=tk) {x x' : Option AV} {K:AV->Prop} (h:x=x') : a4x x K=a4x x' K:=by rw[h]
attribute [congr] e6r
theorem e6s {args:List AV} : a4w args=.f (argsF args 0 (fun _=>none)) []:=(rfl)
theorem e6t {i:Nat} {g:Nat->Option AV} : argsF [] i g=g:=(rfl)
theorem e6u {i:Nat} {g:Nat->Option AV} {v:AV} {l:List AV} : argsF (v :: l) i g=argsF l (i+1) (a2u g i v):=(rfl)
attribute [simp] d2b e6k e6n e6m e6o e6p e6q e6l e6s e6t e6u
def orK (r:Ar) (K:Ar->Prop) (x:Prop) : Prop:=match r with|.bad=>x|r=>K r
theorem e6v {O:CallF} {f:FuncId} {args:List AV} {K:Ar->Prop} : orW O W f args H K=orK (O f args H) K (W f args H K):=by
 rfl
theorem e6w {tk:Nat} (_h0:tick=tk) {O:CallF} {f:FuncId} {args args' : List AV} {H H' : Mem} {K:Ar->Prop} (h1:args=args') (h2:H=H') : orW O W f args H K=orW O W f args' H' K:=by grind
attribute [congr] e6w
theorem e6x {tk:Nat} (_h0:tick=tk) {r r' : Ar} {K:Ar->Prop} {x:Prop} (h:r=r') : orK r K x=orK r' K x:=by rw[h]
theorem e6y {K:Ar->Prop} {x:Prop} : orK .bad K x=x:=(rfl)
attribute [congr] e6x
attribute [simp] e6v e6y
section
variable {ev:Ev} {d:Option Tmp} {ty:TypeId} {p:String} {af:Array Edge} {g:Option (Nat×Bool)}
variable {x:Operand} {args:List AV} {f:FuncId} {o:Oper}
noncomputable def c4k (P:Program) (H:Mem) (ev:Ev) (args:Option (List AV)) (f:Operand) : R:=match args with
 | some args=>a9i P H args (ev f)
 | none=>.bad
theorem e6z {f:Operand} {args:Array Operand} {at_:Array TypeId} : opV P H ev ⟨d,.call ⟨.value f,args,at_⟩,ty,p,af,g⟩=c4k P H ev (Bq ev args.toList) f:=by
 show Cb P H ev ⟨d,.call ⟨.value f,args,at_⟩,ty,p,af,g⟩ ⟨.value f,args,at_⟩=_;grind[c4k,Cb]
theorem evals_nil:Bq ev []=some []:=(rfl)
noncomputable def c4l (a:Option AV) (l:Option (List AV)) : Option (List AV):=match a,l with|some v,some vs=>some (v :: vs)|_,_=>none
theorem e7a {l:List Operand} : Bq ev (x :: l)=c4l (ev x) (Bq ev l):=by
 grind[Bq,c4l]
theorem e7b {v:AV} {vs:List AV} : c4l (some v) (some vs)=some (v :: vs):=(rfl)
theorem e7c {f:Operand} : c4k P H ev (some args) f=a9i P H args (ev f):=(rfl)
theorem e7d : a9i P H args (some (.lit (.func (.func f) #[] #[])))=a6i P H f args:=by simp[a9i]
theorem e7e {a c:List AV} : a9i P H args (some (.func (.func f) a c))=a6i P H f (a++args++c):=(rfl)
theorem e7f : a6i P H f args=if Aq P f=true then .enter f args H else .bad:=(rfl)
attribute [simp] e6z evals_nil e7a e7b e7c e7d e7e e7f
noncomputable def unS (P:Program) (H:Mem) (ev:Ev) (o:Oper) (op:UnOp) (x:Option AV) : R:=match op,x with
 | .not,some (.lit (.bool b))=>.val (.lit (.bool (!b))) H
 | _,_=>ofOpt H (Ba P ev o)
theorem c0a {u r:Value} (ho:o.op.operands=#[x]) (hx:ev x=some (.lit u))
  (hr:∀ ρ:Operand->Value,ρ x=u->Ao P (execOp ρ o)=some (.value r)) : Ba P ev o=some (.lit r):=by
 simp_all[Ba,toLit]
theorem b0d {y:Operand} {u u' r:Value} (ho:o.op.operands=#[x,y]) (hx:ev x=some (.lit u)) (hy:ev y=some (.lit u'))
  (hr:∀ ρ:Operand->Value,ρ x=u->ρ y=u'->Ao P (execOp ρ o)=some (.value r)) : Ba P ev o=some (.lit r):=by
 simp_all[Ba,toLit]
theorem e7g {op:UnOp} {t:TypeId} : opV P H ev ⟨d,.unOp op t x,ty,p,af,g⟩=unS P H ev ⟨d,.unOp op t x,ty,p,af,g⟩ op (ev x):=by
 show ofOpt H (Ba P ev _)=_;unfold unS;split
 ·rename_i b hx;rw[c0a (r:=.bool (!b)) rfl (by omega) fun ρ h=>by simp[execOp,h,Op.unary];rfl];rfl
 ·rfl
theorem e7h {b:Bool} : unS P H ev o .not (some (.lit (.bool b)))=.val (.lit (.bool (!b))) H:=(rfl)
attribute [simp] e7g e7h
end
theorem e7i {tk:Nat} (_h0:tick=tk) {G n:Nat} {b:Code} {fr fr' : Fr} {H H' : Mem} (h1:fr=fr') (h2:H=H') : LX G P n b fr H Q=LX G P n b fr' H' Q:=by grind
theorem e7j {tk:Nat} (_h0:tick=tk) {G:Nat} {f:FuncId} {args args' : List AV} {H H' : Mem} {K:Ar->Prop} (h1:args=args') (h2:H=H') : WC G P f args H K=WC G P f args' H' K:=by grind
attribute [congr] e7i e7j
structure Aa (p:Prop) : Prop where
 out:p
theorem LX.ind {G n:Nat} {b:Code} {ds:List Dfr} (I:Nat->(Nat->Option AV)->Mem->Prop) {m0:Nat} {g0:Nat->Option AV} {H0:Mem} (h0:I m0 g0 H0)
  (hs:∀ m g H,I m g H->Aa (∀ m' g' H',m' < m->I m' g' H'->LX G P n b (.f g' ds) H' Q)->LX G P n b (.f g ds) H Q) : LX G P n b (.f g0 ds) H0 Q:=by
 have:∀ m g H,I m g H->LX G P n b (.f g ds) H Q:=by
  intro m
  induction m using Nat.strongRecOn with
  | _ m ih=>exact fun g H hi=>hs m g H hi ⟨fun m' g' H' hlt hi'=>ih m' hlt g' H' hi'⟩
 grind
/-! ### Oracles -/
def noO:CallF:=fun _ _ _=>.bad
theorem e7k {f:FuncId} {a:List AV} : noO f a H=.bad:=(rfl)
attribute [simp] e7k
theorem Ah (G:Nat) (P:Program) : ∀ B,Az B G P noO:=fun _ _ _ _ h=>absurd rfl h
end Go.Ai
end
section
namespace Go.Ai
open Go.RowKit (Below)
variable {P:Program} {W:WF} {L:LF} {Q:Out→Prop} {fr:Fr} {H:Mem}
/-! ### Memory as a function -/
theorem e7l {g:Gb} {n a:Nat} : (Mem.mk (.fn g) n).get a=g a:=(rfl)
theorem e7m {g:Gb} {n:Nat} {b:Blk} : (Mem.mk (.fn g) n).add b=⟨.fn (Ap g n (some b)),n+1⟩:=(rfl)
theorem e7n {g:Gb} {n a:Nat} {b:Blk} : (Mem.mk (.fn g) n).upd a b=⟨.fn (Ap g a (some b)),n⟩:=(rfl)
theorem e7o {g:Gb} {a:Nat} {x:Option Blk} : Ap g a x a=x:=(if_pos rfl)
theorem Ad {g:Gb} {a j:Nat} {x:Option Blk} (h:j<a) : Ap g a x j=g j:=if_neg (by omega)
theorem a4z {g:Gb} {a j:Nat} {x:Option Blk} (h:a<j) : Ap g a x j=g j:=if_neg (by omega)
theorem e7p {g:Gb} {a:Nat} {x y:Option Blk} : Ap (Ap g a x) a y=Ap g a y:=by
 grind[Ap]
attribute [simp] e7l e7m e7n e7o Ad a4z e7p
section
variable {ev:Ev} {d:Option Tmp} {ty:TypeId} {p:String} {af:Array Edge} {g:Option (Nat×Bool)}
/-! ### Operations on two values -/
theorem d2c (a b:ByteArray) : (a.toList == b.toList)=decide (a=b):=by
 by_cases h:a=b
 ·grind
 ·have:a.toList≠b.toList:=fun e=>h (by
   cases a;simp_all[ByteArray.toList_eq])
  grind
def a3a (op:BinOp) (k:IntKind) (a b:Int) : Option AV:=match op with
 | .add=>some (.lit (.int k (k.wrap (a+b))))
 | .sub=>some (.lit (.int k (k.wrap (a-b))))
 | .mul=>some (.lit (.int k (k.wrap (a*b))))
 | .quo=>if b=0 then none else some (.lit (.int k (k.wrap (a.tdiv b))))
 | .rem=>if b=0 then none else some (.lit (.int k (a.tmod b)))
 | .eql=>some (.lit (.bool (decide (a=b))))
 | .neq=>some (.lit (.bool (!decide (a=b))))
 | .lss=>some (.lit (.bool (decide (a<b))))
 | .leq=>some (.lit (.bool (decide (a<=b))))
 | .gtr=>some (.lit (.bool (decide (b<a))))
 | .geq=>some (.lit (.bool (decide (b<=a))))
 | _=>none
noncomputable def a2j (P:Program) (H:Mem) (ev:Ev) (o:Oper) (op:BinOp) (t:TypeId) (x y:Option AV) : R:=match op,x,y with
 | .eql,some (.lit (.string a)),some (.lit (.string b))=>.val (.lit (.bool (decide (a=b)))) H
 | .neq,some (.lit (.string a)),some (.lit (.string b))=>.val (.lit (.bool (!decide (a=b)))) H
 | .add,some (.lit (.string a)),some (.lit (.string b))=>if a.size+b.size<=9223372036854775807 then .val (.lit (.string (a++b))) H else Bo P H ev o op t x y
 | op,some (.lit (.int k a)),some (.lit (.int k' b))=>if k=k' then (match a3a op k a b with|some v=>.val v H|none=>Bo P H ev o op t (some (.lit (.int k a))) (some (.lit (.int k' b)))) else Bo P H ev o op t (some (.lit (.int k a))) (some (.lit (.int k' b)))
 | op,x,y=>Bo P H ev o op t x y
theorem b0e {o:Oper} {op:BinOp} {t:TypeId} {x y:AV} {v:AV} (hf:Cq op x y=none) (hg:Ba P ev o=some v) : Bo P H ev o op t (some x) (some y)=.val v H:=by
 grind[b5h,Bo]
theorem Bt {α β:Type} {m:Sem α} {k:α->Sem β} {a:α} : Ao P m=some a->Ao P (m >>= k)=Ao P (k a):=by
 induction m with
 | pure b=>intro h;cases h;rfl
 | program k' ih=>intro h;exact ih _ h
 | mark m k' ih=>assumption
 | choose q k' ih =>
  intro h;simp only[Ao] at h;split at h
  ·rename_i hq;show Ao P (Sem.choose q fun n=>k' n >>= k)=_;simp_all[Ao]
  grind
 | _=>intro h;grind[Ao]
theorem b0f {ρ:Operand->Value} {op:BinOp} {t rt:TypeId} {x y:Operand} {u u' r:Value} (hx:ρ x=u) (hy:ρ y=u') (hg:Ao P (eqGuard op t x y u u')=some ()) (hr:Ao P (binOp op t u u')=some r) :
  Ao P (execOp ρ ⟨d,.binOp op t x y rt,ty,p,af,g⟩)=some (.value r):=by
 simp only[execOp,hx,hy];rw[Bt (a:=r)]
 ·rfl
 grind[Bt]
theorem b3r {o:Oper} {op:BinOp} {t:TypeId} {x y:AV} {v:AV} (hf:∀ u,Cq op x y=some u->u=v) (hg:Cq op x y=none->Ba P ev o=some v) : Bo P H ev o op t (some x) (some y)=.val v H:=by
 cases hfb:Cq op x y with
 | none=>grind[b0e]
 | some u=>grind[a4m]
theorem e7q {op:BinOp} {t rt:TypeId} {x y:Operand} {k:IntKind} {a b:Int} {v:AV} (hx:ev x=some (.lit (.int k a))) (hy:ev y=some (.lit (.int k b))) (h:a3a op k a b=some v) :
  Bo P H ev ⟨d,.binOp op t x y rt,ty,p,af,g⟩ op t (some (.lit (.int k a))) (some (.lit (.int k b)))=.val v H:=by
 have gen:∀ u:Value,Ao P (binOp op t (.int k a) (.int k b))=some u->Ba P ev ⟨d,.binOp op t x y rt,ty,p,af,g⟩=some (.lit u):=fun u hu =>
  b0d rfl hx hy fun ρ h1 h2=>b0f h1 h2 (by unfold eqGuard;cases op<;>rfl) hu
 have fast:∀ n:Int,∀ u,(match kEq k k with|true=>b1j n (b1l k)|false=>none)=some u->u=.lit (.int k (k.wrap n)):=by
  grind[c9q,c9a]
 have bo:∀ (why:String) (f:Sem Value),(binOp op t (.int k a) (.int k b)=if k≠k then stuck why else f)->binOp op t (.int k a) (.int k b)=f:=fun why f hf=>by grind
 have cmp:∀ (c:Bool),(∀ u,Cq op (.lit (.int k a)) (.lit (.int k b))=some u->u=.lit (.bool c))->Ao P (binOp op t (.int k a) (.int k b))=some (.bool c)->some (AV.lit (.bool c))=some v ->
   Bo P H ev ⟨d,.binOp op t x y rt,ty,p,af,g⟩ op t (some (.lit (.int k a))) (some (.lit (.int k b)))=.val v H:=by
  grind[b3r]
 have kd:kEq k k=true\/kEq k k=false:=by grind
 cases op<;>first|(cases h;done)|skip
 case add=>cases h;exact b3r (fast _) fun _=>gen _ (by rw[bo _ _ rfl];rfl)
 case sub=>cases h;exact b3r (fast _) fun _=>gen _ (by rw[bo _ _ rfl];rfl)
 case mul=>cases h;exact b3r (fast _) fun _=>gen _ (by rw[bo _ _ rfl];rfl)
 case quo =>
  simp only[a3a] at h;split at h
  ·cases h
  ·rename_i hb;cases h;exact b3r (fun u hu=>by grind[Cq]) fun _=>gen _ (by rw[bo _ _ rfl];show Ao P (Op.intDiv .quo k a b)=_;unfold Op.intDiv;rw[if_neg hb];rfl)
 case rem =>
  simp only[a3a] at h;split at h
  ·cases h
  ·rename_i hb;cases h;exact b3r (fun u hu=>by grind[Cq]) fun _=>gen _ (by rw[bo _ _ rfl];show Ao P (Op.intDiv .rem k a b)=_;unfold Op.intDiv;rw[if_neg hb];rfl)
 case eql=>exact cmp _ (fun u hu=>by grind[c4e,Cq]) (by rw[bo _ _ rfl];rfl) h
 case neq=>exact cmp _ (fun u hu=>by grind[c4f,Cq]) (by rw[bo _ _ rfl];rfl) h
 case lss=>exact cmp _ (fun u hu=>by grind[c4g,Cq]) (by rw[bo _ _ rfl];rfl) h
 case leq=>exact cmp _ (fun u hu=>by grind[c4h,Cq]) (by rw[bo _ _ rfl];rfl) h
 case gtr=>exact cmp _ (fun u hu=>by grind[c4i,Cq]) (by rw[bo _ _ rfl];rfl) h
 case geq=>exact cmp _ (fun u hu=>by grind[c4j,Cq]) (by rw[bo _ _ rfl];rfl) h
theorem e7r {op:BinOp} {t rt:TypeId} {x y:Operand} : opV P H ev ⟨d,.binOp op t x y rt,ty,p,af,g⟩=a2j P H ev ⟨d,.binOp op t x y rt,ty,p,af,g⟩ op t (ev x) (ev y):=by
 rw[e5w];unfold a2j;split
 ·rename_i a b hx hy;rw[hx,hy,b0e rfl];refine b0d (r:=.bool (decide (a=b))) rfl hx hy fun ρ h1 h2=>b0f h1 h2 rfl ?_;show some (Value.bool (a.toList == b.toList))=_;rw[d2c]
 ·rename_i a b hx hy;rw[hx,hy,b0e rfl];refine b0d (r:=.bool (!decide (a=b))) rfl hx hy fun ρ h1 h2=>b0f h1 h2 rfl ?_;show some (Value.bool (!(a.toList == b.toList)))=_;rw[d2c]
 ·rename_i a b hx hy;split
  ·rename_i hsz;rw[hx,hy,b0e rfl];refine b0d (r:=.string (a++b)) rfl hx hy fun ρ h1 h2=>b0f h1 h2 rfl ?_;have:¬ (((a.size+b.size:Nat) : Int) > IntKind.i64.max):=by
    have:IntKind.i64.max=9223372036854775807:=by decide
    omega
   show Ao P (if ((a.size+b.size:Nat) : Int) > IntKind.i64.max then _ else _)=_;rw[if_neg this];rfl
  rfl
 all_goals grind[e7q]
noncomputable def c4m (P:Program) (H:Mem) (ev:Ev) (o:Oper) (op:BinOp) (t:TypeId) (k:IntKind) (a b:Int) (r:Option AV) : R:=match r with|some v=>.val v H|none=>Bo P H ev o op t (some (.lit (.int k a))) (some (.lit (.int k b)))
theorem e7s {tk:Nat} (_h0:tick=tk) {o:Oper} {op:BinOp} {t:TypeId} {x x' y y' : Option AV} {H H' : Mem} (h1:H=H') (h2:x=x') (h3:y=y') : a2j P H ev o op t x y=a2j P H' ev o op t x' y':=by grind
attribute [congr] e7s
section
variable {o:Oper} {t:TypeId} {a b:Int} {k k' : IntKind} {s s' : ByteArray} {op:BinOp}
variable {c:Call} {e:TypeId} {n:Nat}
theorem binS_intR:a2j P H ev o op t (some (.lit (.int k a))) (some (.lit (.int k b)))=c4m P H ev o op t k a b (a3a op k a b):=by
 simp[c4m,a2j]
theorem e7t {v:AV} : c4m P H ev o op t k a b (some v)=.val v H:=(rfl)
theorem intR_add:a3a .add k a b=some (.lit (.int k (k.wrap (a+b)))):=(rfl)
theorem intR_sub:a3a .sub k a b=some (.lit (.int k (k.wrap (a-b)))):=(rfl)
theorem intR_mul:a3a .mul k a b=some (.lit (.int k (k.wrap (a*b)))):=(rfl)
theorem e7u (h:¬b=0) : a3a .quo k a b=some (.lit (.int k (k.wrap (a.tdiv b)))):=if_neg h
theorem e7v (h:¬b=0) : a3a .rem k a b=some (.lit (.int k (a.tmod b))):=if_neg h
theorem intR_eql:a3a .eql k a b=some (.lit (.bool (decide (a=b)))):=(rfl)
theorem intR_neq:a3a .neq k a b=some (.lit (.bool (!decide (a=b)))):=(rfl)
theorem intR_lss:a3a .lss k a b=some (.lit (.bool (decide (a<b)))):=(rfl)
theorem intR_leq:a3a .leq k a b=some (.lit (.bool (decide (a<=b)))):=(rfl)
theorem intR_gtr:a3a .gtr k a b=some (.lit (.bool (decide (b<a)))):=(rfl)
theorem intR_geq:a3a .geq k a b=some (.lit (.bool (decide (b<=a)))):=(rfl)
theorem e7w (h1 : -9223372036854775808<=a) (h2:a<=9223372036854775807) : IntKind.i64.wrap a=a:=b1r ⟨h1,h2⟩
theorem e7x (h1:0<=a) (h2:a<=255) : IntKind.u8.wrap a=a:=by
 grind[IntKind.signed,IntKind.bits,IntKind.wrap]
end
attribute [simp] e7r binS_intR e7t intR_add intR_sub intR_mul e7u e7v intR_eql intR_neq intR_lss intR_leq intR_gtr intR_geq e7w e7x
/-! ### Calls of len; an element of a string -/
noncomputable def a5a (P:Program) (H:Mem) (ev:Ev) (o:Oper) (c:Call) (d:Option TypeDesc) (args:Option (List AV)) : R:=match args,d with
 | some [.sl _ _ n _],some (.slice _)=>.val (.li n) H
 | some [.slq _ _ n _],some (.slice _)=>.val (.li n) H
 | some [.es],some (.slice _)=>.val (.li 0) H
 | some [.lit (.string s)],some .string=>.val (.li s.size) H
 | some [.lit (.slice none n _)],some (.slice _)=>.val (.li n) H
 | some args,_=>a5q P H ev o c args
 | none,_=>.bad
theorem e7y {x:Operand} {t:TypeId} : opV P H ev ⟨d,.call ⟨.builtin .len,#[x],#[t]⟩,ty,p,af,g⟩=a5a P H ev ⟨d,.call ⟨.builtin .len,#[x],#[t]⟩,ty,p,af,g⟩ ⟨.builtin .len,#[x],#[t]⟩ (P.underlying t) (Bq ev [x]):=by
 show Cb P H ev ⟨d,.call ⟨.builtin .len,#[x],#[t]⟩,ty,p,af,g⟩ ⟨.builtin .len,#[x],#[t]⟩=_;have e:((⟨.builtin .len,#[x],#[t]⟩ : Call).argTypes[0]?).bind P.underlying=P.underlying t:=(rfl);have key:∀ args r,Bq ev [x]=some args->r≠.bad->a4r P H ⟨.builtin .len,#[x],#[t]⟩ args=r->Cb P H ev ⟨d,.call ⟨.builtin .len,#[x],#[t]⟩,ty,p,af,g⟩ ⟨.builtin .len,#[x],#[t]⟩=r:=by
  intro args r h1 hne h2;unfold Cb;rw[show (#[x] : Array Operand).toList=[x] from rfl,h1];dsimp only;unfold a3d a5q;grind
 unfold a5a;split
 ·rename_i h1 h2;exact key _ _ h1 (by simp) (by unfold a4r;rw[e,h2];rfl)
 ·rename_i h1 h2;exact key _ _ h1 (by simp) (by unfold a4r;rw[e,h2];rfl)
 ·rename_i h1 h2;exact key _ _ h1 (by simp) (by unfold a4r;rw[e,h2];rfl)
 ·rename_i h1 h2;exact key _ _ h1 (by simp) (by unfold a4r;rw[e,h2];rfl)
 ·rename_i n c e' h1 h2;have hx:ev x=some (.lit (.slice none n c)):=by
   grind[Bq]
  have hg:Ba P ev ⟨d,.call ⟨.builtin .len,#[x],#[t]⟩,ty,p,af,g⟩=some (.li n):=by
   refine c0a (u:=.slice none n c) (r:=.int .i64 n) (by rfl) hx fun ρ hρ=>?_;rw[a7u (b:=.len) (c:=⟨.builtin .len,#[x],#[t]⟩) rfl rfl];have ea:(#[x] : Array Operand).map ρ=#[ρ x]:=by simp
   have hlen:Ao P (Builtin.len_ #[t] ty #[ρ x])=some (goInt n):=by
    rw[hρ];refine(Bt (m:=underlying t) (a:=TypeDesc.slice e') (by unfold underlying;show Ao P (match P.underlying t with|some d=>pure d|none=>stuck "no such type")=_;rw[h2];rfl)).trans ?_;rfl
   show Ao P (builtin .len #[t] ty _ ((#[x] : Array Operand).map ρ))=_;rw[ea];show Ao P (do pure (Next.value (<- Builtin.len_ #[t] ty #[ρ x])))=_;exact(Bt hlen).trans rfl
  unfold Cb;rw[show (#[x] : Array Operand).toList=[x] from rfl,h1];simp_all[a5q,a3d,a4r]
 ·rename_i h1 _ _ _ _ _;unfold Cb;rw[show (#[x] : Array Operand).toList=[x] from rfl];simp only[*];rfl
 ·rename_i h1;unfold Cb;grind
theorem e7z {tk:Nat} (_h0:tick=tk) {o:Oper} {c:Call} {d d' : Option TypeDesc} {a a' : Option (List AV)} {H H' : Mem} (h1:H=H') (h2:d=d') (h3:a=a') : a5a P H ev o c d a=a5a P H' ev o c d' a':=by grind
attribute [congr] e7z
theorem d2d {o:Oper} {c:Call} {e:TypeId} {a off n k:Nat} : a5a P H ev o c (some (.slice e)) (some [.sl a off n k])=.val (.li n) H:=(rfl)
theorem e8a {o:Oper} {c:Call} {e:TypeId} {a off n k:Nat} : a5a P H ev o c (some (.slice e)) (some [.slq a off n k])=.val (.li n) H:=(rfl)
theorem d2e {o:Oper} {c:Call} {e:TypeId} {n k:Nat} : a5a P H ev o c (some (.slice e)) (some [.lit (.slice none n k)])=.val (.li n) H:=(rfl)
attribute [simp] d2e e7y d2d e8a
theorem a5b {t:TypeId} {td:TypeDesc} (h:P.underlying t=some td) : Ao P (underlying t)=some td:=by
 unfold underlying;show Ao P (match P.underlying t with|some d=>pure d|none=>stuck "no such type")=_;rw[h];rfl
end
end Go.Ai
end
section
namespace Go.Ai
open Go.RowKit (Below)
variable {P:Program} {W:WF} {L:LF} {Q:Out→Prop} {fr:Fr} {H:Mem}
section
variable {ev:Ev} {d:Option Tmp} {ty:TypeId} {p:String} {af:Array Edge} {g:Option (Nat×Bool)}
variable {a off n c tk sz z:Nat} {t:TypeId} {l:List AV} {k:IntKind} {o:Oper} {i:Int} {x:Operand} {v:AV}
theorem e8b (_h0:tick=tk) {x x' : Option AV} {H H' : Mem} (h1:H=H') (h2:x=x') : ofOpt H x=ofOpt H' x':=by grind
attribute [congr] e8b
/-! ### load -/
theorem e8c {a:Operand} : opV P H ev ⟨d,.load t a,ty,p,af,g⟩=a3f P H t (ev a):=(rfl)
theorem e8d (_h0:tick=tk) {t:TypeId} {x x' : Option AV} {H H' : Mem} (h1:H=H') (h2:x=x') : a3f P H t x=a3f P H' t x':=by grind
theorem e8e : a3f P H t (some (.ptr a off))=ofOpt H (Be (Cf P t) (H.get a) off):=(rfl)
theorem d2f {own:Bool} {s:Nat} : Be (some (false,s)) (some (.cells l own z)) off=l[off]?:=a9m l off
theorem d2g {own:Bool} {s:Nat} (h:off+s<=l.length) : Be (some (true,s)) (some (.cells l own z)) off=some (.agg ((l.drop off).take s)):=by
 show a9d l s off none (fun l=>some (AV.agg l))=_;rw[a6p,if_pos h]
attribute [congr] e8d
attribute [simp] e8c e8e d2f d2g
/-! ### store -/
def a3v (l:List AV) (off:Nat) (new:List AV) : List AV:=l.take off++new++l.drop (off+new.length)
theorem e8f {a:Operand} : opV P H ev ⟨d,.store t a x,ty,p,af,g⟩=a5r P H t (ev a) (ev x):=(rfl)
theorem e8g (_h0:tick=tk) {t:TypeId} {x x' y y' : Option AV} {H H' : Mem} (h1:H=H') (h2:x=x') (h3:y=y') : a5r P H t x y=a5r P H' t x' y':=by grind
noncomputable def stS (k:Option (Bool×Nat)) (b:Option Blk) (H:Mem) (a off:Nat) (new:List AV) : R:=match b,k with
 | some (.cells l true z),some (_,size)=>if new.length=size/\allOne new=true/\off+new.length<=l.length then .skip (H.upd a (.cells (a3v l off new) true z)) else .bad
 | _,_=>.bad
theorem e8h : a5r P H t (some (.ptr a off)) (some v)=stS (Cf P t) (H.get a) H a off (cellsOf v):=by
 show (match store P H t (.ptr a off) v with|some H=>R.skip H|none=>.bad)=_
 have key:store P H t (.ptr a off) v=(match H.get a,Cf P t with
  | some (.cells l true z),some (_,size)=>match Nat.beq (len (cellsOf v)) size && allOne (cellsOf v) with
   | true=>a9e none l off (cellsOf v) fun l=>H.setK a (.cells l true z) some
   | false=>none
  | _,_=>none):=rfl
 rw[key];unfold stS;rcases H.get a with _|b
 ·rfl
 ·cases b with
  | map es c=>rfl
  | siter s' p'=>rfl
  | typ _ _ _=>rfl
  | cells l own z =>
   cases own with
   | false=>rfl
   | true =>
    rcases Cf P t with _|⟨ag,size⟩
    ·rfl
    ·dsimp only
     cases hb:Nat.beq (len (cellsOf v)) size && allOne (cellsOf v) with
     | false =>
      simp_all[a0b]
     | true =>
      dsimp only;rw[Dq] at hb;have h3:=Dz hb.1;rw[a0b] at h3;rw[a9n];by_cases h5:off+(cellsOf v).length<=l.length
      ·rw[if_pos h5,if_pos ⟨h3,hb.2,h5⟩,Mem.setK_eq];rfl
      grind
theorem e8i (_h0:tick=tk) {k k' : Option (Bool×Nat)} {b b' : Option Blk} {a off off' : Nat} {n n' : List AV} {H H' : Mem} (h1:k=k') (h2:b=b') (h3:H=H') (h4:off=off') (h5:n=n') : stS k b H a off n=stS k' b' H' a off' n':=by grind
theorem d2h {ag:Bool} {size:Nat} {new:List AV} (h1:new.length=size) (h2:allOne new=true) (h3:off+new.length<=l.length) :
  stS (some (ag,size)) (some (.cells l true z)) H a off new=.skip (H.upd a (.cells (a3v l off new) true z)):=if_pos ⟨h1,h2,h3⟩
theorem e8j {new:List AV} : a3v l off new=l.take off++new++l.drop (off+new.length):=(rfl)
theorem e8k {n:Int} : cellsOf (.lit (.int k n))=[.lit (.int k n)]:=(rfl)
theorem e8l {a:Option Addr} : cellsOf (.lit (.slice a n c))=[.lit (.slice a n c)]:=(rfl)
theorem e8m {o:Nat} : cellsOf (.sl a o n c)=[.sl a o n c]:=(rfl)
theorem e8n {o:Nat} : cellsOf (.slq a o n c)=[.slq a o n c]:=(rfl)
theorem e8o : cellsOf (.agg l)=l:=(rfl)
theorem e8p : cellsOf (.map a)=[.map a]:=(rfl)
theorem allOne_nil:allOne []=true:=(rfl)
theorem a3j : allOne (v :: l)=(oneC v && allOne l):=by grind[allOne]
theorem e8q {n:Int} : oneC (.lit (.int k n))=true:=(rfl)
theorem e8r {n:Bool} : oneC (.lit (.bool n))=true:=(rfl)
theorem e8s {n:ByteArray} : oneC (.lit (.string n))=true:=(rfl)
theorem e8t {n:Option Addr} : oneC (.lit (.pointer n))=true:=(rfl)
theorem e8u {a:Option Addr} : oneC (.lit (.slice a n c))=true:=(rfl)
theorem oneC_nilFunc:oneC (.lit .nilFunc)=true:=(rfl)
theorem e8v {f:Fn} {a b:Array Value} : oneC (.lit (.func f a b))=true:=(rfl)
theorem e8w {f:Fn} {a b:List AV} : oneC (.func f a b)=true:=(rfl)
theorem e8x {o:Nat} : oneC (.ptr a o)=true:=(rfl)
theorem e8y {o:Nat} : oneC (.sl a o n c)=true:=(rfl)
theorem e8z {o:Nat} : oneC (.slq a o n c)=true:=(rfl)
theorem oneC_es:oneC .es=true:=(rfl)
theorem e9a : oneC (.map a)=true:=(rfl)
theorem e9b : oneC (.iface t v)=true:=(rfl)
attribute [congr] e8g e8i
attribute [simp] e8f e8h d2h e8j e8k e8l e8m e8n e8o e8p allOne_nil a3j
 e8q e8r e8s e8t e8u oneC_nilFunc e8v e8w e8x e8y e8z oneC_es e9a e9b
/-! ### new blocks -/
theorem e9c : opV P H ev ⟨d,.alloc t,ty,p,af,g⟩=a6j P H t:=(rfl)
noncomputable def c4n (z:Option (List AV)) (H:Mem) : R:=match z with|some l=>.val (.ptr H.next 0) (H.add (.cells l true 0))|none=>.bad
theorem e9d : a6j P H t=c4n (Cl P t) H:=by
 grind[c4n,a6j,Mem.newK_eq,a0j]
theorem e9e : c4n (some l) H=.val (.ptr H.next 0) (H.add (.cells l true 0)):=(rfl)
theorem e9f : opV P H ev ⟨d,.box t x,ty,p,af,g⟩=a4s H (ev x):=(rfl)
theorem e9g : a4s H (some v)=.val (.ptr H.next 0) (H.add (.cells (cellsOf v) true 0)):=by
 simp[a4s,a0j,Mem.newK_eq]
attribute [simp] e9c e9d e9e e9f e9g
/-! ### addresses -/
def Cm (P:Program) (s:TypeId) (f:Nat) : Option Nat:=match P.underlying s with
 | some (.struct fields)=>match fields[f]? with
  | some fd=>match P.info? fd.type with
   | some i=>match Nat.beq i.size 0 with|true=>none|false=>some fd.offset
   | none=>none
  | none=>none
 | _=>none
noncomputable def faS (P:Program) (H:Mem) (ev:Ev) (o:Oper) (s:TypeId) (q:Option Nat) (x:Option AV) (f:Nat) : R:=match x,q with
 | some (.ptr a off),some q=>.val (.ptr a (off+q)) H
 | x,_=>a4g P H ev o s x f
theorem e9h {s:TypeId} {f:Nat} : opV P H ev ⟨d,.fieldAddr s x f,ty,p,af,g⟩=faS P H ev ⟨d,.fieldAddr s x f,ty,p,af,g⟩ s (Cm P s f) (ev x) f:=by
 show a4g P H ev _ s (ev x) f=_;unfold faS;split
 ·rename_i a off q h1 h2;rw[h1];have:fieldAddr P s (.ptr a off) f=some (.ptr a (off+q)):=by
   (simp_all[Cm,fieldAddr,a1s];grind)
  grind[a3p,a4g]
 ·rfl
theorem e9i (_h0:tick=tk) {o:Oper} {s:TypeId} {q q' : Option Nat} {x x' : Option AV} {f:Nat} {H H' : Mem} (h1:H=H') (h2:q=q') (h3:x=x') : faS P H ev o s q x f=faS P H' ev o s q' x' f:=by grind
theorem e9j {s:TypeId} {q f:Nat} : faS P H ev o s (some q) (some (.ptr a off)) f=.val (.ptr a (off+q)) H:=(rfl)
attribute [congr] e9i
attribute [simp] e9h e9j
def Cd (P:Program) (t:TypeId) : Option (Option Nat×Nat):=match P.underlying t with
 | some (.slice e)=>match P.info? e with|some j=>some (none,j.size)|none=>none
 | some (.array n e)=>match P.info? e with|some j=>some (some n,j.size)|none=>none
 | _=>none
noncomputable def iaS (P:Program) (H:Mem) (ev:Ev) (o:Oper) (t:TypeId) (q:Option (Option Nat×Nat)) (x i:Option AV) : R:=match q,x,i with
 | some (none,sz),some (.sl a off n c),some (.lit (.int k i))=>if 0<=i/\i.toNat<n then .val (.ptr a (off+i.toNat*sz)) H else a0u P H ev o t (some (.sl a off n c)) (some (.lit (.int k i)))
 | some (none,sz),some (.slq a off n c),some (.lit (.int k i))=>if 0<=i/\i.toNat<n then .val (.ptr a (off+i.toNat*sz)) H else a0u P H ev o t (some (.slq a off n c)) (some (.lit (.int k i)))
 | some (some n,sz),some (.ptr a off),some (.lit (.int k i))=>if 0<=i/\i.toNat<n then .val (.ptr a (off+i.toNat*sz)) H else a0u P H ev o t (some (.ptr a off)) (some (.lit (.int k i)))
 | _,x,i=>a0u P H ev o t x i
theorem a6x (h:0<=i) : natOf (.lit (.int k i))=some i.toNat:=by
 cases i with
 | ofNat n=>rfl
 | negSucc n=>grind
theorem e9k {o:Oper} {t:TypeId} {sz a off n c:Nat} {k:IntKind} {i:Int} (hq:Cd P t=some (none,sz)) (h0:0<=i) (h:i.toNat<n) :
  a0u P H ev o t (some (.sl a off n c)) (some (.lit (.int k i)))=.val (.ptr a (off+i.toNat*sz)) H:=by
 have:indexAddr P t (.sl a off n c) (.lit (.int k i))=some (.ptr a (off+i.toNat*sz)):=by
  unfold Cd at hq;unfold indexAddr;grind[a6x,a1s,Nat.ble_eq_true_of_le,Nat.blt]
 grind[a3p,a0u]
theorem e9l {o:Oper} {t:TypeId} {sz a off n c:Nat} {k:IntKind} {i:Int} (hq:Cd P t=some (none,sz)) (h0:0<=i) (h:i.toNat<n) :
  a0u P H ev o t (some (.slq a off n c)) (some (.lit (.int k i)))=.val (.ptr a (off+i.toNat*sz)) H:=by
 have:indexAddr P t (.slq a off n c) (.lit (.int k i))=some (.ptr a (off+i.toNat*sz)):=by
  unfold Cd at hq;unfold indexAddr;grind[a6x,a1s,Nat.ble_eq_true_of_le,Nat.blt]
 grind[a3p,a0u]
theorem e9m {o:Oper} {t:TypeId} {sz a off n:Nat} {k:IntKind} {i:Int} (hq:Cd P t=some (some n,sz)) (h0:0<=i) (h:i.toNat<n) :
  a0u P H ev o t (some (.ptr a off)) (some (.lit (.int k i)))=.val (.ptr a (off+i.toNat*sz)) H:=by
 have:indexAddr P t (.ptr a off) (.lit (.int k i))=some (.ptr a (off+i.toNat*sz)):=by
  unfold Cd at hq;unfold indexAddr;grind[a6x,a1s,Nat.ble_eq_true_of_le,Nat.blt]
 grind[a3p,a0u]
theorem e9n {i:Operand} : opV P H ev ⟨d,.indexAddr t x i,ty,p,af,g⟩=iaS P H ev ⟨d,.indexAddr t x i,ty,p,af,g⟩ t (Cd P t) (ev x) (ev i):=by
 show a0u P H ev _ t (ev x) (ev i)=_;unfold iaS;grind[e9k,e9l,e9m]
theorem e9o (_h0:tick=tk) {o:Oper} {t:TypeId} {q q' : Option (Option Nat×Nat)} {x x' i i' : Option AV} {H H' : Mem} (h1:H=H') (h0:q=q') (h2:x=x') (h3:i=i') : iaS P H ev o t q x i=iaS P H' ev o t q' x' i':=by grind
theorem d2i (h0:0<=i) (h:i.toNat<n) : iaS P H ev o t (some (none,sz)) (some (.sl a off n c)) (some (.lit (.int k i)))=.val (.ptr a (off+i.toNat*sz)) H:=if_pos ⟨h0,h⟩
theorem c4o (h0:0<=i) (h:i.toNat<n) : iaS P H ev o t (some (none,sz)) (some (.slq a off n c)) (some (.lit (.int k i)))=.val (.ptr a (off+i.toNat*sz)) H:=if_pos ⟨h0,h⟩
attribute [congr] e9o
attribute [simp] e9n d2i c4o
/-! ### nilCheck,extract -/
theorem e9p {i:Nat} : opV P H ev ⟨d,.extract x i,ty,p,af,g⟩=a5t H (ev x) i:=(rfl)
theorem e9q {i:Nat} : a5t H (some (.tup l)) i=ofOpt H l[i]?:=(rfl)
attribute [simp] e9p e9q
end
end Go.Ai
end
section
namespace Go.Ai
open Go.RowKit (Below)
variable {P:Program} {W:WF} {L:LF} {Q:Out→Prop} {fr:Fr} {H:Mem}
section
variable {ev:Ev} {d:Option Tmp} {ty:TypeId} {p:String} {af:Array Edge} {g:Option (Nat×Bool)}
/-! ### parts of a struct or of a slice -/
variable {t s:TypeId} {n size a off tk c i bytes:Nat} {x hi:Operand} {l z:List AV} {v:AV} {place:Nat→Option (Nat×Nat)} {k:IntKind} {own:Bool}
theorem evalParts_nil:Dc ev []=some []:=(rfl)
noncomputable def c4p (i:Nat) (a:Option AV) (l:Option (List (Nat×AV))) : Option (List (Nat×AV)):=match a,l with|some v,some vs=>some ((i,v) :: vs)|_,_=>none
theorem e9r {l:List (Nat×Operand)} : Dc ev ((i,x) :: l)=c4p i (ev x) (Dc ev l):=by
 grind[Dc,c4p]
theorem e9s {vs:List (Nat×AV)} : c4p i (some v) (some vs)=some ((i,v) :: vs):=(rfl)
noncomputable def a5z (place:Nat->Option (Nat×Nat)) (cells:List AV) : List (Nat×AV)->Option (List AV)
 | []=>some cells
 | (i,v) :: rest=>match place i with
  | some (off,size)=>if (cellsOf v).length=size/\off+(cellsOf v).length<=cells.length then a5z place (a3v cells off (cellsOf v)) rest else none
  | none=>none
theorem c4q : ∀ (ps:List (Nat×AV)) (cells:List AV),a7i place cells ps=a5z place cells ps
 | [],_=>rfl
 | (i,v) :: rest,cells=>by
  unfold a7i a5z
  cases hp:place i with
  | none=>rfl
  | some r =>
   obtain⟨off,size⟩:=r;dsimp only
   cases hb:Nat.beq (len (cellsOf v)) size with
   | false =>
    dsimp only
    (split<;>simp_all[a0b])
   | true =>
    simp_all[a0b,a9n,c4q]
noncomputable def d2j (q:Option (Nat×Nat)) (place:Nat->Option (Nat×Nat)) (cells new:List AV) (rest:List (Nat×AV)) : Option (List AV):=match q with
 | some (off,size)=>if new.length=size/\off+new.length<=cells.length then a5z place (a3v cells off new) rest else none
 | none=>none
theorem e9t {cells:List AV} : a5z place cells []=some cells:=(rfl)
theorem e9u {cells:List AV} {rest:List (Nat×AV)} : a5z place cells ((i,v) :: rest)=d2j (place i) place cells (cellsOf v) rest:=by
 rfl
theorem e9v {cells new:List AV} {rest:List (Nat×AV)} (h1:new.length=size) (h2:off+new.length<=cells.length) :
  d2j (some (off,size)) place cells new rest=a5z place (a3v cells off new) rest:=if_pos ⟨h1,h2⟩
attribute [simp] evalParts_nil e9r e9s e9t e9u e9v
noncomputable def b0g (P:Program) (t:TypeId) : Option (List AV×List (Nat×Nat)):=match Cl P t,P.underlying t with
 | some zero,some (.struct fields)=>match c8d P fields.toList with
  | some pl=>some (zero,pl)
  | none=>none
 | _,_=>none
noncomputable def b6g (P:Program) (H:Mem) (t:TypeId) (q:Option (List AV×List (Nat×Nat))) (ps:Option (List (Nat×AV))) : R:=match q,ps with
 | some (z,pl),some ps=>ofOpt H (b1k (a5z (nth pl) z ps))
 | _,ps=>a4t P H t ps
theorem e9w {ps:Array (Nat×Operand)} : opV P H ev ⟨d,.build t ps,ty,p,af,g⟩=b6g P H t (b0g P t) (Dc ev ps.toList):=by
 show a4t P H t (Dc ev ps.toList)=_;unfold b6g;grind[c4q,build,b0g,a4t]
theorem e9x (_h0:tick=tk) {t:TypeId} {q q' : Option (List AV×List (Nat×Nat))} {x x' : Option (List (Nat×AV))} {H H' : Mem} (h1:H=H') (h2:q=q') (h3:x=x') : b6g P H t q x=b6g P H' t q' x':=by grind
theorem e9y {pl:List (Nat×Nat)} {ps:List (Nat×AV)} : b6g P H t (some (z,pl)) (some ps)=ofOpt H (b1k (a5z (nth pl) z ps)):=(rfl)
theorem e9z : b1k (some l)=some (.agg l):=(rfl)
theorem f0a {α:Type} {l:List α} : nth l i=l[i]?:=a9m l i
attribute [congr] e9x
attribute [simp] e9w e9y e9z f0a
noncomputable def bsI (P:Program) (t:TypeId) : Option (List AV×Nat):=match a3c P t with
 | some (e,size,_)=>match Cl P e with
  | some z=>some (z,size)
  | none=>none
 | none=>none
noncomputable def bsS (P:Program) (H:Mem) (t:TypeId) (n:Nat) (q:Option (List AV×Nat)) (ps:Option (List (Nat×AV))) : R:=match q,ps with
 | some (z,size),some ps=>if n*size<=1048576/\0<n*size then (match a5z (fun i=>some (i*size,size)) (rep z n) ps with
   | some l=>.val (.sl H.next 0 n n) (H.add (.cells l true 0))
   | none=>.bad) else a3e P H t n (some ps)
 | _,ps=>a3e P H t n ps
theorem f0b {t:TypeId} {n:Nat} {ps:Array (Nat×Operand)} : opV P H ev ⟨d,.buildSlice t n ps,ty,p,af,g⟩=bsS P H t n (bsI P t) (Dc ev ps.toList):=by
 show a3e P H t n (Dc ev ps.toList)=_;unfold bsS;split
 ·rename_i z size l h1 h2;rw[h2];split
  ·rename_i h;unfold a3e;unfold bsI at h1;split at h1
   ·rename_i e sz by_ he;split at h1
    ·rename_i z' hz;cases h1;rw[he];dsimp only;have hle:Nat.ble (n*size) 1048576=true:=Nat.ble_eq_true_of_le h.1;grind[Nat.eq_of_beq_eq_true,a1o,c4q,Mem.newK_eq,a0j]
    grind
   grind
  ·rfl
 ·rfl
theorem f0c (_h0:tick=tk) {t:TypeId} {n:Nat} {q q' : Option (List AV×Nat)} {x x' : Option (List (Nat×AV))} {H H' : Mem} (h1:H=H') (h2:q=q') (h3:x=x') : bsS P H t n q x=bsS P H' t n q' x':=by grind
noncomputable def bsK (H:Mem) (n:Nat) (l:Option (List AV)) : R:=match l with|some l=>.val (.sl H.next 0 n n) (H.add (.cells l true 0))|none=>.bad
theorem f0d : bsK H n (some l)=.val (.sl H.next 0 n n) (H.add (.cells l true 0)):=(rfl)
theorem f0e {ps:List (Nat×AV)} (h1:n*size<=1048576) (h2:0<n*size) : bsS P H t n (some (z,size)) (some ps)=bsK H n (a5z (fun i=>some (i*size,size)) (rep z n) ps):=by
 unfold bsS;dsimp only;rw[if_pos ⟨h1,h2⟩];rfl
theorem f0f (h:bsI P t=some (z,size)) : a3e P H t 0 (some [])=.val (.sl H.next 0 0 0) (H.add (.cells [] true 0)):=by
 unfold bsI at h;split at h
 all_goals simp_all[Mem.newK_eq,a0j,a7i,rep,a1o,a3e]
theorem f0g : rep l 0=[]:=(rfl)
theorem c4r : rep l (n+1)=l++rep l n:=(rfl)
attribute [congr] f0c
attribute [simp] f0b f0d f0e f0g c4r
/-! ### makeInterface,makeFunc -/
theorem f0h {fn:Fn} {a b:Array Operand} : opV P H ev ⟨d,.makeFunc fn a b,ty,p,af,g⟩=a5s H fn (Bq ev a.toList) (Bq ev b.toList):=(rfl)
theorem f0i {fn:Fn} {a b:List AV} : a5s H fn (some a) (some b)=.val (.func fn a b) H:=(rfl)
attribute [simp] f0h f0i
/-! ### integers to integers -/
noncomputable def cvS (P:Program) (H:Mem) (ev:Ev) (o:Oper) (s t:TypeId) (sd td:Option TypeDesc) (x:Option AV) : R:=match sd,td,x with
 | some (.int _),some (.int k),some (.lit (.int _ n))=>.val (.lit (.int k (k.wrap n))) H
 | _,_,x=>a1p P H ev o s t x
theorem f0j : opV P H ev ⟨d,.convert s t x,ty,p,af,g⟩=cvS P H ev ⟨d,.convert s t x,ty,p,af,g⟩ s t (P.underlying s) (P.underlying t) (ev x):=by
 show a1p P H ev _ s t (ev x)=_;unfold cvS;split
 ·rename_i k' k j n h1 h2 h3;have hg:Ba P ev ⟨d,.convert s t x,ty,p,af,g⟩=some (.lit (.int k (k.wrap n))):=by
   refine c0a rfl h3 fun ρ h=>?_;show Ao P (do pure (Next.value (<- Go.convert s t (ρ x))))=_;rw[Bt (a:=.int k (k.wrap n))]
   ·rfl
   ·rw[h];refine(Bt (m:=underlying s) (a5b h1)).trans ?_;refine(Bt (m:=underlying t) (a5b h2)).trans ?_;rfl
  grind[a1p]
 ·rfl
theorem f0k (_h0:tick=tk) {o:Oper} {s t:TypeId} {sd sd' td td' : Option TypeDesc} {x x' : Option AV} {H H' : Mem} (h1:H=H') (h2:sd=sd') (h3:td=td') (h4:x=x') : cvS P H ev o s t sd td x=cvS P H' ev o s t sd' td' x':=by grind
theorem f0l {o:Oper} {k' j:IntKind} {n:Int} : cvS P H ev o s t (some (.int k')) (some (.int k)) (some (.lit (.int j n)))=.val (.lit (.int k (k.wrap n))) H:=(rfl)
attribute [congr] f0k
attribute [simp] f0j f0l
/-! ### An operation whose operands are seen -/
noncomputable def ex1 (P:Program) (H:Mem) (ev:Ev) (o:Oper) (x:Operand) (v:Option AV) (_:ev x=v) : R:=opV P H ev o
noncomputable def ex2 (P:Program) (H:Mem) (ev:Ev) (o:Oper) (x y:Operand) (v u:Option AV) (_:ev x=v) (_:ev y=u) : R:=opV P H ev o
noncomputable def ex3 (P:Program) (H:Mem) (ev:Ev) (o:Oper) (x y z:Operand) (v u q:Option AV) (_:ev x=v) (_:ev y=u) (_:ev z=q) : R:=opV P H ev o
theorem f0m (_h0:tick=tk) {o:Oper} {x:Operand} {v v' : Option AV} {hv:ev x=v} {H H' : Mem} (h1:H=H') (h2:v=v') : ex1 P H ev o x v hv=ex1 P H' ev o x v' (hv.trans h2):=by grind
theorem f0n (_h0:tick=tk) {o:Oper} {x y:Operand} {v v' u u' : Option AV} {hv:ev x=v} {hu:ev y=u} {H H' : Mem} (h1:H=H') (h2:v=v') (h3:u=u') : ex2 P H ev o x y v u hv hu=ex2 P H' ev o x y v' u' (hv.trans h2) (hu.trans h3):=by grind
theorem f0o (_h0:tick=tk) {o:Oper} {x y z:Operand} {v v' u u' q q' : Option AV} {hv:ev x=v} {hu:ev y=u} {hq:ev z=q} {H H' : Mem} (h1:H=H') (h2:v=v') (h3:u=u') (h4:q=q') :
  ex3 P H ev o x y z v u q hv hu hq=ex3 P H' ev o x y z v' u' q' (hv.trans h2) (hu.trans h3) (hq.trans h4):=by grind
attribute [congr] f0m f0n f0o
/-! ### slices of slices and of strings -/
theorem f0p : opV P H ev ⟨d,.slice t x none (some hi) none,ty,p,af,g⟩=ex2 P H ev ⟨d,.slice t x none (some hi) none,ty,p,af,g⟩ x hi (ev x) (ev hi) rfl rfl:=(rfl)
theorem f0q {lo:Operand} : opV P H ev ⟨d,.slice t x (some lo) none none,ty,p,af,g⟩=ex2 P H ev ⟨d,.slice t x (some lo) none none,ty,p,af,g⟩ x lo (ev x) (ev lo) rfl rfl:=(rfl)
theorem a8a {o:Oper} (hm:x∈o.op.operands.toList) (hx:∀ v,ev x=some v->toLit v=none) : Ba P ev o=none:=by
 unfold Ba;grind
theorem d2k {i:Int} (h0:0<=i) (h1:i.toNat<=c) : a0t none (some (.lit (.int k i))) none n c=some (0,i.toNat,c):=by
 simp_all[a7j,a0t,a6x,g4h,b5c]
theorem c0b {lo hi:Option Operand} (hx:ev x=some v) (hv:toLit v=none) :
  opV P H ev ⟨d,.slice t x lo hi none,ty,p,af,g⟩=a4f P H ev t (some v) lo hi none:=by
 show a0k P H ev _ t (ev x) lo hi none=_;unfold a0k;rw[a8a (x:=x) (by simp[Op.operands]) (fun v' h=>by grind),hx]
theorem b1x {e:TypeId} {i:TypeInfo} {x:AV} {lo hi mx:Option AV} (h1:P.underlying t=some (.slice e)) (h2:P.info? e=some i) : b8j P t x lo hi mx=a7l i.size lo hi mx x:=by
 grind[b8j]
theorem a8b {sz:Nat} (h:Cd P t=some (none,sz)) : ∃ e i,P.underlying t=some (.slice e)/\P.info? e=some i/\i.size=sz:=by
 unfold Cd at h;grind
theorem c4s {t:TypeId} {x hi:Operand} {a off n c:Nat} {k:IntKind} {i:Int} {hx:ev x=some (.sl a off n c)} {hh:ev hi=some (.lit (.int k i))} (he:(Cd P t).map (·.1)=some none) (h0:0<=i) (h1:i.toNat<=c) (h2:0<c) :
  ex2 P H ev ⟨d,.slice t x none (some hi) none,ty,p,af,g⟩ x hi (some (.sl a off n c)) (some (.lit (.int k i))) hx hh=.val (.sl a off i.toNat c) H:=by
 show opV P H ev _=_;rw[c0b hx rfl];obtain⟨q,hq,hq2⟩:=Option.map_eq_some_iff.1 he;obtain⟨q1,q2⟩:=q;dsimp only at hq2;subst hq2;obtain⟨e,i',h3,h4,h5⟩:=a8b hq;unfold a4f a2s;dsimp only;rw[hh];dsimp only;rw[b1x h3 h4];grind[a7l,d2k,a7k,Nat.eq_of_beq_eq_true,ofOpt,a1s]
theorem c4t {t:TypeId} {x hi:Operand} {a off n c:Nat} {k:IntKind} {i:Int} {hx:ev x=some (.slq a off n c)} {hh:ev hi=some (.lit (.int k i))} (he:(Cd P t).map (·.1)=some none) (h0:0<=i) (h1:i.toNat<=n) (h2:0<n) :
  ex2 P H ev ⟨d,.slice t x none (some hi) none,ty,p,af,g⟩ x hi (some (.slq a off n c)) (some (.lit (.int k i))) hx hh=.val (.slq a off i.toNat c) H:=by
 show opV P H ev _=_;rw[c0b hx rfl];obtain⟨q,hq,hq2⟩:=Option.map_eq_some_iff.1 he;obtain⟨q1,q2⟩:=q;dsimp only at hq2;subst hq2;obtain⟨e,i',h3,h4,h5⟩:=a8b hq;unfold a4f a2s;dsimp only;rw[hh];dsimp only;rw[b1x h3 h4];grind[a7l,d2k,b8i,Nat.ble_eq_true_of_le,Nat.blt,ofOpt,a1s]
attribute [simp] f0p f0q c4s c4t
/-! ### append -/
theorem f0r {y:Operand} : opV P H ev ⟨d,.call ⟨.builtin .append,#[x,y],#[s,t]⟩,ty,p,af,g⟩=ex2 P H ev ⟨d,.call ⟨.builtin .append,#[x,y],#[s,t]⟩,ty,p,af,g⟩ x y (ev x) (ev y) rfl rfl:=(rfl)
noncomputable def apI (P:Program) (s t:TypeId) : Option (Nat×Nat):=match a3c P s,P.underlying t with
 | some (_,size,bytes),some (.slice _)=>some (size,bytes)
 | _,_=>none
theorem a5c {y:Operand} {u:AV} (hx:ev x=some v) (hy:ev y=some u) (h:apI P s t=some (size,bytes)) :
  opV P H ev ⟨d,.call ⟨.builtin .append,#[x,y],#[s,t]⟩,ty,p,af,g⟩=(match a2d H size bytes v u with|some (v,H)=>.val v H|none=>.bad):=by
 show Cb P H ev _ ⟨.builtin .append,#[x,y],#[s,t]⟩=_;unfold Cb;have e1:Bq ev (#[x,y] : Array Operand).toList=some [v,u]:=by
  simp_all
 rw[e1];dsimp only;unfold a3d;dsimp only;unfold b5f;dsimp only;have e2:(#[s,t] : Array TypeId)[0]?=some s:=rfl;have e3:(#[s,t] : Array TypeId)[1]?=some t:=rfl;grind[append,apI,b8n]
theorem c4u {z:Nat} (h:H.get a=some (.cells l own z)) (hl:off+n*size<=l.length) : Cx H size n (.sl a off n c)=some ((l.drop off).take (n*size)):=by
 simp_all[Cx,a6p]
theorem f0s {z:Nat} (h:H.get a=some (.cells l own z)) (hl:off+n*size<=l.length) : Cx H size n (.slq a off n c)=some ((l.drop off).take (n*size)):=by
 simp_all[Cx,a6p]
theorem b6h {b:Nat} (h1:a<=1048576) (h2:b<=1048576) (h3:c<=1048576) : small a b c=true:=by
 grind[small]
theorem b6i : a5p H l n size=some (.slq H.next 0 n 0,H.add (.cells l true size)):=by
 grind[a5p,Mem.newK_eq]
theorem d2l {size bytes n:Nat} {x:AV} {new:List AV} (hn:lenOf x=some (n+1)) (hs:0<size) (hf:Cx H size (n+1) x=some new) (hl:new.length=(n+1)*size) (h1:n+1<=1048576) (h2:bytes<=1048576) :
  a2d H size bytes (.nl) x=some (.slq H.next 0 (n+1) 0,H.add (.cells new true size)):=by
 unfold a2d
 rw[hn]
 show (match Nat.beq size 0,Cx H size (n+1) x with|false,some new=>a1c H size bytes (n+1) (.nl) new|_,_=>none)=_
 have hb:Nat.beq size 0=false:=by
  grind[Nat.eq_of_beq_eq_true]
 simp_all[a1c,a0b,b8l,b6h,b6i]
theorem d2m {size bytes n k off a:Nat} {x:AV} {new l:List AV} {own:Bool} {z:Nat} (hn:lenOf x=some (n+1)) (hs:0<size) (hf:Cx H size (n+1) x=some new) (hl:new.length=(n+1)*size)
  (hg:H.get a=some (.cells l own z)) (hle:off+k*size<=l.length) (h1:k+(n+1)<=1048576) (h3:k<=1048576) (h2:bytes<=1048576) :
  a2d H size bytes (.sl a off k k) x=some (.slq H.next 0 (k+(n+1)) 0,H.add (.cells ((l.drop off).take (k*size)++new) true size)):=by
 unfold a2d;rw[hn];show (match Nat.beq size 0,Cx H size (n+1) x with|false,some new=>a1c H size bytes (n+1) (.sl a off k k) new|_,_=>none)=_;have hb:Nat.beq size 0=false:=by
  grind[Nat.eq_of_beq_eq_true]
 rw[hb,hf];dsimp only;unfold a1c;rw[a0b,hl,Nat.beq_refl];dsimp only;unfold b5d;have hb2:Nat.ble (k+(n+1)) k=false:=by
  cases hb2:Nat.ble (k+(n+1)) k with
  | false=>rfl
  | true=>have:=Nat.le_of_ble_eq_true hb2;omega
 simp_all[b6h,b5r,a6p,b6i]
theorem d2n {size bytes n k a:Nat} {x:AV} {new l:List AV} (hn:lenOf x=some (n+1)) (hs:0<size) (hf:Cx H size (n+1) x=some new) (hl:new.length=(n+1)*size)
  (hg:H.get a=some (.cells l true size)) (hle:l.length=k*size) (h1:k+(n+1)<=1048576) (h2:bytes<=1048576) (h4:allOne new=true) :
  a2d H size bytes (.slq a 0 k 0) x=some (.slq (H.rm a).next 0 (k+(n+1)) 0,(H.rm a).add (.cells (l++new) true size)):=by
 unfold a2d;rw[hn];show (match Nat.beq size 0,Cx H size (n+1) x with|false,some new=>a1c H size bytes (n+1) (.slq a 0 k 0) new|_,_=>none)=_;have hb:Nat.beq size 0=false:=by
  grind[Nat.eq_of_beq_eq_true]
 rw[hb,hf];dsimp only;unfold a1c;rw[a0b,hl,Nat.beq_refl];dsimp only;unfold b8m;rw[hg];dsimp only;have e1:(Nat.beq size size && Nat.beq 0 (0*size))=true:=by simp
 have e2:Nat.ble (0+(k+(n+1))*size) (len l)=false:=by
  rw[a0b,hle]
  cases hb2:Nat.ble (0+(k+(n+1))*size) (k*size) with
  | false=>rfl
  | true =>
   (simp_all;grind)
 have e3:(Nat.beq (0+k*size) (len l) && small (k+(n+1)) 0 bytes && allOne new)=true:=by
  simp_all[b6h,a0b]
 (simp_all[b6i,Mem.delK_eq,b5r,a6p];grind)
attribute [simp] f0r
end
end Go.Ai
end
section
namespace Go.Ai
open Go.RowKit (Below)
variable {P:Program} {W:WF} {L:LF} {Q:Out→Prop} {fr:Fr} {H:Mem}
section
variable {ev:Ev} {d:Option Tmp} {ty:TypeId} {p:String} {af:Array Edge} {g:Option (Nat×Bool)}
variable {t kt:TypeId} {a c:Nat} {s:ByteArray} {l:List (ByteArray×Nat)} {m k x:Operand}
def a5d (l:List (ByteArray×AV×Nat)) : List (AV×AV×Nat):=l.map fun x=>(.lit (.string x.1),x.2.1,x.2.2)
theorem litAll_keys:∀ l:List (ByteArray×AV×Nat),litAll ((a5d l).map (·.1))=some (l.map fun x=>Value.string x.1)
 | []=>rfl
 | x :: l=>by
  have:=litAll_keys l;simp only[a5d,g4j] at this |-;simp only[litAll];rw[this]
def a1u (s:ByteArray) : List (ByteArray×AV×Nat)->Nat->Option Nat
 | [],_=>none
 | x :: l,i=>if s=x.1 then some i else a1u s l (i+1)
theorem c4v (a b:ByteArray) : (a == b)=decide (a=b):=by
 by_cases h:a=b
 ·subst h
  cases a with
  | mk d=>show (d == d)=_;simp
 ·rw[decide_eq_false h]
  cases a with
  | mk d=>cases b with
   | mk e =>
    show (d == e)=false;grind
theorem d2o (s:ByteArray) : ∀ (l:List (ByteArray×AV×Nat)) (i:Nat),Instr.findNow .string (.string s) ((l.map fun x=>Value.string x.1).map fun q=>(⟨q,undef,0⟩ : MapEntry)) i=some ((a1u s l i).map fun j=>(j,undef))
 | [],i=>rfl
 | x :: l,i=>by
  have ih:=d2o s l (i+1);simp only[g4j] at ih |-;unfold Instr.findNow a1u;show (match (some (s == x.1) : Option Bool) with|some true=>_|some false=>_|none=>none)=_
  (simp_all[c4v];grind)
theorem c0c (hk:P.underlying kt=some .string) (s:ByteArray) (l:List (ByteArray×AV×Nat)) : a9f P kt (.string s) (a5d l)=some (a1u s l 0):=by
 unfold a9f;rw[litAll_keys];dsimp only;have:Ao P (Instr.findKey kt (.string s) ((l.map fun x=>Value.string x.1).map fun q=>(⟨q,undef,0⟩ : MapEntry)))=some ((a1u s l 0).map fun j=>(j,undef)):=by
  unfold Instr.findKey;rw[Bt (a5b hk),d2o];rfl
 rw[this];cases a1u s l 0<;>rfl
theorem c0d {b:Bool} {n:Nat} (hk:P.underlying kt=some .string) : Ao P (Instr.checkKey b (n+1) kt (.string s))=some ():=by
 unfold Instr.checkKey;rw[Bt (a5b hk)];rfl
theorem c4w (s:ByteArray) : ∀ (l:List (ByteArray×AV×Nat)) (i:Nat),match a1u s l i with|some j=>i<=j/\∃ x,l[j-i]?=some x/\x.1=s|none=>∀ x∈l,x.1≠s
 | [],i=>by simp[a1u]
 | x :: l,i=>by
  unfold a1u;by_cases h:s=x.1
  ·grind
  ·rw[if_neg h];have ih:=c4w s l (i+1);grind
def a2k (l:List (ByteArray×Nat)) : List (AV×AV×Nat):=a5d (l.map fun x=>(x.1,.lit (.bool true),x.2))
def a5e (s:ByteArray) (l:List (ByteArray×Nat)) : Bool:=l.any fun x=>decide (x.1=s)
theorem f0t {et:TypeId} (ht:P.underlying t=some (.map kt et)) (hk:P.underlying kt=some .string) (hz:a9g P et=some (.bool false)) (hg:H.get a=some (.map (a2k l) c)) :
  lookup P H t (.map a) (.lit (.string s)) false=some (.lit (.bool (a5e s l))):=by
 unfold lookup;rw[ht];dsimp only[toLit];rw[hg];dsimp only;rw[c0d (n:=9999) hk];unfold a2k;rw[c0c hk];dsimp only;have hs:=c4w s (l.map fun x=>(x.1,AV.lit (.bool true),x.2)) 0
 cases hka:a1u s (l.map fun x=>(x.1,AV.lit (.bool true),x.2)) 0 with
 | none =>
  rw[hka] at hs;unfold b3d;dsimp only;rw[hz];have:a5e s l=false:=by
   unfold a5e;rw[List.any_eq_false];intro x hx;have:=hs (x.1,.lit (.bool true),x.2) (Eg.2 ⟨x,hx,rfl⟩);grind
  rw[this];rfl
 | some j =>
  rw[hka] at hs;obtain⟨_,x,hx,hxs⟩:=hs;rw[Nat.sub_zero,g4l] at hx;obtain⟨y,hy,rfl⟩:=g3v.1 hx;unfold b3d;dsimp only;rw[a9m];have:(a5d (l.map fun x=>(x.1,AV.lit (.bool true),x.2)))[j]?=some (.lit (.string y.1),.lit (.bool true),y.2):=by
   grind[a5d]
  rw[this];have:a5e s l=true:=by
   grind[a5e]
  rw[this];rfl
theorem f0u {et:TypeId} (ht:P.underlying t=some (.map kt et)) (hk:P.underlying kt=some .string) (hg:H.get a=some (.map (a2k l) c)) (hn:a5e s l=false) :
  mapUpdate P H t (.map a) (.lit (.string s)) (.lit (.bool true))=some (H.upd a (.map (a2k (l++[(s,c)])) (c+1))):=by
 unfold mapUpdate;rw[ht];dsimp only[toLit];rw[hg];dsimp only;rw[c0d (n:=9999) hk];have e:a9f P kt (.string s) (a2k l)=some (a1u s (l.map fun x=>(x.1,AV.lit (.bool true),x.2)) 0):=c0c hk s _;rw[e];have hs:=c4w s (l.map fun x=>(x.1,AV.lit (.bool true),x.2)) 0
 cases hka:a1u s (l.map fun x=>(x.1,AV.lit (.bool true),x.2)) 0 with
 | none =>
  grind[b8p,Mem.setK_eq,a5d,a2k]
 | some j =>
  exfalso;rw[hka] at hs;obtain⟨_,x,hx,hxs⟩:=hs;rw[Nat.sub_zero,g4l] at hx;obtain⟨y,hy,rfl⟩:=g3v.1 hx;grind[a5e]
def b6j (P:Program) (t:TypeId) : Bool:=match P.underlying t with
 | some (.map kt et)=>(match P.underlying kt with|some .string=>true|_=>false) && (match P.info? et with|some i=>(match i.zero with|some (.bool false)=>true|_=>false)|none=>false)
 | _=>false
theorem d2p (h:b6j P t=true) : ∃ kt et,P.underlying t=some (.map kt et)/\P.underlying kt=some .string/\a9g P et=some (.bool false):=by
 (simp_all[b6j,a9g];grind)
noncomputable def b3s (P:Program) (H:Mem) (ev:Ev) (o:Oper) (x y:Operand) (a:Nat) (u:AV) (b:Option Blk) (_:ev x=some (.map a)) (_:ev y=some u) (_:H.get a=b) : R:=opV P H ev o
noncomputable def b6k (P:Program) (H:Mem) (ev:Ev) (o:Oper) (x y z:Operand) (a:Nat) (u v:AV) (b:Option Blk) (_:ev x=some (.map a)) (_:ev y=some u) (_:ev z=some v) (_:H.get a=b) : R:=opV P H ev o
theorem f0v {tk:Nat} (_h0:tick=tk) {o:Oper} {x y:Operand} {a:Nat} {u:AV} {b b' : Option Blk} {hx:ev x=some (.map a)} {hy:ev y=some u} {hb:H.get a=b} (h1:b=b') : b3s P H ev o x y a u b hx hy hb=b3s P H ev o x y a u b' hx hy (hb.trans h1):=rfl
theorem f0w {tk:Nat} (_h0:tick=tk) {o:Oper} {x y z:Operand} {a:Nat} {u v:AV} {b b' : Option Blk} {hx:ev x=some (.map a)} {hy:ev y=some u} {hz:ev z=some v} {hb:H.get a=b} (h1:b=b') : b6k P H ev o x y z a u v b hx hy hz hb=b6k P H ev o x y z a u v b' hx hy hz (hb.trans h1):=rfl
attribute [congr] f0v f0w
theorem f0x {b:Bool} : opV P H ev ⟨d,.lookup t m k b,ty,p,af,g⟩=ex2 P H ev ⟨d,.lookup t m k b,ty,p,af,g⟩ m k (ev m) (ev k) rfl rfl:=(rfl)
theorem f0y {o:Oper} {y:Operand} {u:AV} {hx:ev x=some (.map a)} {hy:ev y=some u} : ex2 P H ev o x y (some (.map a)) (some u) hx hy=b3s P H ev o x y a u (H.get a) hx hy rfl:=(rfl)
theorem f0z {o:Oper} {y z:Operand} {u v:AV} {hx:ev x=some (.map a)} {hy:ev y=some u} {hz:ev z=some v} : ex3 P H ev o x y z (some (.map a)) (some u) (some v) hx hy hz=b6k P H ev o x y z a u v (H.get a) hx hy hz rfl:=(rfl)
theorem f1a {hm:ev m=some (.map a)} {hk:ev k=some (.lit (.string s))} {hg:H.get a=some (.map (a2k l) c)} (h:b6j P t=true) :
  b3s P H ev ⟨d,.lookup t m k false,ty,p,af,g⟩ m k a (.lit (.string s)) (some (.map (a2k l) c)) hm hk hg=.val (.lit (.bool (a5e s l))) H:=by
 show a2t P H ev _ t (ev m) (ev k) false=_;obtain⟨kt,et,h1,h2,h3⟩:=d2p h;unfold a2t b5g;rw[a8a (x:=m) (by simp[Op.operands]) (fun v' h=>by rw[hm] at h;cases h;rfl),hm,hk];dsimp only;rw[f0t h1 h2 h3 hg];rfl
theorem f1b : opV P H ev ⟨d,.mapUpdate t m k x,ty,p,af,g⟩=ex3 P H ev ⟨d,.mapUpdate t m k x,ty,p,af,g⟩ m k x (ev m) (ev k) (ev x) rfl rfl rfl:=(rfl)
theorem f1c {hm:ev m=some (.map a)} {hk:ev k=some (.lit (.string s))} {hx:ev x=some (.lit (.bool true))}
  {hg:H.get a=some (.map (a2k l) c)} (h:b6j P t=true) (hn:a5e s l=false) :
  b6k P H ev ⟨d,.mapUpdate t m k x,ty,p,af,g⟩ m k x a (.lit (.string s)) (.lit (.bool true)) (some (.map (a2k l) c)) hm hk hx hg=.skip (H.upd a (.map (a2k (l++[(s,c)])) (c+1))):=by
 show a4h P H t (ev m) (ev k) (ev x)=_;grind[d2p,a4h,f0u]
theorem f1d : opV P H ev ⟨d,.makeMap t none,ty,p,af,g⟩=.val (.map H.next) (H.add (.map (a2k []) 0)):=by
 show a3o P H ev t none=_;unfold a3o;dsimp only;rw[Mem.newK_eq];rfl
attribute [simp] f0y f0z f1a f1c f0x f1b f1d
end
end Go.Ai
end
section
namespace Go.Ai
open Go.RowKit (Below)
variable {P:Program} {B G:Nat} {ρ ρ' : Rn} {H H' : Mem} {w w' : World}
mutual
theorem VR.back (hs:Sub ρ ρ') : ∀ {v:AV} {u0 u:Value},VR ρ v u0->VR ρ' v u->VR ρ v u
 | .lit _,_,_,_,r=>r
 | .ptr _ _,_,_,⟨b,o,k,e,_⟩,⟨b',o',k',e',r'⟩=>by
  have:=hs _ _ e;rw[this] at e';cases e';exact⟨b,o,k,e,r'⟩
 | .sl _ _ _ _,_,_,⟨b,o,k,e,_⟩,⟨b',o',k',e',r'⟩=>by
  have:=hs _ _ e;rw[this] at e';cases e';exact⟨b,o,k,e,r'⟩
 | .slq _ _ _ _,_,_,⟨b,o,k,e,_⟩,⟨b',o',k',e',r'⟩=>by
  have:=hs _ _ e;rw[this] at e';cases e';exact⟨b,o,k,e,r'⟩
 | .es,_,_,_,r=>r
 | .map _,_,_,⟨b,o,k,e,_⟩,⟨b',o',k',e',r'⟩=>by
  have:=hs _ _ e;rw[this] at e';cases e';exact⟨b,o,k,e,r'⟩
 | .func _ _ _,_,_,⟨_,_,_,r,q⟩,⟨f',c',e',r',q'⟩=>⟨f',c',e',VRs.back hs r r',VRs.back hs q q'⟩
 | .iface _ _,_,_,⟨_,_,r⟩,⟨u',e',r'⟩=>⟨u',e',VR.back hs r r'⟩
 | .agg _,_,_,⟨_,_,r⟩,⟨cs,e',r'⟩=>⟨cs,e',VRs.back hs r r'⟩
 | .tup _,_,_,⟨_,_,r⟩,⟨cs,e',r'⟩=>⟨cs,e',VRs.back hs r r'⟩
theorem VRs.back (hs:Sub ρ ρ') : ∀ {l:List AV} {us0 us:List Value},VRs ρ l us0->VRs ρ' l us->VRs ρ l us
 | [],_,_,_,r=>r
 | _ :: _,_,_,⟨_,_,_,r,q⟩,⟨u,us',e,r',q'⟩=>⟨u,us',e,VR.back hs r r',VRs.back hs q q'⟩
end
variable {g:Gb} {a off:Nat} {cs:List AV}
theorem ER.back (hs:Sub ρ ρ') : ∀ {l:List (AV×AV×Nat)} {es0 es:List MapEntry},ER ρ l es0->ER ρ' l es->ER ρ l es
 | [],_,_,_,r=>r
 | _ :: _,_,_,⟨_,_,_,r,s,_,z⟩,⟨e,es',q,r',s',t',z'⟩=>⟨e,es',q,r.back hs r',s.back hs s',t',ER.back hs z z'⟩
theorem BR.back (hs:Sub ρ ρ') {x:Blk} {b o k:Nat} (h0:BR B ρ x b o k w) (h:BR B ρ' x b o k w') : BR B ρ x b o k w':=by
 cases x with
 | cells l own z =>
  obtain⟨c0,e0,fz0,hb0,hc0,ho0⟩:=h0;obtain⟨c,e,fz,hb,hc,ho⟩:=h;refine⟨c,e,fz,hb,fun i v hi=>?_,ho⟩;obtain⟨u0,_,hv0⟩:=hc0 i v hi;obtain⟨u,hu,hv⟩:=hc i v hi;exact⟨u,hu,hv0.back hs hv⟩
 | map es clock =>
  obtain⟨es0,_,he0,_⟩:=h0;obtain⟨es',hb,he,hB⟩:=h;exact⟨es',hb,ER.back hs he0 he,hB⟩
 | siter s pos=>exact h
 | typ T l ex =>
  obtain⟨_,_,c0,hb0,hc0,_⟩:=h0;obtain⟨h1,h2,c,hb,hc,h3⟩:=h;refine⟨h1,h2,c,hb,fun i v hi=>?_,h3⟩;obtain⟨u0,_,hv0⟩:=hc0 i v hi;obtain⟨u,hu,hv⟩:=hc i v hi;exact⟨u,hu,hv0.back hs hv⟩
structure Ge (H H' : Mem) : Prop where
 le:H.next<=H'.next
 same:∀ a,a<H.next->H'.get a=H.get a
theorem Sim.back (s:Sim B G ρ H w) (hx:Ext B H.next ρ w ρ' w') (s' : Sim B G ρ' H' w') (hg:Ge H H') : Sim B G ρ H w':=by
 have hsub:=hx.sub s;refine⟨fun a x ha=>?_,s.inj,s.fresh,s.glob,s.names,s'.base⟩;rcases s.blk a x ha with hn|⟨b,o,k,hr,hb⟩
 ·grind
 ·have hlt:=s.lt_next hr;refine .inr ⟨b,o,k,hr,?_⟩;have hb':=s'.at (by rw[hg.same a hlt];omega) (hsub _ _ hr);exact hb.back hsub hb'
def plainV:AV->Bool
 | .lit _=>true
 | .es=>true
 | .iface _ v=>plainV v
 | .tup []=>true
 | .tup [a]=>plainV a
 | .tup [a,b]=>plainV a && plainV b
 | .tup [a,b,c]=>plainV a && plainV b && plainV c
 | _=>false
theorem a6y {ρ'': Rn} : ∀ {v:AV} {u:Value},plainV v=true->VR ρ' v u->VR ρ'' v u
 | .lit _,_,_,r=>r
 | .es,_,_,r=>r
 | .iface t v,_,h,⟨u',e,r⟩=>⟨u',e,a6y (v:=v) (by assumption) r⟩
 | .tup [],_,_,⟨cs,e,r⟩=>⟨cs,e,r⟩
 | .tup [a],_,h,⟨cs,e,u,us,e1,r,q⟩=>⟨cs,e,u,us,e1,a6y (v:=a) (by assumption) r,q⟩
 | .tup [a,b],_,h,⟨cs,e,u,us,e1,r,u2,us2,e2,r2,q⟩=>by
  simp only[plainV,Dq] at h;exact⟨cs,e,u,us,e1,a6y (v:=a) h.1 r,u2,us2,e2,a6y (v:=b) h.2 r2,q⟩
 | .tup [a,b,c],_,h,⟨cs,e,u,us,e1,r,u2,us2,e2,r2,u3,us3,e3,r3,q⟩=>by
  simp only[plainV,Dq] at h;exact⟨cs,e,u,us,e1,a6y (v:=a) h.1.1 r,u2,us2,e2,a6y (v:=b) h.1.2 r2,u3,us3,e3,a6y (v:=c) h.2 r3,q⟩
 | .ptr _ _,_,h,_=>by grind[plainV]
 | .sl _ _ _ _,_,h,_=>by grind[plainV]
 | .slq _ _ _ _,_,h,_=>by grind[plainV]
 | .map _,_,h,_=>by grind[plainV]
 | .func _ _ _,_,h,_=>by grind[plainV]
 | .agg _,_,h,_=>by grind[plainV]
 | .tup (_ :: _ :: _ :: _ :: _),_,h,_=>by grind[plainV]
theorem WC.drop {f:FuncId} {args:List AV} {K:AV->Prop} (h:WC G P f args H fun r=>∃ v H',r=.ret v H'/\plainV v=true/\Ge H H'/\K v) : WC G P f args H fun r=>∃ v,r=.ret v H/\K v:=by
 intro B ρ us w s hv;refine(h B ρ us w s hv).mono ?_;rintro e w' ⟨r,⟨v,H',rfl,hp,hg,hk⟩,hc⟩;refine⟨_,⟨v,rfl,hk⟩,?_⟩
 cases e with
 | returned u =>
  obtain⟨ρ',h1,h2,h3,h4⟩:=hc;exact⟨ρ,⟨fun _ _=>rfl,h1.keeps,h1.below⟩,s.back h1 h2 hg,a6y hp h3,Dm _⟩
 | panicked chain=>assumption
 | outgrown=>assumption
theorem WC.drop1 {f:FuncId} {args:List AV} {v:AV} (hp:plainV v=true) (h:WC G P f args H fun r=>∃ H',r=.ret v H'/\Ge H H') : WC G P f args H fun r=>r=.ret v H:=by
 refine(WC.drop (K:=fun u=>u=v) (h.mono ?_)).mono ?_
 all_goals grind
/-! ### rows of cells -/
def Row (g:Gb) (a off:Nat) (cs:List AV) : Prop:=∃ l own z,g a=some (.cells l own z)/\off+cs.length<=l.length/\(l.drop off).take cs.length=cs
theorem Row.agg {g:Gb} {a off:Nat} {cs:List AV} (h:Row g a off cs) {k s:Nat} (hk:k+s<=cs.length) : Be (some (true,s)) (g a) (off+k)=some (.agg ((cs.drop k).take s)):=by
 obtain⟨l,own,z,h1,h2,h3⟩:=h
 grind[d2g,List.drop_take,List.drop_drop]
theorem Row.one (h:Row g a off cs) {k s:Nat} (hk:k<cs.length) : Be (some (false,s)) (g a) (off+k)=some cs[k]:=by
 obtain⟨l,own,z,h1,h2,h3⟩:=h;grind[d2f]
theorem Row.mono {g': Gb} (h:Row g a off cs) (hg:g' a=g a) : Row g' a off cs:=by
 obtain⟨l,own,z,h1,h2⟩:=h;exact⟨l,own,z,hg.trans h1,h2⟩
theorem d2q {α:Type} {f:α->List AV} {sz:Nat} : ∀ (xs:List α) (i:Nat) (h:i<xs.length),(∀ x∈xs,(f x).length=sz)->((xs.flatMap f).drop (i*sz)).take sz=f xs[i]
 | x :: xs,0,_,hf=>by
  grind
 | x :: xs,i+1,h,hf=>by
  have h1:=hf x (by simp);rw[g5e,g5o,g5m,<- g6j,<- h1,List.drop_left,h1];have:=d2q xs i (by simpa using h) (fun y hy=>hf y (by simp[hy]));simpa using this
 | [],i,h,_=>by grind
theorem d2r {α:Type} {f:α->List AV} {sz:Nat} : ∀ (xs:List α),(∀ x∈xs,(f x).length=sz)->(xs.flatMap f).length=xs.length*sz
 | [],_=>by simp
 | x :: xs,hf=>by
  rw[g5e,Dr,hf x (by simp),d2r xs (fun y hy=>hf y (by simp[hy])),Ej,g5o,g5m]
end Go.Ai
end
section
namespace Go.Ai
inductive It where
 | run (i:Nat)
 | mk (i:Nat)
 | gate (hs as:List Nat)
 deriving DecidableEq,Repr
structure Hs where
 cl:List Nat
 di:List Nat
 acl:List Nat
 adi:List Nat
def a8c (ops:List Oper) : List Nat->Hs->(Hs->List It)->List It
 | [],s,K=>K s
 | i :: l,s,K=>match ops[i]? with
  | some o=>match cls o.op with
   | .alloc=>.mk i :: a8c ops l ⟨[],s.cl++s.di,[i],s.acl++s.adi⟩ K
   | .read=>.run i :: a8c ops l ⟨i :: s.cl,s.di,s.acl,s.adi⟩ K
   | _=>.run i :: a8c ops l s K
  | none=>[]
def b6l (s:Hs) (K:Hs->List It) : List It:=match s.di,s.adi with
 | [],[]=>K s
 | _,_=>.gate s.di s.adi :: K ⟨s.di++s.cl,[],s.adi++s.acl,[]⟩
def b3t (tab all:List Nat) (ops:List Oper) : Nat->List Nat->Hs->List It
 | k,[],s=>a8c ops (a2e tab all k ops 0) s fun s=>b6l s fun _=>[]
 | k,c :: cs,s=>a8c ops (a2e tab all k ops 0) s fun s=>b6l s fun s =>
   .run c :: b3t tab all ops (k+1) cs ⟨[],s.cl.filter fun i=>!Aw tab c i,[],s.acl.filter fun i=>!Aw tab c i⟩
def b1y (ops:List Oper) : List It:=b3t (ancs [] ops) (chainOf ops 0) ops 0 (chainOf ops 0) ⟨[],[],[],[]⟩
def b3u (o:Oper) : List Tmp:=o.op.operands.toList.filterMap fun x=>match x with|.tmp t=>some t|_=>none
def c4x (tab:List Nat) (ops:List Oper) (i:Nat) (t:Tmp) : Bool:=match a4i t ops 0 with
 | none=>true
 | some j=>Aw tab i j || (Aw tab j i || Nat.beq i j)
def ahead (tab:List Nat) (ops:List Oper) (i:Nat) (t:Tmp) : Bool:=match a4i t ops 0 with
 | none=>true
 | some j=>Aw tab i j
def b6m (P:Program) (t:TypeId) : Bool:=match P.underlying t with|some (.slice _)=>false|some _=>true|none=>false
def c0e (P:Program) (o:Oper) : Bool:=match o.op with
 | .convert s d _=>b6m P s && b6m P d
 | _=>true
def b6n (P:Program) (tab:List Nat) (ops:List Oper) (o:Oper) (i:Nat) : Bool :=
 (b3u o).all (c4x tab ops i) && (match o.guard with|none=>true|some g=>Aw tab i g.1) && c0e P o
def a8d (P:Program) (tab:List Nat) (ops:List Oper) : List Oper->Nat->Bool
 | [],_=>true
 | o :: l,i=>b6n P tab ops o i && a8d P tab ops l (i+1)
def c4y (tab:List Nat) (ops:List Oper) (i:Nat) : Bool:=match ops[i]? with
 | some o=>o.dst.isSome && (b3u o).all (ahead tab ops i)
 | none=>false
def a1e (tab:List Nat) (ops:List Oper) : Nat->List It->Bool
 | s,[]=>Nat.beq (s+1) (2 ^ ops.length)
 | s,.run i :: l=>!s.testBit i && Nat.beq ((tab.getD i 0) &&& s) (tab.getD i 0) && a1e tab ops (s ||| 2 ^ i) l
 | s,.mk i :: l=>!s.testBit i && Nat.beq ((tab.getD i 0) &&& s) (tab.getD i 0) && a1e tab ops (s ||| 2 ^ i) l
 | s,.gate hs _ :: l=>hs.all (c4y tab ops) && a1e tab ops s l
def b6o (P:Program) (ops:List Oper) : Bool :=
 b3g ops && Tables.follows P.toTables .mixedOrders && a8d P (ancs [] ops) ops ops 0 && a1e (ancs [] ops) ops 0 (b1y ops)
end Go.Ai
end
section
namespace Go.Ai
variable {P:Program} {H:Mem} {ev ev' : Ev}
theorem evals_congr:∀ {l:List Operand},(∀ x∈l,ev x=ev' x)->Bq ev l=Bq ev' l
 | [],_=>rfl
 | x :: l,h=>by
  unfold Bq;rw[h x (by simp),evals_congr fun y hy=>h y (by simp[hy])]
theorem evalParts_congr:∀ {l:List (Nat×Operand)},(∀ x∈l.map (·.2),ev x=ev' x)->Dc ev l=Dc ev' l
 | [],_=>rfl
 | (i,x) :: l,h=>by
  unfold Dc;rw[h x (by simp),evalParts_congr fun y hy=>h y (by simp at hy |-;exact .inr hy)]
theorem f1e {α:Type} {p q:α->Bool} : ∀ {l:List α},(∀ x∈l,p x=q x)->l.all p=l.all q
 | [],_=>rfl
 | x :: l,h=>by
  grind
theorem f1f {c c': Bool} {s s': Sem Next} (h1:c=c') (h2:s=s') : (if c=true then (match Ao P s with|some (.value v)=>some (AV.lit v)|_=>none) else none)=(if c'=true then (match Ao P s' with|some (.value v)=>some (AV.lit v)|_=>none) else none):=by
 grind
theorem f1g {o:Oper} (hs:∀ cs b,o.op≠.select cs b) (h:∀ x∈o.op.operands.toList,ev x=ev' x) : Ba P ev o=Ba P ev' o:=by
 unfold Ba;have h1:(o.op.operands.toList.all fun x=>match ev x with|some v=>(match toLit v with|some _=>true|none=>false)|none=>false)=(o.op.operands.toList.all fun x=>match ev' x with|some v=>(match toLit v with|some _=>true|none=>false)|none=>false) :=
  f1e fun x hx=>by grind
 have h2:=execOp_congr (ρ:=fun x=>match ev x with|some v=>(match toLit v with|some u=>u|none=>undef)|none=>undef) (ρ':=fun x=>match ev' x with|some v=>(match toLit v with|some u=>u|none=>undef)|none=>undef) o hs
  fun x hx=>by grind
 exact f1f h1 h2
theorem f1h {y:Option Operand} (h:∀ x∈y.toArray.toList,ev x=ev' x) : a2s ev y=a2s ev' y:=by
 (simp_all[a2s];grind)
theorem c0f {o:Oper} (hs:∀ cs b,o.op≠.select cs b) (h:∀ x∈o.op.operands.toList,ev x=ev' x) : opV P H ev o=opV P H ev' o:=by
 have hg:=f1g (P:=P) hs h;unfold opV
 cases hop:o.op with
 | select cs b=>rfl
 | move x=>rw[hop] at h;show a1q H (ev x)=a1q H (ev' x);grind[Op.operands]
 | assign x=>rw[hop] at h;show a1q H (ev x)=a1q H (ev' x);grind[Op.operands]
 | pick c a b=>rw[hop] at h;show a4e H (ev c) (ev a) (ev b)=a4e H (ev' c) (ev' a) (ev' b);grind[Op.operands]
 | alloc t=>rfl
 | box t x=>rw[hop] at h;show a4s H (ev x)=a4s H (ev' x);grind[Op.operands]
 | build t ps=>rw[hop] at h;show a4t P H t (Dc ev ps.toList)=a4t P H t (Dc ev' ps.toList);grind[Op.operands,evalParts_congr]
 | buildSlice t n ps=>rw[hop] at h;show a3e P H t n (Dc ev ps.toList)=a3e P H t n (Dc ev' ps.toList);grind[Op.operands,evalParts_congr]
 | insert t m k x=>rw[hop] at h;show a4h P H t (ev m) (ev k) (ev x)=a4h P H t (ev' m) (ev' k) (ev' x);grind[Op.operands]
 | mapUpdate t m k x=>rw[hop] at h;show a4h P H t (ev m) (ev k) (ev x)=a4h P H t (ev' m) (ev' k) (ev' x);grind[Op.operands]
 | load t a=>rw[hop] at h;show a3f P H t (ev a)=a3f P H t (ev' a);grind[Op.operands]
 | store t a x=>rw[hop] at h;show a5r P H t (ev a) (ev x)=a5r P H t (ev' a) (ev' x);grind[Op.operands]
 | nilCheck x=>rw[hop] at h;show a6k P H ev o (ev x)=a6k P H ev' o (ev' x);simp_all[a6k,Op.operands]
 | binOp op t x y r=>rw[hop] at h;show Bo P H ev o op t (ev x) (ev y)=Bo P H ev' o op t (ev' x) (ev' y);grind[Bo,Op.operands]
 | unOp op t x=>show ofOpt H (Ba P ev o)=ofOpt H (Ba P ev' o);rw[hg]
 | convert s d x=>rw[hop] at h;show a1p P H ev o s d (ev x)=a1p P H ev' o s d (ev' x);simp_all[a1p,Op.operands]
 | makeInterface t x=>rw[hop] at h;show a7n P H t (ev x)=a7n P H t (ev' x);grind[Op.operands]
 | makeFunc fn a b =>
  rw[hop] at h;show a5s H fn (Bq ev a.toList) (Bq ev b.toList)=a5s H fn (Bq ev' a.toList) (Bq ev' b.toList);grind[Op.operands,evals_congr]
 | makeMap t r =>
  rw[hop] at h;show a3o P H ev t r=a3o P H ev' t r
  (simp_all[a3o,Op.operands];grind)
 | makeSlice t l c=>rw[hop] at h;show a2r P H t (ev l) (ev c)=a2r P H t (ev' l) (ev' c);grind[Op.operands]
 | slice t x lo hi mx =>
  rw[hop] at h;show a0k P H ev o t (ev x) lo hi mx=a0k P H ev' o t (ev' x) lo hi mx;unfold a0k a4f;grind[Op.operands,f1h]
 | fieldAddr s x f=>rw[hop] at h;show a4g P H ev o s (ev x) f=a4g P H ev' o s (ev' x) f;simp_all[a3p,a4g,Op.operands]
 | field t x f=>rw[hop] at h;show a7o P H t (ev x) f=a7o P H t (ev' x) f;grind[Op.operands]
 | indexAddr t x i=>rw[hop] at h;show a0u P H ev o t (ev x) (ev i)=a0u P H ev' o t (ev' x) (ev' i);simp_all[a3p,a0u,Op.operands]
 | index t x i=>rw[hop] at h;show a6l P H ev o t (ev x) (ev i)=a6l P H ev' o t (ev' x) (ev' i);simp_all[a6l,Op.operands]
 | lookup t m k ok=>rw[hop] at h;show a2t P H ev o t (ev m) (ev k) ok=a2t P H ev' o t (ev' m) (ev' k) ok;simp_all[a2t,Op.operands]
 | range t x=>rw[hop] at h;show b5i P H t (ev x)=b5i P H t (ev' x);grind[Op.operands]
 | next x b=>rw[hop] at h;cases b with
  | true=>show b5j H (ev x)=b5j H (ev' x);grind[Op.operands]
  | false=>rfl
 | typeAssert x s t ok=>rw[hop] at h;show a6m P H ev o (ev x) t ok=a6m P H ev' o (ev' x) t ok;simp_all[a6m,Op.operands]
 | extract t i=>rw[hop] at h;show a5t H (ev t) i=a5t H (ev' t) i;grind[Op.operands]
 | panic x=>rw[hop] at h;show b5k H (ev x)=b5k H (ev' x);grind[Op.operands]
 | call c =>
  rw[hop] at h;show Cb P H ev o c=Cb P H ev' o c;have ha:Bq ev c.args.toList=Bq ev' c.args.toList:=evals_congr fun x hx=>h x (by grind[Call.operands,Op.operands]);unfold Cb;rw[ha]
  cases hc:c.callee with
  | value f=>grind[Call.operands,Op.operands]
  | invoke r m=>grind[b8s,Call.operands,Op.operands]
  | builtin b=>simp_all[a9h,a5q,a3d]
 | defer c =>
  rw[hop] at h;show b3e H ev c=b3e H ev' c;grind[Call.operands,Op.operands,evals_congr,b3e]
 | _=>rfl
theorem c4z {o:Oper} (h:cls o.op≠.no) : ∀ cs b,o.op≠.select cs b:=by
 intro cs b e;rw[e] at h;exact h rfl
end Go.Ai
end
section
namespace Go.Ai
variable {P:Program} {H:Mem} {ev:Ev} {o:Oper}
def vb:R->Bool
 | .val _ _=>true
 | .bad=>true
 | _=>false
theorem a4n (x:Option AV) : vb (ofOpt H x)=true:=by cases x<;>rfl
theorem c0g (l:List AV) (b:Bool) (v:AV) : vb (a0j H l b v)=true:=by unfold a0j;rw[Mem.newK_eq];rfl
theorem f1i (h:freeOp o.op=true) : vb (opV P H ev o)=true:=by
 have gen:∀ (x:Option AV),vb (match (x:Option AV) with|some v=>R.val v H|none=>.bad)=true:=by intro x;cases x<;>rfl
 have or' : ∀ (x:Option AV),vb (a3p P H ev o x)=true:=by
  intro x;unfold a3p;cases x with
  | none=>exact a4n _
  | some v=>rfl
 unfold opV
 cases hop:o.op with
 | move x=>show vb (a1q H (ev x))=true;unfold a1q;(split<;>rfl)
 | assign x=>show vb (a1q H (ev x))=true;unfold a1q;(split<;>rfl)
 | pick c a b=>show vb (a4e H (ev c) (ev a) (ev b))=true;unfold a4e;split<;>first|exact a4n _|rfl
 | build t ps=>show vb (a4t P H t (Dc ev ps.toList))=true;unfold a4t;split<;>first|exact a4n _|rfl
 | nilCheck x=>show vb (a6k P H ev o (ev x))=true;unfold a6k;split<;>first|exact a4n _|rfl
 | binOp op t x y r =>
  show vb (Bo P H ev o op t (ev x) (ev y))=true;unfold Bo;split
  ·rfl
  ·split
   ·rfl
   ·unfold b3f;split
    ·split<;>rfl
    ·rfl
 | unOp op t x=>show vb (ofOpt H (Ba P ev o))=true;exact a4n _
 | makeInterface t x=>show vb (a7n P H t (ev x))=true;unfold a7n;split<;>rfl
 | makeFunc fn a b=>show vb (a5s H fn (Bq ev a.toList) (Bq ev b.toList))=true;unfold a5s;split<;>rfl
 | slice t x lo hi mx =>
  show vb (a0k P H ev o t (ev x) lo hi mx)=true;unfold a0k;split
  ·rfl
  ·unfold a4f;split
   ·split<;>first|exact a4n _|rfl
   ·rfl
 | fieldAddr s x f=>show vb (a4g P H ev o s (ev x) f)=true;unfold a4g;split<;>first|exact or' _|rfl
 | field t x f=>show vb (a7o P H t (ev x) f)=true;unfold a7o;split<;>first|exact a4n _|rfl
 | indexAddr t x i=>show vb (a0u P H ev o t (ev x) (ev i))=true;unfold a0u;split<;>first|exact or' _|rfl
 | index t x i =>
  show vb (a6l P H ev o t (ev x) (ev i))=true;unfold a6l;split
  ·split<;>first|exact a4n _|rfl
  ·rfl
 | typeAssert x s t ok =>
  show vb (a6m P H ev o (ev x) t ok)=true;unfold a6m;split
  ·rfl
  ·split<;>first|exact a4n _|rfl
 | extract t i =>
  show vb (a5t H (ev t) i)=true;unfold a5t;split
  ·exact a4n _
  ·split<;>rfl
  ·rfl
 | _=>rw[hop] at h;cases h
theorem f1j (h:cls o.op=.read) : vb (opV P H ev o)=true:=by
 unfold opV;cases hop:o.op<;>rw[hop] at h<;>first|(simp[cls,freeOp] at h;done)|skip
 ·rename_i t x;show vb (a3f P H t (ev x))=true;unfold a3f;split<;>first|exact a4n _|rfl
 ·rename_i t m k ok;show vb (a2t P H ev o t (ev m) (ev k) ok)=true;unfold a2t;split<;>first|exact a4n _|rfl
 ·rename_i c;show vb (Cb P H ev o c)=true;unfold Cb;split
  ·rfl
  ·simp only[cls,freeOp] at h;split
   ·rename_i b hc;rw[hc] at h;unfold a3d;cases b<;>first|(cases h;done)|skip
    ·dsimp only;unfold a9h;split
     ·rfl
     ·split<;>rfl
    ·dsimp only;unfold a5q;split
     ·exact a4n _
     ·unfold a4r;split<;>first|rfl|skip;split<;>rfl
   all_goals grind
theorem f1k (h:cls o.op=.alloc) : vb (opV P H ev o)=true:=by
 unfold opV;rcases d0j h with⟨t,hop⟩|⟨t,x,hop⟩|⟨t,n,ps,hop⟩|⟨t,l,c,hop⟩|⟨t,r,hop⟩<;>rw[hop]
 ·show vb (a6j P H t)=true;unfold a6j;split<;>first|exact c0g _ _ _|rfl
 ·show vb (a4s H (ev x))=true;unfold a4s;split<;>first|exact c0g _ _ _|rfl
 ·show vb (a3e P H t n (Dc ev ps.toList))=true;unfold a3e;split
  ·split
   ·split<;>first|exact c0g _ _ _|rfl
   ·rfl
  ·rfl
 ·show vb (a2r P H t (ev l) (ev c))=true;unfold a2r;split
  ·split<;>first|exact c0g _ _ _|rfl
  ·rfl
 ·show vb (a3o P H ev t r)=true;unfold a3o;split
  ·rw[Mem.newK_eq];rfl
  ·split
   ·rw[Mem.newK_eq];rfl
   ·rfl
theorem f1l {s d:TypeId} {x:AV} (hs:b6m P s=true) (hd:b6m P d=true) : convert P H s d x=none:=by
 (simp_all[b6m,convert];grind)
theorem f1m (h:cls o.op=.gen) (hc:c0e P o=true) : opV P H ev o=.bad\/∃ v,opV P H ev o=.val v H/\Ba P ev o=some v:=by
 have opt:ofOpt H (Ba P ev o)=.bad\/∃ v,ofOpt H (Ba P ev o)=.val v H/\Ba P ev o=some v:=by
  cases hg:Ba P ev o with
  | none=>exact .inl rfl
  | some v=>exact .inr ⟨v,rfl,rfl⟩
 unfold opV;unfold c0e at hc;cases hop:o.op<;>rw[hop] at h hc<;>first|(simp[cls,freeOp] at h;done)|skip
 ·rename_i s d x;show a1p P H ev o s d (ev x)=.bad\/∃ v,a1p P H ev o s d (ev x)=.val v H/\_;unfold a1p;simp only[Dq] at hc
  cases hg:Ba P ev o with
  | some v=>grind
  | none =>
   grind[f1l]
 ·rename_i c;simp only[cls,freeOp] at h;show Cb P H ev o c=.bad\/∃ v,Cb P H ev o c=.val v H/\_;unfold Cb;split
  ·grind
  grind[a3d]
def acts:R->Bool
 | .dfr _ _ _ _=>false
 | .panic _ _=>false
 | .recover=>false
 | _=>true
theorem d2s (f:FuncId) (args:List AV) : acts (a6i P H f args)=true:=by unfold a6i;split<;>rfl
theorem f1n (h:cls o.op=.chain) : acts (opV P H ev o)=true:=by
 have upd:∀ (t:TypeId) (m k x:Option AV),acts (a4h P H t m k x)=true:=by
  intro t m k x;unfold a4h;split
  ·split<;>rfl
  ·rfl
 unfold opV;cases hop:o.op<;>rw[hop] at h<;>first|(simp[cls,freeOp] at h;done)|skip
 ·exact upd _ _ _ _
 ·rename_i t a x;show acts (a5r P H t (ev a) (ev x))=true;unfold a5r;split
  ·split<;>rfl
  ·rfl
 ·exact upd _ _ _ _
 ·rename_i c;simp only[cls,freeOp] at h;show acts (Cb P H ev o c)=true;unfold Cb;split
  ·rfl
  ·split
   ·rename_i b hcb;rw[hcb] at h;unfold a3d;cases b<;>first|(cases h;done)|skip
    ·dsimp only;unfold b5f;split
     ·split<;>rfl
     ·rfl
    ·dsimp only;unfold b8r;split
     ·split
      ·split<;>rfl
      ·rfl
     ·rfl
    ·dsimp only;unfold c2m;split
     ·split<;>rfl
     ·rfl
   ·unfold b8s;split
    ·split
     ·split
      ·grind[d2s]
      ·rfl
     ·rfl
    ·rfl
   ·unfold a9i;split<;>first|exact d2s _ _|rfl
theorem d2t (h1:cls o.op≠.chain) (h2:cls o.op≠.no) (h3:cls o.op≠.alloc) (hc:c0e P o=true) : opV P H ev o=.bad\/∃ v,opV P H ev o=.val v H/\quiet P H ev o=some v:=by
 cases hcl:cls o.op with
 | free =>
  have hf:freeOp o.op=true:=by
   cases hf:freeOp o.op with
   | true=>rfl
   | false =>
    (simp_all[cls];grind)
  have:=f1i (P:=P) (H:=H) (ev:=ev) hf
  cases hv:opV P H ev o with
  | val v H' =>
   obtain⟨rfl,_⟩:=c3g hf H v H' hv;exact .inr ⟨v,rfl,by grind[quiet]⟩
  | bad=>grind
  | _=>rw[hv] at this;cases this
 | read =>
  have:=f1j (P:=P) (H:=H) (ev:=ev) hcl
  cases hv:opV P H ev o with
  | val v H' =>
   have:=d0m hcl hv;subst this;exact .inr ⟨v,rfl,by grind[quiet]⟩
  | bad=>grind
  | _=>rw[hv] at this;cases this
 | gen =>
  grind[f1m,quiet]
 | chain=>grind
 | no=>grind
 | alloc=>grind
end Go.Ai
end
section
namespace Go.Ai
abbrev AlP:=List (Nat×Nat×Option Blk)
noncomputable def a1f (fr:Fr) (d:Option Tmp) : Option AV:=match d with|some d=>fr.get d|none=>none
noncomputable def a5f (P:Program) (W:WF) (ops:Array Oper) (fr:Fr) (H:Mem) : List Nat->Prop
 | []=>True
 | i :: l=>(match ops[i]? with
  | some o=>a0f P W ops o fr H (fun fr' _=>a1f fr' o.dst=a1f fr o.dst) (fun _=>False)
  | none=>False)/\a5f P W ops fr H l
noncomputable def a8e (H:Mem) (as:List Nat) : AlP->Prop
 | []=>True
 | (i,a,b) :: l=>(i∈as->H.get a=b)/\a8e H as l
noncomputable def Bx (P:Program) (W:WF) (ops:Array Oper) (Q:Out->Prop) : List It->Fr->Mem->AlP->Prop
 | [],fr,H,_=>Q (.norm fr H)
 | .run i :: l,fr,H,als=>match ops[i]? with
  | some o=>a0f P W ops o fr H (fun fr H=>Bx P W ops Q l fr H als) Q
  | none=>False
 | .mk i :: l,fr,H,als=>match ops[i]? with
  | some o=>a0f P W ops o fr H (fun fr H'=>Bx P W ops Q l fr H' ((i,H.next,H'.get H.next) :: als)) Q
  | none=>False
 | .gate hs as :: l,fr,H,als=>a5f P W ops fr H hs/\a8e H as als/\Bx P W ops Q l fr H als
noncomputable def a6a (Q:Out->Prop) : Out->Prop
 | .panic v fr H=>Q (.panic v fr.clear H)
 | r=>Q r
theorem Mem.get_add_same (H:Mem) (b:Blk) : (H.add b).get H.next=some b:=by
 obtain⟨t,n⟩:=H
 cases t with
 | tr t =>
  show a2c (u4 t n (.v n b)) n=some b;simp[a2c,c2u,b1i]
 | fn g=>exact if_pos rfl
variable {P:Program} {W:WF} {ops:Array Oper} {g:Nat→Option AV} {ds:List Dfr} {Q:Out→Prop} {S:Nat} {res:ResF} {H:Mem} {held:List Nat} {als:Als} {alsP:AlP} {i:Nat} {o:Oper}
structure PI (ops:Array Oper) (S:Nat) (res:ResF) : Prop where
 un:∀ j,S.testBit j=false->res j=none
 dn:∀ j,S.testBit j=true->∃ v,res j=some v
 down:∀ j k,S.testBit j=true->Aw (ancs [] ops.toList) j k=true->S.testBit k=true
noncomputable def Gs (ops:Array Oper) (g:Nat->Option AV) (S:Nat) (res:ResF) : Nat->Option AV:=fun t=>match a4i t ops.toList 0 with
 | some j=>(match S.testBit j with|true=>res j|false=>g t)
 | none=>g t
theorem c5a {i j:Nat} : (S ||| 2 ^ i).testBit j=(S.testBit j || decide (i=j)):=by grind
theorem PI.step (h:PI ops S res) (hi:S.testBit i=false) (ha:∀ j,Aw (ancs [] ops.toList) i j=true->S.testBit j=true) (v:AV) : PI ops (S ||| 2 ^ i) (Dj res i v):=by
 refine⟨fun j hj=>?_,fun j hj=>?_,fun j k hj hk=>?_⟩
 ·rw[c5a,Bool.or_eq_false_iff] at hj;have hne:¬j=i:=fun e=>of_decide_eq_false hj.2 e.symm;unfold Dj;rw[if_neg hne];exact h.un j hj.1
 ·unfold Dj;by_cases e:j=i
  ·simp_all
  ·rw[if_neg e];rw[c5a] at hj;have:¬i=j:=fun e'=>e e'.symm;simp[this] at hj;exact h.dn j hj
 ·rw[c5a] at hj |-;by_cases e:i=j
  ·grind
  ·simp[e] at hj;rw[h.down j k hj hk];rfl
theorem c5b (hfit:fit ops.toList ops.toList 0=true) (ho:ops[i]?=some o) {d:Tmp} (hd:o.dst=some d) : a4i d ops.toList 0=some i:=by
 have hone:=a9t hfit i o (Cs.2 ho);unfold a7p at hone;simp only[Dq] at hone;have h:=hone.1.1.1;rw[hd] at h;dsimp only at h;split at h
 all_goals simp_all
theorem b6p (hfit:fit ops.toList ops.toList 0=true) (ho:ops[i]?=some o) (v:AV) :
  (Fr.f (Gs ops g S res) ds).put o.dst v=.f (Gs ops g (S ||| 2 ^ i) (Dj res i v)) ds:=by
 have other:∀ t,o.dst≠some t->Gs ops g (S ||| 2 ^ i) (Dj res i v) t=Gs ops g S res t:=by
  intro t ht;unfold Gs;split
  ·rename_i j hj;obtain⟨_,oj,hoj,hdj⟩:=a9s hj
   (simp_all[Dj];grind)
  ·rfl
 cases hd:o.dst with
 | none =>
  show Fr.f (Gs ops g S res) ds=_;congr 1;grind
 | some d =>
  show Fr.f (a2u (Gs ops g S res) d v) ds=_;congr 1;funext t;unfold a2u;by_cases e:t=d
  ·subst e;rw[if_pos rfl];unfold Gs;rw[c5b hfit ho hd];grind[Dj]
  grind
theorem c5c {t:Tmp} (h:Operand.tmp t∈o.op.operands.toList) : t∈b3u o:=List.mem_filterMap.2 ⟨_,h,rfl⟩
theorem d2u (h:PI ops S res) (hi:S.testBit i=false) (ha:∀ j,Aw (ancs [] ops.toList) i j=true->S.testBit j=true)
  (hc:(b3u o).all (c4x (ancs [] ops.toList) ops.toList i)=true) : ∀ x∈o.op.operands.toList,(Fr.f (Gs ops g S res) ds).ev x=Ci ops (ancs [] ops.toList) (.f g ds) res i x:=by
 intro x hx
 cases x with
 | tmp t =>
  have hct:=Ec.1 hc t (c5c hx);show Gs ops g S res t=a4k ops (ancs [] ops.toList) (.f g ds) res i t;unfold c4x at hct;unfold Gs a4k;split at hct
  ·rename_i hw;rw[hw];rfl
  ·rename_i j hw;rw[hw];dsimp only
   cases hb:Aw (ancs [] ops.toList) i j with
   | true=>grind
   | false =>
    rw[hb,g5p] at hct;rw[hct];have:S.testBit j=false:=by
     cases hs:S.testBit j with
     | false=>rfl
     | true =>
      exfalso;rcases g5r _ _ ▸ hct with h1|h1
      ·rw[h.down j i hs h1] at hi;grind
      simp_all
    rw[this];rfl
 | const c=>rfl
 | global c=>rfl
 | func f=>rfl
theorem f1o (h:PI ops S res) (hi:S.testBit i=true)
  (hc:(b3u o).all (ahead (ancs [] ops.toList) ops.toList i)=true) : ∀ x∈o.op.operands.toList,(Fr.f (Gs ops g S res) ds).ev x=Ci ops (ancs [] ops.toList) (.f g ds) res i x:=by
 intro x hx
 cases x with
 | tmp t =>
  have hct:=Ec.1 hc t (c5c hx);show Gs ops g S res t=a4k ops (ancs [] ops.toList) (.f g ds) res i t;unfold ahead at hct;unfold Gs a4k;split at hct
  ·rename_i hw;rw[hw];rfl
  ·rename_i j hw;rw[hw];dsimp only;rw[hct,h.down i j hi hct]
 | const c=>rfl
 | global c=>rfl
 | func f=>rfl
theorem f1p (h:PI ops S res) (hi:S.testBit i=true) {k:Nat} (hk:S.testBit k=false) (v:AV) (fr:Fr) : Ci ops (ancs [] ops.toList) fr (Dj res k v) i=Ci ops (ancs [] ops.toList) fr res i:=by
 funext x
 cases x with
 | tmp t =>
  show a4k ops (ancs [] ops.toList) fr (Dj res k v) i t=a4k ops (ancs [] ops.toList) fr res i t;unfold a4k;split
  ·rfl
  ·rename_i j hw
   cases hb:Aw (ancs [] ops.toList) i j with
   | true =>
    dsimp only;unfold Dj;rw[if_neg];intro e;subst e;rw[h.down i j hi hb] at hk;grind
   | false=>rfl
 | const c=>rfl
 | global c=>rfl
 | func f=>rfl
theorem b6q {tab:List Nat} (h:Nat.beq ((tab.getD i 0) &&& S) (tab.getD i 0)=true) : ∀ j,Aw tab i j=true->S.testBit j=true:=by
 (simp_all[Aw];grind)
theorem c0h {tab:List Nat} {opl:List Oper} : ∀ {l:List Oper} {k:Nat},a8d P tab opl l k=true->∀ i o,l[i]?=some o->b6n P tab opl o (k+i)=true
 | [],_,_,i,o,h=>by grind
 | x :: l,k,h,i,o,ho=>by
  simp only[a8d,Dq] at h
  cases i with
  | zero=>grind
  | succ i =>
   have:=c0h h.2 i o (by grind);grind
theorem d2v {x:Option AV} {w:Bool} {A B yes no:Prop} (h:a2z x w A B) (h1:x=some (.lit (.bool w))->A->yes) (h2:B->no) : a2z x w yes no:=by
 (simp_all[a2z];grind)
theorem c5d (hfit:fit ops.toList ops.toList 0=true) (ho:ops[i]?=some o) {gd:Nat×Bool} (hg:o.guard=some gd) (hS:S.testBit gd.1=true) :
  a0w ops (.f (Gs ops g S res) ds) gd.1=res gd.1:=by
 have hone:=a9t hfit i o (Cs.2 ho);unfold a7p at hone;simp only[Dq] at hone;have h:=hone.2;rw[hg] at h;dsimp only at h;unfold a0w
 cases hj:ops[gd.1]? with
 | none =>
  grind
 | some oj =>
  have hj' : ops.toList[gd.1]?=some oj:=Cs.2 hj;rw[hj'] at h;dsimp only at h |-
  cases hd:oj.dst with
  | none=>grind
  | some d =>
   show Gs ops g S res d=res gd.1;unfold Gs;rw[c5b hfit hj hd];grind
end Go.Ai
end
section
namespace Go.Ai
variable {P:Program} {W:WF} {ops:Array Oper} {g:Nat→Option AV} {ds:List Dfr} {Q:Out→Prop} {S:Nat} {res:ResF} {H:Mem} {held:List Nat} {als:Als} {alsP:AlP} {i:Nat} {o:Oper} {s:Hs}
def Rq (P:Program) (ops:Array Oper) (g:Nat->Option AV) (ds:List Dfr) (H:Mem) (res:ResF) (i:Nat) : Prop :=
 ∃ o v,ops[i]?=some o/\res i=some v/\quiet P H (Ci ops (ancs [] ops.toList) (.f g ds) res i) o=some v
def Ran (ops:Array Oper) (res:ResF) (i:Nat) : Prop:=∃ o,ops[i]?=some o/\cls o.op=.read/\∀ gd,o.guard=some gd->res gd.1=some (.lit (.bool gd.2))
structure PS (P:Program) (ops:Array Oper) (g:Nat->Option AV) (ds:List Dfr) (s:Hs) (S:Nat) (res:ResF) (H:Mem) (held:List Nat) (als:Als) (alsP:AlP) : Prop where
 pi:PI ops S res
 hd:∀ i∈held,S.testBit i=true/\Ran ops res i/\(i∈s.di\/(i∈s.cl/\Rq P ops g ds H res i))
 al:∀ x∈als,(x.1,x.2.1,some x.2.2)∈alsP/\(x.1∈s.adi\/(x.1∈s.acl/\H.get x.2.1=some x.2.2))
theorem c5e {k:Nat} {v:AV} (h:res k=none) : GrF res (Dj res k v):=by
 intro j y hj
 (simp_all[Dj];grind)
theorem Ran.grow {res': ResF} (h:Ran ops res i) (hg:GrF res res') : Ran ops res' i:=by
 obtain⟨o,h1,h2,h3⟩:=h;exact⟨o,h1,h2,fun gd e=>hg _ _ (h3 gd e)⟩
theorem Rq.grow {k:Nat} {v:AV} (hp:PI ops S res) (hi:S.testBit i=true) (hk:S.testBit k=false) (h:Rq P ops g ds H res i) : Rq P ops g ds H (Dj res k v) i:=by
 obtain⟨o,y,h1,h2,h3⟩:=h;refine⟨o,y,h1,c5e (hp.un k hk) _ _ h2,?_⟩;grind[f1p]
theorem PS.step (h:PS P ops g ds s S res H held als alsP) (hi:S.testBit i=false) (ha:∀ j,Aw (ancs [] ops.toList) i j=true->S.testBit j=true) (v:AV) :
  PS P ops g ds s (S ||| 2 ^ i) (Dj res i v) H held als alsP :=
 ⟨h.pi.step hi ha v,fun j hj=>let ⟨a,b,c⟩:=h.hd j hj;⟨by grind,b.grow (c5e (h.pi.un i hi)),c.imp id fun⟨d,e⟩=>⟨d,e.grow h.pi a hi⟩⟩,h.al⟩
theorem PS.soil {H': Mem} {acl:List Nat} {cl:List Nat} (h:PS P ops g ds s S res H held als alsP) (p:Nat×Nat×Option Blk) : PS P ops g ds ⟨cl,s.cl++s.di,acl,s.acl++s.adi⟩ S res H' held als (p :: alsP) :=
 ⟨h.pi,fun j hj=>let ⟨a,b,c⟩:=h.hd j hj;⟨a,b,.inl (by grind)⟩,
  fun x hx=>let ⟨a,c⟩:=h.al x hx;⟨g4b _ a,.inl (by grind)⟩⟩
variable {KW:StW} {K:Hs→List It}
theorem a6z (hfit:fit ops.toList ops.toList 0=true) (hall:a8d P (ancs [] ops.toList) ops.toList ops.toList 0=true)
  (hK:∀ s S res H held als alsP,PS P ops g ds s S res H held als alsP->a1e (ancs [] ops.toList) ops.toList S (K s)=true->Bx P W ops Q (K s) (.f (Gs ops g S res) ds) H alsP->KW res H held als) :
  ∀ (L:List Nat) (s:Hs) (S:Nat) (res:ResF) (H:Mem) (held:List Nat) (als:Als) (alsP:AlP),(∀ i∈L,∃ o,ops[i]?=some o/\Cy o.op=false/\cls o.op≠.no) ->
   PS P ops g ds s S res H held als alsP->a1e (ancs [] ops.toList) ops.toList S (a8c ops.toList L s K)=true->Bx P W ops Q (a8c ops.toList L s K) (.f (Gs ops g S res) ds) H alsP ->
   b1w P ops (ancs [] ops.toList) (.f g ds) KW L res H held als
 | [],s,S,res,H,held,als,alsP,_,ps,ht,hp=>hK s S res H held als alsP ps ht hp
 | i :: L,s,S,res,H,held,als,alsP,hL,ps,ht,hp=>by
  obtain⟨o,ho,hch,hno⟩:=hL i (by simp);have hL' : ∀ j∈L,∃ o,ops[j]?=some o/\Cy o.op=false/\cls o.op≠.no:=fun j hj=>hL j (by grind);have hone:=c0h hall i o (Cs.2 ho);rw[g4w] at hone;unfold b6n at hone;simp only[Dq] at hone;obtain⟨⟨hcmp,hgd⟩,hcv⟩:=hone;have hnc:cls o.op≠.chain:=by grind[Cy]
  have step:∀ {k:Fr->Mem->Prop} {yes no:Prop},(∀ j,Aw (ancs [] ops.toList) i j=true->S.testBit j=true)->S.testBit i=false->a0f P W ops o (.f (Gs ops g S res) ds) H k Q ->
    ((∀ gd,o.guard=some gd->res gd.1=some (.lit (.bool gd.2)))->a3h W o (.f (Gs ops g S res) ds) k Q (opV P H (Ci ops (ancs [] ops.toList) (.f g ds) res i) o)->yes) ->
    (k (.f (Gs ops g (S ||| 2 ^ i) (Dj res i (.lit undef))) ds) H->no)->b1v (ancs [] ops.toList) res i o yes no:=by
   intro k yes no ha hi h h1 h2;have hev:=c0f (P:=P) (H:=H) (c4z hno) (d2u (g:=g) (ds:=ds) ps.pi hi ha hcmp);unfold a0f at h;unfold b1v;split at h
   all_goals grind[d2v,b6p,c5d]
  have quietCase:cls o.op≠.alloc->∀ {k:Fr->Mem->Prop},a3h W o (.f (Gs ops g S res) ds) k Q (opV P H (Ci ops (ancs [] ops.toList) (.f g ds) res i) o) ->
    ∃ v,quiet P H (Ci ops (ancs [] ops.toList) (.f g ds) res i) o=some v/\k (.f (Gs ops g (S ||| 2 ^ i) (Dj res i v)) ds) H:=by
   intro hna k h;rcases d2t (P:=P) (H:=H) (ev:=Ci ops (ancs [] ops.toList) (.f g ds) res i) hnc hno hna hcv with hb|⟨v,hv,hq⟩
   ·rw[hb] at h;exact h.elim
   ·rw[hv] at h;refine⟨v,hq,?_⟩;have h' : k ((Fr.f (Gs ops g S res) ds).put o.dst v) H:=h;grind[b6p]
  have ho' : ops.toList[i]?=some o:=Cs.2 ho;unfold b1w b9q;rw[ho];dsimp only;unfold a8c at ht hp;rw[ho'] at ht hp;dsimp only at ht hp
  cases hcl:cls o.op with
  | chain=>grind
  | no=>grind
  | alloc =>
   rw[hcl] at ht hp;simp only[a1e,Dq] at ht;obtain⟨⟨h1,h2⟩,ht⟩:=ht;have hi:S.testBit i=false:=by grind
   have ha:=b6q h2;unfold Bx at hp;rw[ho] at hp;dsimp only at hp |-;refine step ha hi hp ?_ ?_
   ·intro hgr h;have hvb:=f1k (P:=P) (H:=H) (ev:=Ci ops (ancs [] ops.toList) (.f g ds) res i) hcl
    cases hv:opV P H (Ci ops (ancs [] ops.toList) (.f g ds) res i) o with
    | val v H' =>
     rw[hv] at h;obtain⟨f,x,e1,e2,_⟩:=c3h (B:=0) hcl hv;have h' : Bx P W ops Q (a8c ops.toList L ⟨[],s.cl++s.di,[i],s.acl++s.adi⟩ K) ((Fr.f (Gs ops g S res) ds).put o.dst v) H' ((i,H.next,H'.get H.next) :: alsP):=h;rw[b6p hfit ho] at h';have hget:H'.get H.next=some x:=by grind[Mem.get_add_same]
     unfold c3y;dsimp only;rw[hget];refine⟨ps.pi.un i hi,?_⟩;refine a6z hfit hall hK L _ _ _ _ _ _ _ hL' ?_ ht h';have p1:=(ps.step hi ha v).soil (H':=H') (acl:=[i]) (cl:=[]) (i,H.next,H'.get H.next);refine⟨p1.pi,p1.hd,fun y hy=>?_⟩;rcases Dv.1 hy with rfl|hy
     ·grind
     ·exact p1.al y hy
    | bad=>rw[hv] at h;assumption
    | _=>rw[hv] at hvb;cases hvb
   ·intro h;refine⟨ps.pi.un i hi,?_⟩;exact a6z hfit hall hK L _ _ _ _ _ _ _ hL' ((ps.step hi ha _).soil _) ht h
  | read =>
   rw[hcl] at ht hp;simp only[a1e,Dq] at ht;obtain⟨⟨h1,h2⟩,ht⟩:=ht;have hi:S.testBit i=false:=by grind
   have ha:=b6q h2;unfold Bx at hp;rw[ho] at hp;dsimp only at hp |-;refine step ha hi hp ?_ ?_
   ·intro hgr h;obtain⟨v,hq,h'⟩:=quietCase (by grind) h;unfold b0a;rw[hq];refine⟨ps.pi.un i hi,?_⟩;refine a6z hfit hall hK L _ _ _ _ _ _ _ hL' ?_ ht h';have p1:=ps.step hi ha v;refine⟨p1.pi,fun j hj=>?_,p1.al⟩;rcases Dv.1 hj with rfl|hj
    ·refine⟨by grind,⟨o,ho,hcl,fun gd e=>c5e (ps.pi.un _ hi) _ _ (hgr gd e)⟩,.inr ⟨by simp,o,v,ho,if_pos rfl,?_⟩⟩;have:Ci ops (ancs [] ops.toList) (.f g ds) (Dj res j v) j=Ci ops (ancs [] ops.toList) (.f g ds) res j:=by
      funext x
      cases x with
      | tmp t =>
       show a4k ops (ancs [] ops.toList) (.f g ds) (Dj res j v) j t=a4k ops (ancs [] ops.toList) (.f g ds) res j t;unfold a4k;split
       ·rfl
       (simp_all[Dj];grind)
      | const c=>rfl
      | global c=>rfl
      | func f=>rfl
     grind
    ·obtain⟨a,b,c⟩:=p1.hd j hj;grind
   ·intro h;refine⟨ps.pi.un i hi,?_⟩;refine a6z hfit hall hK L _ _ _ _ _ _ _ hL' ?_ ht h;have p1:=ps.step hi ha (.lit undef);exact⟨p1.pi,fun j hj=>let ⟨a,b,c⟩:=p1.hd j hj;⟨a,b,c.imp id fun⟨d,e⟩=>⟨by grind,e⟩⟩,p1.al⟩
  | free =>
   rw[hcl] at ht hp;simp only[a1e,Dq] at ht;obtain⟨⟨h1,h2⟩,ht⟩:=ht;have hi:S.testBit i=false:=by grind
   have ha:=b6q h2;unfold Bx at hp;rw[ho] at hp;dsimp only at hp |-;refine step ha hi hp ?_ ?_
   ·intro hgr h;obtain⟨v,hq,h'⟩:=quietCase (by grind) h;unfold b0a;rw[hq];exact⟨ps.pi.un i hi,a6z hfit hall hK L _ _ _ _ _ _ _ hL' (ps.step hi ha v) ht h'⟩
   ·intro h;exact⟨ps.pi.un i hi,a6z hfit hall hK L _ _ _ _ _ _ _ hL' (ps.step hi ha _) ht h⟩
  | gen =>
   rw[hcl] at ht hp;simp only[a1e,Dq] at ht;obtain⟨⟨h1,h2⟩,ht⟩:=ht;have hi:S.testBit i=false:=by grind
   have ha:=b6q h2;unfold Bx at hp;rw[ho] at hp;dsimp only at hp |-;refine step ha hi hp ?_ ?_
   ·intro hgr h;obtain⟨v,hq,h'⟩:=quietCase (by grind) h;unfold b0a;rw[hq];exact⟨ps.pi.un i hi,a6z hfit hall hK L _ _ _ _ _ _ _ hL' (ps.step hi ha v) ht h'⟩
   ·intro h;exact⟨ps.pi.un i hi,a6z hfit hall hK L _ _ _ _ _ _ _ hL' (ps.step hi ha _) ht h⟩
end Go.Ai
end

