/- Parts of an interpreter and of a proof. No condition. -/
import Derived.Test.YtpimmmnkcgnjjaaGreatK03
import Derived.Test.YtpimmmnkcgnjjaaGreatK01
set_option linter.all false
open Go.RowKit (Below)
namespace Go.Ai
section
variable {B G:Nat}{P:Program}{n n0:Nat}{ρ0 ρ:Rn}{w0 w:World}{fr:Fr}{H:Mem}{a:Act}{W:WF}{Q:Out→Prop}
theorem b0e(hW:WOK G P W)(hG:G=P.globals.size):∀(c:Code)(fr:Fr)(H:Mem)(Q:Out->Prop),Aw n c=true->Jh P W (LX G P n) c fr H Q->XW G P n c fr H Q:=by
 intro c
 induction c with
 | skip=>intro fr H Q _ h B n0 ρ0 w0 ρ a w s;exact wp_skip ⟨_,h,ρ,s⟩
 | region id ops a5 =>
  intro fr H Q A h B n0 ρ0 w0 ρ a w s
  cases a5 with
  | false=>exact wp_region_list (T7 hW hG ops.toList fr H ρ a w (λo D=>W7.1 A o D) s h)
  | true=>exact b0d hW hG s A h
 | seq x y a0 a1 =>
  intro fr H Q A h B n0 ρ0 w0 ρ a w s;simp only[Aw,W0] at A;refine wp_seq (Code.wp_mono ?_ (a0 fr H _ A.1 h B n0 ρ0 w0 ρ a w s));rintro e a' w' ⟨a3,U,D⟩
  cases a3 with
  | norm Z H' =>
   cases e with
   | normal=>obtain⟨ρ',s'⟩:=D;exact a1 Z H' Q A.2 U B n0 ρ0 w0 ρ' a' w' s'
   | _=>exact D.elim
  | exit id Z H'=>cases e<;>first|exact D.elim|exact⟨_,U,D⟩
  | ret Z H'=>cases e<;>first|exact D.elim|exact⟨_,U,D⟩
  | panic v Z H'=>cases e<;>first|exact D.elim|exact⟨_,U,D⟩
  | bad=>exact U.elim
 | cond a6 x y a0 a1 =>
  intro fr H Q A h B n0 ρ0 w0 ρ a w s;simp only[Aw,W0] at A;have h' : Gm (fr.ev a6) (Jh P W (LX G P n) x fr H Q) (Jh P W (LX G P n) y fr H Q):=h;unfold Gm at h';split at h'
  .rename_i b a7;have:=s.ev _ _ a7
   cases b with
   | true=>exact wp_cond_true this (a0 fr H Q A.1 (h'.1 rfl) B n0 ρ0 w0 ρ a w s)
   | false=>exact wp_cond_false this (a1 fr H Q A.2 (h'.2 rfl) B n0 ρ0 w0 ρ a w s)
  grind
 | block id b ih =>
  intro fr H Q A h B n0 ρ0 w0 ρ a w s;refine wp_block (Code.wp_mono ?_ (ih fr H _ A h B n0 ρ0 w0 ρ a w s));rintro e a' w' ⟨a3,U,D⟩
  cases a3 with
  | norm Z H'=>cases e<;>first|exact D.elim|exact⟨_,U,D⟩
  | exit a8 Z H' =>
   cases e with
   | exit a4 =>
    obtain⟨rfl,ρ',s'⟩:=D;have a2:if a4=id then Q (.norm Z H') else Q (.exit a4 Z H'):=U;by_cases e:a4=id
    .subst e;rw[if_pos rfl] at a2;simp only[Exit.inBlock,if_true];exact⟨_,a2,ρ',s'⟩
    .rw[if_neg e] at a2;simp only[Exit.inBlock,e,if_false];exact⟨_,a2,rfl,ρ',s'⟩
   | _=>exact D.elim
  | ret Z H'=>cases e<;>first|exact D.elim|exact⟨_,U,D⟩
  | panic v Z H'=>cases e<;>first|exact D.elim|exact⟨_,U,D⟩
  | bad=>exact U.elim
 | loop b ih =>
  intro fr H Q A h B n0 ρ0 w0 ρ a w s;exact(h B n0 ρ0 w0 ρ a w s).wp
 | rangeFunc f ps x y a0 a1=>intro fr H Q A h;exact h.elim
 | exit id=>intro fr H Q A h B n0 ρ0 w0 ρ a w s;exact wp_exit ⟨_,h,rfl,ρ,s⟩
 | scope b ih=>intro fr H Q A h;exact h.elim
 | label l=>intro fr H Q A h B n0 ρ0 w0 ρ a w s;exact wp_label ⟨_,h,ρ,s⟩
 | goto l=>intro fr H Q A h;exact h.elim
 | ret=>intro fr H Q A h B n0 ρ0 w0 ρ a w s;exact wp_ret ⟨_,h,ρ,s⟩
 | refuse a9=>intro fr H Q A h;exact h.elim
theorem LX.round(U:WOK G P W)(hG:G=P.globals.size){b:Code}(Z:Aw n b=true)(h:Jh P W (LX G P n) b fr H (Gl (λfr H=>LX G P n b fr H Q) Q)):LX G P n b fr H Q:=by
 intro B n0 ρ0 w0 ρ a w s;refine Yx (Code.wp_mono ?_ (b0e U hG b fr H _ Z h B n0 ρ0 w0 ρ a w s));rintro e a' w' ⟨a0,A,f⟩
 cases a0 with
 | norm D H' =>
  cases e with
  | normal=>obtain⟨ρ',s'⟩:=f;exact A B n0 ρ0 w0 ρ' a' w' s'
  | _=>exact f.elim
 | exit id D H'=>cases e<;>first|exact f.elim|exact⟨_,A,f⟩
 | ret D H'=>cases e<;>first|exact f.elim|exact⟨_,A,f⟩
 | panic v D H'=>cases e<;>first|exact f.elim|exact⟨_,A,f⟩
 | bad=>exact A.elim
noncomputable def G2(P:Program)(O:CallF)(fn:Func)(K:Ay->Prop):Out->Prop
 | .norm fr H=>match Co P O (λ_ _ _=>.bad) fn fr fr.defers .returning H with|.bad=>False|r=>K r
 | .ret fr H=>match Co P O (λ_ _ _=>.bad) fn fr fr.defers .returning H with|.bad=>False|r=>K r
 | .panic v fr H=>match Co P O (λ_ _ _=>.bad) fn fr fr.defers (.panicking v) H with|.bad=>False|r=>K r
 | _=>False
noncomputable def argsF:List AV->Nat->(Nat->Option AV)->Nat->Option AV
 | [],_,g=>g
 | v::l,i,g=>argsF l (i+1) (E9 g i v)
noncomputable def Hf(args:List AV):Fr:=.f (argsF args 0 (λ_=>none)) []
theorem argsF_get:∀(l:List AV)(i:Nat)(g:Nat->Option AV)(t:Nat)(v:AV),argsF l i g t=some v->(i<=t/\l[t-i]?=some v)\/g t=some v
 | [],i,g,t,v,h=>.inr h
 | x::l,i,g,t,v,h=>by
  rcases argsF_get l (i+1) (E9 g i x) t v h with⟨f,A⟩|f
  .left;refine⟨by omega,?_⟩;rw[show t-i=(t-(i+1))+1 by omega];simpa using A
  .unfold E9 at f;by_cases e:t=i
   .rw[if_pos e] at f;cases f;left;subst e;simp
   .rw[if_neg e] at f;exact .inr f
theorem Ub{args:List AV}{us:Array Value}(f:VRs ρ args us.toList)(U:args.length<=n):
  Dj n ρ (Hf args) { tmps:=us++Array.replicate (n-us.size) undef,defers:=[] }:=by
 have Z:us.size=args.length:=by have:=f.length;grind
 have A:∀t v,(Hf args).get t=some v->args[t]?=some v:=by
  intro t v h;rcases argsF_get args 0 _ t v h with⟨_,D⟩|D
  all_goals grind
 refine⟨?_,rfl,by grind,?_⟩
 .intro t v h _;obtain⟨u,hu,a0⟩:=f.get t (A t v h)
  (simp_all;grind)
 grind
theorem b0f(B G:Nat)(P:Program):Ij B G P (λ_ _ _=>.bad):=λ_ _ _ _ _ _ _ _ _ _ _ _ f=>absurd rfl f
theorem Uc{fn:Func}{tmps:Array Value}{R Z:Ending->World->Prop}(h:∀e w,R e w->Z e w):∀{ds:List Deferred}{u:FrameMode}{w:World},Leaves P fn tmps R ds u w->Leaves P fn tmps Z ds u w
 | [],.returning,w,⟨v,A,D⟩=>⟨v,A,h _ _ D⟩
 | [],.panicking a0,w,A=>h _ _ A
 | [],.run,w,A=>A.elim
 | d::ds,u,w,⟨A,fv,a1,f,args,D,h3,h4⟩=>⟨A,fv,a1,f,args,D,h3,h4.mono λe u' w' U=>by
   cases e with
   | returned v=>exact Uc h U
   | panicked a0=>exact Uc h U
   | outgrown=>exact h _ _ U⟩
theorem WC.enter{f:FuncId}{fn:Func}{c:Code}{args:List AV}{K:Ay->Prop}{O:CallF}(hG:G=P.globals.size)(hO:∀B,A4 B G P O)(hW:WOK G P W)(hf:P.funcs[f]?=some fn)(hb:fn.body=some c)
  (hd:Aw fn.ntmps c=true) (hl:args.length<=fn.ntmps) (h:Jh P W (LX G P fn.ntmps) c (Hf args) H (G2 P O fn K)):WC G P f args H K:=by
 intro B ρ us w s hv;have s1:St B G fn.ntmps H.next ρ w ρ (Hf args) H { tmps:=us++Array.replicate (fn.ntmps-us.size) undef,defers:=[] } w:=⟨X6 _ _ _ _,s,Ub hv hl,Wy _⟩;refine calls_of_wp_defers hf hb (Code.wp_mono ?_ (b0e hW hG c _ H _ hd h B H.next ρ w ρ _ w s1));rintro e U w' ⟨a0,Z,D⟩;have fin:∀{A:Fr}{u:Mode}{H' : Mem}{ρ' : Rn}{m:FrameMode},(match Co P O (λ_ _ _=>.bad) fn A A.defers u H' with|.bad=>False|r=>K r)->St B G fn.ntmps H.next ρ w ρ' A H' U w'->MR ρ' u m ->
   Leaves P fn U.tmps (λe w'=>∃r,K r/\Jd B G H.next ρ w r e w') U.defers m w':=by
  intro A u H' ρ' m hm s' a1;have key:∀r,Co P O (λ_ _ _=>.bad) fn A A.defers u H'=r->r≠.bad->K r->Leaves P fn U.tmps (λe w'=>∃r,K r/\Jd B G H.next ρ w r e w') U.defers m w':=by
   intro r hr a2 hk;refine Uc (λe w' hc=>⟨r,hk,hc⟩) ?_;exact Lx (hO B) (b0f B G P) hG a2 _ _ u H' ρ' m w' s'.frel.dfr s' a1 hr
  grind
 cases a0 with
 | norm A H' =>
  cases e with
  | normal=>obtain⟨ρ',s'⟩:=D;exact fin (u:=.returning) (m:=.returning) Z s' rfl
  | _=>exact D.elim
 | ret A H' =>
  cases e with
  | ret=>obtain⟨ρ',s'⟩:=D;exact fin (u:=.returning) (m:=.returning) Z s' rfl
  | _=>exact D.elim
 | panic v A H' =>
  cases e with
  | panic a3=>obtain⟨ρ',x,rfl,hx,s'⟩:=D;exact fin (u:=.panicking v) Z s' ⟨x,rfl,hx⟩
  | _=>exact D.elim
 | exit id A H'=>exact Z.elim
 | bad=>exact Z.elim
end
section
variable {P:Program}{W:WF}{L:LF}{Q:Out→Prop}{fr:Fr}{H:Mem}
/- What simp looks into: the state,not the code. -/
variable {tk a id j n:Nat}{k:Fr→Mem→Prop}{x y:Prop}{g:Nat→Option AV}{K:Ay→Prop}{d:Option Tmp}{ds:List Dfr}{ops:Array Oper}{t:TypeId}{af:Array Edge}{l:List Oper}{O:CallF}{f:FuncId}{args:List AV}
def tick:Nat:=0
def tock:Nat:=0
theorem tick_tock:tick=tock:=by rfl
attribute [simp] tick_tock
theorem c3r(A:tick=tk){ops:Array Oper}{l:List Oper}{fr h:Fr}{H H' : Mem}(D:fr=h)(U:H=H'):Fw P W ops Q l fr H=Fw P W ops Q l h H':=by grind
theorem c3s(A:tick=tk){ops:Array Oper}{o:Oper}{k:Fr->Mem->Prop}{fr h:Fr}{H H' : Mem}(D:fr=h)(U:H=H'):C6 P W ops o fr H k Q=C6 P W ops o h H' k Q:=by grind
theorem c3t(D:tick=tk){o:Oper}{k:Fr->Mem->Prop}{fr h:Fr}{r A:R}(U:fr=h)(Z:r=A):Fv W o fr k Q r=Fv W o h k Q A:=by grind
theorem c3u(A:tick=tk){ev:Ev}{o:Oper}{H H' : Mem}(h:H=H'):opV P H ev o=opV P H' ev o:=by rw[h]
theorem c3v(D:tick=tk){ev:Ev}{o:Oper}{op:BinOp}{t:TypeId}{x h y A:Option AV}{H H' : Mem}(U:H=H')(Z:x=h)(h3:y=A):Bc P H ev o op t x y=Bc P H' ev o op t h A:=by grind
theorem c3w(D:tick=tk){x A:Option AV}{a b:Prop}(h:x=A):Gm x a b=Gm A a b:=by rw[h]
theorem c3x(D:tick=tk){x A:Option AV}{g:Bool}{a b:Prop}(h:x=A):Fg x g a b=Fg A g a b:=by rw[h]
theorem c3y(D:tick=tk){k:Fr->Mem->Prop}{o A:Out}(h:o=A):Gl k Q o=Gl k Q A:=by rw[h]
theorem c3z(D:tick=tk){id:Nat}{o A:Out}(h:o=A):Jg id Q o=Jg id Q A:=by rw[h]
theorem c4a(D:tick=tk){ops:Array Oper}{j:Nat}{fr A:Fr}(h:fr=A):Dp ops fr j=Dp ops A j:=by rw[h]
theorem c4b(D:tick=tk){fr A:Fr}{x:Operand}(h:fr=A):fr.ev x=A.ev x:=by rw[h]
attribute [congr] c3r c3s c3t c3u c3v c3w c3x c3y c3z c4a c4b
theorem c4c:Gl k Q (.norm fr H)=k fr H:=(rfl)
theorem c4d:Gl k Q (.exit id fr H)=Q (.exit id fr H):=(rfl)
theorem c4e:Gl k Q (.ret fr H)=Q (.ret fr H):=(rfl)
theorem c4f:Jg id Q (.norm fr H)=Q (.norm fr H):=(rfl)
theorem c4g:Jg id Q (.ret fr H)=Q (.ret fr H):=(rfl)
theorem c4h{h:Nat}:Jg id Q (.exit h fr H)=if h=id then Q (.norm fr H) else Q (.exit h fr H):=(rfl)
def Q0(p:Prop)(x y:Prop):Prop:=(p->x)/\(¬p->y)
theorem c4i(D:tick=tk){p A x y:Prop}(h:p=A):Q0 p x y=Q0 A x y:=by rw[h]
attribute [congr] c4i
theorem Ab{p:Prop}(h:p->x)(A:¬p->y):Q0 p x y:=⟨h,A⟩
def Ew(b:Bool)(x y:Prop):Prop:=(b=true->x)/\(b=false->y)
theorem c4j(D:tick=tk){b A:Bool}{x y:Prop}(h:b=A):Ew b x y=Ew A x y:=by rw[h]
attribute [congr] c4j
theorem a1s:Ew true x y=x:=by simp[Ew]
theorem a1t:Ew false x y=y:=by simp[Ew]
theorem c4k{b:Bool}:Ew (!b) x y=Ew b y x:=by grind[Ew]
theorem c4l{p:Prop}[Decidable p]{x y:Prop}:Ew (decide p) x y=Q0 p x y:=by grind[Q0,Ew]
theorem Ac{b:Bool}(h:b=true->x)(A:b=false->y):Ew b x y:=⟨h,A⟩
attribute [simp] a1s a1t c4k c4l
inductive Tg where
 | b
 | o
def Oy(v:AV):Tg:=match v with|.lit (.bool _)=>.b|_=>.o
theorem c4m{b:Bool}:Oy (.lit (.bool b))=.b:=(rfl)
noncomputable def Kj(d:Option Tmp)(k:Fr->Mem->Prop)(fr:Fr)(v:AV)(_:Tg)(H:Mem):Prop:=k (fr.put d v) H
theorem c4n(U:tick=tk){d:Option Tmp}{k:Fr->Mem->Prop}{fr h:Fr}{v A:AV}{t D:Tg}{H H' : Mem}(Z:fr=h)(h2:v=A)(h3:t=D)(h4:H=H'):Kj d k fr v t H=Kj d k h A D H':=by grind
attribute [congr] c4n
theorem c4o{b:Bool}:Kj d k fr (.lit (.bool b)) .b H=Ew b (k (fr.put d (.lit (.bool true))) H) (k (fr.put d (.lit (.bool false))) H):=by
 cases b<;>simp[Ew,Kj]
theorem c4p{v:AV}:Kj d k fr v (Oy v) H=k (fr.put d v) H:=by rfl
attribute [simp] c4m c4o c4p
theorem c4q{b:Bool}:Gm (some (.lit (.bool b))) x y=Ew b x y:=by rfl
theorem c4r{b g:Bool}:Fg (some (.lit (.bool b))) g x y=Ew b (if g then x else y) (if g then y else x):=by grind[Ew,Fg]
theorem c4s{g:Bool}:Fg (some (.lit undef)) g x y=y:=(rfl)
theorem c4t{o:Oper}{v:AV}:Fv W o fr k Q (.val v H)=Kj o.dst k fr v (Oy v) H:=(rfl)
theorem c4u{o:Oper}:Fv W o fr k Q (.enter f args H)=W f args H (λr=>match r with
  | .ret v H=>Kj o.dst k fr v (Oy v) H
  | .panic v H=>Q (.panic v fr H)
  | .bad=>False):=(rfl)
theorem c4v{o:Oper}:Fv W o fr k Q (.skip H)=k (fr.put o.dst (.lit undef)) H:=(rfl)
attribute [simp] c4t
attribute [simp] c4c c4d c4e c4f c4g c4h c4q c4r c4s c4u c4v
theorem c4w:Fw P W ops Q [] fr H=Q (.norm fr H):=(rfl)
theorem c4x{op:Op}{p:String}{g:Option (Nat×Bool)}:
  Fw P W ops Q (⟨d,op,t,p,af,g⟩::l) fr H=C6 P W ops ⟨d,op,t,p,af,g⟩ fr H (Fw P W ops Q l) Q:=(rfl)
theorem c4y{op:Op}{p:String}:
  C6 P W ops ⟨d,op,t,p,af,none⟩ fr H k Q=Fv W ⟨d,op,t,p,af,none⟩ fr k Q (opV P H fr.ev ⟨d,op,t,p,af,none⟩):=(rfl)
theorem c4z{op:Op}{p:String}{g:Nat×Bool}:
  C6 P W ops ⟨d,op,t,p,af,some g⟩ fr H k Q=Fg (Dp ops fr g.1) g.2 (Fv W ⟨d,op,t,p,af,some g⟩ fr k Q (opV P H fr.ev ⟨d,op,t,p,af,some g⟩)) (k (fr.put d (.lit undef)) H):=(rfl)
noncomputable def Q1(fr:Fr)(x:Option Nat):Option AV:=match x with|some d=>fr.get d|none=>none
theorem c5a{d:Tmp}{v:AV}:(Fr.f g ds).put (some d) v=.f (E9 g d v) ds:=(rfl)
theorem c5b{v:AV}:fr.put none v=fr:=(rfl)
theorem c5c{t:Nat}:(Fr.f g ds).get t=g t:=(rfl)
theorem c5d{t:Nat}:(Fr.f g ds).ev (.tmp t)=g t:=(rfl)
theorem c5e{v:Value}:fr.ev (.const v)=some (.lit v):=by cases fr<;>rfl
theorem c5f{g:Nat}:fr.ev (.global g)=some (.lit (.pointer (some ⟨g,0,none⟩))):=by rfl
theorem c5g{f:Nat}:fr.ev (.func f)=some (.lit (.func (.func f) #[] #[])):=by rfl
theorem b0g:(Fr.f g ds).defers=ds:=(rfl)
theorem c5h{d t:Nat}{v:AV}:E9 g d v t=if t=d then some v else g t:=(rfl)
section
variable {ev:Ev}{d:Option Tmp}{ty:TypeId}{p:String}{af:Array Edge}{g:Option (Nat×Bool)}
theorem c5i{x:Operand}:opV P H ev ⟨d,.move x,ty,p,af,g⟩=Ed H (ev x):=(rfl)
theorem c5j{x:Operand}:opV P H ev ⟨d,.assign x,ty,p,af,g⟩=Ed H (ev x):=(rfl)
theorem c5k{c a b:Operand}:opV P H ev ⟨d,.pick c a b,ty,p,af,g⟩=Gx H (ev c) (ev a) (ev b):=(rfl)
theorem c5l{o:BinOp}{t f:TypeId}{x y:Operand}:opV P H ev ⟨d,.binOp o t x y f,ty,p,af,g⟩=Bc P H ev ⟨d,.binOp o t x y f,ty,p,af,g⟩ o t (ev x) (ev y):=(rfl)
end
def slotAt:List Oper->Nat->Option Nat
 | [],_=>none
 | o::_,0=>o.dst
 | _::l,j+1=>slotAt l j
theorem c5m{op:Op}{p:String}{g:Option (Nat×Bool)}:slotAt (⟨d,op,t,p,af,g⟩::l) 0=d:=(rfl)
theorem c5n{o:Oper}:slotAt (o::l) (j+1)=slotAt l j:=(rfl)
attribute [simp] c5m c5n
theorem slotAt_eq:∀(l:List Oper)(j:Nat),slotAt l j=(l[j]?).bind (·.dst)
 | [],j=>by rfl
 | o::_,0=>rfl
 | _::l,j+1=>by simpa[slotAt] using slotAt_eq l j
theorem c5o:Dp l.toArray fr j=Q1 fr (slotAt l j):=by
 grind[Q1,Dp,slotAt_eq]
theorem c5p{d:Nat}:Q1 fr (some d)=fr.get d:=(rfl)
theorem c5q(D:tick=tk){fr h:Fr}{x A:Option Nat}(U:fr=h)(Z:x=A):Q1 fr x=Q1 h A:=by grind
attribute [congr] c5q
attribute [simp] c5o c5p
theorem c5r{v:AV}:Ed H (some v)=.val v H:=(rfl)
theorem c5s{a b c:Bool}:Gx H (some (.lit (.bool c))) (some (.lit (.bool a))) (some (.lit (.bool b)))=.val (.lit (.bool (if c then a else b))) H:=by cases c<;>rfl
theorem c5t{a b:Option AV}:Gx H (some (.lit (.bool true))) a b=ofOpt H a:=(rfl)
theorem c5u{a b:Option AV}:Gx H (some (.lit (.bool false))) a b=ofOpt H b:=(rfl)
theorem c5v{v:AV}:ofOpt H (some v)=.val v H:=(rfl)
section
variable {ev:Ev}{o:Oper}{t:TypeId}{a b:Int}{k:IntKind}
theorem G3{op:BinOp}{x y:AV}{v:AV}(h:B4 op x y=some v):Bc P H ev o op t (some x) (some y)=.val v H:=by
 grind[Qb,Bc]
theorem b0h(a b:Int):iEq a b=decide (a=b):=by grind[a0p]
theorem Ud(a b:Int):iLt a b=decide (a<b):=Qq a b
theorem a1u(f:kEq k k=true):B4 .eql (.lit (.int k a)) (.lit (.int k b))=some (.lit (.bool (decide (a=b)))):=by grind[Nb,b0h,B4]
theorem a1v(f:kEq k k=true):B4 .neq (.lit (.int k a)) (.lit (.int k b))=some (.lit (.bool (!decide (a=b)))):=by grind[Nb,b0h,B4]
theorem a1w(f:kEq k k=true):B4 .lss (.lit (.int k a)) (.lit (.int k b))=some (.lit (.bool (decide (a<b)))):=by grind[Nb,Ud,B4]
theorem a1x(f:kEq k k=true):B4 .leq (.lit (.int k a)) (.lit (.int k b))=some (.lit (.bool (decide (a<=b)))):=by grind[Nb,Ud,B4]
theorem a1y(f:kEq k k=true):B4 .gtr (.lit (.int k a)) (.lit (.int k b))=some (.lit (.bool (decide (b<a)))):=by grind[Nb,Ud,B4]
theorem a1z(f:kEq k k=true):B4 .geq (.lit (.int k a)) (.lit (.int k b))=some (.lit (.bool (decide (b<=a)))):=by grind[Nb,Ud,B4]
end
section
variable {ev:Ev}{o:Oper}{t:TypeId}{a b:Int}
theorem oBin_eql8:Bc P H ev o .eql t (some (.lit (.int .u8 a))) (some (.lit (.int .u8 b)))=.val (.lit (.bool (decide (a=b)))) H:=G3 (a1u rfl)
theorem oBin_neq8:Bc P H ev o .neq t (some (.lit (.int .u8 a))) (some (.lit (.int .u8 b)))=.val (.lit (.bool (!decide (a=b)))) H:=G3 (a1v rfl)
theorem oBin_lss8:Bc P H ev o .lss t (some (.lit (.int .u8 a))) (some (.lit (.int .u8 b)))=.val (.lit (.bool (decide (a<b)))) H:=G3 (a1w rfl)
theorem oBin_leq8:Bc P H ev o .leq t (some (.lit (.int .u8 a))) (some (.lit (.int .u8 b)))=.val (.lit (.bool (decide (a<=b)))) H:=G3 (a1x rfl)
theorem oBin_gtr8:Bc P H ev o .gtr t (some (.lit (.int .u8 a))) (some (.lit (.int .u8 b)))=.val (.lit (.bool (decide (b<a)))) H:=G3 (a1y rfl)
theorem oBin_geq8:Bc P H ev o .geq t (some (.lit (.int .u8 a))) (some (.lit (.int .u8 b)))=.val (.lit (.bool (decide (b<=a)))) H:=G3 (a1z rfl)
theorem oBin_eql64:Bc P H ev o .eql t (some (.li a)) (some (.li b))=.val (.lit (.bool (decide (a=b)))) H:=G3 (a1u rfl)
theorem oBin_neq64:Bc P H ev o .neq t (some (.li a)) (some (.li b))=.val (.lit (.bool (!decide (a=b)))) H:=G3 (a1v rfl)
theorem oBin_lss64:Bc P H ev o .lss t (some (.li a)) (some (.li b))=.val (.lit (.bool (decide (a<b)))) H:=G3 (a1w rfl)
theorem oBin_leq64:Bc P H ev o .leq t (some (.li a)) (some (.li b))=.val (.lit (.bool (decide (a<=b)))) H:=G3 (a1x rfl)
theorem oBin_gtr64:Bc P H ev o .gtr t (some (.li a)) (some (.li b))=.val (.lit (.bool (decide (b<a)))) H:=G3 (a1y rfl)
theorem oBin_geq64:Bc P H ev o .geq t (some (.li a)) (some (.li b))=.val (.lit (.bool (decide (b<=a)))) H:=G3 (a1z rfl)
end
attribute [simp] c4w c4x c4y c4z
 c5a c5b c5c c5d c5e c5f c5g b0g c5h c5i c5j c5k c5r c5s c5t c5u c5v
 oBin_eql8 oBin_neq8 oBin_lss8 oBin_leq8 oBin_gtr8 oBin_geq8 oBin_eql64 oBin_neq64 oBin_lss64 oBin_leq64 oBin_gtr64 oBin_geq64
def Hg(x:Option AV)(K:AV->Prop):Prop:=match x with|some v=>K v|none=>False
noncomputable def Hi(P:Program)(rs:List ResultVar)(K:Ay->Prop)(fr:Fr)(H:Mem):Prop:=match Kc P fr H rs with
 | some [v]=>K (.ret v H)
 | some vs=>K (.ret (.tup vs) H)
 | none=>False
theorem c5w(U:tick=tk){h A:List ResultVar}{K:Ay->Prop}{fr D:Fr}{H H' : Mem}(Z:h=A)(h1:fr=D)(h2:H=H'):Hi P h K fr H=Hi P A K D H':=by grind
attribute [congr] c5w
theorem c5x(D:tick=tk){O:CallF}{fn:Func}{K:Ay->Prop}{o A:Out}(h:o=A):G2 P O fn K o=G2 P O fn K A:=by rw[h]
attribute [congr] c5x
theorem c5y{L:LoopF}{fn:Func}:Co P O L fn fr [] .returning H=(match Fa P fn fr H with|some v=>.ret v H|none=>.bad):=by rfl
theorem b0i{fn:Func}:G2 P O fn K (.ret (.f g []) H)=Hi P fn.results.toList K (.f g []) H:=by
 show (match Co P O (λ_ _ _=>.bad) fn (.f g []) [] .returning H with|.bad=>False|r=>K r)=_;grind[c5y,Hi,Fa]
theorem c5z{fn:Func}:G2 P O fn K (.norm (.f g []) H)=Hi P fn.results.toList K (.f g []) H:=b0i
theorem c6a{t:Tmp}:I9 P fr H (.tmp t)=fr.get t:=(rfl)
theorem c6b{r:ResultVar}:Hi P [r] K fr H=Hg (I9 P fr H r) (λv=>K (.ret v H)):=by
 grind[Hg,Hi,Kc]
theorem c6c:Hi P [] K fr H=K (.ret (.tup []) H):=(rfl)
theorem c6d{h A:ResultVar}:Hi P [h,A] K fr H=Hg (I9 P fr H h) (λD=>Hg (I9 P fr H A) λU=>K (.ret (.tup [D,U]) H)):=by
 (simp_all[Hg,Hi,Kc];grind)
theorem c6e{h A D:ResultVar}:Hi P [h,A,D] K fr H=Hg (I9 P fr H h) (λU=>Hg (I9 P fr H A) λZ=>Hg (I9 P fr H D) λv3=>K (.ret (.tup [U,Z,v3]) H)):=by
 unfold Hi Hg;grind[Kc]
theorem c6f{v:AV}{K:AV->Prop}:Hg (some v) K=K v:=(rfl)
theorem c6g(D:tick=tk){x A:Option AV}{K:AV->Prop}(h:x=A):Hg x K=Hg A K:=by rw[h]
attribute [congr] c6g
theorem c6h:Hf args=.f (argsF args 0 (λ_=>none)) []:=(rfl)
theorem c6i{i:Nat}:argsF [] i g=g:=(rfl)
theorem c6j{i:Nat}{v:AV}{l:List AV}:argsF (v::l) i g=argsF l (i+1) (E9 g i v):=(rfl)
attribute [simp] b0i c5z c6c c6b c6d c6e c6f c6a c6h c6i c6j
def orK(r:Ay)(K:Ay->Prop)(x:Prop):Prop:=match r with|.bad=>x|r=>K r
theorem c6k:orW O W f args H K=orK (O f args H) K (W f args H K):=by
 rfl
theorem c6l(A:tick=tk){O:CallF}{f:FuncId}{args h:List AV}{H H' : Mem}{K:Ay->Prop}(D:args=h)(U:H=H'):orW O W f args H K=orW O W f h H' K:=by grind
attribute [congr] c6l
theorem c6m(D:tick=tk){r A:Ay}{K:Ay->Prop}{x:Prop}(h:r=A):orK r K x=orK A K x:=by rw[h]
theorem c6n:orK .bad K x=x:=(rfl)
attribute [congr] c6m
attribute [simp] c6k c6n
section
variable {ev:Ev}{d:Option Tmp}{ty:TypeId}{p:String}{af:Array Edge}{g:Option (Nat×Bool)}
variable {x:Operand}{args:List AV}{f:FuncId}{o:Oper}
noncomputable def a2a(P:Program)(H:Mem)(ev:Ev)(args:Option (List AV))(f:Operand):R:=match args with
 | some args=>La P H args (ev f)
 | none=>.bad
theorem c6o{f:Operand}{args:Array Operand}{h:Array TypeId}:opV P H ev ⟨d,.call ⟨.value f,args,h⟩,ty,p,af,g⟩=a2a P H ev (Be ev args.toList) f:=by
 show Bj P H ev ⟨d,.call ⟨.value f,args,h⟩,ty,p,af,g⟩ ⟨.value f,args,h⟩=_;grind[a2a,Bj]
theorem evals_nil:Be ev []=some []:=(rfl)
noncomputable def a2b(a:Option AV)(l:Option (List AV)):Option (List AV):=match a,l with|some v,some vs=>some (v::vs)|_,_=>none
theorem c6p{l:List Operand}:Be ev (x::l)=a2b (ev x) (Be ev l):=by
 grind[Be,a2b]
theorem c6q{v:AV}{vs:List AV}:a2b (some v) (some vs)=some (v::vs):=(rfl)
theorem c6r{f:Operand}:a2a P H ev (some args) f=La P H args (ev f):=(rfl)
theorem c6s:La P H args (some (.lit (.func (.func f) #[] #[])))=I3 P H f args:=by simp[La]
theorem c6t{a c:List AV}:La P H args (some (.func (.func f) a c))=I3 P H f (a++args++c):=(rfl)
theorem c6u:I3 P H f args=if Ao P f=true then .enter f args H else .bad:=(rfl)
attribute [simp] c6o evals_nil c6p c6q c6r c6s c6t c6u
noncomputable def unS(P:Program)(H:Mem)(ev:Ev)(o:Oper)(op:UnOp)(x:Option AV):R:=match op,x with
 | .not,some (.lit (.bool b))=>.val (.lit (.bool (!b))) H
 | _,_=>ofOpt H (A3 P ev o)
theorem Ue{u r:Value}(h:o.op.operands=#[x])(hx:ev x=some (.lit u))
  (A:∀ρ:Operand->Value,ρ x=u->Ap P (execOp ρ o)=some (.value r)):A3 P ev o=some (.lit r):=by
 simp_all[A3,toLit]
theorem L3{y:Operand}{u u' r:Value}(h:o.op.operands=#[x,y])(hx:ev x=some (.lit u))(hy:ev y=some (.lit u'))
  (A:∀ρ:Operand->Value,ρ x=u->ρ y=u'->Ap P (execOp ρ o)=some (.value r)):A3 P ev o=some (.lit r):=by
 simp_all[A3,toLit]
theorem c6v{op:UnOp}{t:TypeId}:opV P H ev ⟨d,.unOp op t x,ty,p,af,g⟩=unS P H ev ⟨d,.unOp op t x,ty,p,af,g⟩ op (ev x):=by
 show ofOpt H (A3 P ev _)=_;unfold unS;split
 .rename_i b hx;rw[Ue (r:=.bool (!b)) rfl (by omega) λρ h=>by simp[execOp,h,Op.unary];rfl];rfl
 .rfl
theorem c6w{b:Bool}:unS P H ev o .not (some (.lit (.bool b)))=.val (.lit (.bool (!b))) H:=(rfl)
attribute [simp] c6v c6w
end
theorem c6x(A:tick=tk){G n:Nat}{b:Code}{fr h:Fr}{H H' : Mem}(D:fr=h)(U:H=H'):LX G P n b fr H Q=LX G P n b h H' Q:=by grind
theorem c6y(A:tick=tk){G:Nat}{f:FuncId}{args h:List AV}{H H' : Mem}{K:Ay->Prop}(D:args=h)(U:H=H'):WC G P f args H K=WC G P f h H' K:=by grind
attribute [congr] c6x c6y
structure Aa (p:Prop):Prop where
 out:p
abbrev Xr:=@Aa.mk
theorem LX.ind{G:Nat}{b:Code}(I:Nat->(Nat->Option AV)->Mem->Prop){m0:Nat}{A:Nat->Option AV}{H0:Mem}(h0:I m0 A H0)
  (D:∀m g H,I m g H->Aa (∀h g' H',h < m->I h g' H'->LX G P n b (.f g' ds) H' Q)->LX G P n b (.f g ds) H Q):LX G P n b (.f A ds) H0 Q:=by
 have:∀m g H,I m g H->LX G P n b (.f g ds) H Q:=by
  intro m
  induction m using Nat.strongRecOn with
  | _ m U=>exact λg H hi=>D m g H hi ⟨λh g' H' Z hi'=>U h Z g' H' hi'⟩
 grind
abbrev Xv:=@LX.ind
/-! ### Oracles -/
def noO:CallF:=λ_ _ _=>.bad
theorem c6z{a:List AV}:noO f a H=.bad:=(rfl)
attribute [simp] c6z
theorem Ag(G:Nat)(P:Program):∀B,A4 B G P noO:=λ_ _ _ _ h=>absurd rfl h
/-! ### Memory as a function -/
theorem c7a{g:Gb}:(Mem.mk (.fn g) n).get a=g a:=(rfl)
theorem c7b{g:Gb}{b:Blk}:(Mem.mk (.fn g) n).add b=⟨.fn (Ak g n (some b)),n+1⟩:=(rfl)
theorem c7c{g:Gb}{b:Blk}:(Mem.mk (.fn g) n).upd a b=⟨.fn (Ak g a (some b)),n⟩:=(rfl)
theorem c7d{g:Gb}{x:Option Blk}:Ak g a x a=x:=(if_pos rfl)
theorem Ad{g:Gb}{x:Option Blk}(h:j<a):Ak g a x j=g j:=if_neg (by omega)
theorem Jj{g:Gb}{x:Option Blk}(h:a<j):Ak g a x j=g j:=if_neg (by omega)
theorem c7e{g:Gb}{x y:Option Blk}:Ak (Ak g a x) a y=Ak g a y:=by
 grind[Ak]
attribute [simp] c7a c7b c7c c7d Ad Jj c7e
section
variable {ev:Ev}{d:Option Tmp}{ty:TypeId}{p:String}{af:Array Edge}{g:Option (Nat×Bool)}
/-! ### Operations on two values -/
variable {t rt e:TypeId}{o:Oper}{x y:Operand}{c:Call}{n k:Nat}
theorem b0j(a b:ByteArray):(a.toList==b.toList)=decide (a=b):=by
 by_cases h:a=b
 .grind
 .have:a.toList≠b.toList:=λe=>h (by
   cases a;simp_all[ByteArray.toList_eq])
  grind
def Fh(op:BinOp)(k:IntKind)(a b:Int):Option AV:=match op with
 | .add=>some (.lit (.int k (k.wrap (a+b))))
 | .sub=>some (.lit (.int k (k.wrap (a-b))))
 | .mul=>some (.lit (.int k (k.wrap (a*b))))
 | .quo=>if b=0 then none else some (.lit (.int k (k.wrap (a.tdiv b))))
 | .rem=>if b=0 then none else some (.lit (.int k (a.tmod b)))
 | .eql=>some (.lit (.bool (decide (a=b))))
 | .neq=>some (.lit (.bool (!decide (a=b))))
 | .lss=>some (.lit (.bool (decide (a<b))))
 | .leq=>some (.lit (.bool (decide (a<=b))))
 | .gtr=>some (.lit (.bool (decide (b<a))))
 | .geq=>some (.lit (.bool (decide (b<=a))))
 | _=>none
noncomputable def Fx(P:Program)(H:Mem)(ev:Ev)(o:Oper)(op:BinOp)(t:TypeId)(x y:Option AV):R:=match op,x,y with
 | .eql,some (.lit (.string a)),some (.lit (.string b))=>.val (.lit (.bool (decide (a=b)))) H
 | .neq,some (.lit (.string a)),some (.lit (.string b))=>.val (.lit (.bool (!decide (a=b)))) H
 | .add,some (.lit (.string a)),some (.lit (.string b))=>if a.size+b.size<=9223372036854775807 then .val (.lit (.string (a++b))) H else Bc P H ev o op t x y
 | op,some (.lit (.int k a)),some (.lit (.int k' b))=>if k=k' then (match Fh op k a b with|some v=>.val v H|none=>Bc P H ev o op t (some (.lit (.int k a))) (some (.lit (.int k' b)))) else Bc P H ev o op t (some (.lit (.int k a))) (some (.lit (.int k' b)))
 | op,x,y=>Bc P H ev o op t x y
theorem Ni{op:BinOp}{x y:AV}{v:AV}(f:B4 op x y=none)(h:A3 P ev o=some v):Bc P H ev o op t (some x) (some y)=.val v H:=by
 grind[Qb,Bc]
theorem Bi{f D:Type}{m:Sem f}{k:f->Sem D}{a:f}:Ap P m=some a->Ap P (m >>= k)=Ap P (k a):=by
 induction m with
 | pure b=>intro h;cases h;rfl
 | program k' A=>intro h;exact A _ h
 | mark m k' A=>assumption
 | choose q k' A =>
  intro h;simp only[Ap] at h;split at h
  .rename_i U;show Ap P (Sem.choose q λn=>k' n >>= k)=_;simp_all[Ap]
  grind
 | _=>intro h;grind[Ap]
theorem Nj{ρ:Operand->Value}{op:BinOp}{u u' r:Value}(hx:ρ x=u)(hy:ρ y=u')(f:Ap P (eqGuard op t x y u u')=some ())(h:Ap P (binOp op t u u')=some r):
  Ap P (execOp ρ ⟨d,.binOp op t x y rt,ty,p,af,g⟩)=some (.value r):=by
 simp only[execOp,hx,hy];rw[Bi (a:=r)]
 .rfl
 grind[Bi]
theorem Oz{op:BinOp}{x y:AV}{v:AV}(f:∀u,B4 op x y=some u->u=v)(h:B4 op x y=none->A3 P ev o=some v):Bc P H ev o op t (some x) (some y)=.val v H:=by
 cases A:B4 op x y with
 | none=>grind[Ni]
 | some u=>grind[G3]
theorem c7f{op:BinOp}{k:IntKind}{a b:Int}{v:AV}(hx:ev x=some (.lit (.int k a)))(hy:ev y=some (.lit (.int k b)))(h:Fh op k a b=some v):
  Bc P H ev ⟨d,.binOp op t x y rt,ty,p,af,g⟩ op t (some (.lit (.int k a))) (some (.lit (.int k b)))=.val v H:=by
 have Z:∀u:Value,Ap P (binOp op t (.int k a) (.int k b))=some u->A3 P ev ⟨d,.binOp op t x y rt,ty,p,af,g⟩=some (.lit u):=λu D =>
  L3 rfl hx hy λρ h1 h2=>Nj h1 h2 (by unfold eqGuard;cases op<;>rfl) D
 have a0:∀n:Int,∀u,(match kEq k k with|true=>M0 n (M4 k)|false=>none)=some u->u=.lit (.int k (k.wrap n)):=by
  grind[a7x,a7k]
 have A:∀(a1:String)(f:Sem Value),(binOp op t (.int k a) (.int k b)=if k≠k then stuck a1 else f)->binOp op t (.int k a) (.int k b)=f:=λa1 f hf=>by grind
 have U:∀(c:Bool),(∀u,B4 op (.lit (.int k a)) (.lit (.int k b))=some u->u=.lit (.bool c))->Ap P (binOp op t (.int k a) (.int k b))=some (.bool c)->some (AV.lit (.bool c))=some v ->
   Bc P H ev ⟨d,.binOp op t x y rt,ty,p,af,g⟩ op t (some (.lit (.int k a))) (some (.lit (.int k b)))=.val v H:=by
  grind[Oz]
 have kd:kEq k k=true\/kEq k k=false:=by grind
 cases op<;>first|(cases h;done)|skip
 case add=>cases h;exact Oz (a0 _) λ_=>Z _ (by rw[A _ _ rfl];rfl)
 case sub=>cases h;exact Oz (a0 _) λ_=>Z _ (by rw[A _ _ rfl];rfl)
 case mul=>cases h;exact Oz (a0 _) λ_=>Z _ (by rw[A _ _ rfl];rfl)
 case quo =>
  simp only[Fh] at h;split at h
  .cases h
  .rename_i hb;cases h;exact Oz (λu D=>by grind[B4]) λ_=>Z _ (by rw[A _ _ rfl];show Ap P (Op.intDiv .quo k a b)=_;unfold Op.intDiv;rw[if_neg hb];rfl)
 case rem =>
  simp only[Fh] at h;split at h
  .cases h
  .rename_i hb;cases h;exact Oz (λu D=>by grind[B4]) λ_=>Z _ (by rw[A _ _ rfl];show Ap P (Op.intDiv .rem k a b)=_;unfold Op.intDiv;rw[if_neg hb];rfl)
 case eql=>exact U _ (λu D=>by grind[a1u,B4]) (by rw[A _ _ rfl];rfl) h
 case neq=>exact U _ (λu D=>by grind[a1v,B4]) (by rw[A _ _ rfl];rfl) h
 case lss=>exact U _ (λu D=>by grind[a1w,B4]) (by rw[A _ _ rfl];rfl) h
 case leq=>exact U _ (λu D=>by grind[a1x,B4]) (by rw[A _ _ rfl];rfl) h
 case gtr=>exact U _ (λu D=>by grind[a1y,B4]) (by rw[A _ _ rfl];rfl) h
 case geq=>exact U _ (λu D=>by grind[a1z,B4]) (by rw[A _ _ rfl];rfl) h
theorem c7g{op:BinOp}:opV P H ev ⟨d,.binOp op t x y rt,ty,p,af,g⟩=Fx P H ev ⟨d,.binOp op t x y rt,ty,p,af,g⟩ op t (ev x) (ev y):=by
 rw[c5l];unfold Fx;split
 .rename_i a b hx hy;rw[hx,hy,Ni rfl];refine L3 (r:=.bool (decide (a=b))) rfl hx hy λρ f h=>Nj f h rfl ?_;show some (Value.bool (a.toList==b.toList))=_;rw[b0j]
 .rename_i a b hx hy;rw[hx,hy,Ni rfl];refine L3 (r:=.bool (!decide (a=b))) rfl hx hy λρ f h=>Nj f h rfl ?_;show some (Value.bool (!(a.toList==b.toList)))=_;rw[b0j]
 .rename_i a b hx hy;split
  .rename_i A;rw[hx,hy,Ni rfl];refine L3 (r:=.string (a++b)) rfl hx hy λρ f h=>Nj f h rfl ?_;have:¬ (((a.size+b.size:Nat):Int) > IntKind.i64.max):=by
    have:IntKind.i64.max=9223372036854775807:=by decide
    omega
   show Ap P (if ((a.size+b.size:Nat):Int) > IntKind.i64.max then _ else _)=_;rw[if_neg this];rfl
  rfl
 all_goals grind[c7f]
noncomputable def a2c(P:Program)(H:Mem)(ev:Ev)(o:Oper)(op:BinOp)(t:TypeId)(k:IntKind)(a b:Int)(r:Option AV):R:=match r with|some v=>.val v H|none=>Bc P H ev o op t (some (.lit (.int k a))) (some (.lit (.int k b)))
theorem c7h{A:Nat}(D:tick=A){o:Oper}{op:BinOp}{t:TypeId}{x f y h:Option AV}{H H' : Mem}(U:H=H')(Z:x=f)(h3:y=h):Fx P H ev o op t x y=Fx P H' ev o op t f h:=by grind
attribute [congr] c7h
section
variable {o:Oper}{t:TypeId}{a b:Int}{k k' : IntKind}{s s' : ByteArray}{op:BinOp}
theorem binS_intR:Fx P H ev o op t (some (.lit (.int k a))) (some (.lit (.int k b)))=a2c P H ev o op t k a b (Fh op k a b):=by
 simp[a2c,Fx]
theorem c7i{v:AV}:a2c P H ev o op t k a b (some v)=.val v H:=(rfl)
theorem intR_add:Fh .add k a b=some (.lit (.int k (k.wrap (a+b)))):=(rfl)
theorem intR_sub:Fh .sub k a b=some (.lit (.int k (k.wrap (a-b)))):=(rfl)
theorem intR_mul:Fh .mul k a b=some (.lit (.int k (k.wrap (a*b)))):=(rfl)
theorem c7j(h:¬b=0):Fh .quo k a b=some (.lit (.int k (k.wrap (a.tdiv b)))):=if_neg h
theorem c7k(h:¬b=0):Fh .rem k a b=some (.lit (.int k (a.tmod b))):=if_neg h
theorem intR_eql:Fh .eql k a b=some (.lit (.bool (decide (a=b)))):=(rfl)
theorem intR_neq:Fh .neq k a b=some (.lit (.bool (!decide (a=b)))):=(rfl)
theorem intR_lss:Fh .lss k a b=some (.lit (.bool (decide (a<b)))):=(rfl)
theorem intR_leq:Fh .leq k a b=some (.lit (.bool (decide (a<=b)))):=(rfl)
theorem intR_gtr:Fh .gtr k a b=some (.lit (.bool (decide (b<a)))):=(rfl)
theorem intR_geq:Fh .geq k a b=some (.lit (.bool (decide (b<=a)))):=(rfl)
theorem c7l(f:-9223372036854775808<=a)(h:a<=9223372036854775807):IntKind.i64.wrap a=a:=Na ⟨f,h⟩
end
attribute [simp] c7g binS_intR c7i intR_add intR_sub intR_mul c7j c7k intR_eql intR_neq intR_lss intR_leq intR_gtr intR_geq c7l
/-! ### Calls of len; an element of a string -/
noncomputable def Jk(P:Program)(H:Mem)(ev:Ev)(o:Oper)(c:Call)(d:Option TypeDesc)(args:Option (List AV)):R:=match args,d with
 | some [.sl _ _ n _],some (.slice _)=>.val (.li n) H
 | some [.slq _ _ n _],some (.slice _)=>.val (.li n) H
 | some [.es],some (.slice _)=>.val (.li 0) H
 | some [.lit (.string s)],some .string=>.val (.li s.size) H
 | some [.lit (.slice none n _)],some (.slice _)=>.val (.li n) H
 | some args,_=>H9 P H ev o c args
 | none,_=>.bad
theorem c7m:opV P H ev ⟨d,.call ⟨.builtin .len,#[x],#[t]⟩,ty,p,af,g⟩=Jk P H ev ⟨d,.call ⟨.builtin .len,#[x],#[t]⟩,ty,p,af,g⟩ ⟨.builtin .len,#[x],#[t]⟩ (P.underlying t) (Be ev [x]):=by
 show Bj P H ev ⟨d,.call ⟨.builtin .len,#[x],#[t]⟩,ty,p,af,g⟩ ⟨.builtin .len,#[x],#[t]⟩=_;have e:((⟨.builtin .len,#[x],#[t]⟩:Call).argTypes[0]?).bind P.underlying=P.underlying t:=(rfl);have key:∀args r,Be ev [x]=some args->r≠.bad->G9 P H ⟨.builtin .len,#[x],#[t]⟩ args=r->Bj P H ev ⟨d,.call ⟨.builtin .len,#[x],#[t]⟩,ty,p,af,g⟩ ⟨.builtin .len,#[x],#[t]⟩=r:=by
  intro args r f a0 h;unfold Bj;rw[show (#[x]:Array Operand).toList=[x] from rfl,f];dsimp only;unfold E7 H9;grind
 unfold Jk;split
 .rename_i f h;exact key _ _ f (by simp) (by unfold G9;rw[e,h];rfl)
 .rename_i f h;exact key _ _ f (by simp) (by unfold G9;rw[e,h];rfl)
 .rename_i f h;exact key _ _ f (by simp) (by unfold G9;rw[e,h];rfl)
 .rename_i f h;exact key _ _ f (by simp) (by unfold G9;rw[e,h];rfl)
 .rename_i n c A f h;have hx:ev x=some (.lit (.slice none n c)):=by
   grind[Be]
  have hg:A3 P ev ⟨d,.call ⟨.builtin .len,#[x],#[t]⟩,ty,p,af,g⟩=some (.li n):=by
   refine Ue (u:=.slice none n c) (r:=.int .i64 n) (by rfl) hx λρ D=>?_;rw[Jc (b:=.len) (c:=⟨.builtin .len,#[x],#[t]⟩) rfl rfl];have U:(#[x]:Array Operand).map ρ=#[ρ x]:=by simp
   have Z:Ap P (Builtin.len_ #[t] ty #[ρ x])=some (goInt n):=by
    rw[D];refine(Bi (m:=underlying t) (a:=TypeDesc.slice A) (by unfold underlying;show Ap P (match P.underlying t with|some d=>pure d|none=>stuck "no such type")=_;rw[h];rfl)).trans ?_;rfl
   show Ap P (builtin .len #[t] ty _ ((#[x]:Array Operand).map ρ))=_;rw[U];show Ap P (do pure (Next.value (<- Builtin.len_ #[t] ty #[ρ x])))=_;exact(Bi Z).trans rfl
  unfold Bj;rw[show (#[x]:Array Operand).toList=[x] from rfl,f];simp_all[H9,E7,G9]
 .rename_i f _ _ _ _ _;unfold Bj;rw[show (#[x]:Array Operand).toList=[x] from rfl];simp only[*];rfl
 .rename_i f;unfold Bj;grind
theorem c7n{A:Nat}(D:tick=A){o:Oper}{c:Call}{d f:Option TypeDesc}{a h:Option (List AV)}{H H' : Mem}(U:H=H')(Z:d=f)(h3:a=h):Jk P H ev o c d a=Jk P H' ev o c f h:=by grind
attribute [congr] c7n
theorem c7o{a off:Nat}:Jk P H ev o c (some (.slice e)) (some [.sl a off n k])=.val (.li n) H:=(rfl)
theorem c7p{a off:Nat}:Jk P H ev o c (some (.slice e)) (some [.slq a off n k])=.val (.li n) H:=(rfl)
theorem c7q:Jk P H ev o c (some (.slice e)) (some [.lit (.slice none n k)])=.val (.li n) H:=(rfl)
attribute [simp] c7q c7m c7o c7p
theorem Hj{f:TypeDesc}(h:P.underlying t=some f):Ap P (underlying t)=some f:=by
 unfold underlying;show Ap P (match P.underlying t with|some d=>pure d|none=>stuck "no such type")=_;rw[h];rfl
end
section
variable {ev:Ev}{d:Option Tmp}{ty:TypeId}{p:String}{af:Array Edge}{g:Option (Nat×Bool)}
variable {a off n c tk sz z:Nat}{t:TypeId}{l:List AV}{k:IntKind}{o:Oper}{i:Int}{x:Operand}
theorem c7r(h:tick=tk){x f:Option AV}{H H' : Mem}(A:H=H')(D:x=f):ofOpt H x=ofOpt H' f:=by grind
attribute [congr] c7r
/-! ### load -/
theorem c7s{a:Operand}:opV P H ev ⟨d,.load t a,ty,p,af,g⟩=Fs P H t (ev a):=(rfl)
theorem c7t(h:tick=tk){t:TypeId}{x f:Option AV}{H H' : Mem}(A:H=H')(D:x=f):Fs P H t x=Fs P H' t f:=by grind
theorem c7u:Fs P H t (some (.ptr a off))=ofOpt H (Bf (Ch P t) (H.get a) off):=(rfl)
theorem b0k{own:Bool}{s:Nat}:Bf (some (false,s)) (some (.cells l own z)) off=l[off]?:=Le l off
theorem b0l{own:Bool}{s:Nat}(h:off+s<=l.length):Bf (some (true,s)) (some (.cells l own z)) off=some (.agg ((l.drop off).take s)):=by
 show K5 l s off none (λl=>some (AV.agg l))=_;rw[Ja,if_pos h]
attribute [congr] c7t
attribute [simp] c7s c7u b0k b0l
/-! ### store -/
def Gn(l:List AV)(off:Nat)(new:List AV):List AV:=l.take off++new++l.drop (off+new.length)
theorem c7v{a:Operand}:opV P H ev ⟨d,.store t a x,ty,p,af,g⟩=Ia P H t (ev a) (ev x):=(rfl)
theorem c7w(A:tick=tk){t:TypeId}{x f y h:Option AV}{H H' : Mem}(D:H=H')(U:x=f)(Z:y=h):Ia P H t x y=Ia P H' t f h:=by grind
noncomputable def stS(k:Option (Bool×Nat))(b:Option Blk)(H:Mem)(a off:Nat)(new:List AV):R:=match b,k with
 | some (.cells l true z),some (_,size)=>if new.length=size/\allOne new=true/\off+new.length<=l.length then .skip (H.upd a (.cells (Gn l off new) true z)) else .bad
 | _,_=>.bad
theorem c7x{v:AV}:Ia P H t (some (.ptr a off)) (some v)=stS (Ch P t) (H.get a) H a off (cellsOf v):=by
 show (match store P H t (.ptr a off) v with|some H=>R.skip H|none=>.bad)=_
 have key:store P H t (.ptr a off) v=(match H.get a,Ch P t with
  | some (.cells l true z),some (_,size)=>match Nat.beq (len (cellsOf v)) size&&allOne (cellsOf v) with
   | true=>K6 none l off (cellsOf v) λl=>H.setK a (.cells l true z) some
   | false=>none
  | _,_=>none):=rfl
 rw[key];unfold stS;rcases H.get a with _|b
 .rfl
 .cases b with
  | map es c=>rfl
  | siter s' D=>rfl
  | typ _ _ _=>rfl
  | cells l own z =>
   cases own with
   | false=>rfl
   | true =>
    rcases Ch P t with _|⟨U,size⟩
    .rfl
    .dsimp only
     cases f:Nat.beq (len (cellsOf v)) size&&allOne (cellsOf v) with
     | false =>
      simp_all[C3]
     | true =>
      dsimp only;rw[W0] at f;have h:=Xd f.1;rw[C3] at h;rw[Lh];by_cases A:off+(cellsOf v).length<=l.length
      .rw[if_pos A,if_pos ⟨h,f.2,A⟩,X8];rfl
      grind
theorem c7y(A:tick=tk){k k' : Option (Bool×Nat)}{b f:Option Blk}{a off h:Nat}{n n' : List AV}{H H' : Mem}(D:k=k')(U:b=f)(Z:H=H')(h4:off=h)(h5:n=n'):stS k b H a off n=stS k' f H' a h n':=by grind
theorem Uf{f:Bool}{size:Nat}{new:List AV}(h:new.length=size)(A:allOne new=true)(D:off+new.length<=l.length):
  stS (some (f,size)) (some (.cells l true z)) H a off new=.skip (H.upd a (.cells (Gn l off new) true z)):=if_pos ⟨h,A,D⟩
theorem c7z{new:List AV}:Gn l off new=l.take off++new++l.drop (off+new.length):=(rfl)
theorem c8a{n:Int}:cellsOf (.lit (.int k n))=[.lit (.int k n)]:=(rfl)
theorem c8b{a:Option Addr}:cellsOf (.lit (.slice a n c))=[.lit (.slice a n c)]:=(rfl)
theorem c8c{o:Nat}:cellsOf (.sl a o n c)=[.sl a o n c]:=(rfl)
theorem c8d{o:Nat}:cellsOf (.slq a o n c)=[.slq a o n c]:=(rfl)
theorem c8e:cellsOf (.agg l)=l:=(rfl)
theorem c8f:cellsOf (.map a)=[.map a]:=(rfl)
theorem allOne_nil:allOne []=true:=(rfl)
theorem Fi{v:AV}:allOne (v::l)=(oneC v&&allOne l):=by grind[allOne]
theorem c8g{n:Int}:oneC (.lit (.int k n))=true:=(rfl)
theorem c8h{n:Bool}:oneC (.lit (.bool n))=true:=(rfl)
theorem c8i{n:ByteArray}:oneC (.lit (.string n))=true:=(rfl)
theorem c8j{n:Option Addr}:oneC (.lit (.pointer n))=true:=(rfl)
theorem c8k{a:Option Addr}:oneC (.lit (.slice a n c))=true:=(rfl)
theorem oneC_nilFunc:oneC (.lit .nilFunc)=true:=(rfl)
theorem c8l{f:Fn}{a b:Array Value}:oneC (.lit (.func f a b))=true:=(rfl)
theorem c8m{f:Fn}{a b:List AV}:oneC (.func f a b)=true:=(rfl)
theorem c8n{o:Nat}:oneC (.ptr a o)=true:=(rfl)
theorem c8o{o:Nat}:oneC (.sl a o n c)=true:=(rfl)
theorem c8p{o:Nat}:oneC (.slq a o n c)=true:=(rfl)
theorem oneC_es:oneC .es=true:=(rfl)
theorem c8q:oneC (.map a)=true:=(rfl)
theorem c8r{v:AV}:oneC (.iface t v)=true:=(rfl)
attribute [congr] c7w c7y
attribute [simp] c7v c7x Uf c7z c8a c8b c8c c8d c8e c8f allOne_nil Fi
 c8g c8h c8i c8j c8k oneC_nilFunc c8l c8m c8n c8o c8p oneC_es c8q c8r
/-! ### new blocks -/
theorem c8s:opV P H ev ⟨d,.alloc t,ty,p,af,g⟩=I4 P H t:=(rfl)
noncomputable def a2d(z:Option (List AV))(H:Mem):R:=match z with|some l=>.val (.ptr H.next 0) (H.add (.cells l true 0))|none=>.bad
theorem c8t:I4 P H t=a2d (Br P t) H:=by
 grind[a2d,I4,Mem.newK_eq,C9]
theorem c8u:a2d (some l) H=.val (.ptr H.next 0) (H.add (.cells l true 0)):=(rfl)
theorem c8v:opV P H ev ⟨d,.box t x,ty,p,af,g⟩=Ha H (ev x):=(rfl)
theorem c8w{v:AV}:Ha H (some v)=.val (.ptr H.next 0) (H.add (.cells (cellsOf v) true 0)):=by
 simp[Ha,C9,Xy]
attribute [simp] c8s c8t c8u c8v c8w
/-! ### addresses -/
def Db(P:Program)(s:TypeId)(f:Nat):Option Nat:=match P.underlying s with
 | some (.struct fields)=>match fields[f]? with
  | some fd=>match P.info? fd.type with
   | some i=>match Nat.beq i.size 0 with|true=>none|false=>some fd.offset
   | none=>none
  | none=>none
 | _=>none
noncomputable def faS(P:Program)(H:Mem)(ev:Ev)(o:Oper)(s:TypeId)(q:Option Nat)(x:Option AV)(f:Nat):R:=match x,q with
 | some (.ptr a off),some q=>.val (.ptr a (off+q)) H
 | x,_=>Gy P H ev o s x f
theorem c8x{s:TypeId}{f:Nat}:opV P H ev ⟨d,.fieldAddr s x f,ty,p,af,g⟩=faS P H ev ⟨d,.fieldAddr s x f,ty,p,af,g⟩ s (Db P s f) (ev x) f:=by
 show Gy P H ev _ s (ev x) f=_;unfold faS;split
 .rename_i a off q h A;rw[h];have:fieldAddr P s (.ptr a off) f=some (.ptr a (off+q)):=by
   (simp_all[Db,fieldAddr,Dy];grind)
  grind[Gh,Gy]
 .rfl
theorem c8y(D:tick=tk){o:Oper}{s:TypeId}{q h:Option Nat}{x A:Option AV}{f:Nat}{H H' : Mem}(U:H=H')(Z:q=h)(h3:x=A):faS P H ev o s q x f=faS P H' ev o s h A f:=by grind
theorem c8z{s:TypeId}{q f:Nat}:faS P H ev o s (some q) (some (.ptr a off)) f=.val (.ptr a (off+q)) H:=(rfl)
attribute [congr] c8y
attribute [simp] c8x c8z
def Bp(P:Program)(t:TypeId):Option (Option Nat×Nat):=match P.underlying t with
 | some (.slice e)=>match P.info? e with|some j=>some (none,j.size)|none=>none
 | some (.array n e)=>match P.info? e with|some j=>some (some n,j.size)|none=>none
 | _=>none
noncomputable def iaS(P:Program)(H:Mem)(ev:Ev)(o:Oper)(t:TypeId)(q:Option (Option Nat×Nat))(x i:Option AV):R:=match q,x,i with
 | some (none,sz),some (.sl a off n c),some (.lit (.int k i))=>if 0<=i/\i.toNat<n then .val (.ptr a (off+i.toNat*sz)) H else Di P H ev o t (some (.sl a off n c)) (some (.lit (.int k i)))
 | some (none,sz),some (.slq a off n c),some (.lit (.int k i))=>if 0<=i/\i.toNat<n then .val (.ptr a (off+i.toNat*sz)) H else Di P H ev o t (some (.slq a off n c)) (some (.lit (.int k i)))
 | some (some n,sz),some (.ptr a off),some (.lit (.int k i))=>if 0<=i/\i.toNat<n then .val (.ptr a (off+i.toNat*sz)) H else Di P H ev o t (some (.ptr a off)) (some (.lit (.int k i)))
 | _,x,i=>Di P H ev o t x i
theorem Ik(h:0<=i):natOf (.lit (.int k i))=some i.toNat:=by
 cases i with
 | ofNat n=>rfl
 | negSucc n=>grind
theorem c9a(f:Bp P t=some (none,sz))(A:0<=i)(h:i.toNat<n):
  Di P H ev o t (some (.sl a off n c)) (some (.lit (.int k i)))=.val (.ptr a (off+i.toNat*sz)) H:=by
 have:indexAddr P t (.sl a off n c) (.lit (.int k i))=some (.ptr a (off+i.toNat*sz)):=by
  unfold Bp at f;unfold indexAddr;grind[Ik,Dy,Nat.ble_eq_true_of_le,Nat.blt]
 grind[Gh,Di]
theorem c9b(f:Bp P t=some (none,sz))(A:0<=i)(h:i.toNat<n):
  Di P H ev o t (some (.slq a off n c)) (some (.lit (.int k i)))=.val (.ptr a (off+i.toNat*sz)) H:=by
 have:indexAddr P t (.slq a off n c) (.lit (.int k i))=some (.ptr a (off+i.toNat*sz)):=by
  unfold Bp at f;unfold indexAddr;grind[Ik,Dy,Nat.ble_eq_true_of_le,Nat.blt]
 grind[Gh,Di]
theorem c9c(f:Bp P t=some (some n,sz))(A:0<=i)(h:i.toNat<n):
  Di P H ev o t (some (.ptr a off)) (some (.lit (.int k i)))=.val (.ptr a (off+i.toNat*sz)) H:=by
 have:indexAddr P t (.ptr a off) (.lit (.int k i))=some (.ptr a (off+i.toNat*sz)):=by
  unfold Bp at f;unfold indexAddr;grind[Ik,Dy,Nat.ble_eq_true_of_le,Nat.blt]
 grind[Gh,Di]
theorem c9d{i:Operand}:opV P H ev ⟨d,.indexAddr t x i,ty,p,af,g⟩=iaS P H ev ⟨d,.indexAddr t x i,ty,p,af,g⟩ t (Bp P t) (ev x) (ev i):=by
 show Di P H ev _ t (ev x) (ev i)=_;unfold iaS;grind[c9a,c9b,c9c]
theorem c9e(D:tick=tk){o:Oper}{t:TypeId}{q f:Option (Option Nat×Nat)}{x h i A:Option AV}{H H' : Mem}(U:H=H')(Z:q=f)(h2:x=h)(h3:i=A):iaS P H ev o t q x i=iaS P H' ev o t f h A:=by grind
theorem b0m(f:0<=i)(h:i.toNat<n):iaS P H ev o t (some (none,sz)) (some (.sl a off n c)) (some (.lit (.int k i)))=.val (.ptr a (off+i.toNat*sz)) H:=if_pos ⟨f,h⟩
theorem a2e(f:0<=i)(h:i.toNat<n):iaS P H ev o t (some (none,sz)) (some (.slq a off n c)) (some (.lit (.int k i)))=.val (.ptr a (off+i.toNat*sz)) H:=if_pos ⟨f,h⟩
attribute [congr] c9e
attribute [simp] c9d b0m a2e
/-! ### nilCheck,extract -/
theorem c9f{i:Nat}:opV P H ev ⟨d,.extract x i,ty,p,af,g⟩=Ic H (ev x) i:=(rfl)
theorem c9g{i:Nat}:Ic H (some (.tup l)) i=ofOpt H l[i]?:=(rfl)
attribute [simp] c9f c9g
end
section
variable {ev:Ev}{d:Option Tmp}{ty:TypeId}{p:String}{af:Array Edge}{g:Option (Nat×Bool)}
/-! ### parts of a struct or of a slice -/
variable {t s:TypeId}{n size a off tk c i bytes:Nat}{x hi:Operand}{l z:List AV}{place:Nat→Option (Nat×Nat)}{k:IntKind}{own:Bool}
theorem evalParts_nil:Cm ev []=some []:=(rfl)
noncomputable def a2f(i:Nat)(a:Option AV)(l:Option (List (Nat×AV))):Option (List (Nat×AV)):=match a,l with|some v,some vs=>some ((i,v)::vs)|_,_=>none
theorem c9h{l:List (Nat×Operand)}:Cm ev ((i,x)::l)=a2f i (ev x) (Cm ev l):=by
 grind[Cm,a2f]
theorem c9i{v:AV}{vs:List (Nat×AV)}:a2f i (some v) (some vs)=some ((i,v)::vs):=(rfl)
noncomputable def Il(place:Nat->Option (Nat×Nat))(cells:List AV):List (Nat×AV)->Option (List AV)
 | []=>some cells
 | (i,v)::rest=>match place i with
  | some (off,size)=>if (cellsOf v).length=size/\off+(cellsOf v).length<=cells.length then Il place (Gn cells off (cellsOf v)) rest else none
  | none=>none
theorem a2g:∀(ps:List (Nat×AV)) (cells:List AV),J6 place cells ps=Il place cells ps
 | [],_=>rfl
 | (i,v)::f,cells=>by
  unfold J6 Il
  cases h:place i with
  | none=>rfl
  | some r =>
   obtain⟨off,size⟩:=r;dsimp only
   cases A:Nat.beq (len (cellsOf v)) size with
   | false =>
    dsimp only
    (split<;>simp_all[C3])
   | true =>
    simp_all[C3,Lh,a2g]
noncomputable def b0n(q:Option (Nat×Nat))(place:Nat->Option (Nat×Nat))(cells new:List AV)(rest:List (Nat×AV)):Option (List AV):=match q with
 | some (off,size)=>if new.length=size/\off+new.length<=cells.length then Il place (Gn cells off new) rest else none
 | none=>none
theorem c9j{cells:List AV}:Il place cells []=some cells:=(rfl)
theorem c9k{cells:List AV}{v:AV}{f:List (Nat×AV)}:Il place cells ((i,v)::f)=b0n (place i) place cells (cellsOf v) f:=by
 rfl
theorem c9l{cells new:List AV}{f:List (Nat×AV)}(h:new.length=size)(A:off+new.length<=cells.length):
  b0n (some (off,size)) place cells new f=Il place (Gn cells off new) f:=if_pos ⟨h,A⟩
attribute [simp] evalParts_nil c9h c9i c9j c9k c9l
noncomputable def Jl(P:Program)(t:TypeId):Option (List AV×List (Nat×Nat)):=match Br P t,P.underlying t with
 | some zero,some (.struct fields)=>match a6n P fields.toList with
  | some pl=>some (zero,pl)
  | none=>none
 | _,_=>none
noncomputable def Q3(P:Program)(H:Mem)(t:TypeId)(q:Option (List AV×List (Nat×Nat)))(ps:Option (List (Nat×AV))):R:=match q,ps with
 | some (z,pl),some ps=>ofOpt H (M3 (Il (nth pl) z ps))
 | _,ps=>Hb P H t ps
theorem c9m{ps:Array (Nat×Operand)}:opV P H ev ⟨d,.build t ps,ty,p,af,g⟩=Q3 P H t (Jl P t) (Cm ev ps.toList):=by
 show Hb P H t (Cm ev ps.toList)=_;unfold Q3;grind[a2g,build,Jl,Hb]
theorem c9n(A:tick=tk){t:TypeId}{q f:Option (List AV×List (Nat×Nat))}{x h:Option (List (Nat×AV))}{H H' : Mem}(D:H=H')(U:q=f)(Z:x=h):Q3 P H t q x=Q3 P H' t f h:=by grind
theorem c9o{f:List (Nat×Nat)}{ps:List (Nat×AV)}:Q3 P H t (some (z,f)) (some ps)=ofOpt H (M3 (Il (nth f) z ps)):=(rfl)
theorem c9p:M3 (some l)=some (.agg l):=(rfl)
theorem c9q{f:Type}{l:List f}:nth l i=l[i]?:=Le l i
attribute [congr] c9n
attribute [simp] c9m c9o c9p c9q
noncomputable def bsI(P:Program)(t:TypeId):Option (List AV×Nat):=match Fp P t with
 | some (e,size,_)=>match Br P e with
  | some z=>some (z,size)
  | none=>none
 | none=>none
noncomputable def bsS(P:Program)(H:Mem)(t:TypeId)(n:Nat)(q:Option (List AV×Nat))(ps:Option (List (Nat×AV))):R:=match q,ps with
 | some (z,size),some ps=>if n*size<=1048576/\0<n*size then (match Il (λi=>some (i*size,size)) (rep z n) ps with
   | some l=>.val (.sl H.next 0 n n) (H.add (.cells l true 0))
   | none=>.bad) else Fq P H t n (some ps)
 | _,ps=>Fq P H t n ps
theorem c9r{ps:Array (Nat×Operand)}:opV P H ev ⟨d,.buildSlice t n ps,ty,p,af,g⟩=bsS P H t n (bsI P t) (Cm ev ps.toList):=by
 show Fq P H t n (Cm ev ps.toList)=_;unfold bsS;split
 .rename_i z size l f A;rw[A];split
  .rename_i h;unfold Fq;unfold bsI at f;split at f
   .rename_i e sz U D;split at f
    .rename_i Z hz;cases f;rw[D];dsimp only;have a0:Nat.ble (n*size) 1048576=true:=e6q h.1;grind[Nat.eq_of_beq_eq_true,Ea,a2g,Mem.newK_eq,C9]
    grind
   grind
  .rfl
 .rfl
theorem c9s(A:tick=tk){t:TypeId}{n:Nat}{q f:Option (List AV×Nat)}{x h:Option (List (Nat×AV))}{H H' : Mem}(D:H=H')(U:q=f)(Z:x=h):bsS P H t n q x=bsS P H' t n f h:=by grind
noncomputable def bsK(H:Mem)(n:Nat)(l:Option (List AV)):R:=match l with|some l=>.val (.sl H.next 0 n n) (H.add (.cells l true 0))|none=>.bad
theorem c9t:bsK H n (some l)=.val (.sl H.next 0 n n) (H.add (.cells l true 0)):=(rfl)
theorem c9u{ps:List (Nat×AV)}(f:n*size<=1048576)(h:0<n*size):bsS P H t n (some (z,size)) (some ps)=bsK H n (Il (λi=>some (i*size,size)) (rep z n) ps):=by
 unfold bsS;dsimp only;rw[if_pos ⟨f,h⟩];rfl
theorem c9v(h:bsI P t=some (z,size)):Fq P H t 0 (some [])=.val (.sl H.next 0 0 0) (H.add (.cells [] true 0)):=by
 unfold bsI at h;split at h
 all_goals simp_all[Xy,C9,J6,rep,Ea,Fq]
theorem c9w:rep l 0=[]:=(rfl)
theorem Ug:rep l (n+1)=l++rep l n:=(rfl)
attribute [congr] c9s
attribute [simp] c9r c9t c9u c9w Ug
/-! ### makeInterface,makeFunc -/
theorem c9x{fn:Fn}{a b:Array Operand}:opV P H ev ⟨d,.makeFunc fn a b,ty,p,af,g⟩=Ib H fn (Be ev a.toList) (Be ev b.toList):=(rfl)
theorem c9y{fn:Fn}{a b:List AV}:Ib H fn (some a) (some b)=.val (.func fn a b) H:=(rfl)
attribute [simp] c9x c9y
/-! ### integers to integers -/
noncomputable def cvS(P:Program)(H:Mem)(ev:Ev)(o:Oper)(s t:TypeId)(sd td:Option TypeDesc)(x:Option AV):R:=match sd,td,x with
 | some (.int _),some (.int k),some (.lit (.int _ n))=>.val (.lit (.int k (k.wrap n))) H
 | _,_,x=>Eb P H ev o s t x
theorem c9z:opV P H ev ⟨d,.convert s t x,ty,p,af,g⟩=cvS P H ev ⟨d,.convert s t x,ty,p,af,g⟩ s t (P.underlying s) (P.underlying t) (ev x):=by
 show Eb P H ev _ s t (ev x)=_;unfold cvS;split
 .rename_i k' k j n f A D;have U:A3 P ev ⟨d,.convert s t x,ty,p,af,g⟩=some (.lit (.int k (k.wrap n))):=by
   refine Ue rfl D λρ h=>?_;show Ap P (do pure (Next.value (<- Go.convert s t (ρ x))))=_;rw[Bi (a:=.int k (k.wrap n))]
   .rfl
   .rw[h];refine(Bi (m:=underlying s) (Hj f)).trans ?_;refine(Bi (m:=underlying t) (Hj A)).trans ?_;rfl
  grind[Eb]
 .rfl
theorem d0a(Z:tick=tk){o:Oper}{s t:TypeId}{f h A D:Option TypeDesc}{x U:Option AV}{H H' : Mem}(h1:H=H')(h2:f=h)(h3:A=D)(h4:x=U):cvS P H ev o s t f A x=cvS P H' ev o s t h D U:=by grind
theorem d0b{o:Oper}{k' j:IntKind}{n:Int}:cvS P H ev o s t (some (.int k')) (some (.int k)) (some (.lit (.int j n)))=.val (.lit (.int k (k.wrap n))) H:=(rfl)
attribute [congr] d0a
attribute [simp] c9z d0b
/-! ### An operation whose operands are seen -/
noncomputable def ex1(P:Program)(H:Mem)(ev:Ev)(o:Oper)(x:Operand)(v:Option AV)(_:ev x=v):R:=opV P H ev o
noncomputable def ex2(P:Program)(H:Mem)(ev:Ev)(o:Oper)(x y:Operand)(v u:Option AV)(_:ev x=v)(_:ev y=u):R:=opV P H ev o
noncomputable def ex3(P:Program)(H:Mem)(ev:Ev)(o:Oper)(x y z:Operand)(v u q:Option AV)(_:ev x=v)(_:ev y=u)(_:ev z=q):R:=opV P H ev o
theorem d0c(D:tick=tk){o:Oper}{x:Operand}{v f:Option AV}{h:ev x=v}{H H' : Mem}(U:H=H')(A:v=f):ex1 P H ev o x v h=ex1 P H' ev o x f (h.trans A):=by grind
theorem d0d(Z:tick=tk){o:Oper}{x y:Operand}{v f u u' : Option AV}{h:ev x=v}{A:ev y=u}{H H' : Mem}(h1:H=H')(D:v=f)(U:u=u'):ex2 P H ev o x y v u h A=ex2 P H' ev o x y f u' (h.trans D) (A.trans U):=by grind
theorem d0e(a0:tick=tk){o:Oper}{x y z:Operand}{v f u u' q h:Option AV}{A:ev x=v}{D:ev y=u}{U:ev z=q}{H H' : Mem}(h1:H=H')(Z:v=f)(h3:u=u')(h4:q=h):
  ex3 P H ev o x y z v u q A D U=ex3 P H' ev o x y z f u' h (A.trans Z) (D.trans h3) (U.trans h4):=by grind
attribute [congr] d0c d0d d0e
/-! ### slices of slices and of strings -/
theorem d0f:opV P H ev ⟨d,.slice t x none (some hi) none,ty,p,af,g⟩=ex2 P H ev ⟨d,.slice t x none (some hi) none,ty,p,af,g⟩ x hi (ev x) (ev hi) rfl rfl:=(rfl)
theorem d0g{lo:Operand}:opV P H ev ⟨d,.slice t x (some lo) none none,ty,p,af,g⟩=ex2 P H ev ⟨d,.slice t x (some lo) none none,ty,p,af,g⟩ x lo (ev x) (ev lo) rfl rfl:=(rfl)
theorem Jm{o:Oper}(f:x∈o.op.operands.toList)(hx:∀v,ev x=some v->toLit v=none):A3 P ev o=none:=by
 unfold A3;grind
theorem b0o{i:Int}(f:0<=i)(h:i.toNat<=c):C2 none (some (.lit (.int k i))) none n c=some (0,i.toNat,c):=by
 simp_all[Iz,C2,Ik,e6q,Oe]
theorem Uh{lo hi:Option Operand}{v:AV}(hx:ev x=some v)(f:toLit v=none):
  opV P H ev ⟨d,.slice t x lo hi none,ty,p,af,g⟩=Gg P H ev t (some v) lo hi none:=by
 show Cw P H ev _ t (ev x) lo hi none=_;unfold Cw;rw[Jm (x:=x) (by simp[Op.operands]) (λA h=>by grind),hx]
theorem L4{e:TypeId}{i:TypeInfo}{x:AV}{lo hi f:Option AV}(h:P.underlying t=some (.slice e))(A:P.info? e=some i):S4 P t x lo hi f=I1 i.size lo hi f x:=by
 grind[S4]
theorem Jn{sz:Nat}(h:Bp P t=some (none,sz)):∃e i,P.underlying t=some (.slice e)/\P.info? e=some i/\i.size=sz:=by
 unfold Bp at h;grind
theorem Ui{i:Int}{hx:ev x=some (.sl a off n c)}{hh:ev hi=some (.lit (.int k i))}(h:(Bp P t).map (·.1)=some none)(Z:0<=i)(h1:i.toNat<=c)(h2:0<c):
  ex2 P H ev ⟨d,.slice t x none (some hi) none,ty,p,af,g⟩ x hi (some (.sl a off n c)) (some (.lit (.int k i))) hx hh=.val (.sl a off i.toNat c) H:=by
 show opV P H ev _=_;rw[Uh hx rfl];obtain⟨q,A,f⟩:=Xq.1 h;obtain⟨q1,q2⟩:=q;dsimp only at f;subst f;obtain⟨e,i',D,U,h5⟩:=Jn A;unfold Gg Er;dsimp only;rw[hh];dsimp only;rw[L4 D U];grind[I1,b0o,I0,Nat.eq_of_beq_eq_true,ofOpt,Dy]
theorem Uj{i:Int}{hx:ev x=some (.slq a off n c)}{hh:ev hi=some (.lit (.int k i))}(h:(Bp P t).map (·.1)=some none)(Z:0<=i)(h1:i.toNat<=n)(h2:0<n):
  ex2 P H ev ⟨d,.slice t x none (some hi) none,ty,p,af,g⟩ x hi (some (.slq a off n c)) (some (.lit (.int k i))) hx hh=.val (.slq a off i.toNat c) H:=by
 show opV P H ev _=_;rw[Uh hx rfl];obtain⟨q,A,f⟩:=Xq.1 h;obtain⟨q1,q2⟩:=q;dsimp only at f;subst f;obtain⟨e,i',D,U,h5⟩:=Jn A;unfold Gg Er;dsimp only;rw[hh];dsimp only;rw[L4 D U];grind[I1,b0o,S3,Nat.ble_eq_true_of_le,Nat.blt,ofOpt,Dy]
attribute [simp] d0f d0g Ui Uj
/-! ### append -/
theorem d0h{y:Operand}:opV P H ev ⟨d,.call ⟨.builtin .append,#[x,y],#[s,t]⟩,ty,p,af,g⟩=ex2 P H ev ⟨d,.call ⟨.builtin .append,#[x,y],#[s,t]⟩,ty,p,af,g⟩ x y (ev x) (ev y) rfl rfl:=(rfl)
noncomputable def apI(P:Program)(s t:TypeId):Option (Nat×Nat):=match Fp P s,P.underlying t with
 | some (_,size,bytes),some (.slice _)=>some (size,bytes)
 | _,_=>none
theorem Hk{y:Operand}{v u:AV}(hx:ev x=some v)(hy:ev y=some u)(h:apI P s t=some (size,bytes)):
  opV P H ev ⟨d,.call ⟨.builtin .append,#[x,y],#[s,t]⟩,ty,p,af,g⟩=(match D9 H size bytes v u with|some (v,H)=>.val v H|none=>.bad):=by
 show Bj P H ev _ ⟨.builtin .append,#[x,y],#[s,t]⟩=_;unfold Bj;have f:Be ev (#[x,y]:Array Operand).toList=some [v,u]:=by
  simp_all
 rw[f];dsimp only;unfold E7;dsimp only;unfold P9;dsimp only;have e2:(#[s,t]:Array TypeId)[0]?=some s:=rfl;have e3:(#[s,t]:Array TypeId)[1]?=some t:=rfl;grind[append,apI,S8]
theorem a2h{z:Nat}(h:H.get a=some (.cells l own z))(f:off+n*size<=l.length):Ci H size n (.sl a off n c)=some ((l.drop off).take (n*size)):=by
 simp_all[Ci,Ja]
theorem d0i{z:Nat}(h:H.get a=some (.cells l own z))(f:off+n*size<=l.length):Ci H size n (.slq a off n c)=some ((l.drop off).take (n*size)):=by
 simp_all[Ci,Ja]
theorem Q4{b:Nat}(f:a<=1048576)(h:b<=1048576)(A:c<=1048576):small a b c=true:=by
 grind[small]
theorem Q5:H8 H l n size=some (.slq H.next 0 n 0,H.add (.cells l true size)):=by
 grind[H8,Mem.newK_eq]
theorem d0j{x:AV}{new:List AV}(f:lenOf x=some (n+1))(h:0<size)(A:Ci H size (n+1) x=some new)(D:new.length=(n+1)*size)(U:n+1<=1048576)(Z:bytes<=1048576):
  D9 H size bytes (.nl) x=some (.slq H.next 0 (n+1) 0,H.add (.cells new true size)):=by
 unfold D9;rw[f];show (match Nat.beq size 0,Ci H size (n+1) x with|false,some new=>Dx H size bytes (n+1) (.nl) new|_,_=>none)=_;have hb:Nat.beq size 0=false:=by
  grind[Nat.eq_of_beq_eq_true]
 simp_all[Dx,C3,S6,Q4,Q5]
theorem b0p{k:Nat}{x:AV}{new:List AV}{z:Nat}(h:lenOf x=some (n+1))(Z:0<size)(A:Ci H size (n+1) x=some new)(D:new.length=(n+1)*size)
  (hg:H.get a=some (.cells l own z)) (a0:off+k*size<=l.length) (h1:k+(n+1)<=1048576) (h3:k<=1048576) (h2:bytes<=1048576) :
  D9 H size bytes (.sl a off k k) x=some (.slq H.next 0 (k+(n+1)) 0,H.add (.cells ((l.drop off).take (k*size)++new) true size)):=by
 unfold D9;rw[h];show (match Nat.beq size 0,Ci H size (n+1) x with|false,some new=>Dx H size bytes (n+1) (.sl a off k k) new|_,_=>none)=_;have U:Nat.beq size 0=false:=by
  grind[Nat.eq_of_beq_eq_true]
 rw[U,A];dsimp only;unfold Dx;rw[C3,D,e8c];dsimp only;unfold P5;have f:Nat.ble (k+(n+1)) k=false:=by
  cases f:Nat.ble (k+(n+1)) k with
  | false=>rfl
  | true=>have:=Wz f;omega
 simp_all[Q4,Ql,Ja,Q5]
theorem b0q{k:Nat}{x:AV}{new:List AV}(f:lenOf x=some (n+1))(hs:0<size)(h:Ci H size (n+1) x=some new)(A:new.length=(n+1)*size)
  (D:H.get a=some (.cells l true size)) (U:l.length=k*size) (h1:k+(n+1)<=1048576) (h2:bytes<=1048576) (h4:allOne new=true) :
  D9 H size bytes (.slq a 0 k 0) x=some (.slq (H.rm a).next 0 (k+(n+1)) 0,(H.rm a).add (.cells (l++new) true size)):=by
 unfold D9;rw[f];show (match Nat.beq size 0,Ci H size (n+1) x with|false,some new=>Dx H size bytes (n+1) (.slq a 0 k 0) new|_,_=>none)=_;have Z:Nat.beq size 0=false:=by
  grind[Nat.eq_of_beq_eq_true]
 rw[Z,h];dsimp only;unfold Dx;rw[C3,A,e8c];dsimp only;unfold S7;rw[D];dsimp only;have e1:(Nat.beq size size&&Nat.beq 0 (0*size))=true:=by simp
 have e2:Nat.ble (0+(k+(n+1))*size) (len l)=false:=by
  rw[C3,U]
  cases a0:Nat.ble (0+(k+(n+1))*size) (k*size) with
  | false=>rfl
  | true =>
   (simp_all;grind)
 have e3:(Nat.beq (0+k*size) (len l)&&small (k+(n+1)) 0 bytes&&allOne new)=true:=by
  simp_all[Q4,C3]
 (simp_all[Q5,Mem.delK_eq,Ql,Ja];grind)
attribute [simp] d0h
end
section
variable {ev:Ev}{d:Option Tmp}{ty:TypeId}{p:String}{af:Array Edge}{g:Option (Nat×Bool)}
variable {t kt:TypeId}{a c:Nat}{s:ByteArray}{l:List (ByteArray×Nat)}{k x:Operand}
def Hl(l:List (ByteArray×AV×Nat)):List (AV×AV×Nat):=l.map λx=>(.lit (.string x.1),x.2.1,x.2.2)
theorem litAll_keys:∀l:List (ByteArray×AV×Nat),litAll ((Hl l).map (·.1))=some (l.map λx=>Value.string x.1)
 | []=>rfl
 | x::l=>by
  have:=litAll_keys l;simp only[Hl,e6o] at this |-;simp only[litAll];rw[this]
def Ex(s:ByteArray):List (ByteArray×AV×Nat)->Nat->Option Nat
 | [],_=>none
 | x::l,i=>if s=x.1 then some i else Ex s l (i+1)
theorem a2i(a b:ByteArray):(a==b)=decide (a=b):=by
 by_cases h:a=b
 .subst h
  cases a with
  | mk d=>show (d==d)=_;simp
 .rw[decide_eq_false h]
  cases a with
  | mk d=>cases b with
   | mk e =>
    show (d==e)=false;grind
theorem b0r(s:ByteArray):∀(l:List (ByteArray×AV×Nat)) (i:Nat),Instr.findNow .string (.string s) ((l.map λx=>Value.string x.1).map λq=>(⟨q,undef,0⟩:MapEntry)) i=some ((Ex s l i).map λj=>(j,undef))
 | [],i=>rfl
 | x::l,i=>by
  have f:=b0r s l (i+1);simp only[e6o] at f |-;unfold Instr.findNow Ex;show (match (some (s==x.1):Option Bool) with|some true=>_|some false=>_|none=>none)=_
  (simp_all[a2i];grind)
theorem Q6(f:P.underlying kt=some .string)(s:ByteArray)(l:List (ByteArray×AV×Nat)):K7 P kt (.string s) (Hl l)=some (Ex s l 0):=by
 unfold K7;rw[litAll_keys];dsimp only;have:Ap P (Instr.findKey kt (.string s) ((l.map λx=>Value.string x.1).map λq=>(⟨q,undef,0⟩:MapEntry)))=some ((Ex s l 0).map λj=>(j,undef)):=by
  unfold Instr.findKey;rw[Bi (Hj f),b0r];rfl
 rw[this];cases Ex s l 0<;>rfl
theorem Q7{b:Bool}{n:Nat}(f:P.underlying kt=some .string):Ap P (Instr.checkKey b (n+1) kt (.string s))=some ():=by
 unfold Instr.checkKey;rw[Bi (Hj f)];rfl
theorem Uk(s:ByteArray):∀(l:List (ByteArray×AV×Nat)) (i:Nat),match Ex s l i with|some j=>i<=j/\∃x,l[j-i]?=some x/\x.1=s|none=>∀x∈l,x.1≠s
 | [],i=>by simp[Ex]
 | x::l,i=>by
  unfold Ex;by_cases h:s=x.1
  .grind
  .rw[if_neg h];have f:=Uk s l (i+1);grind
def B2(l:List (ByteArray×Nat)):List (AV×AV×Nat):=Hl (l.map λx=>(x.1,.lit (.bool true),x.2))
def Ey(s:ByteArray)(l:List (ByteArray×Nat)):Bool:=l.any λx=>decide (x.1=s)
theorem d0k{h:TypeId}(U:P.underlying t=some (.map kt h))(A:P.underlying kt=some .string)(Z:K8 P h=some (.bool false))(hg:H.get a=some (.map (B2 l) c)):
  lookup P H t (.map a) (.lit (.string s)) false=some (.lit (.bool (Ey s l))):=by
 unfold lookup;rw[U];dsimp only[toLit];rw[hg];dsimp only;rw[Q7 (n:=9999) A];unfold B2;rw[Q6 A];dsimp only;have f:=Uk s (l.map λx=>(x.1,AV.lit (.bool true),x.2)) 0
 cases D:Ex s (l.map λx=>(x.1,AV.lit (.bool true),x.2)) 0 with
 | none =>
  rw[D] at f;unfold P6;dsimp only;rw[Z];have:Ey s l=false:=by
   unfold Ey;rw[List.any_eq_false];intro x hx;have:=f (x.1,.lit (.bool true),x.2) (Xc.2 ⟨x,hx,rfl⟩);grind
  rw[this];rfl
 | some j =>
  rw[D] at f;obtain⟨_,x,hx,a0⟩:=f;rw[Nat.sub_zero,e6j] at hx;obtain⟨y,hy,rfl⟩:=Xq.1 hx;unfold P6;dsimp only;rw[Le];have:(Hl (l.map λx=>(x.1,AV.lit (.bool true),x.2)))[j]?=some (.lit (.string y.1),.lit (.bool true),y.2):=by
   grind[Hl]
  rw[this];have:Ey s l=true:=by
   grind[Ey]
  rw[this];rfl
theorem d0l{A:TypeId}(D:P.underlying t=some (.map kt A))(f:P.underlying kt=some .string)(U:H.get a=some (.map (B2 l) c))(hn:Ey s l=false):
  mapUpdate P H t (.map a) (.lit (.string s)) (.lit (.bool true))=some (H.upd a (.map (B2 (l++[(s,c)])) (c+1))):=by
 unfold mapUpdate;rw[D];dsimp only[toLit];rw[U];dsimp only;rw[Q7 (n:=9999) f];have e:K7 P kt (.string s) (B2 l)=some (Ex s (l.map λx=>(x.1,AV.lit (.bool true),x.2)) 0):=Q6 f s _;rw[e];have h:=Uk s (l.map λx=>(x.1,AV.lit (.bool true),x.2)) 0
 cases Z:Ex s (l.map λx=>(x.1,AV.lit (.bool true),x.2)) 0 with
 | none =>
  grind[P7,Mem.setK_eq,Hl,B2]
 | some j =>
  exfalso;rw[Z] at h;obtain⟨_,x,hx,a0⟩:=h;rw[Nat.sub_zero,e6j] at hx;obtain⟨y,hy,rfl⟩:=Xq.1 hx;grind[Ey]
def O0(P:Program)(t:TypeId):Bool:=match P.underlying t with
 | some (.map kt et)=>(match P.underlying kt with|some .string=>true|_=>false)&&(match P.info? et with|some i=>(match i.zero with|some (.bool false)=>true|_=>false)|none=>false)
 | _=>false
theorem a2j(h:O0 P t=true):∃kt f,P.underlying t=some (.map kt f)/\P.underlying kt=some .string/\K8 P f=some (.bool false):=by
 (simp_all[O0,K8];grind)
noncomputable def O1(P:Program)(H:Mem)(ev:Ev)(o:Oper)(x y:Operand)(a:Nat)(u:AV)(b:Option Blk)(_:ev x=some (.map a))(_:ev y=some u)(_:H.get a=b):R:=opV P H ev o
noncomputable def O3(P:Program)(H:Mem)(ev:Ev)(o:Oper)(x y z:Operand)(a:Nat)(u v:AV)(b:Option Blk)(_:ev x=some (.map a))(_:ev y=some u)(_:ev z=some v)(_:H.get a=b):R:=opV P H ev o
theorem d0m{A:Nat}(U:tick=A){o:Oper}{x y:Operand}{a:Nat}{u:AV}{b f:Option Blk}{hx:ev x=some (.map a)}{hy:ev y=some u}{h:H.get a=b}(D:b=f):O1 P H ev o x y a u b hx hy h=O1 P H ev o x y a u f hx hy (h.trans D):=rfl
theorem d0n{D:Nat}(Z:tick=D){o:Oper}{x y z:Operand}{a:Nat}{u v:AV}{b f:Option Blk}{hx:ev x=some (.map a)}{hy:ev y=some u}{h:ev z=some v}{A:H.get a=b}(U:b=f):O3 P H ev o x y z a u v b hx hy h A=O3 P H ev o x y z a u v f hx hy h (A.trans U):=rfl
attribute [congr] d0m d0n
theorem d0o{m:Operand}{b:Bool}:opV P H ev ⟨d,.lookup t m k b,ty,p,af,g⟩=ex2 P H ev ⟨d,.lookup t m k b,ty,p,af,g⟩ m k (ev m) (ev k) rfl rfl:=(rfl)
theorem d0p{o:Oper}{y:Operand}{u:AV}{hx:ev x=some (.map a)}{hy:ev y=some u}:ex2 P H ev o x y (some (.map a)) (some u) hx hy=O1 P H ev o x y a u (H.get a) hx hy rfl:=(rfl)
theorem d0q{o:Oper}{y z:Operand}{u v:AV}{hx:ev x=some (.map a)}{hy:ev y=some u}{f:ev z=some v}:ex3 P H ev o x y z (some (.map a)) (some u) (some v) hx hy f=O3 P H ev o x y z a u v (H.get a) hx hy f rfl:=(rfl)
theorem d0r{m:Operand}{f:ev m=some (.map a)}{A:ev k=some (.lit (.string s))}{D:H.get a=some (.map (B2 l) c)}(h:O0 P t=true):
  O1 P H ev ⟨d,.lookup t m k false,ty,p,af,g⟩ m k a (.lit (.string s)) (some (.map (B2 l) c)) f A D=.val (.lit (.bool (Ey s l))) H:=by
 show E8 P H ev _ t (ev m) (ev k) false=_;obtain⟨kt,et,U,Z,h3⟩:=a2j h;unfold E8 Qa;rw[Jm (x:=m) (by simp[Op.operands]) (λv' h=>by rw[f] at h;cases h;rfl),f,A];dsimp only;rw[d0k U Z h3 D];rfl
theorem d0s{m:Operand}:opV P H ev ⟨d,.mapUpdate t m k x,ty,p,af,g⟩=ex3 P H ev ⟨d,.mapUpdate t m k x,ty,p,af,g⟩ m k x (ev m) (ev k) (ev x) rfl rfl rfl:=(rfl)
theorem d0t{m:Operand}{f:ev m=some (.map a)}{A:ev k=some (.lit (.string s))}{hx:ev x=some (.lit (.bool true))}
  {D:H.get a=some (.map (B2 l) c)} (h:O0 P t=true) (U:Ey s l=false) :
  O3 P H ev ⟨d,.mapUpdate t m k x,ty,p,af,g⟩ m k x a (.lit (.string s)) (.lit (.bool true)) (some (.map (B2 l) c)) f A hx D=.skip (H.upd a (.map (B2 (l++[(s,c)])) (c+1))):=by
 show Ft P H t (ev m) (ev k) (ev x)=_;grind[a2j,Ft,d0l]
theorem d0u:opV P H ev ⟨d,.makeMap t none,ty,p,af,g⟩=.val (.map H.next) (H.add (.map (B2 []) 0)):=by
 show Gf P H ev t none=_;unfold Gf;dsimp only;rw[Xy];rfl
attribute [simp] d0p d0q d0r d0t d0o d0s d0u
end
end
section
variable {P:Program}{B G:Nat}{ρ ρ' : Rn}{H H' : Mem}{w w' : World}
mutual
theorem VR.back (hs:Sub ρ ρ') : ∀ {v:AV} {u0 u:Value},VR ρ v u0->VR ρ' v u->VR ρ v u
 | .lit _,_,_,_,r=>r
 | .ptr _ _,_,_,⟨b,o,k,e,_⟩,⟨b',o',k',e',r'⟩=>by
  have:=hs _ _ e;rw[this] at e';cases e';exact⟨b,o,k,e,r'⟩
 | .sl _ _ _ _,_,_,⟨b,o,k,e,_⟩,⟨b',o',k',e',r'⟩=>by
  have:=hs _ _ e;rw[this] at e';cases e';exact⟨b,o,k,e,r'⟩
 | .slq _ _ _ _,_,_,⟨b,o,k,e,_⟩,⟨b',o',k',e',r'⟩=>by
  have:=hs _ _ e;rw[this] at e';cases e';exact⟨b,o,k,e,r'⟩
 | .es,_,_,_,r=>r
 | .map _,_,_,⟨b,o,k,e,_⟩,⟨b',o',k',e',r'⟩=>by
  have:=hs _ _ e;rw[this] at e';cases e';exact⟨b,o,k,e,r'⟩
 | .func _ _ _,_,_,⟨_,_,_,r,q⟩,⟨f',c',e',r',q'⟩=>⟨f',c',e',VRs.back hs r r',VRs.back hs q q'⟩
 | .iface _ _,_,_,⟨_,_,r⟩,⟨u',e',r'⟩=>⟨u',e',VR.back hs r r'⟩
 | .agg _,_,_,⟨_,_,r⟩,⟨cs,e',r'⟩=>⟨cs,e',VRs.back hs r r'⟩
 | .tup _,_,_,⟨_,_,r⟩,⟨cs,e',r'⟩=>⟨cs,e',VRs.back hs r r'⟩
theorem VRs.back (hs:Sub ρ ρ') : ∀ {l:List AV} {us0 us:List Value},VRs ρ l us0->VRs ρ' l us->VRs ρ l us
 | [],_,_,_,r=>r
 | _ :: _,_,_,⟨_,_,_,r,q⟩,⟨u,us',e,r',q'⟩=>⟨u,us',e,VR.back hs r r',VRs.back hs q q'⟩
end
variable {g:Gb}{off:Nat}
theorem ER.back(f:Sub ρ ρ'):∀{l:List (AV×AV×Nat)} {h es:List MapEntry},ER ρ l h->ER ρ' l es->ER ρ l es
 | [],_,_,_,r=>r
 | _::_,_,_,⟨_,_,_,r,s,_,z⟩,⟨e,A,q,D,s',U,Z⟩=>⟨e,A,q,r.back f D,s.back f s',U,ER.back f z Z⟩
theorem BR.back(A:Sub ρ ρ'){x:Blk}{b o k:Nat}(D:BR B ρ x b o k w)(h:BR B ρ' x b o k w'):BR B ρ x b o k w':=by
 cases x with
 | cells l own z =>
  obtain⟨c0,e0,a4,a1,U,a5⟩:=D;obtain⟨c,e,fz,f,Z,ho⟩:=h;refine⟨c,e,fz,f,λi v hi=>?_,ho⟩;obtain⟨u0,_,a0⟩:=U i v hi;obtain⟨u,hu,hv⟩:=Z i v hi;exact⟨u,hu,a0.back A hv⟩
 | map es a6 =>
  obtain⟨a7,_,a2,_⟩:=D;obtain⟨a3,f,he,hB⟩:=h;exact⟨a3,f,ER.back A a2 he,hB⟩
 | siter s a8=>exact h
 | typ T l ex =>
  obtain⟨_,_,c0,a1,U,_⟩:=D;obtain⟨h1,h2,c,f,Z,h3⟩:=h;refine⟨h1,h2,c,f,λi v hi=>?_,h3⟩;obtain⟨u0,_,a0⟩:=U i v hi;obtain⟨u,hu,hv⟩:=Z i v hi;exact⟨u,hu,a0.back A hv⟩
structure Ge (H H' : Mem):Prop where
 le:H.next<=H'.next
 same:∀a,a<H.next->H'.get a=H.get a
theorem Sim.back(s:Sim B G ρ H w)(hx:Ext B H.next ρ w ρ' w')(s' : Sim B G ρ' H' w')(A:Ge H H'):Sim B G ρ H w':=by
 have h:=hx.sub s;refine⟨λa x D=>?_,s.inj,s.fresh,s.glob,s.names,s'.base⟩;rcases s.blk a x D with hn|⟨b,o,k,f,U⟩
 .grind
 .have Z:=s.lt_next f;refine .inr ⟨b,o,k,f,?_⟩;have a0:=s'.at (by rw[A.same a Z];omega) (h _ _ f);exact U.back h a0
def plainV:AV->Bool
 | .lit _=>true
 | .es=>true
 | .iface _ v=>plainV v
 | .tup []=>true
 | .tup [a]=>plainV a
 | .tup [a,b]=>plainV a&&plainV b
 | .tup [a,b,c]=>plainV a&&plainV b&&plainV c
 | _=>false
theorem Jo{U:Rn}:∀{v:AV}{u:Value},plainV v=true->VR ρ' v u->VR U v u
 | .lit _,_,_,r=>r
 | .es,_,_,r=>r
 | .iface t v,_,h,⟨u',e,r⟩=>⟨u',e,Jo (v:=v) (by assumption) r⟩
 | .tup [],_,_,⟨cs,e,r⟩=>⟨cs,e,r⟩
 | .tup [a],_,h,⟨cs,e,u,us,f,r,q⟩=>⟨cs,e,u,us,f,Jo (v:=a) (by assumption) r,q⟩
 | .tup [a,b],_,h,⟨cs,e,u,us,f,r,u2,A,e2,D,q⟩=>by
  simp only[plainV,W0] at h;exact⟨cs,e,u,us,f,Jo (v:=a) h.1 r,u2,A,e2,Jo (v:=b) h.2 D,q⟩
 | .tup [a,b,c],_,h,⟨cs,e,u,us,f,r,u2,A,e2,D,u3,Z,e3,r3,q⟩=>by
  simp only[plainV,W0] at h;exact⟨cs,e,u,us,f,Jo (v:=a) h.1.1 r,u2,A,e2,Jo (v:=b) h.1.2 D,u3,Z,e3,Jo (v:=c) h.2 r3,q⟩
 | .ptr _ _,_,h,_=>by grind[plainV]
 | .sl _ _ _ _,_,h,_=>by grind[plainV]
 | .slq _ _ _ _,_,h,_=>by grind[plainV]
 | .map _,_,h,_=>by grind[plainV]
 | .func _ _ _,_,h,_=>by grind[plainV]
 | .agg _,_,h,_=>by grind[plainV]
 | .tup (_::_::_::_::_),_,h,_=>by grind[plainV]
theorem WC.drop{f:FuncId}{args:List AV}{K:AV->Prop}(h:WC G P f args H λr=>∃v H',r=.ret v H'/\plainV v=true/\Ge H H'/\K v):WC G P f args H λr=>∃v,r=.ret v H/\K v:=by
 intro B ρ us w s D;refine(h B ρ us w s D).mono ?_;rintro e w' ⟨r,⟨v,H',rfl,U,Z,hk⟩,hc⟩;refine⟨_,⟨v,rfl,hk⟩,?_⟩
 cases e with
 | returned u =>
  obtain⟨ρ',A,h2,h3,h4⟩:=hc;exact⟨ρ,⟨λ_ _=>rfl,A.keeps,A.below⟩,s.back A h2 Z,Jo U h3,Wy _⟩
 | panicked a0=>assumption
 | outgrown=>assumption
theorem WC.drop1{f:FuncId}{args:List AV}{v:AV}(A:plainV v=true)(h:WC G P f args H λr=>∃H',r=.ret v H'/\Ge H H'):WC G P f args H λr=>r=.ret v H:=by
 refine(WC.drop (K:=λu=>u=v) (h.mono ?_)).mono ?_
 all_goals grind
abbrev X0:=@WC.drop1
/-! ### rows of cells -/
def Row(g:Gb)(a off:Nat)(cs:List AV):Prop:=∃l own z,g a=some (.cells l own z)/\off+cs.length<=l.length/\(l.drop off).take cs.length=cs
theorem Row.agg{a:Nat}{cs:List AV}(h:Row g a off cs){k s:Nat}(f:k+s<=cs.length):Bf (some (true,s)) (g a) (off+k)=some (.agg ((cs.drop k).take s)):=by
 obtain⟨l,own,z,A,D,U⟩:=h;grind[b0l,List.drop_take,List.drop_drop]
theorem Row.one{a:Nat}{cs:List AV}(h:Row g a off cs){k s:Nat}(f:k<cs.length):Bf (some (false,s)) (g a) (off+k)=some cs[k]:=by
 obtain⟨l,own,z,A,D,U⟩:=h;grind[b0k]
theorem Row.mono{g': Gb}{a:Nat}{cs:List AV}(h:Row g a off cs)(f:g' a=g a):Row g' a off cs:=by
 obtain⟨l,own,z,A,D⟩:=h;exact⟨l,own,z,f.trans A,D⟩
theorem b0s{U:Type}{f:U->List AV}{sz:Nat}:∀(A:List U)(i:Nat)(h:i<A.length),(∀x∈A,(f x).length=sz)->((A.flatMap f).drop (i*sz)).take sz=f A[i]
 | x::A,0,_,D=>by
  grind
 | x::A,i+1,h,D=>by
  have Z:=D x (by simp);rw[e7i,e8o,e9k,<- e8q,<- Z,List.drop_left,Z];have:=b0s A i (by simpa using h) (λy hy=>D y (by simp[hy]));simpa using this
 | [],i,h,_=>by grind
theorem b0t{A:Type}{f:A->List AV}{sz:Nat}:∀(h:List A),(∀x∈h,(f x).length=sz)->(h.flatMap f).length=h.length*sz
 | [],_=>by simp
 | x::h,D=>by
  rw[e7i,W1,D x (by simp),b0t h (λy hy=>D y (by simp[hy])),Xi,e8o,e9k]
end
inductive It where
 | run (i:Nat)
 | mk (i:Nat)
 | gate (hs as:List Nat)
 deriving DecidableEq,Repr
structure Hs where
 cl:List Nat
 di:List Nat
 acl:List Nat
 adi:List Nat
def Kk(ops:List Oper):List Nat->Hs->(Hs->List It)->List It
 | [],s,K=>K s
 | i::l,s,K=>match ops[i]? with
  | some o=>match cls o.op with
   | .alloc=>.mk i::Kk ops l ⟨[],s.cl++s.di,[i],s.acl++s.adi⟩ K
   | .read=>.run i::Kk ops l ⟨i::s.cl,s.di,s.acl,s.adi⟩ K
   | _=>.run i::Kk ops l s K
  | none=>[]
def Q8(s:Hs)(K:Hs->List It):List It:=match s.di,s.adi with
 | [],[]=>K s
 | _,_=>.gate s.di s.adi::K ⟨s.di++s.cl,[],s.adi++s.acl,[]⟩
def O4(tab all:List Nat)(ops:List Oper):Nat->List Nat->Hs->List It
 | k,[],s=>Kk ops (Es tab all k ops 0) s λs=>Q8 s λ_=>[]
 | k,c::cs,s=>Kk ops (Es tab all k ops 0) s λs=>Q8 s λs =>
   .run c::O4 tab all ops (k+1) cs ⟨[],s.cl.filter λi=>!A1 tab c i,[],s.acl.filter λi=>!A1 tab c i⟩
def Nk(ops:List Oper):List It:=O4 (ancs [] ops) (chainOf ops 0) ops 0 (chainOf ops 0) ⟨[],[],[],[]⟩
def O5(o:Oper):List Tmp:=o.op.operands.toList.filterMap λx=>match x with|.tmp t=>some t|_=>none
def a2k(tab:List Nat)(ops:List Oper)(i:Nat)(t:Tmp):Bool:=match Gz t ops 0 with
 | none=>true
 | some j=>A1 tab i j||(A1 tab j i||Nat.beq i j)
def ahead(tab:List Nat)(ops:List Oper)(i:Nat)(t:Tmp):Bool:=match Gz t ops 0 with
 | none=>true
 | some j=>A1 tab i j
def Q9(P:Program)(t:TypeId):Bool:=match P.underlying t with|some (.slice _)=>false|some _=>true|none=>false
def Ul(P:Program)(o:Oper):Bool:=match o.op with
 | .convert s d _=>Q9 P s&&Q9 P d
 | _=>true
def Ra(P:Program)(tab:List Nat)(ops:List Oper)(o:Oper)(i:Nat):Bool:=
 (O5 o).all (a2k tab ops i)&&(match o.guard with|none=>true|some g=>A1 tab i g.1)&&Ul P o
def Kl(P:Program)(tab:List Nat)(ops:List Oper):List Oper->Nat->Bool
 | [],_=>true
 | o::l,i=>Ra P tab ops o i&&Kl P tab ops l (i+1)
def a2l(tab:List Nat)(ops:List Oper)(i:Nat):Bool:=match ops[i]? with
 | some o=>o.dst.isSome&&(O5 o).all (ahead tab ops i)
 | none=>false
def D1(tab:List Nat)(ops:List Oper):Nat->List It->Bool
 | s,[]=>Nat.beq (s+1) (2 ^ ops.length)
 | s,.run i::l=>!s.testBit i&&Nat.beq ((tab.getD i 0) &&& s) (tab.getD i 0)&&D1 tab ops (s ||| 2 ^ i) l
 | s,.mk i::l=>!s.testBit i&&Nat.beq ((tab.getD i 0) &&& s) (tab.getD i 0)&&D1 tab ops (s ||| 2 ^ i) l
 | s,.gate hs _::l=>hs.all (a2l tab ops)&&D1 tab ops s l
def Rb(P:Program)(ops:List Oper):Bool:=
 Oi ops&&Tables.follows P.toTables .mixedOrders&&Kl P (ancs [] ops) ops ops 0&&D1 (ancs [] ops) ops 0 (Nk ops)
section
variable {P:Program}{H:Mem}{ev ev' : Ev}
theorem evals_congr:∀{l:List Operand},(∀x∈l,ev x=ev' x)->Be ev l=Be ev' l
 | [],_=>rfl
 | x::l,h=>by
  unfold Be;rw[h x (by simp),evals_congr λy hy=>h y (by simp[hy])]
theorem evalParts_congr:∀{l:List (Nat×Operand)},(∀x∈l.map (·.2),ev x=ev' x)->Cm ev l=Cm ev' l
 | [],_=>rfl
 | (i,x)::l,h=>by
  unfold Cm;rw[h x (by simp),evalParts_congr λy hy=>h y (by simp at hy |-;exact .inr hy)]
theorem d0v{f:Type}{p q:f->Bool}:∀{l:List f},(∀x∈l,p x=q x)->l.all p=l.all q
 | [],_=>rfl
 | x::l,h=>by
  grind
theorem d0w{c f:Bool}{s s': Sem Next}(h:c=f)(A:s=s'):(if c=true then (match Ap P s with|some (.value v)=>some (AV.lit v)|_=>none) else none)=(if f=true then (match Ap P s' with|some (.value v)=>some (AV.lit v)|_=>none) else none):=by
 grind
theorem d0x{o:Oper}(f:∀cs b,o.op≠.select cs b)(h:∀x∈o.op.operands.toList,ev x=ev' x):A3 P ev o=A3 P ev' o:=by
 unfold A3;have A:(o.op.operands.toList.all λx=>match ev x with|some v=>(match toLit v with|some _=>true|none=>false)|none=>false)=(o.op.operands.toList.all λx=>match ev' x with|some v=>(match toLit v with|some _=>true|none=>false)|none=>false):=
  d0v λx hx=>by grind
 have D:=execOp_congr (ρ:=λx=>match ev x with|some v=>(match toLit v with|some u=>u|none=>undef)|none=>undef) (ρ':=λx=>match ev' x with|some v=>(match toLit v with|some u=>u|none=>undef)|none=>undef) o f
  λx hx=>by grind
 exact d0w A D
theorem d0y{y:Option Operand}(h:∀x∈y.toArray.toList,ev x=ev' x):Er ev y=Er ev' y:=by
 (simp_all[Er];grind)
theorem Um{o:Oper}(Z:∀cs b,o.op≠.select cs b)(h:∀x∈o.op.operands.toList,ev x=ev' x):opV P H ev o=opV P H ev' o:=by
 have hg:=d0x (P:=P) Z h;unfold opV
 cases A:o.op with
 | select cs b=>rfl
 | move x=>rw[A] at h;show Ed H (ev x)=Ed H (ev' x);grind[Op.operands]
 | assign x=>rw[A] at h;show Ed H (ev x)=Ed H (ev' x);grind[Op.operands]
 | pick c a b=>rw[A] at h;show Gx H (ev c) (ev a) (ev b)=Gx H (ev' c) (ev' a) (ev' b);grind[Op.operands]
 | alloc t=>rfl
 | box t x=>rw[A] at h;show Ha H (ev x)=Ha H (ev' x);grind[Op.operands]
 | build t ps=>rw[A] at h;show Hb P H t (Cm ev ps.toList)=Hb P H t (Cm ev' ps.toList);grind[Op.operands,evalParts_congr]
 | buildSlice t n ps=>rw[A] at h;show Fq P H t n (Cm ev ps.toList)=Fq P H t n (Cm ev' ps.toList);grind[Op.operands,evalParts_congr]
 | insert t m k x=>rw[A] at h;show Ft P H t (ev m) (ev k) (ev x)=Ft P H t (ev' m) (ev' k) (ev' x);grind[Op.operands]
 | mapUpdate t m k x=>rw[A] at h;show Ft P H t (ev m) (ev k) (ev x)=Ft P H t (ev' m) (ev' k) (ev' x);grind[Op.operands]
 | load t a=>rw[A] at h;show Fs P H t (ev a)=Fs P H t (ev' a);grind[Op.operands]
 | store t a x=>rw[A] at h;show Ia P H t (ev a) (ev x)=Ia P H t (ev' a) (ev' x);grind[Op.operands]
 | nilCheck x=>rw[A] at h;show I5 P H ev o (ev x)=I5 P H ev' o (ev' x);simp_all[I5,Op.operands]
 | binOp op t x y r=>rw[A] at h;show Bc P H ev o op t (ev x) (ev y)=Bc P H ev' o op t (ev' x) (ev' y);grind[Bc,Op.operands]
 | unOp op t x=>show ofOpt H (A3 P ev o)=ofOpt H (A3 P ev' o);rw[hg]
 | convert s d x=>rw[A] at h;show Eb P H ev o s d (ev x)=Eb P H ev' o s d (ev' x);simp_all[Eb,Op.operands]
 | makeInterface t x=>rw[A] at h;show J8 P H t (ev x)=J8 P H t (ev' x);grind[Op.operands]
 | makeFunc fn a b =>
  rw[A] at h;show Ib H fn (Be ev a.toList) (Be ev b.toList)=Ib H fn (Be ev' a.toList) (Be ev' b.toList);grind[Op.operands,evals_congr]
 | makeMap t r =>
  rw[A] at h;show Gf P H ev t r=Gf P H ev' t r
  (simp_all[Gf,Op.operands];grind)
 | makeSlice t l c=>rw[A] at h;show Ec P H t (ev l) (ev c)=Ec P H t (ev' l) (ev' c);grind[Op.operands]
 | slice t x lo hi U =>
  rw[A] at h;show Cw P H ev o t (ev x) lo hi U=Cw P H ev' o t (ev' x) lo hi U;unfold Cw Gg;grind[Op.operands,d0y]
 | fieldAddr s x f=>rw[A] at h;show Gy P H ev o s (ev x) f=Gy P H ev' o s (ev' x) f;simp_all[Gh,Gy,Op.operands]
 | field t x f=>rw[A] at h;show J9 P H t (ev x) f=J9 P H t (ev' x) f;grind[Op.operands]
 | indexAddr t x i=>rw[A] at h;show Di P H ev o t (ev x) (ev i)=Di P H ev' o t (ev' x) (ev' i);simp_all[Gh,Di,Op.operands]
 | index t x i=>rw[A] at h;show I6 P H ev o t (ev x) (ev i)=I6 P H ev' o t (ev' x) (ev' i);simp_all[I6,Op.operands]
 | lookup t m k D=>rw[A] at h;show E8 P H ev o t (ev m) (ev k) D=E8 P H ev' o t (ev' m) (ev' k) D;simp_all[E8,Op.operands]
 | range t x=>rw[A] at h;show Qc P H t (ev x)=Qc P H t (ev' x);grind[Op.operands]
 | next x b=>rw[A] at h;cases b with
  | true=>show Qd H (ev x)=Qd H (ev' x);grind[Op.operands]
  | false=>rfl
 | typeAssert x s t D=>rw[A] at h;show I7 P H ev o (ev x) t D=I7 P H ev' o (ev' x) t D;simp_all[I7,Op.operands]
 | extract t i=>rw[A] at h;show Ic H (ev t) i=Ic H (ev' t) i;grind[Op.operands]
 | panic x=>rw[A] at h;show Qe H (ev x)=Qe H (ev' x);grind[Op.operands]
 | call c =>
  rw[A] at h;show Bj P H ev o c=Bj P H ev' o c;have ha:Be ev c.args.toList=Be ev' c.args.toList:=evals_congr λx hx=>h x (by grind[Call.operands,Op.operands]);unfold Bj;rw[ha]
  cases hc:c.callee with
  | value f=>grind[Call.operands,Op.operands]
  | invoke r m=>grind[Tb,Call.operands,Op.operands]
  | builtin b=>simp_all[K9,H9,E7]
 | defer c =>
  rw[A] at h;show Og H ev c=Og H ev' c;grind[Call.operands,Op.operands,evals_congr,Og]
 | _=>rfl
theorem a2m{o:Oper}(h:cls o.op≠.no):∀cs b,o.op≠.select cs b:=by
 intro cs b e;rw[e] at h;exact h rfl
end
section
variable {P:Program}{H:Mem}{ev:Ev}{o:Oper}
def vb:R->Bool
 | .val _ _=>true
 | .bad=>true
 | _=>false
theorem G4(x:Option AV):vb (ofOpt H x)=true:=by cases x<;>rfl
theorem Un(l:List AV)(b:Bool)(v:AV):vb (C9 H l b v)=true:=by unfold C9;rw[Xy];rfl
theorem d0z(h:freeOp o.op=true):vb (opV P H ev o)=true:=by
 have a0:∀(x:Option AV),vb (match (x:Option AV) with|some v=>R.val v H|none=>.bad)=true:=by intro x;cases x<;>rfl
 have A:∀(x:Option AV),vb (Gh P H ev o x)=true:=by
  intro x;unfold Gh;cases x with
  | none=>exact G4 _
  | some v=>rfl
 unfold opV
 cases D:o.op with
 | move x=>show vb (Ed H (ev x))=true;unfold Ed;(split<;>rfl)
 | assign x=>show vb (Ed H (ev x))=true;unfold Ed;(split<;>rfl)
 | pick c a b=>show vb (Gx H (ev c) (ev a) (ev b))=true;unfold Gx;split<;>first|exact G4 _|rfl
 | build t ps=>show vb (Hb P H t (Cm ev ps.toList))=true;unfold Hb;split<;>first|exact G4 _|rfl
 | nilCheck x=>show vb (I5 P H ev o (ev x))=true;unfold I5;split<;>first|exact G4 _|rfl
 | binOp op t x y r =>
  show vb (Bc P H ev o op t (ev x) (ev y))=true;unfold Bc;split
  .rfl
  .split
   .rfl
   .unfold Oh;split
    .split<;>rfl
    .rfl
 | unOp op t x=>show vb (ofOpt H (A3 P ev o))=true;exact G4 _
 | makeInterface t x=>show vb (J8 P H t (ev x))=true;unfold J8;split<;>rfl
 | makeFunc fn a b=>show vb (Ib H fn (Be ev a.toList) (Be ev b.toList))=true;unfold Ib;split<;>rfl
 | slice t x lo hi U =>
  show vb (Cw P H ev o t (ev x) lo hi U)=true;unfold Cw;split
  .rfl
  .unfold Gg;split
   .split<;>first|exact G4 _|rfl
   .rfl
 | fieldAddr s x f=>show vb (Gy P H ev o s (ev x) f)=true;unfold Gy;split<;>first|exact A _|rfl
 | field t x f=>show vb (J9 P H t (ev x) f)=true;unfold J9;split<;>first|exact G4 _|rfl
 | indexAddr t x i=>show vb (Di P H ev o t (ev x) (ev i))=true;unfold Di;split<;>first|exact A _|rfl
 | index t x i =>
  show vb (I6 P H ev o t (ev x) (ev i))=true;unfold I6;split
  .split<;>first|exact G4 _|rfl
  .rfl
 | typeAssert x s t Z =>
  show vb (I7 P H ev o (ev x) t Z)=true;unfold I7;split
  .rfl
  .split<;>first|exact G4 _|rfl
 | extract t i =>
  show vb (Ic H (ev t) i)=true;unfold Ic;split
  .exact G4 _
  .split<;>rfl
  .rfl
 | _=>rw[D] at h;cases h
theorem d1a(h:cls o.op=.read):vb (opV P H ev o)=true:=by
 unfold opV;cases f:o.op<;>rw[f] at h<;>first|(simp[cls,freeOp] at h;done)|skip
 .rename_i t x;show vb (Fs P H t (ev x))=true;unfold Fs;split<;>first|exact G4 _|rfl
 .rename_i t m k A;show vb (E8 P H ev o t (ev m) (ev k) A)=true;unfold E8;split<;>first|exact G4 _|rfl
 .rename_i c;show vb (Bj P H ev o c)=true;unfold Bj;split
  .rfl
  .simp only[cls,freeOp] at h;split
   .rename_i b D;rw[D] at h;unfold E7;cases b<;>first|(cases h;done)|skip
    .dsimp only;unfold K9;split
     .rfl
     .split<;>rfl
    .dsimp only;unfold H9;split
     .exact G4 _
     .unfold G9;split<;>first|rfl|skip;split<;>rfl
   all_goals grind
theorem d1b(h:cls o.op=.alloc):vb (opV P H ev o)=true:=by
 unfold opV;rcases a8q h with⟨t,f⟩|⟨t,x,f⟩|⟨t,n,ps,f⟩|⟨t,l,c,f⟩|⟨t,r,f⟩<;>rw[f]
 .show vb (I4 P H t)=true;unfold I4;split<;>first|exact Un _ _ _|rfl
 .show vb (Ha H (ev x))=true;unfold Ha;split<;>first|exact Un _ _ _|rfl
 .show vb (Fq P H t n (Cm ev ps.toList))=true;unfold Fq;split
  .split
   .split<;>first|exact Un _ _ _|rfl
   .rfl
  .rfl
 .show vb (Ec P H t (ev l) (ev c))=true;unfold Ec;split
  .split<;>first|exact Un _ _ _|rfl
  .rfl
 .show vb (Gf P H ev t r)=true;unfold Gf;split
  .rw[Xy];rfl
  .split
   .rw[Xy];rfl
   .rfl
theorem d1c{s d:TypeId}{x:AV}(f:Q9 P s=true)(h:Q9 P d=true):convert P H s d x=none:=by
 (simp_all[Q9,convert];grind)
theorem d1d(h:cls o.op=.gen)(f:Ul P o=true):opV P H ev o=.bad\/∃v,opV P H ev o=.val v H/\A3 P ev o=some v:=by
 have U:ofOpt H (A3 P ev o)=.bad\/∃v,ofOpt H (A3 P ev o)=.val v H/\A3 P ev o=some v:=by
  cases A:A3 P ev o with
  | none=>exact .inl rfl
  | some v=>exact .inr ⟨v,rfl,rfl⟩
 unfold opV;unfold Ul at f;cases D:o.op<;>rw[D] at h f<;>first|(simp[cls,freeOp] at h;done)|skip
 .rename_i s d x;show Eb P H ev o s d (ev x)=.bad\/∃v,Eb P H ev o s d (ev x)=.val v H/\_;unfold Eb;simp only[W0] at f
  cases A:A3 P ev o with
  | some v=>grind
  | none =>
   grind[d1c]
 .rename_i c;simp only[cls,freeOp] at h;show Bj P H ev o c=.bad\/∃v,Bj P H ev o c=.val v H/\_;unfold Bj;split
  .grind
  grind[E7]
def acts:R->Bool
 | .dfr _ _ _ _=>false
 | .panic _ _=>false
 | .recover=>false
 | _=>true
theorem b0u(f:FuncId)(args:List AV):acts (I3 P H f args)=true:=by unfold I3;split<;>rfl
theorem d1e(h:cls o.op=.chain):acts (opV P H ev o)=true:=by
 have upd:∀(t:TypeId)(m k x:Option AV),acts (Ft P H t m k x)=true:=by
  intro t m k x;unfold Ft;split
  .split<;>rfl
  .rfl
 unfold opV;cases f:o.op<;>rw[f] at h<;>first|(simp[cls,freeOp] at h;done)|skip
 .exact upd _ _ _ _
 .rename_i t a x;show acts (Ia P H t (ev a) (ev x))=true;unfold Ia;split
  .split<;>rfl
  .rfl
 .exact upd _ _ _ _
 .rename_i c;simp only[cls,freeOp] at h;show acts (Bj P H ev o c)=true;unfold Bj;split
  .rfl
  .split
   .rename_i b A;rw[A] at h;unfold E7;cases b<;>first|(cases h;done)|skip
    .dsimp only;unfold P9;split
     .split<;>rfl
     .rfl
    .dsimp only;unfold Ta;split
     .split
      .split<;>rfl
      .rfl
     .rfl
    .dsimp only;unfold a0a;split
     .split<;>rfl
     .rfl
   .unfold Tb;split
    .split
     .split
      .grind[b0u]
      .rfl
     .rfl
    .rfl
   .unfold La;split<;>first|exact b0u _ _|rfl
theorem b0v(D:cls o.op≠.chain)(U:cls o.op≠.no)(Z:cls o.op≠.alloc)(hc:Ul P o=true):opV P H ev o=.bad\/∃v,opV P H ev o=.val v H/\quiet P H ev o=some v:=by
 cases A:cls o.op with
 | free =>
  have h:freeOp o.op=true:=by
   cases h:freeOp o.op with
   | true=>rfl
   | false =>
    (simp_all[cls];grind)
  have:=d0z (P:=P) (H:=H) (ev:=ev) h
  cases f:opV P H ev o with
  | val v H' =>
   obtain⟨rfl,_⟩:=a0w h H v H' f;exact .inr ⟨v,rfl,by grind[quiet]⟩
  | bad=>grind
  | _=>rw[f] at this;cases this
 | read =>
  have:=d1a (P:=P) (H:=H) (ev:=ev) A
  cases f:opV P H ev o with
  | val v H' =>
   have:=a8t A f;subst this;exact .inr ⟨v,rfl,by grind[quiet]⟩
  | bad=>grind
  | _=>rw[f] at this;cases this
 | gen =>
  grind[d1d,quiet]
 | chain=>grind
 | no=>grind
 | alloc=>grind
end
section
abbrev AlP:=List (Nat×Nat×Option Blk)
noncomputable def D2(fr:Fr)(d:Option Tmp):Option AV:=match d with|some d=>fr.get d|none=>none
noncomputable def Hm(P:Program)(W:WF)(ops:Array Oper)(fr:Fr)(H:Mem):List Nat->Prop
 | []=>True
 | i::l=>(match ops[i]? with
  | some o=>C6 P W ops o fr H (λfr' _=>D2 fr' o.dst=D2 fr o.dst) (λ_=>False)
  | none=>False)/\Hm P W ops fr H l
noncomputable def Km(H:Mem)(as:List Nat):AlP->Prop
 | []=>True
 | (i,a,b)::l=>(i∈as->H.get a=b)/\Km H as l
noncomputable def Bm(P:Program)(W:WF)(ops:Array Oper)(Q:Out->Prop):List It->Fr->Mem->AlP->Prop
 | [],fr,H,_=>Q (.norm fr H)
 | .run i::l,fr,H,als=>match ops[i]? with
  | some o=>C6 P W ops o fr H (λfr H=>Bm P W ops Q l fr H als) Q
  | none=>False
 | .mk i::l,fr,H,als=>match ops[i]? with
  | some o=>C6 P W ops o fr H (λfr H'=>Bm P W ops Q l fr H' ((i,H.next,H'.get H.next)::als)) Q
  | none=>False
 | .gate hs as::l,fr,H,als=>Hm P W ops fr H hs/\Km H as als/\Bm P W ops Q l fr H als
noncomputable def Im(Q:Out->Prop):Out->Prop
 | .panic v fr H=>Q (.panic v fr.clear H)
 | r=>Q r
theorem Mem.get_add_same(H:Mem)(b:Blk):(H.add b).get H.next=some b:=by
 obtain⟨t,n⟩:=H
 cases t with
 | tr t =>
  show Ep (u4 t n (.v n b)) n=some b;simp[Ep,a0i,Mz]
 | fn g=>exact if_pos rfl
variable {P:Program}{W:WF}{ops:Array Oper}{g:Nat→Option AV}{ds:List Dfr}{Q:Out→Prop}{S:Nat}{res:ResF}{H:Mem}{held:List Nat}{als:Als}{alsP:AlP}{i:Nat}{o:Oper}
structure PI (ops:Array Oper) (S:Nat) (res:ResF):Prop where
 un:∀j,S.testBit j=false->res j=none
 dn:∀j,S.testBit j=true->∃v,res j=some v
 down:∀j k,S.testBit j=true->A1 (ancs [] ops.toList) j k=true->S.testBit k=true
noncomputable def Gs(ops:Array Oper)(g:Nat->Option AV)(S:Nat)(res:ResF):Nat->Option AV:=λt=>match Gz t ops.toList 0 with
 | some j=>(match S.testBit j with|true=>res j|false=>g t)
 | none=>g t
theorem a2n{i j:Nat}:(S ||| 2 ^ i).testBit j=(S.testBit j||decide (i=j)):=by grind
theorem PI.step(h:PI ops S res)(hi:S.testBit i=false)(Z:∀j,A1 (ancs [] ops.toList) i j=true->S.testBit j=true)(v:AV):PI ops (S ||| 2 ^ i) (Ct res i v):=by
 refine⟨λj f=>?_,λj f=>?_,λj k f A=>?_⟩
 .rw[a2n,Bool.or_eq_false_iff] at f;have D:¬j=i:=λe=>of_decide_eq_false f.2 e.symm;unfold Ct;rw[if_neg D];exact h.un j f.1
 .unfold Ct;by_cases e:j=i
  .simp_all
  .rw[if_neg e];rw[a2n] at f;have:¬i=j:=λU=>e U.symm;simp[this] at f;exact h.dn j f
 .rw[a2n] at f |-;by_cases e:i=j
  .grind
  .simp[e] at f;rw[h.down j k f A];rfl
theorem a2o(A:fit ops.toList ops.toList 0=true)(D:ops[i]?=some o){d:Tmp}(U:o.dst=some d):Gz d ops.toList 0=some i:=by
 have f:=Lp A i o (B7.2 D);unfold Ka at f;simp only[W0] at f;have h:=f.1.1.1;rw[U] at h;dsimp only at h;split at h
 all_goals simp_all
theorem Rc(h:fit ops.toList ops.toList 0=true)(A:ops[i]?=some o)(v:AV):
  (Fr.f (Gs ops g S res) ds).put o.dst v=.f (Gs ops g (S ||| 2 ^ i) (Ct res i v)) ds:=by
 have Z:∀t,o.dst≠some t->Gs ops g (S ||| 2 ^ i) (Ct res i v) t=Gs ops g S res t:=by
  intro t ht;unfold Gs;split
  .rename_i j D;obtain⟨_,oj,a0,a1⟩:=Lm D
   (simp_all[Ct];grind)
  .rfl
 cases U:o.dst with
 | none =>
  show Fr.f (Gs ops g S res) ds=_;congr 1;grind
 | some d =>
  show Fr.f (E9 (Gs ops g S res) d v) ds=_;congr 1;funext t;unfold E9;by_cases e:t=d
  .subst e;rw[if_pos rfl];unfold Gs;rw[a2o h A U];grind[Ct]
  grind
theorem a2p{t:Tmp}(h:Operand.tmp t∈o.op.operands.toList):t∈O5 o:=List.mem_filterMap.2 ⟨_,h,rfl⟩
theorem b0w(h:PI ops S res)(hi:S.testBit i=false)(ha:∀j,A1 (ancs [] ops.toList) i j=true->S.testBit j=true)
  (Z:(O5 o).all (a2k (ancs [] ops.toList) ops.toList i)=true):∀x∈o.op.operands.toList,(Fr.f (Gs ops g S res) ds).ev x=Bw ops (ancs [] ops.toList) (.f g ds) res i x:=by
 intro x hx
 cases x with
 | tmp t =>
  have A:=W7.1 Z t (a2p hx);show Gs ops g S res t=G1 ops (ancs [] ops.toList) (.f g ds) res i t;unfold a2k at A;unfold Gs G1;split at A
  .rename_i D;rw[D];rfl
  .rename_i j D;rw[D];dsimp only
   cases hb:A1 (ancs [] ops.toList) i j with
   | true=>grind
   | false =>
    rw[hb,Bool.false_or] at A;rw[A];have:S.testBit j=false:=by
     cases hs:S.testBit j with
     | false=>rfl
     | true =>
      exfalso;rcases e8m _ _ ▸ A with U|U
      .rw[h.down j i hs U] at hi;grind
      simp_all
    rw[this];rfl
 | const c=>rfl
 | global c=>rfl
 | func f=>rfl
theorem d1f(h:PI ops S res)(hi:S.testBit i=true)
  (U:(O5 o).all (ahead (ancs [] ops.toList) ops.toList i)=true):∀x∈o.op.operands.toList,(Fr.f (Gs ops g S res) ds).ev x=Bw ops (ancs [] ops.toList) (.f g ds) res i x:=by
 intro x hx
 cases x with
 | tmp t =>
  have A:=W7.1 U t (a2p hx);show Gs ops g S res t=G1 ops (ancs [] ops.toList) (.f g ds) res i t;unfold ahead at A;unfold Gs G1;split at A
  .rename_i D;rw[D];rfl
  .rename_i j D;rw[D];dsimp only;rw[A,h.down i j hi A]
 | const c=>rfl
 | global c=>rfl
 | func f=>rfl
theorem d1g(h:PI ops S res)(hi:S.testBit i=true){k:Nat}(A:S.testBit k=false)(v:AV)(fr:Fr):Bw ops (ancs [] ops.toList) fr (Ct res k v) i=Bw ops (ancs [] ops.toList) fr res i:=by
 funext x
 cases x with
 | tmp t =>
  show G1 ops (ancs [] ops.toList) fr (Ct res k v) i t=G1 ops (ancs [] ops.toList) fr res i t;unfold G1;split
  .rfl
  .rename_i j U
   cases D:A1 (ancs [] ops.toList) i j with
   | true =>
    dsimp only;unfold Ct;rw[if_neg];intro e;subst e;rw[h.down i j hi D] at A;grind
   | false=>rfl
 | const c=>rfl
 | global c=>rfl
 | func f=>rfl
theorem Re{f:List Nat}(h:Nat.beq ((f.getD i 0) &&& S) (f.getD i 0)=true):∀j,A1 f i j=true->S.testBit j=true:=by
 (simp_all[A1];grind)
theorem Uo{f:List Nat}{A:List Oper}:∀{l:List Oper}{k:Nat},Kl P f A l k=true->∀i o,l[i]?=some o->Ra P f A o (k+i)=true
 | [],_,_,i,o,h=>by grind
 | x::l,k,h,i,o,D=>by
  simp only[Kl,W0] at h
  cases i with
  | zero=>grind
  | succ i =>
   have:=Uo h.2 i o (by grind);grind
theorem b0x{x:Option AV}{w:Bool}{A B f no:Prop}(h:Fg x w A B)(D:x=some (.lit (.bool w))->A->f)(U:B->no):Fg x w f no:=by
 (simp_all[Fg];grind)
theorem a2q(D:fit ops.toList ops.toList 0=true)(ho:ops[i]?=some o){gd:Nat×Bool}(hg:o.guard=some gd)(hS:S.testBit gd.1=true):
  Dp ops (.f (Gs ops g S res) ds) gd.1=res gd.1:=by
 have A:=Lp D i o (B7.2 ho);unfold Ka at A;simp only[W0] at A;have h:=A.2;rw[hg] at h;dsimp only at h;unfold Dp
 cases U:ops[gd.1]? with
 | none =>
  grind
 | some Z =>
  have a0:ops.toList[gd.1]?=some Z:=B7.2 U;rw[a0] at h;dsimp only at h |-
  cases hd:Z.dst with
  | none=>grind
  | some d =>
   show Gs ops g S res d=res gd.1;unfold Gs;rw[a2o D U hd];grind
end
section
variable {P:Program}{W:WF}{ops:Array Oper}{g:Nat→Option AV}{ds:List Dfr}{Q:Out→Prop}{S:Nat}{res:ResF}{H:Mem}{held:List Nat}{als:Als}{alsP:AlP}{i:Nat}{o:Oper}{s:Hs}
def Rq(P:Program)(ops:Array Oper)(g:Nat->Option AV)(ds:List Dfr)(H:Mem)(res:ResF)(i:Nat):Prop:=
 ∃o v,ops[i]?=some o/\res i=some v/\quiet P H (Bw ops (ancs [] ops.toList) (.f g ds) res i) o=some v
def Ran(ops:Array Oper)(res:ResF)(i:Nat):Prop:=∃o,ops[i]?=some o/\cls o.op=.read/\∀gd,o.guard=some gd->res gd.1=some (.lit (.bool gd.2))
structure PS (P:Program) (ops:Array Oper) (g:Nat->Option AV) (ds:List Dfr) (s:Hs) (S:Nat) (res:ResF) (H:Mem) (held:List Nat) (als:Als) (alsP:AlP):Prop where
 pi:PI ops S res
 hd:∀i∈held,S.testBit i=true/\Ran ops res i/\(i∈s.di\/(i∈s.cl/\Rq P ops g ds H res i))
 al:∀x∈als,(x.1,x.2.1,some x.2.2)∈alsP/\(x.1∈s.adi\/(x.1∈s.acl/\H.get x.2.1=some x.2.2))
theorem a2r{k:Nat}{v:AV}(h:res k=none):GrF res (Ct res k v):=by
 intro j y f
 (simp_all[Ct];grind)
theorem Ran.grow{f:ResF}(h:Ran ops res i)(A:GrF res f):Ran ops f i:=by
 obtain⟨o,D,U,Z⟩:=h;exact⟨o,D,U,λgd e=>A _ _ (Z gd e)⟩
theorem Rq.grow{k:Nat}{v:AV}(f:PI ops S res)(hi:S.testBit i=true)(A:S.testBit k=false)(h:Rq P ops g ds H res i):Rq P ops g ds H (Ct res k v) i:=by
 obtain⟨o,y,D,U,Z⟩:=h;refine⟨o,y,D,a2r (f.un k A) _ _ U,?_⟩;grind[d1g]
theorem PS.step(h:PS P ops g ds s S res H held als alsP)(hi:S.testBit i=false)(f:∀j,A1 (ancs [] ops.toList) i j=true->S.testBit j=true)(v:AV):
  PS P ops g ds s (S ||| 2 ^ i) (Ct res i v) H held als alsP:=
 ⟨h.pi.step hi f v,λj A=>let ⟨a,b,c⟩:=h.hd j A;⟨by grind,b.grow (a2r (h.pi.un i hi)),c.imp id λ⟨d,e⟩=>⟨d,e.grow h.pi a hi⟩⟩,h.al⟩
theorem PS.soil{H': Mem}{acl:List Nat}{cl:List Nat}(h:PS P ops g ds s S res H held als alsP)(p:Nat×Nat×Option Blk):PS P ops g ds ⟨cl,s.cl++s.di,acl,s.acl++s.adi⟩ S res H' held als (p::alsP):=
 ⟨h.pi,λj f=>let ⟨a,b,c⟩:=h.hd j f;⟨a,b,.inl (by grind)⟩,
  λx hx=>let ⟨a,c⟩:=h.al x hx;⟨e6h _ a,.inl (by grind)⟩⟩
variable {KW:StW}{K:Hs→List It}
theorem Jp(a0:fit ops.toList ops.toList 0=true)(a1:Kl P (ancs [] ops.toList) ops.toList ops.toList 0=true)
  (hK:∀s S res H held als alsP,PS P ops g ds s S res H held als alsP->D1 (ancs [] ops.toList) ops.toList S (K s)=true->Bm P W ops Q (K s) (.f (Gs ops g S res) ds) H alsP->KW res H held als) :
  ∀(L:List Nat)(s:Hs)(S:Nat)(res:ResF)(H:Mem) (held:List Nat) (als:Als) (alsP:AlP),(∀i∈L,∃o,ops[i]?=some o/\Cj o.op=false/\cls o.op≠.no) ->
   PS P ops g ds s S res H held als alsP->D1 (ancs [] ops.toList) ops.toList S (Kk ops.toList L s K)=true->Bm P W ops Q (Kk ops.toList L s K) (.f (Gs ops g S res) ds) H alsP ->
   Nh P ops (ancs [] ops.toList) (.f g ds) KW L res H held als
 | [],s,S,res,H,held,als,alsP,_,ps,A,D=>hK s S res H held als alsP ps A D
 | i::L,s,S,res,H,held,als,alsP,hL,ps,A,D=>by
  obtain⟨o,ho,b6,a8⟩:=hL i (by simp);have a2:∀j∈L,∃o,ops[j]?=some o/\Cj o.op=false/\cls o.op≠.no:=λj hj=>hL j (by grind);have a4:=Uo a1 i o (B7.2 ho);rw[e6s] at a4;unfold Ra at a4;simp only[W0] at a4;obtain⟨⟨b0,b7⟩,b1⟩:=a4;have b2:cls o.op≠.chain:=by grind[Cj]
  have step:∀{k:Fr->Mem->Prop}{a6 no:Prop},(∀j,A1 (ancs [] ops.toList) i j=true->S.testBit j=true)->S.testBit i=false->C6 P W ops o (.f (Gs ops g S res) ds) H k Q ->
    ((∀gd,o.guard=some gd->res gd.1=some (.lit (.bool gd.2)))->Fv W o (.f (Gs ops g S res) ds) k Q (opV P H (Bw ops (ancs [] ops.toList) (.f g ds) res i) o)->a6) ->
    (k (.f (Gs ops g (S ||| 2 ^ i) (Ct res i (.lit undef))) ds) H->no)->Ng (ancs [] ops.toList) res i o a6 no:=by
   intro k a6 no U hi h h1 h2;have b8:=Um (P:=P) (H:=H) (a2m a8) (b0w (g:=g) (ds:=ds) ps.pi hi U b0);unfold C6 at h;unfold Ng;split at h
   all_goals grind[b0x,Rc,a2q]
  have a7:cls o.op≠.alloc->∀{k:Fr->Mem->Prop},Fv W o (.f (Gs ops g S res) ds) k Q (opV P H (Bw ops (ancs [] ops.toList) (.f g ds) res i) o) ->
    ∃v,quiet P H (Bw ops (ancs [] ops.toList) (.f g ds) res i) o=some v/\k (.f (Gs ops g (S ||| 2 ^ i) (Ct res i v)) ds) H:=by
   intro b3 k h;rcases b0v (P:=P) (H:=H) (ev:=Bw ops (ancs [] ops.toList) (.f g ds) res i) b2 a8 b3 b1 with hb|⟨v,hv,hq⟩
   .rw[hb] at h;exact h.elim
   .rw[hv] at h;refine⟨v,hq,?_⟩;have h' : k ((Fr.f (Gs ops g S res) ds).put o.dst v) H:=h;grind[Rc]
  have b4:ops.toList[i]?=some o:=B7.2 ho;unfold Nh T1;rw[ho];dsimp only;unfold Kk at A D;rw[b4] at A D;dsimp only at A D
  cases a3:cls o.op with
  | chain=>grind
  | no=>grind
  | alloc =>
   rw[a3] at A D;simp only[D1,W0] at A;obtain⟨⟨h1,h2⟩,A⟩:=A;have hi:S.testBit i=false:=by grind
   have U:=Re h2;unfold Bm at D;rw[ho] at D;dsimp only at D |-;refine step U hi D ?_ ?_
   .intro a5 h;have a9:=d1b (P:=P) (H:=H) (ev:=Bw ops (ancs [] ops.toList) (.f g ds) res i) a3
    cases hv:opV P H (Bw ops (ancs [] ops.toList) (.f g ds) res i) o with
    | val v H' =>
     rw[hv] at h;obtain⟨f,x,e1,e2,_⟩:=a0x (B:=0) a3 hv;have h' : Bm P W ops Q (Kk ops.toList L ⟨[],s.cl++s.di,[i],s.acl++s.adi⟩ K) ((Fr.f (Gs ops g S res) ds).put o.dst v) H' ((i,H.next,H'.get H.next)::alsP):=h;rw[Rc a0 ho] at h';have b5:H'.get H.next=some x:=by grind[Mem.get_add_same]
     unfold a1o;dsimp only;rw[b5];refine⟨ps.pi.un i hi,?_⟩;refine Jp a0 a1 hK L _ _ _ _ _ _ _ a2 ?_ A h';have Z:=(ps.step hi U v).soil (H':=H') (acl:=[i]) (cl:=[]) (i,H.next,H'.get H.next);refine⟨Z.pi,Z.hd,λy hy=>?_⟩;rcases Xb.1 hy with rfl|hy
     .grind
     .exact Z.al y hy
    | bad=>rw[hv] at h;assumption
    | _=>rw[hv] at a9;cases a9
   .intro h;refine⟨ps.pi.un i hi,?_⟩;exact Jp a0 a1 hK L _ _ _ _ _ _ _ a2 ((ps.step hi U _).soil _) A h
  | read =>
   rw[a3] at A D;simp only[D1,W0] at A;obtain⟨⟨h1,h2⟩,A⟩:=A;have hi:S.testBit i=false:=by grind
   have U:=Re h2;unfold Bm at D;rw[ho] at D;dsimp only at D |-;refine step U hi D ?_ ?_
   .intro a5 h;obtain⟨v,hq,h'⟩:=a7 (by grind) h;unfold Ly;rw[hq];refine⟨ps.pi.un i hi,?_⟩;refine Jp a0 a1 hK L _ _ _ _ _ _ _ a2 ?_ A h';have Z:=ps.step hi U v;refine⟨Z.pi,λj hj=>?_,Z.al⟩;rcases Xb.1 hj with rfl|hj
    .refine⟨by grind,⟨o,ho,a3,λgd e=>a2r (ps.pi.un _ hi) _ _ (a5 gd e)⟩,.inr ⟨by simp,o,v,ho,if_pos rfl,?_⟩⟩;have:Bw ops (ancs [] ops.toList) (.f g ds) (Ct res j v) j=Bw ops (ancs [] ops.toList) (.f g ds) res j:=by
      funext x
      cases x with
      | tmp t =>
       show G1 ops (ancs [] ops.toList) (.f g ds) (Ct res j v) j t=G1 ops (ancs [] ops.toList) (.f g ds) res j t;unfold G1;split
       .rfl
       (simp_all[Ct];grind)
      | const c=>rfl
      | global c=>rfl
      | func f=>rfl
     grind
    .obtain⟨a,b,c⟩:=Z.hd j hj;grind
   .intro h;refine⟨ps.pi.un i hi,?_⟩;refine Jp a0 a1 hK L _ _ _ _ _ _ _ a2 ?_ A h;have Z:=ps.step hi U (.lit undef);exact⟨Z.pi,λj hj=>let ⟨a,b,c⟩:=Z.hd j hj;⟨a,b,c.imp id λ⟨d,e⟩=>⟨by grind,e⟩⟩,Z.al⟩
  | free =>
   rw[a3] at A D;simp only[D1,W0] at A;obtain⟨⟨h1,h2⟩,A⟩:=A;have hi:S.testBit i=false:=by grind
   have U:=Re h2;unfold Bm at D;rw[ho] at D;dsimp only at D |-;refine step U hi D ?_ ?_
   .intro a5 h;obtain⟨v,hq,h'⟩:=a7 (by grind) h;unfold Ly;rw[hq];exact⟨ps.pi.un i hi,Jp a0 a1 hK L _ _ _ _ _ _ _ a2 (ps.step hi U v) A h'⟩
   .intro h;exact⟨ps.pi.un i hi,Jp a0 a1 hK L _ _ _ _ _ _ _ a2 (ps.step hi U _) A h⟩
  | gen =>
   rw[a3] at A D;simp only[D1,W0] at A;obtain⟨⟨h1,h2⟩,A⟩:=A;have hi:S.testBit i=false:=by grind
   have U:=Re h2;unfold Bm at D;rw[ho] at D;dsimp only at D |-;refine step U hi D ?_ ?_
   .intro a5 h;obtain⟨v,hq,h'⟩:=a7 (by grind) h;unfold Ly;rw[hq];exact⟨ps.pi.un i hi,Jp a0 a1 hK L _ _ _ _ _ _ _ a2 (ps.step hi U v) A h'⟩
   .intro h;exact⟨ps.pi.un i hi,Jp a0 a1 hK L _ _ _ _ _ _ _ a2 (ps.step hi U _) A h⟩
end
end Go.Ai
