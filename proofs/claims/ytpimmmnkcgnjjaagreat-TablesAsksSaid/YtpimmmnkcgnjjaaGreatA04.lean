/- Parts of an interpreter and of a proof. No condition. -/
import Derived.Test.YtpimmmnkcgnjjaaGreatA03
import Derived.Test.YtpimmmnkcgnjjaaGreatA01
set_option linter.all false
open Go.RowKit (Below)
namespace Go.Ai
section
variable {B G:Nat}{P:Program}{n n0:Nat}{ρ0 ρ:Rn}{w0 w:World}{fr:Fr}{H:Mem}{a:Act}{W:WF}{Q:Out→Prop}
theorem b0b(hW:WOK G P W)(hG:G=P.globals.size):∀(c:Code)(fr:Fr)(H:Mem)(Q:Out->Prop),Az n c=true->Jk P W (LX G P n) c fr H Q->XW G P n c fr H Q:=by
 intro c
 induction c with
 | skip=>intro fr H Q _ h B n0 ρ0 w0 ρ a w s;exact wp_skip ⟨_,h,ρ,s⟩
 | region id ops a5 =>
  intro fr H Q A h B n0 ρ0 w0 ρ a w s
  cases a5 with
  | false=>exact wp_region_list (Ty hW hG ops.toList fr H ρ a w (λo D=>W7.1 A o D) s h)
  | true=>exact b0a hW hG s A h
 | seq x y a0 a1 =>
  intro fr H Q A h B n0 ρ0 w0 ρ a w s;simp only[Az,W1] at A;refine wp_seq (Code.wp_mono ?_ (a0 fr H _ A.1 h B n0 ρ0 w0 ρ a w s));rintro e a' w' ⟨a3,U,D⟩
  cases a3 with
  | norm Z H' =>
   cases e with
   | normal=>obtain⟨ρ',s'⟩:=D;exact a1 Z H' Q A.2 U B n0 ρ0 w0 ρ' a' w' s'
   | _=>exact D.elim
  | exit id Z H'=>cases e<;>first|exact D.elim|exact⟨_,U,D⟩
  | ret Z H'=>cases e<;>first|exact D.elim|exact⟨_,U,D⟩
  | panic v Z H'=>cases e<;>first|exact D.elim|exact⟨_,U,D⟩
  | bad=>exact U.elim
 | cond a6 x y a0 a1 =>
  intro fr H Q A h B n0 ρ0 w0 ρ a w s;simp only[Az,W1] at A;have h' : Gj (fr.ev a6) (Jk P W (LX G P n) x fr H Q) (Jk P W (LX G P n) y fr H Q):=h;unfold Gj at h';split at h'
  .rename_i b a7;have:=s.ev _ _ a7
   cases b with
   | true=>exact wp_cond_true this (a0 fr H Q A.1 (h'.1 rfl) B n0 ρ0 w0 ρ a w s)
   | false=>exact wp_cond_false this (a1 fr H Q A.2 (h'.2 rfl) B n0 ρ0 w0 ρ a w s)
  grind
 | block id b ih =>
  intro fr H Q A h B n0 ρ0 w0 ρ a w s;refine wp_block (Code.wp_mono ?_ (ih fr H _ A h B n0 ρ0 w0 ρ a w s));rintro e a' w' ⟨a3,U,D⟩
  cases a3 with
  | norm Z H'=>cases e<;>first|exact D.elim|exact⟨_,U,D⟩
  | exit a8 Z H' =>
   cases e with
   | exit a4 =>
    obtain⟨rfl,ρ',s'⟩:=D;have a2:if a4=id then Q (.norm Z H') else Q (.exit a4 Z H'):=U;by_cases e:a4=id
    .subst e;rw[if_pos rfl] at a2;simp only[Exit.inBlock,if_true];exact⟨_,a2,ρ',s'⟩
    .rw[if_neg e] at a2;simp only[Exit.inBlock,e,if_false];exact⟨_,a2,rfl,ρ',s'⟩
   | _=>exact D.elim
  | ret Z H'=>cases e<;>first|exact D.elim|exact⟨_,U,D⟩
  | panic v Z H'=>cases e<;>first|exact D.elim|exact⟨_,U,D⟩
  | bad=>exact U.elim
 | loop b ih =>
  intro fr H Q A h B n0 ρ0 w0 ρ a w s;exact(h B n0 ρ0 w0 ρ a w s).wp
 | rangeFunc f ps x y a0 a1=>intro fr H Q A h;exact h.elim
 | exit id=>intro fr H Q A h B n0 ρ0 w0 ρ a w s;exact wp_exit ⟨_,h,rfl,ρ,s⟩
 | scope b ih=>intro fr H Q A h;exact h.elim
 | label l=>intro fr H Q A h B n0 ρ0 w0 ρ a w s;exact wp_label ⟨_,h,ρ,s⟩
 | goto l=>intro fr H Q A h;exact h.elim
 | ret=>intro fr H Q A h B n0 ρ0 w0 ρ a w s;exact wp_ret ⟨_,h,ρ,s⟩
 | refuse a9=>intro fr H Q A h;exact h.elim
theorem LX.round(Z:WOK G P W)(hG:G=P.globals.size){b:Code}(hd:Az n b=true)(h:Jk P W (LX G P n) b fr H (Gi (λfr H=>LX G P n b fr H Q) Q)):LX G P n b fr H Q:=by
 intro B n0 ρ0 w0 ρ a w s;refine Y2 (Code.wp_mono ?_ (b0b Z hG b fr H _ hd h B n0 ρ0 w0 ρ a w s));rintro e a' w' ⟨a0,D,A⟩
 cases a0 with
 | norm U H' =>
  cases e with
  | normal=>obtain⟨ρ',s'⟩:=A;exact D B n0 ρ0 w0 ρ' a' w' s'
  | _=>exact A.elim
 | exit id U H'=>cases e<;>first|exact A.elim|exact⟨_,D,A⟩
 | ret U H'=>cases e<;>first|exact A.elim|exact⟨_,D,A⟩
 | panic v U H'=>cases e<;>first|exact A.elim|exact⟨_,D,A⟩
 | bad=>exact D.elim
noncomputable def G7(P:Program)(O:CallF)(fn:Func)(K:A1->Prop):Out->Prop
 | .norm fr H=>match C3 P O (λ_ _ _=>.bad) fn fr fr.defers .returning H with|.bad=>False|r=>K r
 | .ret fr H=>match C3 P O (λ_ _ _=>.bad) fn fr fr.defers .returning H with|.bad=>False|r=>K r
 | .panic v fr H=>match C3 P O (λ_ _ _=>.bad) fn fr fr.defers (.panicking v) H with|.bad=>False|r=>K r
 | _=>False
noncomputable def argsF:List AV->Nat->(Nat->Option AV)->Nat->Option AV
 | [],_,g=>g
 | v::l,i,g=>argsF l (i+1) (Fh g i v)
noncomputable def Hn(args:List AV):Fr:=.f (argsF args 0 (λ_=>none)) []
theorem argsF_get:∀(l:List AV)(i:Nat)(g:Nat->Option AV)(t:Nat)(v:AV),argsF l i g t=some v->(i<=t/\l[t-i]?=some v)\/g t=some v
 | [],i,g,t,v,h=>.inr h
 | x::l,i,g,t,v,h=>by
  rcases argsF_get l (i+1) (Fh g i x) t v h with⟨A,D⟩|A
  .left;refine⟨by omega,?_⟩;rw[show t-i=(t-(i+1))+1 by omega];simpa using D
  .unfold Fh at A;by_cases e:t=i
   .rw[if_pos e] at A;cases A;left;subst e;simp
   .rw[if_neg e] at A;exact .inr A
theorem T5{args:List AV}{us:Array Value}(A:VRs ρ args us.toList)(Z:args.length<=n):
  Dz n ρ (Hn args) { tmps:=us++Array.replicate (n-us.size) undef,defers:=[] }:=by
 have a0:us.size=args.length:=by have:=A.length;grind
 have D:∀t v,(Hn args).get t=some v->args[t]?=some v:=by
  intro t v h;rcases argsF_get args 0 _ t v h with⟨_,U⟩|U
  all_goals grind
 refine⟨?_,rfl,by grind,?_⟩
 .intro t v h _;obtain⟨u,hu,a1⟩:=A.get t (D t v h)
  (simp_all;grind)
 grind
theorem b0c(B G:Nat)(P:Program):Im B G P (λ_ _ _=>.bad):=λ_ _ _ _ _ _ _ _ _ _ _ _ h=>absurd rfl h
theorem T6{fn:Func}{tmps:Array Value}{R Z:Ending->World->Prop}(h:∀e w,R e w->Z e w):∀{ds:List Deferred}{u:FrameMode}{w:World},Leaves P fn tmps R ds u w->Leaves P fn tmps Z ds u w
 | [],.returning,w,⟨v,A,D⟩=>⟨v,A,h _ _ D⟩
 | [],.panicking a0,w,A=>h _ _ A
 | [],.run,w,A=>A.elim
 | d::ds,u,w,⟨A,fv,a1,f,args,D,h3,h4⟩=>⟨A,fv,a1,f,args,D,h3,h4.mono λe u' w' U=>by
   cases e with
   | returned v=>exact T6 h U
   | panicked a0=>exact T6 h U
   | outgrown=>exact h _ _ U⟩
theorem WC.enter{f:FuncId}{fn:Func}{c:Code}{args:List AV}{K:A1->Prop}{O:CallF}(hG:G=P.globals.size)(hO:∀B,A8 B G P O)(hW:WOK G P W)(hf:P.funcs[f]?=some fn)(hb:fn.body=some c)
  (hd:Az fn.ntmps c=true) (hl:args.length<=fn.ntmps) (h:Jk P W (LX G P fn.ntmps) c (Hn args) H (G7 P O fn K)):WC G P f args H K:=by
 intro B ρ us w s hv;have s1:St B G fn.ntmps H.next ρ w ρ (Hn args) H { tmps:=us++Array.replicate (fn.ntmps-us.size) undef,defers:=[] } w:=⟨Ya _ _ _ _,s,T5 hv hl,Wy _⟩;refine calls_of_wp_defers hf hb (Code.wp_mono ?_ (b0b hW hG c _ H _ hd h B H.next ρ w ρ _ w s1));rintro e U w' ⟨a0,Z,D⟩;have fin:∀{A:Fr}{u:Mode}{H' : Mem}{ρ' : Rn}{m:FrameMode},(match C3 P O (λ_ _ _=>.bad) fn A A.defers u H' with|.bad=>False|r=>K r)->St B G fn.ntmps H.next ρ w ρ' A H' U w'->MR ρ' u m ->
   Leaves P fn U.tmps (λe w'=>∃r,K r/\Jg B G H.next ρ w r e w') U.defers m w':=by
  intro A u H' ρ' m hm s' a1;have key:∀r,C3 P O (λ_ _ _=>.bad) fn A A.defers u H'=r->r≠.bad->K r->Leaves P fn U.tmps (λe w'=>∃r,K r/\Jg B G H.next ρ w r e w') U.defers m w':=by
   intro r hr a2 hk;refine T6 (λe w' hc=>⟨r,hk,hc⟩) ?_;exact L4 (hO B) (b0c B G P) hG a2 _ _ u H' ρ' m w' s'.frel.dfr s' a1 hr
  grind
 cases a0 with
 | norm A H' =>
  cases e with
  | normal=>obtain⟨ρ',s'⟩:=D;exact fin (u:=.returning) (m:=.returning) Z s' rfl
  | _=>exact D.elim
 | ret A H' =>
  cases e with
  | ret=>obtain⟨ρ',s'⟩:=D;exact fin (u:=.returning) (m:=.returning) Z s' rfl
  | _=>exact D.elim
 | panic v A H' =>
  cases e with
  | panic a3=>obtain⟨ρ',x,rfl,hx,s'⟩:=D;exact fin (u:=.panicking v) Z s' ⟨x,rfl,hx⟩
  | _=>exact D.elim
 | exit id A H'=>exact Z.elim
 | bad=>exact Z.elim
end
section
variable {P:Program}{W:WF}{L:LF}{Q:Out→Prop}{fr:Fr}{H:Mem}
/- What simp looks into: the state,not the code. -/
variable {tk a id j n:Nat}{k:Fr→Mem→Prop}{x y:Prop}{g:Nat→Option AV}{K:A1→Prop}{d:Option Tmp}{ds:List Dfr}{ops:Array Oper}{t:TypeId}{af:Array Edge}{l:List Oper}{O:CallF}{f:FuncId}{args:List AV}
def tick:Nat:=0
def tock:Nat:=0
theorem tick_tock:tick=tock:=by rfl
attribute [simp] tick_tock
theorem c3p(A:tick=tk){ops:Array Oper}{l:List Oper}{fr h:Fr}{H H' : Mem}(D:fr=h)(U:H=H'):Fy P W ops Q l fr H=Fy P W ops Q l h H':=by grind
theorem c3q(A:tick=tk){ops:Array Oper}{o:Oper}{k:Fr->Mem->Prop}{fr h:Fr}{H H' : Mem}(D:fr=h)(U:H=H'):Dm P W ops o fr H k Q=Dm P W ops o h H' k Q:=by grind
theorem c3r(D:tick=tk){o:Oper}{k:Fr->Mem->Prop}{fr h:Fr}{r A:R}(U:fr=h)(Z:r=A):Fx W o fr k Q r=Fx W o h k Q A:=by grind
theorem c3s(A:tick=tk){ev:Ev}{o:Oper}{H H' : Mem}(h:H=H'):opV P H ev o=opV P H' ev o:=by rw[h]
theorem c3t(D:tick=tk){ev:Ev}{o:Oper}{op:BinOp}{t:TypeId}{x h y A:Option AV}{H H' : Mem}(U:H=H')(Z:x=h)(h3:y=A):Bh P H ev o op t x y=Bh P H' ev o op t h A:=by grind
theorem c3u(D:tick=tk){x A:Option AV}{a b:Prop}(h:x=A):Gj x a b=Gj A a b:=by rw[h]
theorem c3v(D:tick=tk){x A:Option AV}{g:Bool}{a b:Prop}(h:x=A):Fo x g a b=Fo A g a b:=by rw[h]
theorem c3w(D:tick=tk){k:Fr->Mem->Prop}{o A:Out}(h:o=A):Gi k Q o=Gi k Q A:=by rw[h]
theorem c3x(D:tick=tk){id:Nat}{o A:Out}(h:o=A):Jj id Q o=Jj id Q A:=by rw[h]
theorem c3y(D:tick=tk){ops:Array Oper}{j:Nat}{fr A:Fr}(h:fr=A):D4 ops fr j=D4 ops A j:=by rw[h]
theorem c3z(D:tick=tk){fr A:Fr}{x:Operand}(h:fr=A):fr.ev x=A.ev x:=by rw[h]
attribute [congr] c3p c3q c3r c3s c3t c3u c3v c3w c3x c3y c3z
theorem c4a:Gi k Q (.norm fr H)=k fr H:=(rfl)
theorem c4b:Gi k Q (.exit id fr H)=Q (.exit id fr H):=(rfl)
theorem c4c:Gi k Q (.ret fr H)=Q (.ret fr H):=(rfl)
theorem c4d:Jj id Q (.norm fr H)=Q (.norm fr H):=(rfl)
theorem c4e:Jj id Q (.ret fr H)=Q (.ret fr H):=(rfl)
theorem c4f{h:Nat}:Jj id Q (.exit h fr H)=if h=id then Q (.norm fr H) else Q (.exit h fr H):=(rfl)
def Qw(p:Prop)(x y:Prop):Prop:=(p->x)/\(¬p->y)
theorem c4g(D:tick=tk){p A x y:Prop}(h:p=A):Qw p x y=Qw A x y:=by rw[h]
attribute [congr] c4g
theorem Ab{p:Prop}(h:p->x)(A:¬p->y):Qw p x y:=⟨h,A⟩
def E8(b:Bool)(x y:Prop):Prop:=(b=true->x)/\(b=false->y)
theorem c4h(D:tick=tk){b A:Bool}{x y:Prop}(h:b=A):E8 b x y=E8 A x y:=by rw[h]
attribute [congr] c4h
theorem a1m:E8 true x y=x:=by simp[E8]
theorem a1n:E8 false x y=y:=by simp[E8]
theorem c4i{b:Bool}:E8 (!b) x y=E8 b y x:=by grind[E8]
theorem c4j{p:Prop}[Decidable p]{x y:Prop}:E8 (decide p) x y=Qw p x y:=by grind[Qw,E8]
theorem Ac{b:Bool}(h:b=true->x)(A:b=false->y):E8 b x y:=⟨h,A⟩
attribute [simp] a1m a1n c4i c4j
inductive Tg where
 | b
 | o
def O3(v:AV):Tg:=match v with|.lit (.bool _)=>.b|_=>.o
theorem c4k{b:Bool}:O3 (.lit (.bool b))=.b:=(rfl)
noncomputable def Kl(d:Option Tmp)(k:Fr->Mem->Prop)(fr:Fr)(v:AV)(_:Tg)(H:Mem):Prop:=k (fr.put d v) H
theorem c4l(U:tick=tk){d:Option Tmp}{k:Fr->Mem->Prop}{fr h:Fr}{v A:AV}{t D:Tg}{H H' : Mem}(Z:fr=h)(h2:v=A)(h3:t=D)(h4:H=H'):Kl d k fr v t H=Kl d k h A D H':=by grind
attribute [congr] c4l
theorem c4m{b:Bool}:Kl d k fr (.lit (.bool b)) .b H=E8 b (k (fr.put d (.lit (.bool true))) H) (k (fr.put d (.lit (.bool false))) H):=by
 cases b<;>simp[E8,Kl]
theorem c4n{v:AV}:Kl d k fr v (O3 v) H=k (fr.put d v) H:=by rfl
attribute [simp] c4k c4m c4n
theorem c4o{b:Bool}:Gj (some (.lit (.bool b))) x y=E8 b x y:=by rfl
theorem c4p{b g:Bool}:Fo (some (.lit (.bool b))) g x y=E8 b (if g then x else y) (if g then y else x):=by grind[E8,Fo]
theorem c4q{g:Bool}:Fo (some (.lit undef)) g x y=y:=(rfl)
theorem c4r{o:Oper}{v:AV}:Fx W o fr k Q (.val v H)=Kl o.dst k fr v (O3 v) H:=(rfl)
theorem c4s{o:Oper}:Fx W o fr k Q (.enter f args H)=W f args H (λr=>match r with
  | .ret v H=>Kl o.dst k fr v (O3 v) H
  | .panic v H=>Q (.panic v fr H)
  | .bad=>False):=(rfl)
theorem c4t{o:Oper}:Fx W o fr k Q (.skip H)=k (fr.put o.dst (.lit undef)) H:=(rfl)
attribute [simp] c4r
attribute [simp] c4a c4b c4c c4d c4e c4f c4o c4p c4q c4s c4t
theorem c4u:Fy P W ops Q [] fr H=Q (.norm fr H):=(rfl)
theorem c4v{op:Op}{p:String}{g:Option (Nat×Bool)}:
  Fy P W ops Q (⟨d,op,t,p,af,g⟩::l) fr H=Dm P W ops ⟨d,op,t,p,af,g⟩ fr H (Fy P W ops Q l) Q:=(rfl)
theorem c4w{op:Op}{p:String}:
  Dm P W ops ⟨d,op,t,p,af,none⟩ fr H k Q=Fx W ⟨d,op,t,p,af,none⟩ fr k Q (opV P H fr.ev ⟨d,op,t,p,af,none⟩):=(rfl)
theorem c4x{op:Op}{p:String}{g:Nat×Bool}:
  Dm P W ops ⟨d,op,t,p,af,some g⟩ fr H k Q=Fo (D4 ops fr g.1) g.2 (Fx W ⟨d,op,t,p,af,some g⟩ fr k Q (opV P H fr.ev ⟨d,op,t,p,af,some g⟩)) (k (fr.put d (.lit undef)) H):=(rfl)
noncomputable def Qy(fr:Fr)(x:Option Nat):Option AV:=match x with|some d=>fr.get d|none=>none
theorem c4y{d:Tmp}{v:AV}:(Fr.f g ds).put (some d) v=.f (Fh g d v) ds:=(rfl)
theorem c4z{v:AV}:fr.put none v=fr:=(rfl)
theorem c5a{t:Nat}:(Fr.f g ds).get t=g t:=(rfl)
theorem c5b{t:Nat}:(Fr.f g ds).ev (.tmp t)=g t:=(rfl)
theorem c5c{v:Value}:fr.ev (.const v)=some (.lit v):=by cases fr<;>rfl
theorem c5d{g:Nat}:fr.ev (.global g)=some (.lit (.pointer (some ⟨g,0,none⟩))):=by rfl
theorem c5e{f:Nat}:fr.ev (.func f)=some (.lit (.func (.func f) #[] #[])):=by rfl
theorem b0d:(Fr.f g ds).defers=ds:=(rfl)
theorem c5f{d t:Nat}{v:AV}:Fh g d v t=if t=d then some v else g t:=(rfl)
section
variable {ev:Ev}{d:Option Tmp}{ty:TypeId}{p:String}{af:Array Edge}{g:Option (Nat×Bool)}
theorem c5g{x:Operand}:opV P H ev ⟨d,.move x,ty,p,af,g⟩=Es H (ev x):=(rfl)
theorem c5h{x:Operand}:opV P H ev ⟨d,.assign x,ty,p,af,g⟩=Es H (ev x):=(rfl)
theorem c5i{c a b:Operand}:opV P H ev ⟨d,.pick c a b,ty,p,af,g⟩=G1 H (ev c) (ev a) (ev b):=(rfl)
theorem c5j{o:BinOp}{t h:TypeId}{x y:Operand}:opV P H ev ⟨d,.binOp o t x y h,ty,p,af,g⟩=Bh P H ev ⟨d,.binOp o t x y h,ty,p,af,g⟩ o t (ev x) (ev y):=(rfl)
end
def slotAt:List Oper->Nat->Option Nat
 | [],_=>none
 | o::_,0=>o.dst
 | _::l,j+1=>slotAt l j
theorem c5k{op:Op}{p:String}{g:Option (Nat×Bool)}:slotAt (⟨d,op,t,p,af,g⟩::l) 0=d:=(rfl)
theorem c5l{o:Oper}:slotAt (o::l) (j+1)=slotAt l j:=(rfl)
attribute [simp] c5k c5l
theorem slotAt_eq:∀(l:List Oper)(j:Nat),slotAt l j=(l[j]?).bind (·.dst)
 | [],j=>by rfl
 | o::_,0=>rfl
 | _::l,j+1=>by simpa[slotAt] using slotAt_eq l j
theorem c5m:D4 l.toArray fr j=Qy fr (slotAt l j):=by
 grind[Qy,D4,slotAt_eq]
theorem c5n{d:Nat}:Qy fr (some d)=fr.get d:=(rfl)
theorem c5o(D:tick=tk){fr h:Fr}{x A:Option Nat}(U:fr=h)(Z:x=A):Qy fr x=Qy h A:=by grind
attribute [congr] c5o
attribute [simp] c5m c5n
theorem c5p{v:AV}:Es H (some v)=.val v H:=(rfl)
theorem c5q{a b c:Bool}:G1 H (some (.lit (.bool c))) (some (.lit (.bool a))) (some (.lit (.bool b)))=.val (.lit (.bool (if c then a else b))) H:=by cases c<;>rfl
theorem c5r{a b:Option AV}:G1 H (some (.lit (.bool true))) a b=ofOpt H a:=(rfl)
theorem c5s{a b:Option AV}:G1 H (some (.lit (.bool false))) a b=ofOpt H b:=(rfl)
theorem c5t{v:AV}:ofOpt H (some v)=.val v H:=(rfl)
section
variable {ev:Ev}{o:Oper}{t:TypeId}{a b:Int}{k:IntKind}
theorem G8{op:BinOp}{x y:AV}{v:AV}(h:Cm op x y=some v):Bh P H ev o op t (some x) (some y)=.val v H:=by
 grind[P8,Bh]
theorem b0e(a b:Int):iEq a b=decide (a=b):=by grind[a0j]
theorem T7(a b:Int):iLt a b=decide (a<b):=Qn a b
theorem a1o(h:kEq k k=true):Cm .eql (.lit (.int k a)) (.lit (.int k b))=some (.lit (.bool (decide (a=b)))):=by grind[Nk,b0e,Cm]
theorem a1p(h:kEq k k=true):Cm .neq (.lit (.int k a)) (.lit (.int k b))=some (.lit (.bool (!decide (a=b)))):=by grind[Nk,b0e,Cm]
theorem a1q(h:kEq k k=true):Cm .lss (.lit (.int k a)) (.lit (.int k b))=some (.lit (.bool (decide (a<b)))):=by grind[Nk,T7,Cm]
theorem a1r(h:kEq k k=true):Cm .leq (.lit (.int k a)) (.lit (.int k b))=some (.lit (.bool (decide (a<=b)))):=by grind[Nk,T7,Cm]
theorem a1s(h:kEq k k=true):Cm .gtr (.lit (.int k a)) (.lit (.int k b))=some (.lit (.bool (decide (b<a)))):=by grind[Nk,T7,Cm]
theorem a1t(h:kEq k k=true):Cm .geq (.lit (.int k a)) (.lit (.int k b))=some (.lit (.bool (decide (b<=a)))):=by grind[Nk,T7,Cm]
end
section
variable {ev:Ev}{o:Oper}{t:TypeId}{a b:Int}
theorem oBin_eql8:Bh P H ev o .eql t (some (.lit (.int .u8 a))) (some (.lit (.int .u8 b)))=.val (.lit (.bool (decide (a=b)))) H:=G8 (a1o rfl)
theorem oBin_neq8:Bh P H ev o .neq t (some (.lit (.int .u8 a))) (some (.lit (.int .u8 b)))=.val (.lit (.bool (!decide (a=b)))) H:=G8 (a1p rfl)
theorem oBin_lss8:Bh P H ev o .lss t (some (.lit (.int .u8 a))) (some (.lit (.int .u8 b)))=.val (.lit (.bool (decide (a<b)))) H:=G8 (a1q rfl)
theorem oBin_leq8:Bh P H ev o .leq t (some (.lit (.int .u8 a))) (some (.lit (.int .u8 b)))=.val (.lit (.bool (decide (a<=b)))) H:=G8 (a1r rfl)
theorem oBin_gtr8:Bh P H ev o .gtr t (some (.lit (.int .u8 a))) (some (.lit (.int .u8 b)))=.val (.lit (.bool (decide (b<a)))) H:=G8 (a1s rfl)
theorem oBin_geq8:Bh P H ev o .geq t (some (.lit (.int .u8 a))) (some (.lit (.int .u8 b)))=.val (.lit (.bool (decide (b<=a)))) H:=G8 (a1t rfl)
theorem oBin_eql64:Bh P H ev o .eql t (some (.li a)) (some (.li b))=.val (.lit (.bool (decide (a=b)))) H:=G8 (a1o rfl)
theorem oBin_neq64:Bh P H ev o .neq t (some (.li a)) (some (.li b))=.val (.lit (.bool (!decide (a=b)))) H:=G8 (a1p rfl)
theorem oBin_lss64:Bh P H ev o .lss t (some (.li a)) (some (.li b))=.val (.lit (.bool (decide (a<b)))) H:=G8 (a1q rfl)
theorem oBin_leq64:Bh P H ev o .leq t (some (.li a)) (some (.li b))=.val (.lit (.bool (decide (a<=b)))) H:=G8 (a1r rfl)
theorem oBin_gtr64:Bh P H ev o .gtr t (some (.li a)) (some (.li b))=.val (.lit (.bool (decide (b<a)))) H:=G8 (a1s rfl)
theorem oBin_geq64:Bh P H ev o .geq t (some (.li a)) (some (.li b))=.val (.lit (.bool (decide (b<=a)))) H:=G8 (a1t rfl)
end
attribute [simp] c4u c4v c4w c4x
 c4y c4z c5a c5b c5c c5d c5e b0d c5f c5g c5h c5i c5p c5q c5r c5s c5t
 oBin_eql8 oBin_neq8 oBin_lss8 oBin_leq8 oBin_gtr8 oBin_geq8 oBin_eql64 oBin_neq64 oBin_lss64 oBin_leq64 oBin_gtr64 oBin_geq64
def Ho(x:Option AV)(K:AV->Prop):Prop:=match x with|some v=>K v|none=>False
noncomputable def Hp(P:Program)(rs:List ResultVar)(K:A1->Prop)(fr:Fr)(H:Mem):Prop:=match Ke P fr H rs with
 | some [v]=>K (.ret v H)
 | some vs=>K (.ret (.tup vs) H)
 | none=>False
theorem c5u(U:tick=tk){h A:List ResultVar}{K:A1->Prop}{fr D:Fr}{H H' : Mem}(Z:h=A)(h1:fr=D)(h2:H=H'):Hp P h K fr H=Hp P A K D H':=by grind
attribute [congr] c5u
theorem c5v(D:tick=tk){O:CallF}{fn:Func}{K:A1->Prop}{o A:Out}(h:o=A):G7 P O fn K o=G7 P O fn K A:=by rw[h]
attribute [congr] c5v
theorem c5w{L:LoopF}{fn:Func}:C3 P O L fn fr [] .returning H=(match Fi P fn fr H with|some v=>.ret v H|none=>.bad):=by rfl
theorem b0f{fn:Func}:G7 P O fn K (.ret (.f g []) H)=Hp P fn.results.toList K (.f g []) H:=by
 show (match C3 P O (λ_ _ _=>.bad) fn (.f g []) [] .returning H with|.bad=>False|r=>K r)=_;grind[c5w,Hp,Fi]
theorem c5x{fn:Func}:G7 P O fn K (.norm (.f g []) H)=Hp P fn.results.toList K (.f g []) H:=b0f
theorem c5y{t:Tmp}:Jc P fr H (.tmp t)=fr.get t:=(rfl)
theorem c5z{r:ResultVar}:Hp P [r] K fr H=Ho (Jc P fr H r) (λv=>K (.ret v H)):=by
 grind[Ho,Hp,Ke]
theorem c6a:Hp P [] K fr H=K (.ret (.tup []) H):=(rfl)
theorem c6b{h A:ResultVar}:Hp P [h,A] K fr H=Ho (Jc P fr H h) (λD=>Ho (Jc P fr H A) λU=>K (.ret (.tup [D,U]) H)):=by
 (simp_all[Ho,Hp,Ke];grind)
theorem c6c{h A D:ResultVar}:Hp P [h,A,D] K fr H=Ho (Jc P fr H h) (λU=>Ho (Jc P fr H A) λZ=>Ho (Jc P fr H D) λv3=>K (.ret (.tup [U,Z,v3]) H)):=by
 unfold Hp Ho;grind[Ke]
theorem c6d{v:AV}{K:AV->Prop}:Ho (some v) K=K v:=(rfl)
theorem c6e(D:tick=tk){x A:Option AV}{K:AV->Prop}(h:x=A):Ho x K=Ho A K:=by rw[h]
attribute [congr] c6e
theorem c6f:Hn args=.f (argsF args 0 (λ_=>none)) []:=(rfl)
theorem c6g{i:Nat}:argsF [] i g=g:=(rfl)
theorem c6h{i:Nat}{v:AV}{l:List AV}:argsF (v::l) i g=argsF l (i+1) (Fh g i v):=(rfl)
attribute [simp] b0f c5x c6a c5z c6b c6c c6d c5y c6f c6g c6h
def orK(r:A1)(K:A1->Prop)(x:Prop):Prop:=match r with|.bad=>x|r=>K r
theorem c6i:orW O W f args H K=orK (O f args H) K (W f args H K):=by
 rfl
theorem c6j(A:tick=tk){O:CallF}{f:FuncId}{args h:List AV}{H H' : Mem}{K:A1->Prop}(D:args=h)(U:H=H'):orW O W f args H K=orW O W f h H' K:=by grind
attribute [congr] c6j
theorem c6k(D:tick=tk){r A:A1}{K:A1->Prop}{x:Prop}(h:r=A):orK r K x=orK A K x:=by rw[h]
theorem c6l:orK .bad K x=x:=(rfl)
attribute [congr] c6k
attribute [simp] c6i c6l
section
variable {ev:Ev}{d:Option Tmp}{ty:TypeId}{p:String}{af:Array Edge}{g:Option (Nat×Bool)}
variable {x:Operand}{args:List AV}{f:FuncId}{o:Oper}
noncomputable def a1u(P:Program)(H:Mem)(ev:Ev)(args:Option (List AV))(f:Operand):R:=match args with
 | some args=>Le P H args (ev f)
 | none=>.bad
theorem c6m{f:Operand}{args:Array Operand}{h:Array TypeId}:opV P H ev ⟨d,.call ⟨.value f,args,h⟩,ty,p,af,g⟩=a1u P H ev (Bj ev args.toList) f:=by
 show Br P H ev ⟨d,.call ⟨.value f,args,h⟩,ty,p,af,g⟩ ⟨.value f,args,h⟩=_;grind[a1u,Br]
theorem evals_nil:Bj ev []=some []:=(rfl)
noncomputable def a1v(a:Option AV)(l:Option (List AV)):Option (List AV):=match a,l with|some v,some vs=>some (v::vs)|_,_=>none
theorem c6n{l:List Operand}:Bj ev (x::l)=a1v (ev x) (Bj ev l):=by
 grind[Bj,a1v]
theorem c6o{v:AV}{vs:List AV}:a1v (some v) (some vs)=some (v::vs):=(rfl)
theorem c6p{f:Operand}:a1u P H ev (some args) f=Le P H args (ev f):=(rfl)
theorem c6q:Le P H args (some (.lit (.func (.func f) #[] #[])))=I6 P H f args:=by simp[Le]
theorem c6r{a c:List AV}:Le P H args (some (.func (.func f) a c))=I6 P H f (a++args++c):=(rfl)
theorem c6s:I6 P H f args=if Ao P f=true then .enter f args H else .bad:=(rfl)
attribute [simp] c6m evals_nil c6n c6o c6p c6q c6r c6s
noncomputable def unS(P:Program)(H:Mem)(ev:Ev)(o:Oper)(op:UnOp)(x:Option AV):R:=match op,x with
 | .not,some (.lit (.bool b))=>.val (.lit (.bool (!b))) H
 | _,_=>ofOpt H (A7 P ev o)
theorem T8{u r:Value}(h:o.op.operands=#[x])(hx:ev x=some (.lit u))
  (A:∀ρ:Operand->Value,ρ x=u->Ar P (execOp ρ o)=some (.value r)):A7 P ev o=some (.lit r):=by
 simp_all[A7,toLit]
theorem L9{y:Operand}{u u' r:Value}(h:o.op.operands=#[x,y])(hx:ev x=some (.lit u))(hy:ev y=some (.lit u'))
  (A:∀ρ:Operand->Value,ρ x=u->ρ y=u'->Ar P (execOp ρ o)=some (.value r)):A7 P ev o=some (.lit r):=by
 simp_all[A7,toLit]
theorem c6t{op:UnOp}{t:TypeId}:opV P H ev ⟨d,.unOp op t x,ty,p,af,g⟩=unS P H ev ⟨d,.unOp op t x,ty,p,af,g⟩ op (ev x):=by
 show ofOpt H (A7 P ev _)=_;unfold unS;split
 .rename_i b hx;rw[T8 (r:=.bool (!b)) rfl (by omega) λρ h=>by simp[execOp,h,Op.unary];rfl];rfl
 .rfl
theorem c6u{b:Bool}:unS P H ev o .not (some (.lit (.bool b)))=.val (.lit (.bool (!b))) H:=(rfl)
attribute [simp] c6t c6u
end
theorem c6v(A:tick=tk){G n:Nat}{b:Code}{fr h:Fr}{H H' : Mem}(D:fr=h)(U:H=H'):LX G P n b fr H Q=LX G P n b h H' Q:=by grind
theorem c6w(A:tick=tk){G:Nat}{f:FuncId}{args h:List AV}{H H' : Mem}{K:A1->Prop}(D:args=h)(U:H=H'):WC G P f args H K=WC G P f h H' K:=by grind
attribute [congr] c6v c6w
structure Aa (p:Prop):Prop where
 out:p
abbrev Xu:=@Aa.mk
theorem LX.ind{G:Nat}{b:Code}(I:Nat->(Nat->Option AV)->Mem->Prop){m0:Nat}{A:Nat->Option AV}{H0:Mem}(h0:I m0 A H0)
  (D:∀m g H,I m g H->Aa (∀h g' H',h < m->I h g' H'->LX G P n b (.f g' ds) H' Q)->LX G P n b (.f g ds) H Q):LX G P n b (.f A ds) H0 Q:=by
 have:∀m g H,I m g H->LX G P n b (.f g ds) H Q:=by
  intro m
  induction m using Nat.strongRecOn with
  | _ m U=>exact λg H hi=>D m g H hi ⟨λh g' H' Z hi'=>U h Z g' H' hi'⟩
 grind
abbrev Xy:=@LX.ind
/-! ### Oracles -/
def noO:CallF:=λ_ _ _=>.bad
theorem c6x{a:List AV}:noO f a H=.bad:=(rfl)
attribute [simp] c6x
theorem Ah(G:Nat)(P:Program):∀B,A8 B G P noO:=λ_ _ _ _ h=>absurd rfl h
/-! ### Memory as a function -/
theorem c6y{g:Gb}:(Mem.mk (.fn g) n).get a=g a:=(rfl)
theorem c6z{g:Gb}{b:Blk}:(Mem.mk (.fn g) n).add b=⟨.fn (Ak g n (some b)),n+1⟩:=(rfl)
theorem c7a{g:Gb}{b:Blk}:(Mem.mk (.fn g) n).upd a b=⟨.fn (Ak g a (some b)),n⟩:=(rfl)
theorem c7b{g:Gb}{x:Option Blk}:Ak g a x a=x:=(if_pos rfl)
theorem Ad{g:Gb}{x:Option Blk}(h:j<a):Ak g a x j=g j:=if_neg (by omega)
theorem Hq{g:Gb}{x:Option Blk}(h:a<j):Ak g a x j=g j:=if_neg (by omega)
theorem c7c{g:Gb}{x y:Option Blk}:Ak (Ak g a x) a y=Ak g a y:=by
 grind[Ak]
attribute [simp] c6y c6z c7a c7b Ad Hq c7c
section
variable {ev:Ev}{d:Option Tmp}{ty:TypeId}{p:String}{af:Array Edge}{g:Option (Nat×Bool)}
/-! ### Operations on two values -/
variable {t rt e:TypeId}{o:Oper}{x y:Operand}{c:Call}{n k:Nat}
theorem b0g(a b:ByteArray):(a.toList==b.toList)=decide (a=b):=by
 by_cases h:a=b
 .grind
 .have:a.toList≠b.toList:=λe=>h (by
   cases a;simp_all[ByteArray.toList_eq])
  grind
def Fp(op:BinOp)(k:IntKind)(a b:Int):Option AV:=match op with
 | .add=>some (.lit (.int k (k.wrap (a+b))))
 | .sub=>some (.lit (.int k (k.wrap (a-b))))
 | .mul=>some (.lit (.int k (k.wrap (a*b))))
 | .quo=>if b=0 then none else some (.lit (.int k (k.wrap (a.tdiv b))))
 | .rem=>if b=0 then none else some (.lit (.int k (a.tmod b)))
 | .eql=>some (.lit (.bool (decide (a=b))))
 | .neq=>some (.lit (.bool (!decide (a=b))))
 | .lss=>some (.lit (.bool (decide (a<b))))
 | .leq=>some (.lit (.bool (decide (a<=b))))
 | .gtr=>some (.lit (.bool (decide (b<a))))
 | .geq=>some (.lit (.bool (decide (b<=a))))
 | _=>none
noncomputable def Fz(P:Program)(H:Mem)(ev:Ev)(o:Oper)(op:BinOp)(t:TypeId)(x y:Option AV):R:=match op,x,y with
 | .eql,some (.lit (.string a)),some (.lit (.string b))=>.val (.lit (.bool (decide (a=b)))) H
 | .neq,some (.lit (.string a)),some (.lit (.string b))=>.val (.lit (.bool (!decide (a=b)))) H
 | .add,some (.lit (.string a)),some (.lit (.string b))=>if a.size+b.size<=9223372036854775807 then .val (.lit (.string (a++b))) H else Bh P H ev o op t x y
 | op,some (.lit (.int k a)),some (.lit (.int k' b))=>if k=k' then (match Fp op k a b with|some v=>.val v H|none=>Bh P H ev o op t (some (.lit (.int k a))) (some (.lit (.int k' b)))) else Bh P H ev o op t (some (.lit (.int k a))) (some (.lit (.int k' b)))
 | op,x,y=>Bh P H ev o op t x y
theorem Nr{op:BinOp}{x y:AV}{v:AV}(h:Cm op x y=none)(A:A7 P ev o=some v):Bh P H ev o op t (some x) (some y)=.val v H:=by
 grind[P8,Bh]
theorem Bo{A U:Type}{m:Sem A}{k:A->Sem U}{a:A}:Ar P m=some a->Ar P (m >>= k)=Ar P (k a):=by
 induction m with
 | pure b=>intro h;cases h;rfl
 | program k' D=>intro h;exact D _ h
 | mark m k' D=>assumption
 | choose q k' D =>
  intro h;simp only[Ar] at h;split at h
  .rename_i Z;show Ar P (Sem.choose q λn=>k' n >>= k)=_;simp_all[Ar]
  grind
 | _=>intro h;grind[Ar]
theorem Ns{ρ:Operand->Value}{op:BinOp}{u u' r:Value}(hx:ρ x=u)(hy:ρ y=u')(h:Ar P (eqGuard op t x y u u')=some ())(A:Ar P (binOp op t u u')=some r):
  Ar P (execOp ρ ⟨d,.binOp op t x y rt,ty,p,af,g⟩)=some (.value r):=by
 simp only[execOp,hx,hy];rw[Bo (a:=r)]
 .rfl
 grind[Bo]
theorem O4{op:BinOp}{x y:AV}{v:AV}(h:∀u,Cm op x y=some u->u=v)(A:Cm op x y=none->A7 P ev o=some v):Bh P H ev o op t (some x) (some y)=.val v H:=by
 cases D:Cm op x y with
 | none=>grind[Nr]
 | some u=>grind[G8]
theorem c7d{op:BinOp}{k:IntKind}{a b:Int}{v:AV}(hx:ev x=some (.lit (.int k a)))(hy:ev y=some (.lit (.int k b)))(h:Fp op k a b=some v):
  Bh P H ev ⟨d,.binOp op t x y rt,ty,p,af,g⟩ op t (some (.lit (.int k a))) (some (.lit (.int k b)))=.val v H:=by
 have Z:∀u:Value,Ar P (binOp op t (.int k a) (.int k b))=some u->A7 P ev ⟨d,.binOp op t x y rt,ty,p,af,g⟩=some (.lit u):=λu D =>
  L9 rfl hx hy λρ h1 h2=>Ns h1 h2 (by unfold eqGuard;cases op<;>rfl) D
 have a0:∀n:Int,∀u,(match kEq k k with|true=>Na n (Nc k)|false=>none)=some u->u=.lit (.int k (k.wrap n)):=by
  grind[a7u,a7i]
 have A:∀(a1:String)(f:Sem Value),(binOp op t (.int k a) (.int k b)=if k≠k then stuck a1 else f)->binOp op t (.int k a) (.int k b)=f:=λa1 f hf=>by grind
 have U:∀(c:Bool),(∀u,Cm op (.lit (.int k a)) (.lit (.int k b))=some u->u=.lit (.bool c))->Ar P (binOp op t (.int k a) (.int k b))=some (.bool c)->some (AV.lit (.bool c))=some v ->
   Bh P H ev ⟨d,.binOp op t x y rt,ty,p,af,g⟩ op t (some (.lit (.int k a))) (some (.lit (.int k b)))=.val v H:=by
  grind[O4]
 have kd:kEq k k=true\/kEq k k=false:=by grind
 cases op<;>first|(cases h;done)|skip
 case add=>cases h;exact O4 (a0 _) λ_=>Z _ (by rw[A _ _ rfl];rfl)
 case sub=>cases h;exact O4 (a0 _) λ_=>Z _ (by rw[A _ _ rfl];rfl)
 case mul=>cases h;exact O4 (a0 _) λ_=>Z _ (by rw[A _ _ rfl];rfl)
 case quo =>
  simp only[Fp] at h;split at h
  .cases h
  .rename_i hb;cases h;exact O4 (λu D=>by grind[Cm]) λ_=>Z _ (by rw[A _ _ rfl];show Ar P (Op.intDiv .quo k a b)=_;unfold Op.intDiv;rw[if_neg hb];rfl)
 case rem =>
  simp only[Fp] at h;split at h
  .cases h
  .rename_i hb;cases h;exact O4 (λu D=>by grind[Cm]) λ_=>Z _ (by rw[A _ _ rfl];show Ar P (Op.intDiv .rem k a b)=_;unfold Op.intDiv;rw[if_neg hb];rfl)
 case eql=>exact U _ (λu D=>by grind[a1o,Cm]) (by rw[A _ _ rfl];rfl) h
 case neq=>exact U _ (λu D=>by grind[a1p,Cm]) (by rw[A _ _ rfl];rfl) h
 case lss=>exact U _ (λu D=>by grind[a1q,Cm]) (by rw[A _ _ rfl];rfl) h
 case leq=>exact U _ (λu D=>by grind[a1r,Cm]) (by rw[A _ _ rfl];rfl) h
 case gtr=>exact U _ (λu D=>by grind[a1s,Cm]) (by rw[A _ _ rfl];rfl) h
 case geq=>exact U _ (λu D=>by grind[a1t,Cm]) (by rw[A _ _ rfl];rfl) h
theorem c7e{op:BinOp}:opV P H ev ⟨d,.binOp op t x y rt,ty,p,af,g⟩=Fz P H ev ⟨d,.binOp op t x y rt,ty,p,af,g⟩ op t (ev x) (ev y):=by
 rw[c5j];unfold Fz;split
 .rename_i a b hx hy;rw[hx,hy,Nr rfl];refine L9 (r:=.bool (decide (a=b))) rfl hx hy λρ h A=>Ns h A rfl ?_;show some (Value.bool (a.toList==b.toList))=_;rw[b0g]
 .rename_i a b hx hy;rw[hx,hy,Nr rfl];refine L9 (r:=.bool (!decide (a=b))) rfl hx hy λρ h A=>Ns h A rfl ?_;show some (Value.bool (!(a.toList==b.toList)))=_;rw[b0g]
 .rename_i a b hx hy;split
  .rename_i D;rw[hx,hy,Nr rfl];refine L9 (r:=.string (a++b)) rfl hx hy λρ h A=>Ns h A rfl ?_;have:¬ (((a.size+b.size:Nat):Int) > IntKind.i64.max):=by
    have:IntKind.i64.max=9223372036854775807:=by decide
    omega
   show Ar P (if ((a.size+b.size:Nat):Int) > IntKind.i64.max then _ else _)=_;rw[if_neg this];rfl
  rfl
 all_goals grind[c7d]
noncomputable def a1w(P:Program)(H:Mem)(ev:Ev)(o:Oper)(op:BinOp)(t:TypeId)(k:IntKind)(a b:Int)(r:Option AV):R:=match r with|some v=>.val v H|none=>Bh P H ev o op t (some (.lit (.int k a))) (some (.lit (.int k b)))
theorem c7f{D:Nat}(U:tick=D){o:Oper}{op:BinOp}{t:TypeId}{x h y A:Option AV}{H H' : Mem}(Z:H=H')(h2:x=h)(h3:y=A):Fz P H ev o op t x y=Fz P H' ev o op t h A:=by grind
attribute [congr] c7f
section
variable {o:Oper}{t:TypeId}{a b:Int}{k k' : IntKind}{s s' : ByteArray}{op:BinOp}
theorem binS_intR:Fz P H ev o op t (some (.lit (.int k a))) (some (.lit (.int k b)))=a1w P H ev o op t k a b (Fp op k a b):=by
 simp[a1w,Fz]
theorem c7g{v:AV}:a1w P H ev o op t k a b (some v)=.val v H:=(rfl)
theorem intR_add:Fp .add k a b=some (.lit (.int k (k.wrap (a+b)))):=(rfl)
theorem intR_sub:Fp .sub k a b=some (.lit (.int k (k.wrap (a-b)))):=(rfl)
theorem intR_mul:Fp .mul k a b=some (.lit (.int k (k.wrap (a*b)))):=(rfl)
theorem c7h(h:¬b=0):Fp .quo k a b=some (.lit (.int k (k.wrap (a.tdiv b)))):=if_neg h
theorem c7i(h:¬b=0):Fp .rem k a b=some (.lit (.int k (a.tmod b))):=if_neg h
theorem intR_eql:Fp .eql k a b=some (.lit (.bool (decide (a=b)))):=(rfl)
theorem intR_neq:Fp .neq k a b=some (.lit (.bool (!decide (a=b)))):=(rfl)
theorem intR_lss:Fp .lss k a b=some (.lit (.bool (decide (a<b)))):=(rfl)
theorem intR_leq:Fp .leq k a b=some (.lit (.bool (decide (a<=b)))):=(rfl)
theorem intR_gtr:Fp .gtr k a b=some (.lit (.bool (decide (b<a)))):=(rfl)
theorem intR_geq:Fp .geq k a b=some (.lit (.bool (decide (b<=a)))):=(rfl)
theorem c7j(h:-9223372036854775808<=a)(A:a<=9223372036854775807):IntKind.i64.wrap a=a:=Nj ⟨h,A⟩
theorem c7k(h:0<=a)(A:a<=255):IntKind.u8.wrap a=a:=by
 grind[IntKind.signed,IntKind.bits,IntKind.wrap]
end
attribute [simp] c7e binS_intR c7g intR_add intR_sub intR_mul c7h c7i intR_eql intR_neq intR_lss intR_leq intR_gtr intR_geq c7j c7k
/-! ### Calls of len; an element of a string -/
noncomputable def Km(P:Program)(H:Mem)(ev:Ev)(o:Oper)(c:Call)(d:Option TypeDesc)(args:Option (List AV)):R:=match args,d with
 | some [.sl _ _ n _],some (.slice _)=>.val (.li n) H
 | some [.slq _ _ n _],some (.slice _)=>.val (.li n) H
 | some [.es],some (.slice _)=>.val (.li 0) H
 | some [.lit (.string s)],some .string=>.val (.li s.size) H
 | some [.lit (.slice none n _)],some (.slice _)=>.val (.li n) H
 | some args,_=>J9 P H ev o c args
 | none,_=>.bad
theorem c7l:opV P H ev ⟨d,.call ⟨.builtin .len,#[x],#[t]⟩,ty,p,af,g⟩=Km P H ev ⟨d,.call ⟨.builtin .len,#[x],#[t]⟩,ty,p,af,g⟩ ⟨.builtin .len,#[x],#[t]⟩ (P.underlying t) (Bj ev [x]):=by
 show Br P H ev ⟨d,.call ⟨.builtin .len,#[x],#[t]⟩,ty,p,af,g⟩ ⟨.builtin .len,#[x],#[t]⟩=_;have e:((⟨.builtin .len,#[x],#[t]⟩:Call).argTypes[0]?).bind P.underlying=P.underlying t:=(rfl);have key:∀args r,Bj ev [x]=some args->r≠.bad->Ic P H ⟨.builtin .len,#[x],#[t]⟩ args=r->Br P H ev ⟨d,.call ⟨.builtin .len,#[x],#[t]⟩,ty,p,af,g⟩ ⟨.builtin .len,#[x],#[t]⟩=r:=by
  intro args r h a1 A;unfold Br;rw[show (#[x]:Array Operand).toList=[x] from rfl,h];dsimp only;unfold Fg J9;grind
 unfold Km;split
 .rename_i h A;exact key _ _ h (by simp) (by unfold Ic;rw[e,A];rfl)
 .rename_i h A;exact key _ _ h (by simp) (by unfold Ic;rw[e,A];rfl)
 .rename_i h A;exact key _ _ h (by simp) (by unfold Ic;rw[e,A];rfl)
 .rename_i h A;exact key _ _ h (by simp) (by unfold Ic;rw[e,A];rfl)
 .rename_i n c D h A;have hx:ev x=some (.lit (.slice none n c)):=by
   grind[Bj]
  have hg:A7 P ev ⟨d,.call ⟨.builtin .len,#[x],#[t]⟩,ty,p,af,g⟩=some (.li n):=by
   refine T8 (u:=.slice none n c) (r:=.int .i64 n) (by rfl) hx λρ U=>?_;rw[Jf (b:=.len) (c:=⟨.builtin .len,#[x],#[t]⟩) rfl rfl];have Z:(#[x]:Array Operand).map ρ=#[ρ x]:=by simp
   have a0:Ar P (Builtin.len_ #[t] ty #[ρ x])=some (goInt n):=by
    rw[U];refine(Bo (m:=underlying t) (a:=TypeDesc.slice D) (by unfold underlying;show Ar P (match P.underlying t with|some d=>pure d|none=>stuck "no such type")=_;rw[A];rfl)).trans ?_;rfl
   show Ar P (builtin .len #[t] ty _ ((#[x]:Array Operand).map ρ))=_;rw[Z];show Ar P (do pure (Next.value (<- Builtin.len_ #[t] ty #[ρ x])))=_;exact(Bo a0).trans rfl
  unfold Br;rw[show (#[x]:Array Operand).toList=[x] from rfl,h];simp_all[J9,Fg,Ic]
 .rename_i h _ _ _ _ _;unfold Br;rw[show (#[x]:Array Operand).toList=[x] from rfl];simp only[*];rfl
 .rename_i h;unfold Br;grind
theorem c7m{D:Nat}(U:tick=D){o:Oper}{c:Call}{d h:Option TypeDesc}{a A:Option (List AV)}{H H' : Mem}(Z:H=H')(h2:d=h)(h3:a=A):Km P H ev o c d a=Km P H' ev o c h A:=by grind
attribute [congr] c7m
theorem c7n{a off:Nat}:Km P H ev o c (some (.slice e)) (some [.sl a off n k])=.val (.li n) H:=(rfl)
theorem c7o{a off:Nat}:Km P H ev o c (some (.slice e)) (some [.slq a off n k])=.val (.li n) H:=(rfl)
theorem c7p:Km P H ev o c (some (.slice e)) (some [.lit (.slice none n k)])=.val (.li n) H:=(rfl)
attribute [simp] c7p c7l c7n c7o
theorem Hr{A:TypeDesc}(h:P.underlying t=some A):Ar P (underlying t)=some A:=by
 unfold underlying;show Ar P (match P.underlying t with|some d=>pure d|none=>stuck "no such type")=_;rw[h];rfl
end
section
variable {ev:Ev}{d:Option Tmp}{ty:TypeId}{p:String}{af:Array Edge}{g:Option (Nat×Bool)}
variable {a off n c tk sz z:Nat}{t:TypeId}{l:List AV}{k:IntKind}{o:Oper}{i:Int}{x:Operand}
theorem c7q(A:tick=tk){x h:Option AV}{H H' : Mem}(D:H=H')(U:x=h):ofOpt H x=ofOpt H' h:=by grind
attribute [congr] c7q
/-! ### load -/
theorem c7r{a:Operand}:opV P H ev ⟨d,.load t a,ty,p,af,g⟩=Fv P H t (ev a):=(rfl)
theorem c7s(A:tick=tk){t:TypeId}{x h:Option AV}{H H' : Mem}(D:H=H')(U:x=h):Fv P H t x=Fv P H' t h:=by grind
theorem c7t:Fv P H t (some (.ptr a off))=ofOpt H (A5 (Bw P t) (H.get a) off):=(rfl)
theorem b0h{own:Bool}{s:Nat}:A5 (some (false,s)) (some (.cells l own z)) off=l[off]?:=Lk l off
theorem b0i{own:Bool}{s:Nat}(h:off+s<=l.length):A5 (some (true,s)) (some (.cells l own z)) off=some (.agg ((l.drop off).take s)):=by
 show La l s off none (λl=>some (AV.agg l))=_;rw[Jd,if_pos h]
attribute [congr] c7s
attribute [simp] c7r c7t b0h b0i
/-! ### store -/
def Gk(l:List AV)(off:Nat)(new:List AV):List AV:=l.take off++new++l.drop (off+new.length)
theorem c7u{a:Operand}:opV P H ev ⟨d,.store t a x,ty,p,af,g⟩=Ie P H t (ev a) (ev x):=(rfl)
theorem c7v(D:tick=tk){t:TypeId}{x h y A:Option AV}{H H' : Mem}(U:H=H')(Z:x=h)(h3:y=A):Ie P H t x y=Ie P H' t h A:=by grind
noncomputable def stS(k:Option (Bool×Nat))(b:Option Blk)(H:Mem)(a off:Nat)(new:List AV):R:=match b,k with
 | some (.cells l true z),some (_,size)=>if new.length=size/\allOne new=true/\off+new.length<=l.length then .skip (H.upd a (.cells (Gk l off new) true z)) else .bad
 | _,_=>.bad
theorem c7w{v:AV}:Ie P H t (some (.ptr a off)) (some v)=stS (Bw P t) (H.get a) H a off (cellsOf v):=by
 show (match store P H t (.ptr a off) v with|some H=>R.skip H|none=>.bad)=_
 have key:store P H t (.ptr a off) v=(match H.get a,Bw P t with
  | some (.cells l true z),some (_,size)=>match Nat.beq (len (cellsOf v)) size&&allOne (cellsOf v) with
   | true=>Lb none l off (cellsOf v) λl=>H.setK a (.cells l true z) some
   | false=>none
  | _,_=>none):=rfl
 rw[key];unfold stS;rcases H.get a with _|b
 .rfl
 .cases b with
  | map es c=>rfl
  | siter s' U=>rfl
  | typ _ _ _=>rfl
  | cells l own z =>
   cases own with
   | false=>rfl
   | true =>
    rcases Bw P t with _|⟨Z,size⟩
    .rfl
    .dsimp only
     cases h:Nat.beq (len (cellsOf v)) size&&allOne (cellsOf v) with
     | false =>
      simp_all[Di]
     | true =>
      dsimp only;rw[W1] at h;have A:=Xe h.1;rw[Di] at A;rw[Ll];by_cases D:off+(cellsOf v).length<=l.length
      .rw[if_pos D,if_pos ⟨A,h.2,D⟩,Yd];rfl
      grind
theorem c7x(D:tick=tk){k k' : Option (Bool×Nat)}{b h:Option Blk}{a off A:Nat}{n n' : List AV}{H H' : Mem}(U:k=k')(Z:b=h)(h3:H=H')(h4:off=A)(h5:n=n'):stS k b H a off n=stS k' h H' a A n':=by grind
theorem T9{h:Bool}{size:Nat}{new:List AV}(A:new.length=size)(D:allOne new=true)(U:off+new.length<=l.length):
  stS (some (h,size)) (some (.cells l true z)) H a off new=.skip (H.upd a (.cells (Gk l off new) true z)):=if_pos ⟨A,D,U⟩
theorem c7y{new:List AV}:Gk l off new=l.take off++new++l.drop (off+new.length):=(rfl)
theorem c7z{n:Int}:cellsOf (.lit (.int k n))=[.lit (.int k n)]:=(rfl)
theorem c8a{a:Option Addr}:cellsOf (.lit (.slice a n c))=[.lit (.slice a n c)]:=(rfl)
theorem c8b{o:Nat}:cellsOf (.sl a o n c)=[.sl a o n c]:=(rfl)
theorem c8c{o:Nat}:cellsOf (.slq a o n c)=[.slq a o n c]:=(rfl)
theorem c8d:cellsOf (.agg l)=l:=(rfl)
theorem allOne_nil:allOne []=true:=(rfl)
theorem O5{v:AV}:allOne (v::l)=(oneC v&&allOne l):=by grind[allOne]
theorem c8e{n:Int}:oneC (.lit (.int k n))=true:=(rfl)
theorem c8f{n:Bool}:oneC (.lit (.bool n))=true:=(rfl)
theorem c8g{n:ByteArray}:oneC (.lit (.string n))=true:=(rfl)
theorem c8h{n:Option Addr}:oneC (.lit (.pointer n))=true:=(rfl)
theorem c8i{a:Option Addr}:oneC (.lit (.slice a n c))=true:=(rfl)
theorem oneC_nilFunc:oneC (.lit .nilFunc)=true:=(rfl)
theorem c8j{f:Fn}{a b:Array Value}:oneC (.lit (.func f a b))=true:=(rfl)
theorem c8k{f:Fn}{a b:List AV}:oneC (.func f a b)=true:=(rfl)
theorem c8l{o:Nat}:oneC (.ptr a o)=true:=(rfl)
theorem c8m{o:Nat}:oneC (.sl a o n c)=true:=(rfl)
theorem c8n{o:Nat}:oneC (.slq a o n c)=true:=(rfl)
theorem oneC_es:oneC .es=true:=(rfl)
theorem c8o:oneC (.map a)=true:=(rfl)
theorem c8p{v:AV}:oneC (.iface t v)=true:=(rfl)
attribute [congr] c7v c7x
attribute [simp] c7u c7w T9 c7y c7z c8a c8b c8c c8d allOne_nil O5
 c8e c8f c8g c8h c8i oneC_nilFunc c8j c8k c8l c8m c8n oneC_es c8o c8p
/-! ### new blocks -/
theorem c8q:opV P H ev ⟨d,.alloc t,ty,p,af,g⟩=I7 P H t:=(rfl)
noncomputable def a1x(z:Option (List AV))(H:Mem):R:=match z with|some l=>.val (.ptr H.next 0) (H.add (.cells l true 0))|none=>.bad
theorem c8r:I7 P H t=a1x (Cb P t) H:=by
 grind[a1x,I7,Mem.newK_eq,Dq]
theorem c8s:a1x (some l) H=.val (.ptr H.next 0) (H.add (.cells l true 0)):=(rfl)
theorem c8t:opV P H ev ⟨d,.box t x,ty,p,af,g⟩=Hg H (ev x):=(rfl)
theorem c8u{v:AV}:Hg H (some v)=.val (.ptr H.next 0) (H.add (.cells (cellsOf v) true 0)):=by
 simp[Hg,Dq,X1]
attribute [simp] c8q c8r c8s c8t c8u
/-! ### addresses -/
def B7(P:Program)(s:TypeId)(f:Nat):Option Nat:=match P.underlying s with
 | some (.struct fields)=>match fields[f]? with
  | some fd=>match P.info? fd.type with
   | some i=>match Nat.beq i.size 0 with|true=>none|false=>some fd.offset
   | none=>none
  | none=>none
 | _=>none
noncomputable def faS(P:Program)(H:Mem)(ev:Ev)(o:Oper)(s:TypeId)(q:Option Nat)(x:Option AV)(f:Nat):R:=match x,q with
 | some (.ptr a off),some q=>.val (.ptr a (off+q)) H
 | x,_=>G2 P H ev o s x f
theorem c8v{s:TypeId}{f:Nat}:opV P H ev ⟨d,.fieldAddr s x f,ty,p,af,g⟩=faS P H ev ⟨d,.fieldAddr s x f,ty,p,af,g⟩ s (B7 P s f) (ev x) f:=by
 show G2 P H ev _ s (ev x) f=_;unfold faS;split
 .rename_i a off q h A;rw[h];have:fieldAddr P s (.ptr a off) f=some (.ptr a (off+q)):=by
   (simp_all[B7,fieldAddr,Ee];grind)
  grind[Gd,G2]
 .rfl
theorem c8w(D:tick=tk){o:Oper}{s:TypeId}{q h:Option Nat}{x A:Option AV}{f:Nat}{H H' : Mem}(U:H=H')(Z:q=h)(h3:x=A):faS P H ev o s q x f=faS P H' ev o s h A f:=by grind
theorem c8x{s:TypeId}{q f:Nat}:faS P H ev o s (some q) (some (.ptr a off)) f=.val (.ptr a (off+q)) H:=(rfl)
attribute [congr] c8w
attribute [simp] c8v c8x
def Bu(P:Program)(t:TypeId):Option (Option Nat×Nat):=match P.underlying t with
 | some (.slice e)=>match P.info? e with|some j=>some (none,j.size)|none=>none
 | some (.array n e)=>match P.info? e with|some j=>some (some n,j.size)|none=>none
 | _=>none
noncomputable def iaS(P:Program)(H:Mem)(ev:Ev)(o:Oper)(t:TypeId)(q:Option (Option Nat×Nat))(x i:Option AV):R:=match q,x,i with
 | some (none,sz),some (.sl a off n c),some (.lit (.int k i))=>if 0<=i/\i.toNat<n then .val (.ptr a (off+i.toNat*sz)) H else Dy P H ev o t (some (.sl a off n c)) (some (.lit (.int k i)))
 | some (none,sz),some (.slq a off n c),some (.lit (.int k i))=>if 0<=i/\i.toNat<n then .val (.ptr a (off+i.toNat*sz)) H else Dy P H ev o t (some (.slq a off n c)) (some (.lit (.int k i)))
 | some (some n,sz),some (.ptr a off),some (.lit (.int k i))=>if 0<=i/\i.toNat<n then .val (.ptr a (off+i.toNat*sz)) H else Dy P H ev o t (some (.ptr a off)) (some (.lit (.int k i)))
 | _,x,i=>Dy P H ev o t x i
theorem Io(h:0<=i):natOf (.lit (.int k i))=some i.toNat:=by
 cases i with
 | ofNat n=>rfl
 | negSucc n=>grind
theorem c8y(A:Bu P t=some (none,sz))(D:0<=i)(h:i.toNat<n):
  Dy P H ev o t (some (.sl a off n c)) (some (.lit (.int k i)))=.val (.ptr a (off+i.toNat*sz)) H:=by
 have:indexAddr P t (.sl a off n c) (.lit (.int k i))=some (.ptr a (off+i.toNat*sz)):=by
  unfold Bu at A;unfold indexAddr;grind[Io,Ee,Nat.ble_eq_true_of_le,Nat.blt]
 grind[Gd,Dy]
theorem c8z(A:Bu P t=some (none,sz))(D:0<=i)(h:i.toNat<n):
  Dy P H ev o t (some (.slq a off n c)) (some (.lit (.int k i)))=.val (.ptr a (off+i.toNat*sz)) H:=by
 have:indexAddr P t (.slq a off n c) (.lit (.int k i))=some (.ptr a (off+i.toNat*sz)):=by
  unfold Bu at A;unfold indexAddr;grind[Io,Ee,Nat.ble_eq_true_of_le,Nat.blt]
 grind[Gd,Dy]
theorem c9a(A:Bu P t=some (some n,sz))(D:0<=i)(h:i.toNat<n):
  Dy P H ev o t (some (.ptr a off)) (some (.lit (.int k i)))=.val (.ptr a (off+i.toNat*sz)) H:=by
 have:indexAddr P t (.ptr a off) (.lit (.int k i))=some (.ptr a (off+i.toNat*sz)):=by
  unfold Bu at A;unfold indexAddr;grind[Io,Ee,Nat.ble_eq_true_of_le,Nat.blt]
 grind[Gd,Dy]
theorem c9b{i:Operand}:opV P H ev ⟨d,.indexAddr t x i,ty,p,af,g⟩=iaS P H ev ⟨d,.indexAddr t x i,ty,p,af,g⟩ t (Bu P t) (ev x) (ev i):=by
 show Dy P H ev _ t (ev x) (ev i)=_;unfold iaS;grind[c8y,c8z,c9a]
theorem c9c(U:tick=tk){o:Oper}{t:TypeId}{q h:Option (Option Nat×Nat)}{x A i D:Option AV}{H H' : Mem}(Z:H=H')(h0:q=h)(h2:x=A)(h3:i=D):iaS P H ev o t q x i=iaS P H' ev o t h A D:=by grind
theorem b0j(A:0<=i)(h:i.toNat<n):iaS P H ev o t (some (none,sz)) (some (.sl a off n c)) (some (.lit (.int k i)))=.val (.ptr a (off+i.toNat*sz)) H:=if_pos ⟨A,h⟩
theorem a1y(A:0<=i)(h:i.toNat<n):iaS P H ev o t (some (none,sz)) (some (.slq a off n c)) (some (.lit (.int k i)))=.val (.ptr a (off+i.toNat*sz)) H:=if_pos ⟨A,h⟩
attribute [congr] c9c
attribute [simp] c9b b0j a1y
/-! ### nilCheck,extract -/
theorem c9d{i:Nat}:opV P H ev ⟨d,.extract x i,ty,p,af,g⟩=Ih H (ev x) i:=(rfl)
theorem c9e{i:Nat}:Ih H (some (.tup l)) i=ofOpt H l[i]?:=(rfl)
attribute [simp] c9d c9e
end
section
variable {ev:Ev}{d:Option Tmp}{ty:TypeId}{p:String}{af:Array Edge}{g:Option (Nat×Bool)}
/-! ### parts of a struct or of a slice -/
variable {t s:TypeId}{n size a off tk c i bytes:Nat}{x hi:Operand}{l z:List AV}{place:Nat→Option (Nat×Nat)}{k:IntKind}{own:Bool}
theorem evalParts_nil:C1 ev []=some []:=(rfl)
noncomputable def a1z(i:Nat)(a:Option AV)(l:Option (List (Nat×AV))):Option (List (Nat×AV)):=match a,l with|some v,some vs=>some ((i,v)::vs)|_,_=>none
theorem c9f{l:List (Nat×Operand)}:C1 ev ((i,x)::l)=a1z i (ev x) (C1 ev l):=by
 grind[C1,a1z]
theorem c9g{v:AV}{vs:List (Nat×AV)}:a1z i (some v) (some vs)=some ((i,v)::vs):=(rfl)
noncomputable def Ip(place:Nat->Option (Nat×Nat))(cells:List AV):List (Nat×AV)->Option (List AV)
 | []=>some cells
 | (i,v)::rest=>match place i with
  | some (off,size)=>if (cellsOf v).length=size/\off+(cellsOf v).length<=cells.length then Ip place (Gk cells off (cellsOf v)) rest else none
  | none=>none
theorem a2a:∀(ps:List (Nat×AV)) (cells:List AV),J7 place cells ps=Ip place cells ps
 | [],_=>rfl
 | (i,v)::h,cells=>by
  unfold J7 Ip
  cases A:place i with
  | none=>rfl
  | some r =>
   obtain⟨off,size⟩:=r;dsimp only
   cases D:Nat.beq (len (cellsOf v)) size with
   | false =>
    dsimp only
    (split<;>simp_all[Di])
   | true =>
    simp_all[Di,Ll,a2a]
noncomputable def b0k(q:Option (Nat×Nat))(place:Nat->Option (Nat×Nat))(cells new:List AV)(rest:List (Nat×AV)):Option (List AV):=match q with
 | some (off,size)=>if new.length=size/\off+new.length<=cells.length then Ip place (Gk cells off new) rest else none
 | none=>none
theorem c9h{cells:List AV}:Ip place cells []=some cells:=(rfl)
theorem c9i{cells:List AV}{v:AV}{h:List (Nat×AV)}:Ip place cells ((i,v)::h)=b0k (place i) place cells (cellsOf v) h:=by
 rfl
theorem c9j{cells new:List AV}{h:List (Nat×AV)}(A:new.length=size)(D:off+new.length<=cells.length):
  b0k (some (off,size)) place cells new h=Ip place (Gk cells off new) h:=if_pos ⟨A,D⟩
attribute [simp] evalParts_nil c9f c9g c9h c9i c9j
noncomputable def Jm(P:Program)(t:TypeId):Option (List AV×List (Nat×Nat)):=match Cb P t,P.underlying t with
 | some zero,some (.struct fields)=>match a6k P fields.toList with
  | some pl=>some (zero,pl)
  | none=>none
 | _,_=>none
noncomputable def Qz(P:Program)(H:Mem)(t:TypeId)(q:Option (List AV×List (Nat×Nat)))(ps:Option (List (Nat×AV))):R:=match q,ps with
 | some (z,pl),some ps=>ofOpt H (Nb (Ip (nth pl) z ps))
 | _,ps=>Hi P H t ps
theorem c9k{ps:Array (Nat×Operand)}:opV P H ev ⟨d,.build t ps,ty,p,af,g⟩=Qz P H t (Jm P t) (C1 ev ps.toList):=by
 show Hi P H t (C1 ev ps.toList)=_;unfold Qz;grind[a2a,build,Jm,Hi]
theorem c9l(D:tick=tk){t:TypeId}{q h:Option (List AV×List (Nat×Nat))}{x A:Option (List (Nat×AV))}{H H' : Mem}(U:H=H')(Z:q=h)(h3:x=A):Qz P H t q x=Qz P H' t h A:=by grind
theorem c9m{h:List (Nat×Nat)}{ps:List (Nat×AV)}:Qz P H t (some (z,h)) (some ps)=ofOpt H (Nb (Ip (nth h) z ps)):=(rfl)
theorem c9n:Nb (some l)=some (.agg l):=(rfl)
theorem c9o{h:Type}{l:List h}:nth l i=l[i]?:=Lk l i
attribute [congr] c9l
attribute [simp] c9k c9m c9n c9o
noncomputable def bsI(P:Program)(t:TypeId):Option (List AV×Nat):=match Ft P t with
 | some (e,size,_)=>match Cb P e with
  | some z=>some (z,size)
  | none=>none
 | none=>none
noncomputable def bsS(P:Program)(H:Mem)(t:TypeId)(n:Nat)(q:Option (List AV×Nat))(ps:Option (List (Nat×AV))):R:=match q,ps with
 | some (z,size),some ps=>if n*size<=1048576/\0<n*size then (match Ip (λi=>some (i*size,size)) (rep z n) ps with
   | some l=>.val (.sl H.next 0 n n) (H.add (.cells l true 0))
   | none=>.bad) else Fu P H t n (some ps)
 | _,ps=>Fu P H t n ps
theorem c9p{ps:Array (Nat×Operand)}:opV P H ev ⟨d,.buildSlice t n ps,ty,p,af,g⟩=bsS P H t n (bsI P t) (C1 ev ps.toList):=by
 show Fu P H t n (C1 ev ps.toList)=_;unfold bsS;split
 .rename_i z size l A D;rw[D];split
  .rename_i h;unfold Fu;unfold bsI at A;split at A
   .rename_i e sz Z U;split at A
    .rename_i z' hz;cases A;rw[U];dsimp only;have a0:Nat.ble (n*size) 1048576=true:=e6s h.1;grind[Nat.eq_of_beq_eq_true,Eo,a2a,Mem.newK_eq,Dq]
    grind
   grind
  .rfl
 .rfl
theorem c9q(D:tick=tk){t:TypeId}{n:Nat}{q h:Option (List AV×Nat)}{x A:Option (List (Nat×AV))}{H H' : Mem}(U:H=H')(Z:q=h)(h3:x=A):bsS P H t n q x=bsS P H' t n h A:=by grind
noncomputable def bsK(H:Mem)(n:Nat)(l:Option (List AV)):R:=match l with|some l=>.val (.sl H.next 0 n n) (H.add (.cells l true 0))|none=>.bad
theorem c9r:bsK H n (some l)=.val (.sl H.next 0 n n) (H.add (.cells l true 0)):=(rfl)
theorem c9s{ps:List (Nat×AV)}(h:n*size<=1048576)(A:0<n*size):bsS P H t n (some (z,size)) (some ps)=bsK H n (Ip (λi=>some (i*size,size)) (rep z n) ps):=by
 unfold bsS;dsimp only;rw[if_pos ⟨h,A⟩];rfl
theorem c9t(h:bsI P t=some (z,size)):Fu P H t 0 (some [])=.val (.sl H.next 0 0 0) (H.add (.cells [] true 0)):=by
 unfold bsI at h;split at h
 all_goals simp_all[X1,Dq,J7,rep,Eo,Fu]
theorem c9u:rep l 0=[]:=(rfl)
theorem Ua:rep l (n+1)=l++rep l n:=(rfl)
attribute [congr] c9q
attribute [simp] c9p c9r c9s c9u Ua
/-! ### makeInterface,makeFunc -/
theorem c9v{fn:Fn}{a b:Array Operand}:opV P H ev ⟨d,.makeFunc fn a b,ty,p,af,g⟩=Ig H fn (Bj ev a.toList) (Bj ev b.toList):=(rfl)
theorem c9w{fn:Fn}{a b:List AV}:Ig H fn (some a) (some b)=.val (.func fn a b) H:=(rfl)
attribute [simp] c9v c9w
/-! ### integers to integers -/
noncomputable def cvS(P:Program)(H:Mem)(ev:Ev)(o:Oper)(s t:TypeId)(sd td:Option TypeDesc)(x:Option AV):R:=match sd,td,x with
 | some (.int _),some (.int k),some (.lit (.int _ n))=>.val (.lit (.int k (k.wrap n))) H
 | _,_,x=>Ep P H ev o s t x
theorem c9x:opV P H ev ⟨d,.convert s t x,ty,p,af,g⟩=cvS P H ev ⟨d,.convert s t x,ty,p,af,g⟩ s t (P.underlying s) (P.underlying t) (ev x):=by
 show Ep P H ev _ s t (ev x)=_;unfold cvS;split
 .rename_i k' k j n A D U;have Z:A7 P ev ⟨d,.convert s t x,ty,p,af,g⟩=some (.lit (.int k (k.wrap n))):=by
   refine T8 rfl U λρ h=>?_;show Ar P (do pure (Next.value (<- Go.convert s t (ρ x))))=_;rw[Bo (a:=.int k (k.wrap n))]
   .rfl
   .rw[h];refine(Bo (m:=underlying s) (Hr A)).trans ?_;refine(Bo (m:=underlying t) (Hr D)).trans ?_;rfl
  grind[Ep]
 .rfl
theorem c9y(a0:tick=tk){o:Oper}{s t:TypeId}{h A D U:Option TypeDesc}{x Z:Option AV}{H H' : Mem}(h1:H=H')(h2:h=A)(h3:D=U)(h4:x=Z):cvS P H ev o s t h D x=cvS P H' ev o s t A U Z:=by grind
theorem c9z{o:Oper}{k' j:IntKind}{n:Int}:cvS P H ev o s t (some (.int k')) (some (.int k)) (some (.lit (.int j n)))=.val (.lit (.int k (k.wrap n))) H:=(rfl)
attribute [congr] c9y
attribute [simp] c9x c9z
/-! ### An operation whose operands are seen -/
noncomputable def ex1(P:Program)(H:Mem)(ev:Ev)(o:Oper)(x:Operand)(v:Option AV)(_:ev x=v):R:=opV P H ev o
noncomputable def ex2(P:Program)(H:Mem)(ev:Ev)(o:Oper)(x y:Operand)(v u:Option AV)(_:ev x=v)(_:ev y=u):R:=opV P H ev o
noncomputable def ex3(P:Program)(H:Mem)(ev:Ev)(o:Oper)(x y z:Operand)(v u q:Option AV)(_:ev x=v)(_:ev y=u)(_:ev z=q):R:=opV P H ev o
theorem d0a(U:tick=tk){o:Oper}{x:Operand}{v h:Option AV}{A:ev x=v}{H H' : Mem}(Z:H=H')(D:v=h):ex1 P H ev o x v A=ex1 P H' ev o x h (A.trans D):=by grind
theorem d0b(a0:tick=tk){o:Oper}{x y:Operand}{v h u u' : Option AV}{A:ev x=v}{D:ev y=u}{H H' : Mem}(h1:H=H')(U:v=h)(Z:u=u'):ex2 P H ev o x y v u A D=ex2 P H' ev o x y h u' (A.trans U) (D.trans Z):=by grind
theorem d0c(a0:tick=tk){o:Oper}{x y z:Operand}{v h u u' q A:Option AV}{D:ev x=v}{U:ev y=u}{Z:ev z=q}{H H' : Mem}(h1:H=H')(h2:v=h)(h3:u=u')(h4:q=A):
  ex3 P H ev o x y z v u q D U Z=ex3 P H' ev o x y z h u' A (D.trans h2) (U.trans h3) (Z.trans h4):=by grind
attribute [congr] d0a d0b d0c
/-! ### slices of slices and of strings -/
theorem d0d:opV P H ev ⟨d,.slice t x none (some hi) none,ty,p,af,g⟩=ex2 P H ev ⟨d,.slice t x none (some hi) none,ty,p,af,g⟩ x hi (ev x) (ev hi) rfl rfl:=(rfl)
theorem d0e{lo:Operand}:opV P H ev ⟨d,.slice t x (some lo) none none,ty,p,af,g⟩=ex2 P H ev ⟨d,.slice t x (some lo) none none,ty,p,af,g⟩ x lo (ev x) (ev lo) rfl rfl:=(rfl)
theorem Ma{o:Oper}(h:x∈o.op.operands.toList)(hx:∀v,ev x=some v->toLit v=none):A7 P ev o=none:=by
 unfold A7;grind
theorem b0l{i:Int}(h:0<=i)(A:i.toNat<=c):Dh none (some (.lit (.int k i))) none n c=some (0,i.toNat,c):=by
 simp_all[I3,Dh,Io,e6s,Oi]
theorem Ub{lo hi:Option Operand}{v:AV}(hx:ev x=some v)(A:toLit v=none):
  opV P H ev ⟨d,.slice t x lo hi none,ty,p,af,g⟩=Gc P H ev t (some v) lo hi none:=by
 show Da P H ev _ t (ev x) lo hi none=_;unfold Da;rw[Ma (x:=x) (by simp[Op.operands]) (λD h=>by grind),hx]
theorem Mb{e:TypeId}{i:TypeInfo}{x:AV}{lo hi h:Option AV}(A:P.underlying t=some (.slice e))(D:P.info? e=some i):Sw P t x lo hi h=I5 i.size lo hi h x:=by
 grind[Sw]
theorem Jn{sz:Nat}(h:Bu P t=some (none,sz)):∃e i,P.underlying t=some (.slice e)/\P.info? e=some i/\i.size=sz:=by
 unfold Bu at h;grind
theorem a2b{i:Int}{hx:ev x=some (.sl a off n c)}{hh:ev hi=some (.lit (.int k i))}(A:(Bu P t).map (·.1)=some none)(h0:0<=i)(h1:i.toNat<=c)(h2:0<c):
  ex2 P H ev ⟨d,.slice t x none (some hi) none,ty,p,af,g⟩ x hi (some (.sl a off n c)) (some (.lit (.int k i))) hx hh=.val (.sl a off i.toNat c) H:=by
 show opV P H ev _=_;rw[Ub hx rfl];obtain⟨q,D,h⟩:=e6a.1 A;obtain⟨q1,q2⟩:=q;dsimp only at h;subst h;obtain⟨e,i',U,Z,h5⟩:=Jn D;unfold Gc E3;dsimp only;rw[hh];dsimp only;rw[Mb U Z];grind[I5,b0l,I4,Nat.eq_of_beq_eq_true,ofOpt,Ee]
theorem a2c{i:Int}{hx:ev x=some (.slq a off n c)}{hh:ev hi=some (.lit (.int k i))}(A:(Bu P t).map (·.1)=some none)(h0:0<=i)(h1:i.toNat<=n)(h2:0<n):
  ex2 P H ev ⟨d,.slice t x none (some hi) none,ty,p,af,g⟩ x hi (some (.slq a off n c)) (some (.lit (.int k i))) hx hh=.val (.slq a off i.toNat c) H:=by
 show opV P H ev _=_;rw[Ub hx rfl];obtain⟨q,D,h⟩:=e6a.1 A;obtain⟨q1,q2⟩:=q;dsimp only at h;subst h;obtain⟨e,i',U,Z,h5⟩:=Jn D;unfold Gc E3;dsimp only;rw[hh];dsimp only;rw[Mb U Z];grind[I5,b0l,Sv,Nat.ble_eq_true_of_le,Nat.blt,ofOpt,Ee]
attribute [simp] d0d d0e a2b a2c
/-! ### append -/
theorem d0f{y:Operand}:opV P H ev ⟨d,.call ⟨.builtin .append,#[x,y],#[s,t]⟩,ty,p,af,g⟩=ex2 P H ev ⟨d,.call ⟨.builtin .append,#[x,y],#[s,t]⟩,ty,p,af,g⟩ x y (ev x) (ev y) rfl rfl:=(rfl)
noncomputable def apI(P:Program)(s t:TypeId):Option (Nat×Nat):=match Ft P s,P.underlying t with
 | some (_,size,bytes),some (.slice _)=>some (size,bytes)
 | _,_=>none
theorem G9{y:Operand}{v u:AV}(hx:ev x=some v)(hy:ev y=some u)(h:apI P s t=some (size,bytes)):
  opV P H ev ⟨d,.call ⟨.builtin .append,#[x,y],#[s,t]⟩,ty,p,af,g⟩=(match En H size bytes v u with|some (v,H)=>.val v H|none=>.bad):=by
 show Br P H ev _ ⟨.builtin .append,#[x,y],#[s,t]⟩=_;unfold Br;have A:Bj ev (#[x,y]:Array Operand).toList=some [v,u]:=by
  simp_all
 rw[A];dsimp only;unfold Fg;dsimp only;unfold P7;dsimp only;have e2:(#[s,t]:Array TypeId)[0]?=some s:=rfl;have e3:(#[s,t]:Array TypeId)[1]?=some t:=rfl;grind[append,apI,S0]
theorem a2d{z:Nat}(h:H.get a=some (.cells l own z))(A:off+n*size<=l.length):Cv H size n (.sl a off n c)=some ((l.drop off).take (n*size)):=by
 simp_all[Cv,Jd]
theorem d0g{z:Nat}(h:H.get a=some (.cells l own z))(A:off+n*size<=l.length):Cv H size n (.slq a off n c)=some ((l.drop off).take (n*size)):=by
 simp_all[Cv,Jd]
theorem Q0{b:Nat}(h:a<=1048576)(A:b<=1048576)(D:c<=1048576):small a b c=true:=by
 grind[small]
theorem Q1:Ib H l n size=some (.slq H.next 0 n 0,H.add (.cells l true size)):=by
 grind[Ib,Mem.newK_eq]
theorem b0m{x:AV}{new:List AV}(h:lenOf x=some (n+1))(A:0<size)(D:Cv H size (n+1) x=some new)(U:new.length=(n+1)*size)(Z:n+1<=1048576)(h2:bytes<=1048576):
  En H size bytes (.nl) x=some (.slq H.next 0 (n+1) 0,H.add (.cells new true size)):=by
 unfold En;rw[h];show (match Nat.beq size 0,Cv H size (n+1) x with|false,some new=>Ed H size bytes (n+1) (.nl) new|_,_=>none)=_;have hb:Nat.beq size 0=false:=by
  grind[Nat.eq_of_beq_eq_true]
 simp_all[Ed,Di,Sy,Q0,Q1]
theorem a2e{k:Nat}{x:AV}{new:List AV}{z:Nat}(A:lenOf x=some (n+1))(hs:0<size)(D:Cv H size (n+1) x=some new)(U:new.length=(n+1)*size)
  (hg:H.get a=some (.cells l own z)) (a0:off+k*size<=l.length) (h1:k+(n+1)<=1048576) (h3:k<=1048576) (h2:bytes<=1048576) :
  En H size bytes (.sl a off k k) x=some (.slq H.next 0 (k+(n+1)) 0,H.add (.cells ((l.drop off).take (k*size)++new) true size)):=by
 unfold En;rw[A];show (match Nat.beq size 0,Cv H size (n+1) x with|false,some new=>Ed H size bytes (n+1) (.sl a off k k) new|_,_=>none)=_;have Z:Nat.beq size 0=false:=by
  grind[Nat.eq_of_beq_eq_true]
 rw[Z,D];dsimp only;unfold Ed;rw[Di,U,e8g];dsimp only;unfold P4;have h:Nat.ble (k+(n+1)) k=false:=by
  cases h:Nat.ble (k+(n+1)) k with
  | false=>rfl
  | true=>have:=Wz h;omega
 simp_all[Q0,Qi,Jd,Q1]
theorem b0n{k:Nat}{x:AV}{new:List AV}(h:lenOf x=some (n+1))(hs:0<size)(A:Cv H size (n+1) x=some new)(D:new.length=(n+1)*size)
  (U:H.get a=some (.cells l true size)) (Z:l.length=k*size) (h1:k+(n+1)<=1048576) (h2:bytes<=1048576) (h4:allOne new=true) :
  En H size bytes (.slq a 0 k 0) x=some (.slq (H.rm a).next 0 (k+(n+1)) 0,(H.rm a).add (.cells (l++new) true size)):=by
 unfold En;rw[h];show (match Nat.beq size 0,Cv H size (n+1) x with|false,some new=>Ed H size bytes (n+1) (.slq a 0 k 0) new|_,_=>none)=_;have hb:Nat.beq size 0=false:=by
  grind[Nat.eq_of_beq_eq_true]
 rw[hb,A];dsimp only;unfold Ed;rw[Di,D,e8g];dsimp only;unfold Sz;rw[U];dsimp only;have e1:(Nat.beq size size&&Nat.beq 0 (0*size))=true:=by simp
 have e2:Nat.ble (0+(k+(n+1))*size) (len l)=false:=by
  rw[Di,Z]
  cases a0:Nat.ble (0+(k+(n+1))*size) (k*size) with
  | false=>rfl
  | true =>
   (simp_all;grind)
 have e3:(Nat.beq (0+k*size) (len l)&&small (k+(n+1)) 0 bytes&&allOne new)=true:=by
  simp_all[Q0,Di]
 (simp_all[Q1,Mem.delK_eq,Qi,Jd];grind)
attribute [simp] d0f
end
section
variable {ev:Ev}{d:Option Tmp}{ty:TypeId}{p:String}{af:Array Edge}{g:Option (Nat×Bool)}
variable {t kt:TypeId}{a c:Nat}{s:ByteArray}{l:List (ByteArray×Nat)}{k x:Operand}
def Mc(l:List (ByteArray×AV×Nat)):List (AV×AV×Nat):=l.map λx=>(.lit (.string x.1),x.2.1,x.2.2)
theorem litAll_keys:∀l:List (ByteArray×AV×Nat),litAll ((Mc l).map (·.1))=some (l.map λx=>Value.string x.1)
 | []=>rfl
 | x::l=>by
  have:=litAll_keys l;simp only[Mc,e6v] at this |-;simp only[litAll];rw[this]
def Gl(s:ByteArray):List (ByteArray×AV×Nat)->Nat->Option Nat
 | [],_=>none
 | x::l,i=>if s=x.1 then some i else Gl s l (i+1)
theorem a2f(a b:ByteArray):(a==b)=decide (a=b):=by
 by_cases h:a=b
 .subst h
  cases a with
  | mk d=>show (d==d)=_;simp
 .rw[decide_eq_false h]
  cases a with
  | mk d=>cases b with
   | mk e =>
    show (d==e)=false;grind
theorem b0o(s:ByteArray):∀(l:List (ByteArray×AV×Nat)) (i:Nat),Instr.findNow .string (.string s) ((l.map λx=>Value.string x.1).map λq=>(⟨q,undef,0⟩:MapEntry)) i=some ((Gl s l i).map λj=>(j,undef))
 | [],i=>rfl
 | x::l,i=>by
  have h:=b0o s l (i+1);simp only[e6v] at h |-;unfold Instr.findNow Gl;show (match (some (s==x.1):Option Bool) with|some true=>_|some false=>_|none=>none)=_
  (simp_all[a2f];grind)
theorem a2g(h:P.underlying kt=some .string)(s:ByteArray)(l:List (ByteArray×AV×Nat)):Lc P kt (.string s) (Mc l)=some (Gl s l 0):=by
 unfold Lc;rw[litAll_keys];dsimp only;have:Ar P (Instr.findKey kt (.string s) ((l.map λx=>Value.string x.1).map λq=>(⟨q,undef,0⟩:MapEntry)))=some ((Gl s l 0).map λj=>(j,undef)):=by
  unfold Instr.findKey;rw[Bo (Hr h),b0o];rfl
 rw[this];cases Gl s l 0<;>rfl
theorem a2h{b:Bool}{n:Nat}(h:P.underlying kt=some .string):Ar P (Instr.checkKey b (n+1) kt (.string s))=some ():=by
 unfold Instr.checkKey;rw[Bo (Hr h)];rfl
theorem Uc(s:ByteArray):∀(l:List (ByteArray×AV×Nat)) (i:Nat),match Gl s l i with|some j=>i<=j/\∃x,l[j-i]?=some x/\x.1=s|none=>∀x∈l,x.1≠s
 | [],i=>by simp[Gl]
 | x::l,i=>by
  unfold Gl;by_cases h:s=x.1
  .grind
  .rw[if_neg h];have A:=Uc s l (i+1);grind
def Ch(l:List (ByteArray×Nat)):List (AV×AV×Nat):=Mc (l.map λx=>(x.1,.lit (.bool true),x.2))
def E9(s:ByteArray)(l:List (ByteArray×Nat)):Bool:=l.any λx=>decide (x.1=s)
theorem d0h{A:TypeId}(Z:P.underlying t=some (.map kt A))(D:P.underlying kt=some .string)(hz:P5 P A=some (.bool false))(hg:H.get a=some (.map (Ch l) c)):
  lookup P H t (.map a) (.lit (.string s)) false=some (.lit (.bool (E9 s l))):=by
 unfold lookup;rw[Z];dsimp only[toLit];rw[hg];dsimp only;rw[a2h (n:=9999) D];unfold Ch;rw[a2g D];dsimp only;have h:=Uc s (l.map λx=>(x.1,AV.lit (.bool true),x.2)) 0
 cases U:Gl s (l.map λx=>(x.1,AV.lit (.bool true),x.2)) 0 with
 | none =>
  rw[U] at h;unfold S1;dsimp only;rw[hz];have:E9 s l=false:=by
   unfold E9;rw[List.any_eq_false];intro x hx;have:=h (x.1,.lit (.bool true),x.2) (Xc.2 ⟨x,hx,rfl⟩);grind
  rw[this];rfl
 | some j =>
  rw[U] at h;obtain⟨_,x,hx,a0⟩:=h;rw[Nat.sub_zero,e6r] at hx;obtain⟨y,hy,rfl⟩:=e6a.1 hx;unfold S1;dsimp only;rw[Lk];have:(Mc (l.map λx=>(x.1,AV.lit (.bool true),x.2)))[j]?=some (.lit (.string y.1),.lit (.bool true),y.2):=by
   grind[Mc]
  rw[this];have:E9 s l=true:=by
   grind[E9]
  rw[this];rfl
theorem d0i{D:TypeId}(U:P.underlying t=some (.map kt D))(h:P.underlying kt=some .string)(Z:H.get a=some (.map (Ch l) c))(hn:E9 s l=false):
  mapUpdate P H t (.map a) (.lit (.string s)) (.lit (.bool true))=some (H.upd a (.map (Ch (l++[(s,c)])) (c+1))):=by
 unfold mapUpdate;rw[U];dsimp only[toLit];rw[Z];dsimp only;rw[a2h (n:=9999) h];have e:Lc P kt (.string s) (Ch l)=some (Gl s (l.map λx=>(x.1,AV.lit (.bool true),x.2)) 0):=a2g h s _;rw[e];have A:=Uc s (l.map λx=>(x.1,AV.lit (.bool true),x.2)) 0
 cases a0:Gl s (l.map λx=>(x.1,AV.lit (.bool true),x.2)) 0 with
 | none =>
  grind[S2,Mem.setK_eq,Mc,Ch]
 | some j =>
  exfalso;rw[a0] at A;obtain⟨_,x,hx,a1⟩:=A;rw[Nat.sub_zero,e6r] at hx;obtain⟨y,hy,rfl⟩:=e6a.1 hx;grind[E9]
def O6(P:Program)(t:TypeId):Bool:=match P.underlying t with
 | some (.map kt et)=>(match P.underlying kt with|some .string=>true|_=>false)&&(match P.info? et with|some i=>(match i.zero with|some (.bool false)=>true|_=>false)|none=>false)
 | _=>false
theorem a2i(h:O6 P t=true):∃kt A,P.underlying t=some (.map kt A)/\P.underlying kt=some .string/\P5 P A=some (.bool false):=by
 (simp_all[O6,P5];grind)
noncomputable def Ud(P:Program)(H:Mem)(ev:Ev)(o:Oper)(x y:Operand)(a:Nat)(u:AV)(b:Option Blk)(_:ev x=some (.map a))(_:ev y=some u)(_:H.get a=b):R:=opV P H ev o
noncomputable def Q3(P:Program)(H:Mem)(ev:Ev)(o:Oper)(x y z:Operand)(a:Nat)(u v:AV)(b:Option Blk)(_:ev x=some (.map a))(_:ev y=some u)(_:ev z=some v)(_:H.get a=b):R:=opV P H ev o
theorem d0j{D:Nat}(Z:tick=D){o:Oper}{x y:Operand}{a:Nat}{u:AV}{b h:Option Blk}{hx:ev x=some (.map a)}{hy:ev y=some u}{A:H.get a=b}(U:b=h):Ud P H ev o x y a u b hx hy A=Ud P H ev o x y a u h hx hy (A.trans U):=rfl
theorem d0k{U:Nat}(a0:tick=U){o:Oper}{x y z:Operand}{a:Nat}{u v:AV}{b h:Option Blk}{hx:ev x=some (.map a)}{hy:ev y=some u}{A:ev z=some v}{D:H.get a=b}(Z:b=h):Q3 P H ev o x y z a u v b hx hy A D=Q3 P H ev o x y z a u v h hx hy A (D.trans Z):=rfl
attribute [congr] d0j d0k
theorem d0l{m:Operand}{b:Bool}:opV P H ev ⟨d,.lookup t m k b,ty,p,af,g⟩=ex2 P H ev ⟨d,.lookup t m k b,ty,p,af,g⟩ m k (ev m) (ev k) rfl rfl:=(rfl)
theorem d0m{o:Oper}{y:Operand}{u:AV}{hx:ev x=some (.map a)}{hy:ev y=some u}:ex2 P H ev o x y (some (.map a)) (some u) hx hy=Ud P H ev o x y a u (H.get a) hx hy rfl:=(rfl)
theorem d0n{o:Oper}{y z:Operand}{u v:AV}{hx:ev x=some (.map a)}{hy:ev y=some u}{h:ev z=some v}:ex3 P H ev o x y z (some (.map a)) (some u) (some v) hx hy h=Q3 P H ev o x y z a u v (H.get a) hx hy h rfl:=(rfl)
theorem d0o{m:Operand}{A:ev m=some (.map a)}{D:ev k=some (.lit (.string s))}{U:H.get a=some (.map (Ch l) c)}(h:O6 P t=true):
  Ud P H ev ⟨d,.lookup t m k false,ty,p,af,g⟩ m k a (.lit (.string s)) (some (.map (Ch l) c)) A D U=.val (.lit (.bool (E9 s l))) H:=by
 show Hk P H ev _ t (ev m) (ev k) false=_;obtain⟨kt,et,Z,h2,h3⟩:=a2i h;unfold Hk Wr;rw[Ma (x:=m) (by simp[Op.operands]) (λv' h=>by rw[A] at h;cases h;rfl),A,D];dsimp only;rw[d0h Z h2 h3 U];rfl
theorem d0p{m:Operand}:opV P H ev ⟨d,.mapUpdate t m k x,ty,p,af,g⟩=ex3 P H ev ⟨d,.mapUpdate t m k x,ty,p,af,g⟩ m k x (ev m) (ev k) (ev x) rfl rfl rfl:=(rfl)
theorem d0q{m:Operand}{A:ev m=some (.map a)}{D:ev k=some (.lit (.string s))}{hx:ev x=some (.lit (.bool true))}
  {U:H.get a=some (.map (Ch l) c)} (h:O6 P t=true) (Z:E9 s l=false) :
  Q3 P H ev ⟨d,.mapUpdate t m k x,ty,p,af,g⟩ m k x a (.lit (.string s)) (.lit (.bool true)) (some (.map (Ch l) c)) A D hx U=.skip (H.upd a (.map (Ch (l++[(s,c)])) (c+1))):=by
 show G3 P H t (ev m) (ev k) (ev x)=_;grind[a2i,G3,d0i]
theorem d0r:opV P H ev ⟨d,.makeMap t none,ty,p,af,g⟩=.val (.map H.next) (H.add (.map (Ch []) 0)):=by
 show Hj P H ev t none=_;unfold Hj;dsimp only;rw[X1];rfl
attribute [simp] d0m d0n d0o d0q d0l d0p d0r
end
end
section
variable {P:Program}{B G:Nat}{ρ ρ' : Rn}{H H' : Mem}{w w' : World}
mutual
theorem VR.back (hs:Sub ρ ρ') : ∀ {v:AV} {u0 u:Value},VR ρ v u0->VR ρ' v u->VR ρ v u
 | .lit _,_,_,_,r=>r
 | .ptr _ _,_,_,⟨b,o,k,e,_⟩,⟨b',o',k',e',r'⟩=>by
  have:=hs _ _ e;rw[this] at e';cases e';exact⟨b,o,k,e,r'⟩
 | .sl _ _ _ _,_,_,⟨b,o,k,e,_⟩,⟨b',o',k',e',r'⟩=>by
  have:=hs _ _ e;rw[this] at e';cases e';exact⟨b,o,k,e,r'⟩
 | .slq _ _ _ _,_,_,⟨b,o,k,e,_⟩,⟨b',o',k',e',r'⟩=>by
  have:=hs _ _ e;rw[this] at e';cases e';exact⟨b,o,k,e,r'⟩
 | .es,_,_,_,r=>r
 | .map _,_,_,⟨b,o,k,e,_⟩,⟨b',o',k',e',r'⟩=>by
  have:=hs _ _ e;rw[this] at e';cases e';exact⟨b,o,k,e,r'⟩
 | .func _ _ _,_,_,⟨_,_,_,r,q⟩,⟨f',c',e',r',q'⟩=>⟨f',c',e',VRs.back hs r r',VRs.back hs q q'⟩
 | .iface _ _,_,_,⟨_,_,r⟩,⟨u',e',r'⟩=>⟨u',e',VR.back hs r r'⟩
 | .agg _,_,_,⟨_,_,r⟩,⟨cs,e',r'⟩=>⟨cs,e',VRs.back hs r r'⟩
 | .tup _,_,_,⟨_,_,r⟩,⟨cs,e',r'⟩=>⟨cs,e',VRs.back hs r r'⟩
theorem VRs.back (hs:Sub ρ ρ') : ∀ {l:List AV} {us0 us:List Value},VRs ρ l us0->VRs ρ' l us->VRs ρ l us
 | [],_,_,_,r=>r
 | _ :: _,_,_,⟨_,_,_,r,q⟩,⟨u,us',e,r',q'⟩=>⟨u,us',e,VR.back hs r r',VRs.back hs q q'⟩
end
variable {g:Gb}{off:Nat}
theorem ER.back(h:Sub ρ ρ'):∀{l:List (AV×AV×Nat)} {A es:List MapEntry},ER ρ l A->ER ρ' l es->ER ρ l es
 | [],_,_,_,r=>r
 | _::_,_,_,⟨_,_,_,r,s,_,z⟩,⟨e,D,q,U,s',Z,z'⟩=>⟨e,D,q,r.back h U,s.back h s',Z,ER.back h z z'⟩
theorem BR.back(D:Sub ρ ρ'){x:Blk}{b o k:Nat}(U:BR B ρ x b o k w)(h:BR B ρ' x b o k w'):BR B ρ x b o k w':=by
 cases x with
 | cells l own z =>
  obtain⟨c0,e0,a4,a1,Z,a5⟩:=U;obtain⟨c,e,fz,A,hc,ho⟩:=h;refine⟨c,e,fz,A,λi v hi=>?_,ho⟩;obtain⟨u0,_,a0⟩:=Z i v hi;obtain⟨u,hu,hv⟩:=hc i v hi;exact⟨u,hu,a0.back D hv⟩
 | map es a6 =>
  obtain⟨a7,_,a2,_⟩:=U;obtain⟨a3,A,he,hB⟩:=h;exact⟨a3,A,ER.back D a2 he,hB⟩
 | siter s a8=>exact h
 | typ T l ex =>
  obtain⟨_,_,c0,a1,Z,_⟩:=U;obtain⟨h1,h2,c,A,hc,h3⟩:=h;refine⟨h1,h2,c,A,λi v hi=>?_,h3⟩;obtain⟨u0,_,a0⟩:=Z i v hi;obtain⟨u,hu,hv⟩:=hc i v hi;exact⟨u,hu,a0.back D hv⟩
structure Ge (H H' : Mem):Prop where
 le:H.next<=H'.next
 same:∀a,a<H.next->H'.get a=H.get a
theorem Sim.back(s:Sim B G ρ H w)(hx:Ext B H.next ρ w ρ' w')(s' : Sim B G ρ' H' w')(D:Ge H H'):Sim B G ρ H w':=by
 have A:=hx.sub s;refine⟨λa x U=>?_,s.inj,s.fresh,s.glob,s.names,s'.base⟩;rcases s.blk a x U with hn|⟨b,o,k,h,Z⟩
 .grind
 .have a0:=s.lt_next h;refine .inr ⟨b,o,k,h,?_⟩;have a1:=s'.at (by rw[D.same a a0];omega) (A _ _ h);exact Z.back A a1
def plainV:AV->Bool
 | .lit _=>true
 | .es=>true
 | .iface _ v=>plainV v
 | .tup []=>true
 | .tup [a]=>plainV a
 | .tup [a,b]=>plainV a&&plainV b
 | .tup [a,b,c]=>plainV a&&plainV b&&plainV c
 | _=>false
theorem Jo{Z:Rn}:∀{v:AV}{u:Value},plainV v=true->VR ρ' v u->VR Z v u
 | .lit _,_,_,r=>r
 | .es,_,_,r=>r
 | .iface t v,_,h,⟨u',e,r⟩=>⟨u',e,Jo (v:=v) (by assumption) r⟩
 | .tup [],_,_,⟨cs,e,r⟩=>⟨cs,e,r⟩
 | .tup [a],_,h,⟨cs,e,u,us,A,r,q⟩=>⟨cs,e,u,us,A,Jo (v:=a) (by assumption) r,q⟩
 | .tup [a,b],_,h,⟨cs,e,u,us,A,r,u2,D,e2,U,q⟩=>by
  simp only[plainV,W1] at h;exact⟨cs,e,u,us,A,Jo (v:=a) h.1 r,u2,D,e2,Jo (v:=b) h.2 U,q⟩
 | .tup [a,b,c],_,h,⟨cs,e,u,us,A,r,u2,D,e2,U,u3,a0,e3,r3,q⟩=>by
  simp only[plainV,W1] at h;exact⟨cs,e,u,us,A,Jo (v:=a) h.1.1 r,u2,D,e2,Jo (v:=b) h.1.2 U,u3,a0,e3,Jo (v:=c) h.2 r3,q⟩
 | .ptr _ _,_,h,_=>by grind[plainV]
 | .sl _ _ _ _,_,h,_=>by grind[plainV]
 | .slq _ _ _ _,_,h,_=>by grind[plainV]
 | .map _,_,h,_=>by grind[plainV]
 | .func _ _ _,_,h,_=>by grind[plainV]
 | .agg _,_,h,_=>by grind[plainV]
 | .tup (_::_::_::_::_),_,h,_=>by grind[plainV]
theorem WC.drop{f:FuncId}{args:List AV}{K:AV->Prop}(h:WC G P f args H λr=>∃v H',r=.ret v H'/\plainV v=true/\Ge H H'/\K v):WC G P f args H λr=>∃v,r=.ret v H/\K v:=by
 intro B ρ us w s D;refine(h B ρ us w s D).mono ?_;rintro e w' ⟨r,⟨v,H',rfl,U,Z,hk⟩,hc⟩;refine⟨_,⟨v,rfl,hk⟩,?_⟩
 cases e with
 | returned u =>
  obtain⟨ρ',A,h2,h3,h4⟩:=hc;exact⟨ρ,⟨λ_ _=>rfl,A.keeps,A.below⟩,s.back A h2 Z,Jo U h3,Wy _⟩
 | panicked a0=>assumption
 | outgrown=>assumption
theorem WC.drop1{f:FuncId}{args:List AV}{v:AV}(A:plainV v=true)(h:WC G P f args H λr=>∃H',r=.ret v H'/\Ge H H'):WC G P f args H λr=>r=.ret v H:=by
 refine(WC.drop (K:=λu=>u=v) (h.mono ?_)).mono ?_
 all_goals grind
abbrev X3:=@WC.drop1
/-! ### rows of cells -/
def Row(g:Gb)(a off:Nat)(cs:List AV):Prop:=∃l own z,g a=some (.cells l own z)/\off+cs.length<=l.length/\(l.drop off).take cs.length=cs
theorem Row.agg{a:Nat}{cs:List AV}(h:Row g a off cs){k s:Nat}(A:k+s<=cs.length):A5 (some (true,s)) (g a) (off+k)=some (.agg ((cs.drop k).take s)):=by
 obtain⟨l,own,z,D,U,Z⟩:=h;grind[b0i,List.drop_take,List.drop_drop]
theorem Row.one{a:Nat}{cs:List AV}(h:Row g a off cs){k s:Nat}(A:k<cs.length):A5 (some (false,s)) (g a) (off+k)=some cs[k]:=by
 obtain⟨l,own,z,D,U,Z⟩:=h;grind[b0h]
theorem Row.mono{g': Gb}{a:Nat}{cs:List AV}(h:Row g a off cs)(A:g' a=g a):Row g' a off cs:=by
 obtain⟨l,own,z,D,U⟩:=h;exact⟨l,own,z,A.trans D,U⟩
theorem b0p{U:Type}{f:U->List AV}{sz:Nat}:∀(A:List U)(i:Nat)(h:i<A.length),(∀x∈A,(f x).length=sz)->((A.flatMap f).drop (i*sz)).take sz=f A[i]
 | x::A,0,_,D=>by
  grind
 | x::A,i+1,h,D=>by
  have Z:=D x (by simp);rw[e7f,e8c,e8j,<- e8x,<- Z,List.drop_left,Z];have:=b0p A i (by simpa using h) (λy hy=>D y (by simp[hy]));simpa using this
 | [],i,h,_=>by grind
theorem b0q{A:Type}{f:A->List AV}{sz:Nat}:∀(h:List A),(∀x∈h,(f x).length=sz)->(h.flatMap f).length=h.length*sz
 | [],_=>by simp
 | x::h,D=>by
  rw[e7f,W0,D x (by simp),b0q h (λy hy=>D y (by simp[hy])),Xk,e8c,e8j]
end
inductive It where
 | run (i:Nat)
 | mk (i:Nat)
 | gate (hs as:List Nat)
 deriving DecidableEq,Repr
structure Hs where
 cl:List Nat
 di:List Nat
 acl:List Nat
 adi:List Nat
def Kn(ops:List Oper):List Nat->Hs->(Hs->List It)->List It
 | [],s,K=>K s
 | i::l,s,K=>match ops[i]? with
  | some o=>match cls o.op with
   | .alloc=>.mk i::Kn ops l ⟨[],s.cl++s.di,[i],s.acl++s.adi⟩ K
   | .read=>.run i::Kn ops l ⟨i::s.cl,s.di,s.acl,s.adi⟩ K
   | _=>.run i::Kn ops l s K
  | none=>[]
def Q4(s:Hs)(K:Hs->List It):List It:=match s.di,s.adi with
 | [],[]=>K s
 | _,_=>.gate s.di s.adi::K ⟨s.di++s.cl,[],s.adi++s.acl,[]⟩
def O7(tab all:List Nat)(ops:List Oper):Nat->List Nat->Hs->List It
 | k,[],s=>Kn ops (E4 tab all k ops 0) s λs=>Q4 s λ_=>[]
 | k,c::cs,s=>Kn ops (E4 tab all k ops 0) s λs=>Q4 s λs =>
   .run c::O7 tab all ops (k+1) cs ⟨[],s.cl.filter λi=>!A3 tab c i,[],s.acl.filter λi=>!A3 tab c i⟩
def Nt(ops:List Oper):List It:=O7 (ancs [] ops) (chainOf ops 0) ops 0 (chainOf ops 0) ⟨[],[],[],[]⟩
def O8(o:Oper):List Tmp:=o.op.operands.toList.filterMap λx=>match x with|.tmp t=>some t|_=>none
def a2j(tab:List Nat)(ops:List Oper)(i:Nat)(t:Tmp):Bool:=match G4 t ops 0 with
 | none=>true
 | some j=>A3 tab i j||(A3 tab j i||Nat.beq i j)
def ahead(tab:List Nat)(ops:List Oper)(i:Nat)(t:Tmp):Bool:=match G4 t ops 0 with
 | none=>true
 | some j=>A3 tab i j
def Q5(P:Program)(t:TypeId):Bool:=match P.underlying t with|some (.slice _)=>false|some _=>true|none=>false
def Ue(P:Program)(o:Oper):Bool:=match o.op with
 | .convert s d _=>Q5 P s&&Q5 P d
 | _=>true
def Q6(P:Program)(tab:List Nat)(ops:List Oper)(o:Oper)(i:Nat):Bool:=
 (O8 o).all (a2j tab ops i)&&(match o.guard with|none=>true|some g=>A3 tab i g.1)&&Ue P o
def Ko(P:Program)(tab:List Nat)(ops:List Oper):List Oper->Nat->Bool
 | [],_=>true
 | o::l,i=>Q6 P tab ops o i&&Ko P tab ops l (i+1)
def a2k(tab:List Nat)(ops:List Oper)(i:Nat):Bool:=match ops[i]? with
 | some o=>o.dst.isSome&&(O8 o).all (ahead tab ops i)
 | none=>false
def Eg(tab:List Nat)(ops:List Oper):Nat->List It->Bool
 | s,[]=>Nat.beq (s+1) (2 ^ ops.length)
 | s,.run i::l=>!s.testBit i&&Nat.beq ((tab.getD i 0) &&& s) (tab.getD i 0)&&Eg tab ops (s ||| 2 ^ i) l
 | s,.mk i::l=>!s.testBit i&&Nat.beq ((tab.getD i 0) &&& s) (tab.getD i 0)&&Eg tab ops (s ||| 2 ^ i) l
 | s,.gate hs _::l=>hs.all (a2k tab ops)&&Eg tab ops s l
def Q7(P:Program)(ops:List Oper):Bool:=
 On ops&&Tables.follows P.toTables .mixedOrders&&Ko P (ancs [] ops) ops ops 0&&Eg (ancs [] ops) ops 0 (Nt ops)
section
variable {P:Program}{H:Mem}{ev ev' : Ev}
theorem evals_congr:∀{l:List Operand},(∀x∈l,ev x=ev' x)->Bj ev l=Bj ev' l
 | [],_=>rfl
 | x::l,h=>by
  unfold Bj;rw[h x (by simp),evals_congr λy hy=>h y (by simp[hy])]
theorem evalParts_congr:∀{l:List (Nat×Operand)},(∀x∈l.map (·.2),ev x=ev' x)->C1 ev l=C1 ev' l
 | [],_=>rfl
 | (i,x)::l,h=>by
  unfold C1;rw[h x (by simp),evalParts_congr λy hy=>h y (by simp at hy |-;exact .inr hy)]
theorem d0s{A:Type}{p q:A->Bool}:∀{l:List A},(∀x∈l,p x=q x)->l.all p=l.all q
 | [],_=>rfl
 | x::l,h=>by
  grind
theorem d0t{c h:Bool}{s s': Sem Next}(A:c=h)(D:s=s'):(if c=true then (match Ar P s with|some (.value v)=>some (AV.lit v)|_=>none) else none)=(if h=true then (match Ar P s' with|some (.value v)=>some (AV.lit v)|_=>none) else none):=by
 grind
theorem d0u{o:Oper}(A:∀cs b,o.op≠.select cs b)(h:∀x∈o.op.operands.toList,ev x=ev' x):A7 P ev o=A7 P ev' o:=by
 unfold A7;have D:(o.op.operands.toList.all λx=>match ev x with|some v=>(match toLit v with|some _=>true|none=>false)|none=>false)=(o.op.operands.toList.all λx=>match ev' x with|some v=>(match toLit v with|some _=>true|none=>false)|none=>false):=
  d0s λx hx=>by grind
 have U:=execOp_congr (ρ:=λx=>match ev x with|some v=>(match toLit v with|some u=>u|none=>undef)|none=>undef) (ρ':=λx=>match ev' x with|some v=>(match toLit v with|some u=>u|none=>undef)|none=>undef) o A
  λx hx=>by grind
 exact d0t D U
theorem d0v{y:Option Operand}(h:∀x∈y.toArray.toList,ev x=ev' x):E3 ev y=E3 ev' y:=by
 (simp_all[E3];grind)
theorem Uf{o:Oper}(Z:∀cs b,o.op≠.select cs b)(h:∀x∈o.op.operands.toList,ev x=ev' x):opV P H ev o=opV P H ev' o:=by
 have hg:=d0u (P:=P) Z h;unfold opV
 cases A:o.op with
 | select cs b=>rfl
 | move x=>rw[A] at h;show Es H (ev x)=Es H (ev' x);grind[Op.operands]
 | assign x=>rw[A] at h;show Es H (ev x)=Es H (ev' x);grind[Op.operands]
 | pick c a b=>rw[A] at h;show G1 H (ev c) (ev a) (ev b)=G1 H (ev' c) (ev' a) (ev' b);grind[Op.operands]
 | alloc t=>rfl
 | box t x=>rw[A] at h;show Hg H (ev x)=Hg H (ev' x);grind[Op.operands]
 | build t ps=>rw[A] at h;show Hi P H t (C1 ev ps.toList)=Hi P H t (C1 ev' ps.toList);grind[Op.operands,evalParts_congr]
 | buildSlice t n ps=>rw[A] at h;show Fu P H t n (C1 ev ps.toList)=Fu P H t n (C1 ev' ps.toList);grind[Op.operands,evalParts_congr]
 | insert t m k x=>rw[A] at h;show G3 P H t (ev m) (ev k) (ev x)=G3 P H t (ev' m) (ev' k) (ev' x);grind[Op.operands]
 | mapUpdate t m k x=>rw[A] at h;show G3 P H t (ev m) (ev k) (ev x)=G3 P H t (ev' m) (ev' k) (ev' x);grind[Op.operands]
 | load t a=>rw[A] at h;show Fv P H t (ev a)=Fv P H t (ev' a);grind[Op.operands]
 | store t a x=>rw[A] at h;show Ie P H t (ev a) (ev x)=Ie P H t (ev' a) (ev' x);grind[Op.operands]
 | nilCheck x=>rw[A] at h;show I8 P H ev o (ev x)=I8 P H ev' o (ev' x);simp_all[I8,Op.operands]
 | binOp op t x y r=>rw[A] at h;show Bh P H ev o op t (ev x) (ev y)=Bh P H ev' o op t (ev' x) (ev' y);grind[Bh,Op.operands]
 | unOp op t x=>show ofOpt H (A7 P ev o)=ofOpt H (A7 P ev' o);rw[hg]
 | convert s d x=>rw[A] at h;show Ep P H ev o s d (ev x)=Ep P H ev' o s d (ev' x);simp_all[Ep,Op.operands]
 | makeInterface t x=>rw[A] at h;show Ka P H t (ev x)=Ka P H t (ev' x);grind[Op.operands]
 | makeFunc fn a b =>
  rw[A] at h;show Ig H fn (Bj ev a.toList) (Bj ev b.toList)=Ig H fn (Bj ev' a.toList) (Bj ev' b.toList);grind[Op.operands,evals_congr]
 | makeMap t r =>
  rw[A] at h;show Hj P H ev t r=Hj P H ev' t r
  (simp_all[Hj,Op.operands];grind)
 | makeSlice t l c=>rw[A] at h;show Er P H t (ev l) (ev c)=Er P H t (ev' l) (ev' c);grind[Op.operands]
 | slice t x lo hi U =>
  rw[A] at h;show Da P H ev o t (ev x) lo hi U=Da P H ev' o t (ev' x) lo hi U;unfold Da Gc;grind[Op.operands,d0v]
 | fieldAddr s x f=>rw[A] at h;show G2 P H ev o s (ev x) f=G2 P H ev' o s (ev' x) f;simp_all[Gd,G2,Op.operands]
 | field t x f=>rw[A] at h;show Kb P H t (ev x) f=Kb P H t (ev' x) f;grind[Op.operands]
 | indexAddr t x i=>rw[A] at h;show Dy P H ev o t (ev x) (ev i)=Dy P H ev' o t (ev' x) (ev' i);simp_all[Gd,Dy,Op.operands]
 | index t x i=>rw[A] at h;show I9 P H ev o t (ev x) (ev i)=I9 P H ev' o t (ev' x) (ev' i);simp_all[I9,Op.operands]
 | lookup t m k D=>rw[A] at h;show Hk P H ev o t (ev m) (ev k) D=Hk P H ev' o t (ev' m) (ev' k) D;simp_all[Hk,Op.operands]
 | range t x=>rw[A] at h;show P9 P H t (ev x)=P9 P H t (ev' x);grind[Op.operands]
 | next x b=>rw[A] at h;cases b with
  | true=>show Qa H (ev x)=Qa H (ev' x);grind[Op.operands]
  | false=>rfl
 | typeAssert x s t D=>rw[A] at h;show Ja P H ev o (ev x) t D=Ja P H ev' o (ev' x) t D;simp_all[Ja,Op.operands]
 | extract t i=>rw[A] at h;show Ih H (ev t) i=Ih H (ev' t) i;grind[Op.operands]
 | panic x=>rw[A] at h;show Qb H (ev x)=Qb H (ev' x);grind[Op.operands]
 | call c =>
  rw[A] at h;show Br P H ev o c=Br P H ev' o c;have ha:Bj ev c.args.toList=Bj ev' c.args.toList:=evals_congr λx hx=>h x (by grind[Call.operands,Op.operands]);unfold Br;rw[ha]
  cases hc:c.callee with
  | value f=>grind[Call.operands,Op.operands]
  | invoke r m=>grind[S5,Call.operands,Op.operands]
  | builtin b=>simp_all[Ld,J9,Fg]
 | defer c =>
  rw[A] at h;show Ol H ev c=Ol H ev' c;grind[Call.operands,Op.operands,evals_congr,Ol]
 | _=>rfl
theorem a2l{o:Oper}(h:cls o.op≠.no):∀cs b,o.op≠.select cs b:=by
 intro cs b e;rw[e] at h;exact h rfl
end
section
variable {P:Program}{H:Mem}{ev:Ev}{o:Oper}
def vb:R->Bool
 | .val _ _=>true
 | .bad=>true
 | _=>false
theorem Ha(x:Option AV):vb (ofOpt H x)=true:=by cases x<;>rfl
theorem Ug(l:List AV)(b:Bool)(v:AV):vb (Dq H l b v)=true:=by unfold Dq;rw[X1];rfl
theorem d0w(h:freeOp o.op=true):vb (opV P H ev o)=true:=by
 have a0:∀(x:Option AV),vb (match (x:Option AV) with|some v=>R.val v H|none=>.bad)=true:=by intro x;cases x<;>rfl
 have A:∀(x:Option AV),vb (Gd P H ev o x)=true:=by
  intro x;unfold Gd;cases x with
  | none=>exact Ha _
  | some v=>rfl
 unfold opV
 cases D:o.op with
 | move x=>show vb (Es H (ev x))=true;unfold Es;(split<;>rfl)
 | assign x=>show vb (Es H (ev x))=true;unfold Es;(split<;>rfl)
 | pick c a b=>show vb (G1 H (ev c) (ev a) (ev b))=true;unfold G1;split<;>first|exact Ha _|rfl
 | build t ps=>show vb (Hi P H t (C1 ev ps.toList))=true;unfold Hi;split<;>first|exact Ha _|rfl
 | nilCheck x=>show vb (I8 P H ev o (ev x))=true;unfold I8;split<;>first|exact Ha _|rfl
 | binOp op t x y r =>
  show vb (Bh P H ev o op t (ev x) (ev y))=true;unfold Bh;split
  .rfl
  .split
   .rfl
   .unfold Om;split
    .split<;>rfl
    .rfl
 | unOp op t x=>show vb (ofOpt H (A7 P ev o))=true;exact Ha _
 | makeInterface t x=>show vb (Ka P H t (ev x))=true;unfold Ka;split<;>rfl
 | makeFunc fn a b=>show vb (Ig H fn (Bj ev a.toList) (Bj ev b.toList))=true;unfold Ig;split<;>rfl
 | slice t x lo hi U =>
  show vb (Da P H ev o t (ev x) lo hi U)=true;unfold Da;split
  .rfl
  .unfold Gc;split
   .split<;>first|exact Ha _|rfl
   .rfl
 | fieldAddr s x f=>show vb (G2 P H ev o s (ev x) f)=true;unfold G2;split<;>first|exact A _|rfl
 | field t x f=>show vb (Kb P H t (ev x) f)=true;unfold Kb;split<;>first|exact Ha _|rfl
 | indexAddr t x i=>show vb (Dy P H ev o t (ev x) (ev i))=true;unfold Dy;split<;>first|exact A _|rfl
 | index t x i =>
  show vb (I9 P H ev o t (ev x) (ev i))=true;unfold I9;split
  .split<;>first|exact Ha _|rfl
  .rfl
 | typeAssert x s t Z =>
  show vb (Ja P H ev o (ev x) t Z)=true;unfold Ja;split
  .rfl
  .split<;>first|exact Ha _|rfl
 | extract t i =>
  show vb (Ih H (ev t) i)=true;unfold Ih;split
  .exact Ha _
  .split<;>rfl
  .rfl
 | _=>rw[D] at h;cases h
theorem d0x(h:cls o.op=.read):vb (opV P H ev o)=true:=by
 unfold opV;cases A:o.op<;>rw[A] at h<;>first|(simp[cls,freeOp] at h;done)|skip
 .rename_i t x;show vb (Fv P H t (ev x))=true;unfold Fv;split<;>first|exact Ha _|rfl
 .rename_i t m k D;show vb (Hk P H ev o t (ev m) (ev k) D)=true;unfold Hk;split<;>first|exact Ha _|rfl
 .rename_i c;show vb (Br P H ev o c)=true;unfold Br;split
  .rfl
  .simp only[cls,freeOp] at h;split
   .rename_i b U;rw[U] at h;unfold Fg;cases b<;>first|(cases h;done)|skip
    .dsimp only;unfold Ld;split
     .rfl
     .split<;>rfl
    .dsimp only;unfold J9;split
     .exact Ha _
     .unfold Ic;split<;>first|rfl|skip;split<;>rfl
   all_goals grind
theorem d0y(h:cls o.op=.alloc):vb (opV P H ev o)=true:=by
 unfold opV;rcases a8n h with⟨t,A⟩|⟨t,x,A⟩|⟨t,n,ps,A⟩|⟨t,l,c,A⟩|⟨t,r,A⟩<;>rw[A]
 .show vb (I7 P H t)=true;unfold I7;split<;>first|exact Ug _ _ _|rfl
 .show vb (Hg H (ev x))=true;unfold Hg;split<;>first|exact Ug _ _ _|rfl
 .show vb (Fu P H t n (C1 ev ps.toList))=true;unfold Fu;split
  .split
   .split<;>first|exact Ug _ _ _|rfl
   .rfl
  .rfl
 .show vb (Er P H t (ev l) (ev c))=true;unfold Er;split
  .split<;>first|exact Ug _ _ _|rfl
  .rfl
 .show vb (Hj P H ev t r)=true;unfold Hj;split
  .rw[X1];rfl
  .split
   .rw[X1];rfl
   .rfl
theorem d0z{s d:TypeId}{x:AV}(h:Q5 P s=true)(A:Q5 P d=true):convert P H s d x=none:=by
 (simp_all[Q5,convert];grind)
theorem d1a(h:cls o.op=.gen)(A:Ue P o=true):opV P H ev o=.bad\/∃v,opV P H ev o=.val v H/\A7 P ev o=some v:=by
 have Z:ofOpt H (A7 P ev o)=.bad\/∃v,ofOpt H (A7 P ev o)=.val v H/\A7 P ev o=some v:=by
  cases D:A7 P ev o with
  | none=>exact .inl rfl
  | some v=>exact .inr ⟨v,rfl,rfl⟩
 unfold opV;unfold Ue at A;cases U:o.op<;>rw[U] at h A<;>first|(simp[cls,freeOp] at h;done)|skip
 .rename_i s d x;show Ep P H ev o s d (ev x)=.bad\/∃v,Ep P H ev o s d (ev x)=.val v H/\_;unfold Ep;simp only[W1] at A
  cases D:A7 P ev o with
  | some v=>grind
  | none =>
   grind[d0z]
 .rename_i c;simp only[cls,freeOp] at h;show Br P H ev o c=.bad\/∃v,Br P H ev o c=.val v H/\_;unfold Br;split
  .grind
  grind[Fg]
def acts:R->Bool
 | .dfr _ _ _ _=>false
 | .panic _ _=>false
 | .recover=>false
 | _=>true
theorem b0r(f:FuncId)(args:List AV):acts (I6 P H f args)=true:=by unfold I6;split<;>rfl
theorem d1b(h:cls o.op=.chain):acts (opV P H ev o)=true:=by
 have upd:∀(t:TypeId)(m k x:Option AV),acts (G3 P H t m k x)=true:=by
  intro t m k x;unfold G3;split
  .split<;>rfl
  .rfl
 unfold opV;cases A:o.op<;>rw[A] at h<;>first|(simp[cls,freeOp] at h;done)|skip
 .exact upd _ _ _ _
 .rename_i t a x;show acts (Ie P H t (ev a) (ev x))=true;unfold Ie;split
  .split<;>rfl
  .rfl
 .exact upd _ _ _ _
 .rename_i c;simp only[cls,freeOp] at h;show acts (Br P H ev o c)=true;unfold Br;split
  .rfl
  .split
   .rename_i b D;rw[D] at h;unfold Fg;cases b<;>first|(cases h;done)|skip
    .dsimp only;unfold P7;split
     .split<;>rfl
     .rfl
    .dsimp only;unfold S4;split
     .split
      .split<;>rfl
      .rfl
     .rfl
    .dsimp only;unfold Wo;split
     .split<;>rfl
     .rfl
   .unfold S5;split
    .split
     .split
      .grind[b0r]
      .rfl
     .rfl
    .rfl
   .unfold Le;split<;>first|exact b0r _ _|rfl
theorem b0s(U:cls o.op≠.chain)(Z:cls o.op≠.no)(h3:cls o.op≠.alloc)(hc:Ue P o=true):opV P H ev o=.bad\/∃v,opV P H ev o=.val v H/\quiet P H ev o=some v:=by
 cases D:cls o.op with
 | free =>
  have A:freeOp o.op=true:=by
   cases A:freeOp o.op with
   | true=>rfl
   | false =>
    (simp_all[cls];grind)
  have:=d0w (P:=P) (H:=H) (ev:=ev) A
  cases h:opV P H ev o with
  | val v H' =>
   obtain⟨rfl,_⟩:=a0q A H v H' h;exact .inr ⟨v,rfl,by grind[quiet]⟩
  | bad=>grind
  | _=>rw[h] at this;cases this
 | read =>
  have:=d0x (P:=P) (H:=H) (ev:=ev) D
  cases h:opV P H ev o with
  | val v H' =>
   have:=a8q D h;subst this;exact .inr ⟨v,rfl,by grind[quiet]⟩
  | bad=>grind
  | _=>rw[h] at this;cases this
 | gen =>
  grind[d1a,quiet]
 | chain=>grind
 | no=>grind
 | alloc=>grind
end
section
abbrev AlP:=List (Nat×Nat×Option Blk)
noncomputable def Eh(fr:Fr)(d:Option Tmp):Option AV:=match d with|some d=>fr.get d|none=>none
noncomputable def Ht(P:Program)(W:WF)(ops:Array Oper)(fr:Fr)(H:Mem):List Nat->Prop
 | []=>True
 | i::l=>(match ops[i]? with
  | some o=>Dm P W ops o fr H (λfr' _=>Eh fr' o.dst=Eh fr o.dst) (λ_=>False)
  | none=>False)/\Ht P W ops fr H l
noncomputable def Kp(H:Mem)(as:List Nat):AlP->Prop
 | []=>True
 | (i,a,b)::l=>(i∈as->H.get a=b)/\Kp H as l
noncomputable def Bt(P:Program)(W:WF)(ops:Array Oper)(Q:Out->Prop):List It->Fr->Mem->AlP->Prop
 | [],fr,H,_=>Q (.norm fr H)
 | .run i::l,fr,H,als=>match ops[i]? with
  | some o=>Dm P W ops o fr H (λfr H=>Bt P W ops Q l fr H als) Q
  | none=>False
 | .mk i::l,fr,H,als=>match ops[i]? with
  | some o=>Dm P W ops o fr H (λfr H'=>Bt P W ops Q l fr H' ((i,H.next,H'.get H.next)::als)) Q
  | none=>False
 | .gate hs as::l,fr,H,als=>Ht P W ops fr H hs/\Kp H as als/\Bt P W ops Q l fr H als
noncomputable def Iq(Q:Out->Prop):Out->Prop
 | .panic v fr H=>Q (.panic v fr.clear H)
 | r=>Q r
theorem Mem.get_add_same(H:Mem)(b:Blk):(H.add b).get H.next=some b:=by
 obtain⟨t,n⟩:=H
 cases t with
 | tr t =>
  show E2 (u4 t n (.v n b)) n=some b;simp[E2,a0b,M9]
 | fn g=>exact if_pos rfl
variable {P:Program}{W:WF}{ops:Array Oper}{g:Nat→Option AV}{ds:List Dfr}{Q:Out→Prop}{S:Nat}{res:ResF}{H:Mem}{held:List Nat}{als:Als}{alsP:AlP}{i:Nat}{o:Oper}
structure PI (ops:Array Oper) (S:Nat) (res:ResF):Prop where
 un:∀j,S.testBit j=false->res j=none
 dn:∀j,S.testBit j=true->∃v,res j=some v
 down:∀j k,S.testBit j=true->A3 (ancs [] ops.toList) j k=true->S.testBit k=true
noncomputable def Gs(ops:Array Oper)(g:Nat->Option AV)(S:Nat)(res:ResF):Nat->Option AV:=λt=>match G4 t ops.toList 0 with
 | some j=>(match S.testBit j with|true=>res j|false=>g t)
 | none=>g t
theorem a2m{i j:Nat}:(S ||| 2 ^ i).testBit j=(S.testBit j||decide (i=j)):=by grind
theorem PI.step(h:PI ops S res)(hi:S.testBit i=false)(ha:∀j,A3 (ancs [] ops.toList) i j=true->S.testBit j=true)(v:AV):PI ops (S ||| 2 ^ i) (C9 res i v):=by
 refine⟨λj A=>?_,λj A=>?_,λj k A D=>?_⟩
 .rw[a2m,Bool.or_eq_false_iff] at A;have U:¬j=i:=λe=>of_decide_eq_false A.2 e.symm;unfold C9;rw[if_neg U];exact h.un j A.1
 .unfold C9;by_cases e:j=i
  .simp_all
  .rw[if_neg e];rw[a2m] at A;have:¬i=j:=λZ=>e Z.symm;simp[this] at A;exact h.dn j A
 .rw[a2m] at A |-;by_cases e:i=j
  .grind
  .simp[e] at A;rw[h.down j k A D];rfl
theorem a2n(D:fit ops.toList ops.toList 0=true)(U:ops[i]?=some o){d:Tmp}(Z:o.dst=some d):G4 d ops.toList 0=some i:=by
 have A:=Lw D i o (Co.2 U);unfold Kc at A;simp only[W1] at A;have h:=A.1.1.1;rw[Z] at h;dsimp only at h;split at h
 all_goals simp_all
theorem Q8(h:fit ops.toList ops.toList 0=true)(A:ops[i]?=some o)(v:AV):
  (Fr.f (Gs ops g S res) ds).put o.dst v=.f (Gs ops g (S ||| 2 ^ i) (C9 res i v)) ds:=by
 have Z:∀t,o.dst≠some t->Gs ops g (S ||| 2 ^ i) (C9 res i v) t=Gs ops g S res t:=by
  intro t ht;unfold Gs;split
  .rename_i j D;obtain⟨_,oj,a0,a1⟩:=Lu D
   (simp_all[C9];grind)
  .rfl
 cases U:o.dst with
 | none =>
  show Fr.f (Gs ops g S res) ds=_;congr 1;grind
 | some d =>
  show Fr.f (Fh (Gs ops g S res) d v) ds=_;congr 1;funext t;unfold Fh;by_cases e:t=d
  .subst e;rw[if_pos rfl];unfold Gs;rw[a2n h A U];grind[C9]
  grind
theorem a2o{t:Tmp}(h:Operand.tmp t∈o.op.operands.toList):t∈O8 o:=List.mem_filterMap.2 ⟨_,h,rfl⟩
theorem b0t(h:PI ops S res)(hi:S.testBit i=false)(ha:∀j,A3 (ancs [] ops.toList) i j=true->S.testBit j=true)
  (Z:(O8 o).all (a2j (ancs [] ops.toList) ops.toList i)=true):∀x∈o.op.operands.toList,(Fr.f (Gs ops g S res) ds).ev x=Cc ops (ancs [] ops.toList) (.f g ds) res i x:=by
 intro x hx
 cases x with
 | tmp t =>
  have A:=W7.1 Z t (a2o hx);show Gs ops g S res t=G6 ops (ancs [] ops.toList) (.f g ds) res i t;unfold a2j at A;unfold Gs G6;split at A
  .rename_i D;rw[D];rfl
  .rename_i j D;rw[D];dsimp only
   cases hb:A3 (ancs [] ops.toList) i j with
   | true=>grind
   | false =>
    rw[hb,e8v] at A;rw[A];have:S.testBit j=false:=by
     cases hs:S.testBit j with
     | false=>rfl
     | true =>
      exfalso;rcases e8t _ _ ▸ A with U|U
      .rw[h.down j i hs U] at hi;grind
      simp_all
    rw[this];rfl
 | const c=>rfl
 | global c=>rfl
 | func f=>rfl
theorem d1c(h:PI ops S res)(hi:S.testBit i=true)
  (U:(O8 o).all (ahead (ancs [] ops.toList) ops.toList i)=true):∀x∈o.op.operands.toList,(Fr.f (Gs ops g S res) ds).ev x=Cc ops (ancs [] ops.toList) (.f g ds) res i x:=by
 intro x hx
 cases x with
 | tmp t =>
  have A:=W7.1 U t (a2o hx);show Gs ops g S res t=G6 ops (ancs [] ops.toList) (.f g ds) res i t;unfold ahead at A;unfold Gs G6;split at A
  .rename_i D;rw[D];rfl
  .rename_i j D;rw[D];dsimp only;rw[A,h.down i j hi A]
 | const c=>rfl
 | global c=>rfl
 | func f=>rfl
theorem d1d(h:PI ops S res)(hi:S.testBit i=true){k:Nat}(A:S.testBit k=false)(v:AV)(fr:Fr):Cc ops (ancs [] ops.toList) fr (C9 res k v) i=Cc ops (ancs [] ops.toList) fr res i:=by
 funext x
 cases x with
 | tmp t =>
  show G6 ops (ancs [] ops.toList) fr (C9 res k v) i t=G6 ops (ancs [] ops.toList) fr res i t;unfold G6;split
  .rfl
  .rename_i j U
   cases D:A3 (ancs [] ops.toList) i j with
   | true =>
    dsimp only;unfold C9;rw[if_neg];intro e;subst e;rw[h.down i j hi D] at A;grind
   | false=>rfl
 | const c=>rfl
 | global c=>rfl
 | func f=>rfl
theorem Q9{A:List Nat}(h:Nat.beq ((A.getD i 0) &&& S) (A.getD i 0)=true):∀j,A3 A i j=true->S.testBit j=true:=by
 (simp_all[A3];grind)
theorem Uh{A:List Nat}{D:List Oper}:∀{l:List Oper}{k:Nat},Ko P A D l k=true->∀i o,l[i]?=some o->Q6 P A D o (k+i)=true
 | [],_,_,i,o,h=>by grind
 | x::l,k,h,i,o,U=>by
  simp only[Ko,W1] at h
  cases i with
  | zero=>grind
  | succ i =>
   have:=Uh h.2 i o (by grind);grind
theorem b0u{x:Option AV}{w:Bool}{A B D no:Prop}(h:Fo x w A B)(U:x=some (.lit (.bool w))->A->D)(Z:B->no):Fo x w D no:=by
 (simp_all[Fo];grind)
theorem a2p(D:fit ops.toList ops.toList 0=true)(ho:ops[i]?=some o){gd:Nat×Bool}(hg:o.guard=some gd)(hS:S.testBit gd.1=true):
  D4 ops (.f (Gs ops g S res) ds) gd.1=res gd.1:=by
 have A:=Lw D i o (Co.2 ho);unfold Kc at A;simp only[W1] at A;have h:=A.2;rw[hg] at h;dsimp only at h;unfold D4
 cases U:ops[gd.1]? with
 | none =>
  grind
 | some Z =>
  have a0:ops.toList[gd.1]?=some Z:=Co.2 U;rw[a0] at h;dsimp only at h |-
  cases hd:Z.dst with
  | none=>grind
  | some d =>
   show Gs ops g S res d=res gd.1;unfold Gs;rw[a2n D U hd];grind
end
section
variable {P:Program}{W:WF}{ops:Array Oper}{g:Nat→Option AV}{ds:List Dfr}{Q:Out→Prop}{S:Nat}{res:ResF}{H:Mem}{held:List Nat}{als:Als}{alsP:AlP}{i:Nat}{o:Oper}{s:Hs}
def Rq(P:Program)(ops:Array Oper)(g:Nat->Option AV)(ds:List Dfr)(H:Mem)(res:ResF)(i:Nat):Prop:=
 ∃o v,ops[i]?=some o/\res i=some v/\quiet P H (Cc ops (ancs [] ops.toList) (.f g ds) res i) o=some v
def Ran(ops:Array Oper)(res:ResF)(i:Nat):Prop:=∃o,ops[i]?=some o/\cls o.op=.read/\∀gd,o.guard=some gd->res gd.1=some (.lit (.bool gd.2))
structure PS (P:Program) (ops:Array Oper) (g:Nat->Option AV) (ds:List Dfr) (s:Hs) (S:Nat) (res:ResF) (H:Mem) (held:List Nat) (als:Als) (alsP:AlP):Prop where
 pi:PI ops S res
 hd:∀i∈held,S.testBit i=true/\Ran ops res i/\(i∈s.di\/(i∈s.cl/\Rq P ops g ds H res i))
 al:∀x∈als,(x.1,x.2.1,some x.2.2)∈alsP/\(x.1∈s.adi\/(x.1∈s.acl/\H.get x.2.1=some x.2.2))
theorem a2q{k:Nat}{v:AV}(h:res k=none):GrF res (C9 res k v):=by
 intro j y A
 (simp_all[C9];grind)
theorem Ran.grow{A:ResF}(h:Ran ops res i)(D:GrF res A):Ran ops A i:=by
 obtain⟨o,U,Z,h3⟩:=h;exact⟨o,U,Z,λgd e=>D _ _ (h3 gd e)⟩
theorem Rq.grow{k:Nat}{v:AV}(A:PI ops S res)(hi:S.testBit i=true)(D:S.testBit k=false)(h:Rq P ops g ds H res i):Rq P ops g ds H (C9 res k v) i:=by
 obtain⟨o,y,U,Z,h3⟩:=h;refine⟨o,y,U,a2q (A.un k D) _ _ Z,?_⟩;grind[d1d]
theorem PS.step(h:PS P ops g ds s S res H held als alsP)(hi:S.testBit i=false)(A:∀j,A3 (ancs [] ops.toList) i j=true->S.testBit j=true)(v:AV):
  PS P ops g ds s (S ||| 2 ^ i) (C9 res i v) H held als alsP:=
 ⟨h.pi.step hi A v,λj D=>let ⟨a,b,c⟩:=h.hd j D;⟨by grind,b.grow (a2q (h.pi.un i hi)),c.imp id λ⟨d,e⟩=>⟨d,e.grow h.pi a hi⟩⟩,h.al⟩
theorem PS.soil{H': Mem}{acl:List Nat}{cl:List Nat}(h:PS P ops g ds s S res H held als alsP)(p:Nat×Nat×Option Blk):PS P ops g ds ⟨cl,s.cl++s.di,acl,s.acl++s.adi⟩ S res H' held als (p::alsP):=
 ⟨h.pi,λj A=>let ⟨a,b,c⟩:=h.hd j A;⟨a,b,.inl (by grind)⟩,
  λx hx=>let ⟨a,c⟩:=h.al x hx;⟨e6o _ a,.inl (by grind)⟩⟩
variable {KW:StW}{K:Hs→List It}
theorem Jp(a0:fit ops.toList ops.toList 0=true)(a1:Ko P (ancs [] ops.toList) ops.toList ops.toList 0=true)
  (hK:∀s S res H held als alsP,PS P ops g ds s S res H held als alsP->Eg (ancs [] ops.toList) ops.toList S (K s)=true->Bt P W ops Q (K s) (.f (Gs ops g S res) ds) H alsP->KW res H held als) :
  ∀(L:List Nat)(s:Hs)(S:Nat)(res:ResF)(H:Mem) (held:List Nat) (als:Als) (alsP:AlP),(∀i∈L,∃o,ops[i]?=some o/\Cw o.op=false/\cls o.op≠.no) ->
   PS P ops g ds s S res H held als alsP->Eg (ancs [] ops.toList) ops.toList S (Kn ops.toList L s K)=true->Bt P W ops Q (Kn ops.toList L s K) (.f (Gs ops g S res) ds) H alsP ->
   Nq P ops (ancs [] ops.toList) (.f g ds) KW L res H held als
 | [],s,S,res,H,held,als,alsP,_,ps,A,D=>hK s S res H held als alsP ps A D
 | i::L,s,S,res,H,held,als,alsP,hL,ps,A,D=>by
  obtain⟨o,ho,b6,a8⟩:=hL i (by simp);have a2:∀j∈L,∃o,ops[j]?=some o/\Cw o.op=false/\cls o.op≠.no:=λj hj=>hL j (by grind);have a4:=Uh a1 i o (Co.2 ho);rw[e6u] at a4;unfold Q6 at a4;simp only[W1] at a4;obtain⟨⟨b0,b7⟩,b1⟩:=a4;have b2:cls o.op≠.chain:=by grind[Cw]
  have step:∀{k:Fr->Mem->Prop}{a6 no:Prop},(∀j,A3 (ancs [] ops.toList) i j=true->S.testBit j=true)->S.testBit i=false->Dm P W ops o (.f (Gs ops g S res) ds) H k Q ->
    ((∀gd,o.guard=some gd->res gd.1=some (.lit (.bool gd.2)))->Fx W o (.f (Gs ops g S res) ds) k Q (opV P H (Cc ops (ancs [] ops.toList) (.f g ds) res i) o)->a6) ->
    (k (.f (Gs ops g (S ||| 2 ^ i) (C9 res i (.lit undef))) ds) H->no)->Np (ancs [] ops.toList) res i o a6 no:=by
   intro k a6 no U hi h h1 h2;have b8:=Uf (P:=P) (H:=H) (a2l a8) (b0t (g:=g) (ds:=ds) ps.pi hi U b0);unfold Dm at h;unfold Np;split at h
   all_goals grind[b0u,Q8,a2p]
  have a7:cls o.op≠.alloc->∀{k:Fr->Mem->Prop},Fx W o (.f (Gs ops g S res) ds) k Q (opV P H (Cc ops (ancs [] ops.toList) (.f g ds) res i) o) ->
    ∃v,quiet P H (Cc ops (ancs [] ops.toList) (.f g ds) res i) o=some v/\k (.f (Gs ops g (S ||| 2 ^ i) (C9 res i v)) ds) H:=by
   intro b3 k h;rcases b0s (P:=P) (H:=H) (ev:=Cc ops (ancs [] ops.toList) (.f g ds) res i) b2 a8 b3 b1 with hb|⟨v,hv,hq⟩
   .rw[hb] at h;exact h.elim
   .rw[hv] at h;refine⟨v,hq,?_⟩;have h' : k ((Fr.f (Gs ops g S res) ds).put o.dst v) H:=h;grind[Q8]
  have b4:ops.toList[i]?=some o:=Co.2 ho;unfold Nq Tv;rw[ho];dsimp only;unfold Kn at A D;rw[b4] at A D;dsimp only at A D
  cases a3:cls o.op with
  | chain=>grind
  | no=>grind
  | alloc =>
   rw[a3] at A D;simp only[Eg,W1] at A;obtain⟨⟨h1,h2⟩,A⟩:=A;have hi:S.testBit i=false:=by grind
   have U:=Q9 h2;unfold Bt at D;rw[ho] at D;dsimp only at D |-;refine step U hi D ?_ ?_
   .intro a5 h;have a9:=d0y (P:=P) (H:=H) (ev:=Cc ops (ancs [] ops.toList) (.f g ds) res i) a3
    cases hv:opV P H (Cc ops (ancs [] ops.toList) (.f g ds) res i) o with
    | val v H' =>
     rw[hv] at h;obtain⟨f,x,e1,e2,_⟩:=a0r (B:=0) a3 hv;have h' : Bt P W ops Q (Kn ops.toList L ⟨[],s.cl++s.di,[i],s.acl++s.adi⟩ K) ((Fr.f (Gs ops g S res) ds).put o.dst v) H' ((i,H.next,H'.get H.next)::alsP):=h;rw[Q8 a0 ho] at h';have b5:H'.get H.next=some x:=by grind[Mem.get_add_same]
     unfold a1i;dsimp only;rw[b5];refine⟨ps.pi.un i hi,?_⟩;refine Jp a0 a1 hK L _ _ _ _ _ _ _ a2 ?_ A h';have Z:=(ps.step hi U v).soil (H':=H') (acl:=[i]) (cl:=[]) (i,H.next,H'.get H.next);refine⟨Z.pi,Z.hd,λy hy=>?_⟩;rcases Xb.1 hy with rfl|hy
     .grind
     .exact Z.al y hy
    | bad=>rw[hv] at h;assumption
    | _=>rw[hv] at a9;cases a9
   .intro h;refine⟨ps.pi.un i hi,?_⟩;exact Jp a0 a1 hK L _ _ _ _ _ _ _ a2 ((ps.step hi U _).soil _) A h
  | read =>
   rw[a3] at A D;simp only[Eg,W1] at A;obtain⟨⟨h1,h2⟩,A⟩:=A;have hi:S.testBit i=false:=by grind
   have U:=Q9 h2;unfold Bt at D;rw[ho] at D;dsimp only at D |-;refine step U hi D ?_ ?_
   .intro a5 h;obtain⟨v,hq,h'⟩:=a7 (by grind) h;unfold L6;rw[hq];refine⟨ps.pi.un i hi,?_⟩;refine Jp a0 a1 hK L _ _ _ _ _ _ _ a2 ?_ A h';have Z:=ps.step hi U v;refine⟨Z.pi,λj hj=>?_,Z.al⟩;rcases Xb.1 hj with rfl|hj
    .refine⟨by grind,⟨o,ho,a3,λgd e=>a2q (ps.pi.un _ hi) _ _ (a5 gd e)⟩,.inr ⟨by simp,o,v,ho,if_pos rfl,?_⟩⟩;have:Cc ops (ancs [] ops.toList) (.f g ds) (C9 res j v) j=Cc ops (ancs [] ops.toList) (.f g ds) res j:=by
      funext x
      cases x with
      | tmp t =>
       show G6 ops (ancs [] ops.toList) (.f g ds) (C9 res j v) j t=G6 ops (ancs [] ops.toList) (.f g ds) res j t;unfold G6;split
       .rfl
       (simp_all[C9];grind)
      | const c=>rfl
      | global c=>rfl
      | func f=>rfl
     grind
    .obtain⟨a,b,c⟩:=Z.hd j hj;grind
   .intro h;refine⟨ps.pi.un i hi,?_⟩;refine Jp a0 a1 hK L _ _ _ _ _ _ _ a2 ?_ A h;have Z:=ps.step hi U (.lit undef);exact⟨Z.pi,λj hj=>let ⟨a,b,c⟩:=Z.hd j hj;⟨a,b,c.imp id λ⟨d,e⟩=>⟨by grind,e⟩⟩,Z.al⟩
  | free =>
   rw[a3] at A D;simp only[Eg,W1] at A;obtain⟨⟨h1,h2⟩,A⟩:=A;have hi:S.testBit i=false:=by grind
   have U:=Q9 h2;unfold Bt at D;rw[ho] at D;dsimp only at D |-;refine step U hi D ?_ ?_
   .intro a5 h;obtain⟨v,hq,h'⟩:=a7 (by grind) h;unfold L6;rw[hq];exact⟨ps.pi.un i hi,Jp a0 a1 hK L _ _ _ _ _ _ _ a2 (ps.step hi U v) A h'⟩
   .intro h;exact⟨ps.pi.un i hi,Jp a0 a1 hK L _ _ _ _ _ _ _ a2 (ps.step hi U _) A h⟩
  | gen =>
   rw[a3] at A D;simp only[Eg,W1] at A;obtain⟨⟨h1,h2⟩,A⟩:=A;have hi:S.testBit i=false:=by grind
   have U:=Q9 h2;unfold Bt at D;rw[ho] at D;dsimp only at D |-;refine step U hi D ?_ ?_
   .intro a5 h;obtain⟨v,hq,h'⟩:=a7 (by grind) h;unfold L6;rw[hq];exact⟨ps.pi.un i hi,Jp a0 a1 hK L _ _ _ _ _ _ _ a2 (ps.step hi U v) A h'⟩
   .intro h;exact⟨ps.pi.un i hi,Jp a0 a1 hK L _ _ _ _ _ _ _ a2 (ps.step hi U _) A h⟩
end
end Go.Ai
