/- A small verified interpreter over names, its proofs, and what was proved with it. No condition. -/
import Derived.Lib.Builder
import Derived.Laws.Externs
import Derived.RangeFuncRecord
import Derived.RangeFuncIn
import Derived.TacticsIn
import Derived.Shelf.SlSortCmp.WholeK
import Derived.Test.YtpimmmnkcgnjjaaGreatL02
import Derived.Test.YtpimmmnkcgnjjaaGreatL05
import Derived.Test.YtpimmmnkcgnjjaaGreatL06
set_option linter.all false
set_option linter.deprecated false
section
namespace Go.Ai
open Go.RowKit (Below)
variable {ops:Array Oper} {w':World} {args:Array Value} {callf:CallF} {o:Oper} {Q:Exit→Act→World→Prop}
abbrev J:=Option Nat
def jcode:J->Code
 | none=>.ret
 | some id=>.exit id
def jexit:J->Exit
 | none=>.ret
 | some id=>.exit id
inductive a1s where
 | norm (fr:Fr) (ys:List Nat) (p:Option J) (H:Mem)
 | jump (j:J) (fr:Fr) (ys:List Nat) (p:Option J) (H:Mem)
 | bad
inductive YOut where
 | ok (b:Bool) (p:Option J) (H:Mem)
 | bad
inductive b9u where
 | ok (j:Option J) (H:Mem)
 | bad
inductive KE where
 | mv
 | yl (args:Array Operand)
 | no
def c5k (o:Oper) (ys:List Nat) : KE:=match o.op with
 | .move (.tmp t)=>(match a3n t ys with|true=>.mv|false=>.no)
 | .call c=>(match c.callee with
  | .value (.tmp t)=>(match a3n t ys with|true=>.yl c.args|false=>.no)
  | _=>.no)
 | _=>.no
def b6r (o:Oper) : Bool:=match o.op with|.defer _=>false|_=>true
def b6s (d:Nat) : List Nat->List Nat
 | []=>[]
 | t :: l=>match Nat.beq d t with|true=>b6s d l|false=>t :: b6s d l
def b2c (d:Option Tmp) (ys:List Nat) : List Nat:=match d with|none=>ys|some d=>b6s d ys
abbrev YF:=List AV->Mem->YOut
abbrev RF:=Operand->Array Tmp->Code->Code->Fr->Mem->b9u
abbrev KF:=Fr->List Nat->Option J->Mem->a1s
noncomputable def mvE (o:Oper) (fr:Fr) (ys:List Nat) (p:Option J) (H:Mem) (K:KF) : a1s:=match o.dst with
 | none=>.bad
 | some d=>match fr.get d with
  | none=>K fr (d :: ys) p H
  | some _=>.bad
noncomputable def ylE (yf:YF) (o:Oper) (args:Array Operand) (fr:Fr) (ys:List Nat) (p:Option J) (H:Mem) (K:KF) : a1s:=match p,Bw fr.ev args.toList with
 | none,some vs=>match yf vs H with
  | .ok b p' H'=>K (fr.put o.dst (.lit (.bool b))) (b2c o.dst ys) p' H'
  | .bad=>.bad
 | _,_=>.bad
noncomputable def afE (callf:CallF) (o:Oper) (fr:Fr) (ys:List Nat) (p:Option J) (K:KF) (r:R) : a1s:=match r with
 | .val v H'=>K (fr.put o.dst v) (b2c o.dst ys) p H'
 | .skip H'=>K (fr.put o.dst (.lit undef)) (b2c o.dst ys) p H'
 | .enter f args H'=>match callf f args H' with
  | .ret v H''=>K (fr.put o.dst v) (b2c o.dst ys) p H''
  | _=>.bad
 | _=>.bad
noncomputable def opE (P:Program) (callf:CallF) (yf:YF) (o:Oper) (fr:Fr) (ys:List Nat) (p:Option J) (H:Mem) (K:KF) : a1s:=match c5k o ys with
 | .mv=>mvE o fr ys p H K
 | .yl args=>ylE yf o args fr ys p H K
 | .no=>match b6r o with
  | true=>afE callf o fr ys p K (opV P H fr.ev o)
  | false=>.bad
noncomputable def c5l (ops:Array Oper) (o:Oper) (fr:Fr) : Option Bool:=match o.guard with
 | none=>some true
 | some g=>a8z ops fr g
noncomputable def b6t (P:Program) (callf:CallF) (yf:YF) (ops:Array Oper) : List Oper->KF
 | [],fr,ys,p,H=>.norm fr ys p H
 | o :: l,fr,ys,p,H=>match c5l ops o fr with
  | some true=>opE P callf yf o fr ys p H (b6t P callf yf ops l)
  | some false=>b6t P callf yf ops l (fr.put o.dst (.lit undef)) (b2c o.dst ys) p H
  | none=>.bad
def a9z (r:a1s) (k:KF) : a1s:=match r with
 | .norm fr ys p H=>k fr ys p H
 | r=>r
def c5m (id:Nat) (r:a1s) : a1s:=match r with
 | .jump (some id') fr ys p H=>(match Nat.beq id' id with|true=>.norm fr ys p H|false=>.jump (some id') fr ys p H)
 | r=>r
abbrev LFE:=Code->KF
noncomputable def b9v (P:Program) (callf:CallF) (ops:Array Oper) (fr:Fr) (ys:List Nat) (p:Option J) (H:Mem) : a1s:=match ys,ops.toList.all b6r with
 | [],true=>(match a9t P callf ops fr H with
  | .norm fr' H'=>(match fr'.defers with|[]=>.norm fr' [] p H'|_=>.bad)
  | _=>.bad)
 | _,_=>.bad
noncomputable def Ch (P:Program) (callf:CallF) (yf:YF) (rf:RF) (loopf:LFE) : Code->KF
 | .skip,fr,ys,p,H=>.norm fr ys p H
 | .region _ ops draw,fr,ys,p,H=>(match draw with|true=>b9v P callf ops fr ys p H|false=>b6t P callf yf ops ops.toList fr ys p H)
 | .seq a b,fr,ys,p,H=>a9z (Ch P callf yf rf loopf a fr ys p H) (Ch P callf yf rf loopf b)
 | .cond c a b,fr,ys,p,H=>(match fr.ev c with
  | some (.lit (.bool true))=>Ch P callf yf rf loopf a fr ys p H
  | some (.lit (.bool false))=>Ch P callf yf rf loopf b fr ys p H
  | _=>.bad)
 | .block id b,fr,ys,p,H=>c5m id (Ch P callf yf rf loopf b fr ys p H)
 | .loop b,fr,ys,p,H=>a9z (Ch P callf yf rf loopf b fr ys p H) (loopf b)
 | .rangeFunc g ps asg body,fr,ys,p,H=>(match ys with
  | []=>(match rf g ps asg body fr H with
   | .ok none H'=>.norm fr [] p H'
   | .ok (some j) H'=>.jump j fr [] p H'
   | .bad=>.bad)
  | _=>.bad)
 | .exit id,fr,ys,p,H=>.jump (some id) fr ys p H
 | .label _,fr,ys,p,H=>.norm fr ys p H
 | .ret,fr,ys,p,H=>.jump none fr ys p H
 | _,_,_,_,_=>.bad
noncomputable def a5q (P:Program) (callf:CallF) (yf:YF) (rf:RF) : Nat->LFE
 | 0=>fun _ _ _ _ _=>.bad
 | m+1=>fun b fr ys p H=>a9z (Ch P callf yf rf (a5q P callf yf rf m) b fr ys p H) (a5q P callf yf rf m b)
def FR (r:Option Nat) : Fence:={ Fence.wide with round:=r }
theorem d4k {r:Option Nat} {m:Nat} {P:Program} {f:FuncId} {w:World} {R:Ending->World->Prop} (h:Calls P f args w R) : CallsIn (FR r) m P f args w R:=(callsIn_wide (n:=m)).2 h
theorem f6j {r:Option Nat} {m:Nat} {P:Program} {f:FuncId} {w:World} {R:Ending->World->Prop} (h:CallsIn (FR r) m P f args w R) : Calls P f args w R:=(callsIn_wide (n:=m)).1 h
def Act.bare (a:Act) : Act:={ a with defers:=[] }
theorem f6k (a:Act) (d:Option Tmp) (v:Value) : Act.bare (a.put d v)=(Act.bare a).put d v:=by cases d<;>rfl
theorem f6l (a:Act) : (Act.bare a).eval=a.eval:=by funext x;cases x<;>rfl
def KX (x:Option Nat) (w w' : World) : Prop:=(∀ (k:Nat) (o:Obj),w.heap[k]?=some o->isMk o=true->x≠some k->w'.heap[k]?=some o)/\w.drawn<=w'.drawn
theorem KX.refl (x:Option Nat) (w:World) : KX x w w:=⟨fun _ _ h _ _=>h,Dp _⟩
theorem KX.trans {x:Option Nat} {a b c:World} (h:KX x a b) (k:KX x b c) : KX x a c:=⟨fun i o hi ho hx=>k.1 i o (h.1 i o hi ho hx) ho hx,Ec h.2 k.2⟩
theorem KD.kx {x:Option Nat} {w: World} (h:KD w w') : KX x w w':=⟨fun i o hi ho _=>h.1 i o hi ho,h.2⟩
theorem KX.kd {w: World} (h:KX none w w') : KD w w':=⟨fun i o hi ho=>h.1 i o hi ho (by simp),h.2⟩
theorem Sim.mark {B G:Nat} {ρ:Rn} {H:Mem} {w: World} {l:Nat} {ob:Obj} (s:Sim B G ρ H w) (hl:w.heap[l]?=some ob) (ho:isMk ob=true) (hw:∀ k,k≠l->w'.heap[k]?=w.heap[k]?) (hsz:w.heap.size<=w'.heap.size) : Sim B G ρ H w':=by
 refine s.other hsz fun a x b o k hx hr=>hw b fun e=>?_;subst e;rcases s.blk a x hx with h|⟨b',o',k',h,hb⟩
 ·grind
 ·rw[hr] at h;cases h
  cases x with
  | cells l own z=>obtain⟨c,e,fz,h1,_⟩:=hb;rw[hl] at h1;cases h1;cases ho
  | map es clock=>obtain⟨es',h1,_⟩:=hb;rw[hl] at h1;cases h1;cases ho
  | siter s pos=>have h1:=hb.1;rw[hl] at h1;cases h1;cases ho
  | typ T l ex=>obtain⟨_,_,c,h1,_⟩:=hb;rw[hl] at h1;cases h1;cases ho
abbrev Inv:=Rn->Option J->List Deferred->World->Prop
def b0a (I:Inv) : Prop:=∀ ρ ρ' p ds w w',I ρ p ds w->KD w w'->w.heap.size<=w'.heap.size->Sub ρ ρ'->I ρ' p ds w'
structure StE (B G n n0:Nat) (ρ0:Rn) (w0:World) (x:Option Nat) (l:Nat) (I:Inv) (ρ:Rn) (fr:Fr) (ys:List Nat) (p:Option J) (H:Mem) (a:Act) (w:World) : Prop where
 same:∀ a,a<n0->ρ a=ρ0 a
 keeps:KX x w0 w
 below:Below B w0 w
 sim:Sim B G ρ H w
 frel:a1a n ρ fr (Act.bare a)
 le:n0<=H.next
 inv:I ρ p a.defers w
 ysl:∀ t,t∈ys->t<n/\fr.get t=none/\a.tmps.getD t undef=.func (.yield l) #[] #[]
def a4u (B G n n0:Nat) (ρ0:Rn) (w0:World) (x:Option Nat) (l:Nat) (I:Inv) (out:a1s) : Exit->Act->World->Prop:=fun e a' w'=>match out with
 | .norm fr ys p H=>e=.normal/\∃ ρ',StE B G n n0 ρ0 w0 x l I ρ' fr ys p H a' w'
 | .jump j fr ys p H=>e=jexit j/\∃ ρ',StE B G n n0 ρ0 w0 x l I ρ' fr ys p H a' w'
 | .bad=>False
def YOK (B G:Nat) (P:Program) (r x:Option Nat) (l m:Nat) (I:Inv) (yf:YF) : Prop:=∀ vs H b p' H',yf vs H=.ok b p' H'->∀ (ρ:Rn) (us:Array Value) (ds:List Deferred) (w:World),Sim B G ρ H w->VRs ρ vs us.toList->I ρ none ds w ->
 ∃ f tm asg bd,(Instr.yield l us).run P w=.ok (.round l f tm asg bd) w /\
  RoundIn (FR r) m P l f tm asg bd w fun e w'=>e=.returned (.bool b)/\∃ ρ',(∀ a,a<H.next->ρ' a=ρ a)/\KX x w w'/\Below B w w'/\Sim B G ρ' H' w'/\H.next<=H'.next/\I ρ' p' ds w'
def d4l (j:Option J) (fr:Fr) (p:Option J) (H:Mem) : a1s:=match j with|none=>.norm fr [] p H|some j=>.jump j fr [] p H
def ROK (B G n n0:Nat) (P:Program) (r x:Option Nat) (l m:Nat) (I:Inv) (rf:RF) : Prop:=∀ g ps asg body fr H j H',rf g ps asg body fr H=.ok j H' ->
 ∀ (ρ0:Rn) (w0:World) (ρ:Rn) (p:Option J) (a:Act) (w:World),StE B G n n0 ρ0 w0 x l I ρ fr [] p H a w ->
  (Code.rangeFunc g ps asg body).wpIn (FR r) m P (a4u B G n n0 ρ0 w0 x l I (d4l j fr p H')) a w
variable {B G n n0 m l:Nat} {P:Program} {ρ0 ρ:Rn} {w0 w:World} {x r:Option Nat} {I:Inv} {fr:Fr} {ys:List Nat} {p:Option J} {H:Mem} {a:Act}
theorem StE.st (s:StE B G n n0 ρ0 w0 x l I ρ fr ys p H a w) : St B G n H.next ρ w ρ fr H (Act.bare a) w:=⟨Ext.refl _ _ _ _,s.sim,s.frel,Dp _⟩
theorem StE.ev (s:StE B G n n0 ρ0 w0 x l I ρ fr ys p H a w) : EvR ρ fr.ev a.eval:=by rw[<- f6l];exact s.st.ev
theorem c5n {d t:Nat} : ∀ {l:List Nat},t∈b6s d l->t∈l/\t≠d
 | y :: l,h=>by
  unfold b6s at h;split at h
  ·obtain⟨h1,h2⟩:=c5n h;exact⟨by simp[h1],h2⟩
  ·rename_i hb;rcases Dz.1 h with rfl|h
   ·refine⟨by simp,fun e=>?_⟩;simp_all
   ·obtain⟨h1,h2⟩:=c5n h;exact⟨by simp[h1],h2⟩
theorem f6m {d:Option Tmp} {v:AV} {u yv:Value} (h:∀ t,t∈ys->t<n/\fr.get t=none/\a.tmps.getD t undef=yv) :
  ∀ t,t∈b2c d ys->t<n/\(fr.put d v).get t=none/\(a.put d u).tmps.getD t undef=yv:=by
 intro t ht
 cases d with
 | none=>exact h t ht
 | some d =>
  obtain⟨h1,h2⟩:=c5n ht;obtain⟨h3,h4,h5⟩:=h t h1;refine⟨h3,?_,?_⟩
  ·cases hg:(fr.put (some d) v).get t with
   | none=>rfl
   | some y =>
    rcases Fr.get_upd hg with⟨rfl,_⟩|⟨_,hy⟩
    all_goals grind
  ·show (a.tmps.setIfInBounds d u).getD t undef=yv;simp_all[Ne.symm]
theorem StE.step {ρ' : Rn} {H' : Mem} {w' : World} {v:AV} {u:Value} {d:Option Tmp} {p' : Option J} (s:StE B G n n0 ρ0 w0 x l I ρ fr ys p H a w) (h1:∀ a,a<H.next->ρ' a=ρ a) (h2:KX x w w') (h3:Below B w w') (hs:Sim B G ρ' H' w')
  (hv:VR ρ' v u) (hn:H.next<=H'.next) (hd:∀ t,d=some t->t<n) (hI:I ρ' p' a.defers w') : StE B G n n0 ρ0 w0 x l I ρ' (fr.put d v) (b2c d ys) p' H' (a.put d u) w':=by
 have hsub:Sub ρ ρ':=by
  intro a x hx
  rw[h1 a ?_];· grind
  rcases Nat.lt_or_ge a H.next with k|k
  ·exact k
  ·rw[s.sim.fresh a k] at hx;grind
 refine⟨fun b hb=>(h1 b (Nat.lt_of_lt_of_le hb s.le)).trans (s.same b hb),s.keeps.trans h2,s.below.trans h3,hs,?_,Nat.le_trans s.le hn,by grind[b3e],f6m s.ysl⟩
 rw[f6k]
 exact(s.frel.mono hsub).put hd hv
theorem c5o {i:Nat} : ∀ {l:List Nat},a3n i l=true->i∈l
 | j :: l,h=>by
  unfold a3n at h;split at h
  ·rename_i hb;simp[Eh hb]
  ·simp[c5o h]
theorem f6n {yf:YF} {rest:List Oper} {K:KF} {out:a1s} (hc:Be B G P callf) (hG:G=P.globals.size) (hy:∀ m,YOK B G P r x l m I yf)
  (hI:b0a I) (hdst:Db n o=true) (s:StE B G n n0 ρ0 w0 x l I ρ fr ys p H a w)
  (hk:∀ fr' ys' p' H' ρ' a' w',StE B G n n0 ρ0 w0 x l I ρ' fr' ys' p' H' a' w'->K fr' ys' p' H'=out->wpListIn (FR r) m P ops (a4u B G n n0 ρ0 w0 x l I out) rest a' w')
  (hout:opE P callf yf o fr ys p H K=out) (hne:out≠.bad) :
  o.wpIn (FR r) m P a w (wpListIn (FR r) m P ops (a4u B G n n0 ρ0 w0 x l I out) rest) (a4u B G n n0 ρ0 w0 x l I out):=by
 refine⟨fun _ _=>trivial,?_⟩;have hd:=a3y hdst;unfold opE at hout;split at hout
 ·
  rename_i hkd;unfold c5k at hkd;split at hkd
  ·rename_i t hop;split at hkd
   ·rename_i ht;obtain⟨h1,h2,h3⟩:=s.ysl t (c5o ht);have hrun:(o.semAt (FR r).round a.eval).run P w=.ok (.value (.func (.yield l) #[] #[])) w:=by
     rw[Oper.semAt_eq _ _ _ (by grind)];have:a.eval (.tmp t)=.func (.yield l) #[] #[]:=h3;simp_all[execOp]
    rw[hrun];show wpListIn _ _ _ _ _ _ (a.put o.dst _) w;unfold mvE at hout;split at hout
    ·grind
    ·rename_i d hdd;split at hout
     ·rename_i hg;refine hk fr (d :: ys) p H ρ _ w ⟨s.same,s.keeps,s.below,s.sim,?_,s.le,by rw[b3e];exact s.inv,?_⟩ hout
      ·rw[hdd];refine⟨fun j v hj hjn=>?_,s.frel.dfr,?_,s.frel.only⟩
       ·have hjd:j≠d:=fun e=>by grind
        have:=s.frel.slot j v hj hjn;show VR ρ v ((a.tmps.setIfInBounds d _).getD j undef);rw[Array.getD_eq_getD_getElem?,Array.getElem?_setIfInBounds_ne (Ne.symm hjd),<- Array.getD_eq_getD_getElem?];exact this
       ·show n<=(a.tmps.setIfInBounds d _).size;simp;exact s.frel.size
      ·intro j hj;rw[hdd];have hdn:=hd d hdd;have hsz:d<a.tmps.size:=Et hdn s.frel.size;by_cases hjd:j=d
       ·subst hjd;refine⟨hdn,hg,?_⟩;show (a.tmps.setIfInBounds j _).getD j undef=_;simp_all
       ·have hj' : j∈ys:=by grind
        obtain⟨k1,k2,k3⟩:=s.ysl j hj';refine⟨k1,k2,?_⟩;show (a.tmps.setIfInBounds d _).getD j undef=_;simp_all[Ne.symm]
     grind
   grind
  all_goals grind
 ·
  rename_i args hkd;unfold c5k at hkd;split at hkd
  ·grind
  ·rename_i c hop;split at hkd
   ·rename_i t hcal;split at hkd
    ·rename_i ht;cases hkd;obtain⟨h1,h2,h3⟩:=s.ysl t (c5o ht);unfold ylE at hout;split at hout
     ·rename_i vs hvs;split at hout
      ·rename_i b p' H' hyf;have hva:VRs ρ vs (c.args.map a.eval).toList:=by simpa using evals_VRs s.ev hvs
       obtain⟨f,tm,asg,bd,hrun,hround⟩:=hy (m-1) vs H b p' H' hyf ρ (c.args.map a.eval) a.defers w s.sim hva s.inv;have hrun2:(o.semAt (FR r).round a.eval).run P w=.ok (.round l f tm asg bd) w:=by
        rw[Oper.semAt_eq _ _ _ (by grind)];have:a.eval (.tmp t)=.func (.yield l) #[] #[]:=h3;grind[invoke,Deferred.ofValue,resolve,execOp]
       rw[hrun2,Oper.uponIn_round];refine⟨fun h=>(by cases h),hround.mono fun e w' he=>?_⟩;obtain⟨rfl,ρ',g1,g2,g3,g4,g5,g6⟩:=he;exact hk _ _ _ _ _ _ _ (s.step (v:=.lit (.bool b)) (u:=.bool b) g1 g2 g3 g4 rfl g5 hd g6) hout
      grind
     grind
    grind
   grind
  grind
 ·rename_i hkd;split at hout
  ·rename_i hnd;have hop:∀ c,o.op≠.defer c:=by
    grind[b6r]
   rw[Oper.semAt_eq _ _ _ hop];have hrs:=a6k (o:=o) s.sim s.ev hG;unfold afE at hout
   cases hr:opV P H fr.ev o with
   | val v H' =>
    rw[hr] at hrs hout;obtain⟨ρ',u,w',h1,h2,h3,h4,h5⟩:=hrs;rw[h1];exact hk _ _ _ _ _ _ _ (s.step h2.same h2.keeps.kx h2.below h3 h4 h5 hd (hI _ _ _ _ _ _ s.inv h2.keeps h2.below.size (h2.sub s.sim))) hout
   | skip H' =>
    rw[hr] at hrs hout;obtain⟨ρ',w',h1,h2,h3,h5⟩:=hrs;rw[h1];exact hk _ _ _ _ _ _ _ (s.step h2.same h2.keeps.kx h2.below h3 (a6l _) h5 hd (hI _ _ _ _ _ _ s.inv h2.keeps h2.below.size (h2.sub s.sim))) hout
   | enter f args H' =>
    rw[hr] at hrs hout;obtain⟨us,h1,h2,rfl⟩:=hrs;rw[h1,Oper.uponIn_enter];refine⟨fun h=>(by cases h),?_⟩
    cases hcall:callf f args H' with
    | ret v H2 =>
     dsimp only at hout;rw[hcall] at hout;have:=hc f args H' (by grind) ρ us w s.sim h2;rw[hcall] at this;refine(d4k this).mono fun e w' he=>?_
     cases e with
     | returned u =>
      obtain⟨ρ',g1,g2,g3,g4⟩:=he;exact hk _ _ _ _ _ _ _ (s.step g1.same g1.keeps.kx g1.below g2 g3 g4 hd (hI _ _ _ _ _ _ s.inv g1.keeps g1.below.size (g1.sub s.sim))) hout
     | panicked chain=>exact he.elim
     | outgrown=>exact he.elim
    | panic v H2=>grind
    | bad=>grind
   | dfr fn cap args H'=>grind
   | recover=>grind
   | panic v H'=>grind
   | bad=>grind
  grind
theorem d4m {b:Bool} (s:StE B G n n0 ρ0 w0 x l I ρ fr ys p H a w) (h:c5l ops o fr=some b) : Region.wanted o (yielded ops a.tmps)=b:=by
 unfold c5l at h
 cases hg:o.guard with
 | none=>grind[Region.wanted]
 | some g=>rw[hg] at h;exact b8c (a:=Act.bare a) s.st hg h
theorem c5p {yf:YF} (hc:Be B G P callf) (hG:G=P.globals.size) (hy:∀ m,YOK B G P r x l m I yf) (hI:b0a I) {out:a1s} (hne:out≠.bad) :
  ∀ (li:List Oper) (fr:Fr) (ys:List Nat) (p:Option J) (H:Mem) (ρ:Rn) (a:Act) (w:World),(∀ o∈li,Db n o=true)->StE B G n n0 ρ0 w0 x l I ρ fr ys p H a w->b6t P callf yf ops li fr ys p H=out ->
   wpListIn (FR r) m P ops (a4u B G n n0 ρ0 w0 x l I out) li a w
 | [],fr,ys,p,H,ρ,a,w,_,s,h=>by
  have h' : a1s.norm fr ys p H=out:=h;subst h';exact wpListIn_nil ⟨rfl,ρ,s⟩
 | o :: li,fr,ys,p,H,ρ,a,w,hd,s,h=>by
  have hdo:=hd o (by simp);unfold b6t at h;unfold wpListIn;split at h
  ·rename_i hw;rw[if_pos (d4m s hw)];exact f6n hc hG hy hI hdo s (fun fr' ys' p' H' ρ' a' w' s' hk=>c5p hc hG hy hI hne li fr' ys' p' H' ρ' a' w' (fun o ho=>hd o (by simp[ho])) s' hk) h hne
  ·rename_i hw;rw[if_neg (by grind[d4m])];exact⟨fun _ _=>trivial,c5p hc hG hy hI hne li _ _ _ _ ρ _ _ (fun o ho=>hd o (by grind)) (s.step (fun _ _=>rfl) (KX.refl _ _) (Below.refl _ _) s.sim (a6l _) (Dp _) (a3y hdo) s.inv) h⟩
  grind
def Act.df (a:Act) (x:List Deferred) : Act:={ a with defers:=x }
theorem b6u (a:Act) (x:List Deferred) (d:Option Tmp) (v:Value) : (Act.df a x).put d v=Act.df (a.put d v) x:=by cases d<;>rfl
theorem f6o (a:Act) (x:List Deferred) : (Act.df a x).eval=a.eval:=by rfl
theorem f6p {row:String} {w:World} {R:Value->World->Prop} (h:Rows P row args w R) : RowsIn (FR r) m P row args w R :=
 fun c cs _=>let ⟨v,w',hr,s⟩:=h c cs;⟨v,w',hr,stepsIn_wide.2 s⟩
theorem b0b (hnd:ops.toList.all b6r=true) (hQ:¬LetsOut Q) (D0:List Deferred) : ∀ (li:List Nat) (a:Act) (x:List Deferred) (w:World),a.defers=x++D0->wpOps P ops Q li (Act.df a x) w ->
  wpOpsIn (FR r) m P ops (fun e a' w'=>∃ y,a'.defers=y++D0/\Q e (Act.df a' y) w') li a w
 | [],a,x,w,ha,h=>⟨x,ha,h⟩
 | i :: li,a,x,w,ha,h=>by
  unfold wpOps at h;unfold wpOpsIn
  cases ho:ops[i]? with
  | none=>rw[ho] at h;exact b0b hnd hQ D0 li a x w ha h
  | some o =>
   rw[ho] at h;dsimp only at h |-;have hno:=Eb.1 hnd o (g2l (Cm.2 ho));have hop:∀ c,o.op≠.defer c:=by
    grind[b6r]
   have hdd:∀ d v,(a.put d v).defers=x++D0:=fun d v=>by grind[b3e]
   split at h
   ·rename_i hw;rw[if_pos (show Region.wanted o (yielded ops a.tmps)=true from hw)];rcases h with h|⟨_,h2⟩
    ·refine⟨fun _ _=>trivial,?_⟩;rw[Oper.semAt_eq _ _ _ hop];unfold Oper.wp at h;rw[f6o] at h;unfold Oper.upon at h;split at h
     ·rename_i hr;rw[hr];rw[b6u] at h;exact b0b hnd hQ D0 li _ x _ (hdd _ _) h
     ·rename_i hr;rw[hr];rw[b6u] at h;exact b0b hnd hQ D0 li _ x _ (hdd _ _) h
     ·rename_i d w' hr;rw[hr,Oper.uponIn_defer];refine b0b hnd hQ D0 li _ (d :: x) _ (by grind[b3e]) ?_;have e:Act.df (({ a with defers:=d :: a.defers } : Act).put o.dst undef) (d :: x)=({ Act.df a x with defers:=d :: (Act.df a x).defers } : Act).put o.dst undef:=by
       cases o.dst<;>rfl
      grind
     ·rename_i f args w' hr;rw[hr,Oper.uponIn_enter];refine⟨fun h=>(by cases h),(d4k h).mono fun e w2 he=>?_⟩
      cases e with
      | returned v=>dsimp only at he |-;rw[b6u] at he;exact b0b hnd hQ D0 li _ x _ (hdd _ _) he
      | panicked c=>exact⟨x,ha,he⟩
      | outgrown=>exact absurd he hQ
     ·rename_i row args w' hr;rw[hr,Oper.uponIn_row];refine⟨fun h=>(by cases h),(f6p h).mono fun v w2 he=>?_⟩;rw[b6u] at he;exact b0b hnd hQ D0 li _ x _ (hdd _ _) he
     ·rename_i v w' hr;rw[hr];exact⟨x,ha,h⟩
     grind
    grind
   ·rename_i hw;rw[if_neg (show ¬Region.wanted o (yielded ops a.tmps)=true from hw)];refine⟨fun _ _=>trivial,b0b hnd hQ D0 li _ x _ (hdd _ _) ?_⟩;grind[b6u]
theorem f6q {next next': Act->World->Prop} {Q': Exit->Act->World->Prop} (hn:∀ a w,next a w->next' a w) (hq:∀ e a w,Q e a w->Q' e a w) {F:Fence} {re:Result Next} (h:o.uponIn F m P a next Q re) : o.uponIn F m P a next' Q' re:=by
 have hl:LetsOut Q->LetsOut Q':=fun⟨a,w,h⟩=>⟨a,w,hq _ _ _ h⟩;unfold Oper.uponIn at h |-;split at h
 ·grind
 ·grind
 ·grind
 ·refine⟨h.1,h.2.mono fun e w' he=>?_⟩;grind
 ·exact⟨h.1,h.2.mono fun v w' he=>hn _ _ he⟩
 ·refine⟨h.1,h.2.mono fun e w' he=>?_⟩;grind
 all_goals grind
theorem b9w {F:Fence} {Q': Exit->Act->World->Prop} (hq:∀ e a w,Q e a w->Q' e a w) : ∀ (l:List Nat) (a:Act) (w:World),wpOpsIn F m P ops Q l a w->wpOpsIn F m P ops Q' l a w
 | [],a,w,h=>hq _ _ _ h
 | i :: l,a,w,h=>by
  unfold wpOpsIn at h |-
  cases ho:ops[i]? with
  | none=>rw[ho] at h;exact b9w hq l a w h
  | some o =>
   rw[ho] at h;dsimp only at h |-;split at h
   ·rename_i hw;rw[if_pos hw];exact⟨h.1,f6q (b9w hq l) hq h.2⟩
   ·rename_i hw;rw[if_neg hw];exact⟨h.1,b9w hq l _ _ h.2⟩
theorem f6r {id:Nat} (hcs:∀ B,Be B G P callf) (hG:G=P.globals.size) (hI:b0a I) (hd:Bg n (.region id ops true)=true)
  (s:StE B G n n0 ρ0 w0 x l I ρ fr ys p H a w) (hne:b9v P callf ops fr ys p H≠.bad) : (Code.region id ops true).wpIn (FR r) m P (a4u B G n n0 ρ0 w0 x l I (b9v P callf ops fr ys p H)) a w:=by
 unfold b9v at hne |-;split at hne
 ·rename_i hnd;split at hne
  ·rename_i fr' H' hr;split at hne
   case h_2=>grind
   rename_i hfd;refine wpIn_region_draw fun t=>?_;have hq:¬LetsOut (a0h B G n H.next ρ w (a9t P callf ops fr H)):=by
    rintro⟨a',w',h⟩;rw[hr] at h;assumption
   have key:=b0b (r:=r) (m:=m) hnd hq a.defers _ a [] _ rfl (d3h (id:=id) hcs hG s.st hd (by grind) t);refine b9w ?_ _ _ _ key;rintro e a' w' ⟨y,hy,h⟩;rw[hr] at h
   cases e with
   | normal =>
    obtain⟨ρ',s'⟩:=h;have hy0:y=[]:=by
     have h1:DR ρ' fr'.defers y:=s'.frel.dfr;rw[hfd] at h1;exact h1
    subst hy0;refine⟨rfl,ρ',fun b hb=>(s'.ext.same b (Et hb s.le)).trans (s.same b hb),s.keeps.trans s'.ext.keeps.kx,s.below.trans s'.ext.below,s'.sim,s'.frel,Ec s.le s'.le,?_,by simp⟩;have hy' : a'.defers=a.defers:=by grind
    rw[hy'];exact hI _ _ _ _ _ _ s.inv s'.ext.keeps s'.ext.below.size (s'.ext.sub s.sim)
   | _=>exact h.elim
  grind
 grind
end Go.Ai
end
section
namespace Go.Ai
open Go.RowKit (Below)
variable {B G n n0 m l:Nat} {P:Program} {ρ0 ρ:Rn} {w0 w:World} {x r:Option Nat} {I:Inv} {fr:Fr} {ys:List Nat} {p:Option J} {H:Mem} {a:Act}
variable {callf:CallF} {yf:YF} {rf:RF}
def LWR (r:Option Nat) (P:Program) (c:Code) (Q:Exit->Act->World->Prop) (a:Act) (w:World) : Prop :=
 ∀ (b:Frame) (k:List Item) (cs:List Frame),b.roundOf=r->∃ e a' w',Q e a' w'/\ArrivesIn (Machine.fenced P (FR r)) P (lone (b.atR a (.code c :: .inLoop c :: k)) cs w) b k cs e a' w'
theorem d4n (n:Nat) : (FR r).room n:=fun _ h=>by cases h
theorem d4o {b:Frame} {k:List Item} {cs:List Frame} (hr:b.roundOf=r) (ha:(b.atR a k).about P w=none) : (lone (b.atR a k) cs w).fenced P (FR r):=fenced_calm (n:=0) (F:=FR r) trivial (d4n _) ha
theorem LWR.wp {c:Code} {Q:Exit->Act->World->Prop} (h:LWR r P c Q a w) : (Code.loop c).wpIn (FR r) m P Q a w :=
 fun b k cs hro _ _=>let ⟨e,a',w',q,s⟩:=h b k cs hro;⟨e,a',w',q,.of_steps (.one (d4o hro rfl) stepR_loop) s⟩
theorem LWR.unroll {c:Code} {Q:Exit->Act->World->Prop} (h:c.wpIn (FR r) m P (Exit.then (LWR r P c Q) Q) a w) : LWR r P c Q a w:=by
 intro b k cs hro;obtain⟨e,a₁,w₁,hq,harr⟩:=h b (.inLoop c :: k) cs hro trivial (d4n _)
 cases e with
 | normal =>
  obtain⟨e₂,a₂,w₂,hq₂,harr₂⟩:=hq b k cs hro;exact⟨e₂,a₂,w₂,hq₂,.of_steps (StepsIn.trans harr (.one (d4o hro rfl) stepR_inLoop)) harr₂⟩
 | exit id=>exact⟨_,a₁,w₁,hq,.pass (x:=.inLoop c) rfl (fun _ _=>.inl (by simp)) harr⟩
 | goto l=>exact⟨_,a₁,w₁,hq,.pass (x:=.inLoop c) rfl (fun _ _=>.inl (by simp)) harr⟩
 | ret=>exact⟨_,a₁,w₁,hq,.pass (x:=.inLoop c) rfl (fun _ _=>.inl (by simp)) harr⟩
 | panic ch=>exact⟨_,a₁,w₁,hq,.pass (x:=.inLoop c) rfl (fun _ _=>.inl (by simp)) harr⟩
 | outgrown=>exact⟨_,a₁,w₁,hq,.pass (x:=.inLoop c) rfl (fun _ _=>.inl (by simp)) harr⟩
def d4p (B G n n0:Nat) (P:Program) (r x:Option Nat) (l m:Nat) (I:Inv) (ex:KF) (c:Code) : Prop :=
 ∀ (ρ0:Rn) (w0:World) (ρ:Rn) (fr:Fr) (ys:List Nat) (p:Option J) (H:Mem) (a:Act) (w:World),Bg n c=true->StE B G n n0 ρ0 w0 x l I ρ fr ys p H a w->ex fr ys p H≠.bad ->
  c.wpIn (FR r) m P (a4u B G n n0 ρ0 w0 x l I (ex fr ys p H)) a w
def c5q (B G n n0:Nat) (P:Program) (r x:Option Nat) (l:Nat) (I:Inv) (loopf:LFE) : Prop :=
 ∀ (b:Code) (ρ0:Rn) (w0:World) (ρ:Rn) (fr:Fr) (ys:List Nat) (p:Option J) (H:Mem) (a:Act) (w:World),Bg n b=true->StE B G n n0 ρ0 w0 x l I ρ fr ys p H a w->loopf b fr ys p H≠.bad ->
  LWR r P b (a4u B G n n0 ρ0 w0 x l I (loopf b fr ys p H)) a w
theorem d4q {o:a1s} {k:KF} {K:Act->World->Prop} (hne:a9z o k≠.bad)
  (hk:∀ fr' ys' p' H' ρ' a' w',o=.norm fr' ys' p' H'->StE B G n n0 ρ0 w0 x l I ρ' fr' ys' p' H' a' w'->k fr' ys' p' H'≠.bad->K a' w') :
  ∀ e a' w',a4u B G n n0 ρ0 w0 x l I o e a' w'->Exit.then K (a4u B G n n0 ρ0 w0 x l I (a9z o k)) e a' w':=by
 intro e a' w' h
 cases o with
 | norm fr' ys' p' H'=>obtain⟨rfl,ρ',s'⟩:=h;exact hk _ _ _ _ ρ' a' w' rfl s' hne
 | jump j fr' ys' p' H' =>
  have h0:=h;obtain⟨rfl,ρ',s'⟩:=h0;cases j<;>exact h
 | bad=>exact absurd rfl hne
theorem d4r {loopf:LFE} {b:Code} (hl:c5q B G n n0 P r x l I loopf) (hb:d4p B G n n0 P r x l m I (Ch P callf yf rf loopf b) b) (ρ0:Rn) (w0:World) (ρ:Rn) (fr:Fr) (ys:List Nat) (p:Option J) (H:Mem) (a:Act) (w:World)
  (hd:Bg n b=true) (s:StE B G n n0 ρ0 w0 x l I ρ fr ys p H a w) (hne:a9z (Ch P callf yf rf loopf b fr ys p H) (loopf b)≠.bad) :
  LWR r P b (a4u B G n n0 ρ0 w0 x l I (a9z (Ch P callf yf rf loopf b fr ys p H) (loopf b))) a w:=by
 have hr:Ch P callf yf rf loopf b fr ys p H≠.bad:=fun h=>hne (by rw[h];rfl);refine LWR.unroll (m:=m) (Code.wpIn_mono (d4q hne fun fr' ys' p' H' ρ' a' w' hr' s' hk=>?_) (hb ρ0 w0 ρ fr ys p H a w hd s hr));rw[hr'];exact hl b ρ0 w0 ρ' fr' ys' p' H' a' w' hd s' hk
theorem b3w {loopf:LFE} (hcs:∀ B,Be B G P callf) (hG:G=P.globals.size) (hy:∀ m,YOK B G P r x l m I yf) (hI:b0a I)
  (hrf:ROK B G n n0 P r x l m I rf) (hl:c5q B G n n0 P r x l I loopf) : ∀ c:Code,d4p B G n n0 P r x l m I (Ch P callf yf rf loopf c) c:=by
 intro c
 induction c with
 | skip=>intro ρ0 w0 ρ fr ys p H a w hd s hne;exact wpIn_skip ⟨rfl,ρ,s⟩
 | region id ops draw =>
  intro ρ0 w0 ρ fr ys p H a w hd s hne
  cases draw with
  | false =>
   refine wpIn_region_list (c5p (hcs B) hG hy hI hne ops.toList fr ys p H ρ a w ?_ s rfl);exact fun o ho=>Eb.1 hd o ho
  | true=>exact f6r hcs hG hI hd s hne
 | seq c1 c2 ih1 ih2 =>
  intro ρ0 w0 ρ fr ys p H a w hd s hne;have he:Ch P callf yf rf loopf (.seq c1 c2) fr ys p H=a9z (Ch P callf yf rf loopf c1 fr ys p H) (Ch P callf yf rf loopf c2):=rfl;rw[he] at hne |-;simp only[Bg,Ds] at hd;have hr:Ch P callf yf rf loopf c1 fr ys p H≠.bad:=fun h=>hne (by rw[h];rfl);refine wpIn_seq (Code.wpIn_mono (d4q hne fun fr' ys' p' H' ρ' a' w' hr' s' hk=>?_) (ih1 ρ0 w0 ρ fr ys p H a w hd.1 s hr));rw[hr'];exact ih2 ρ0 w0 ρ' fr' ys' p' H' a' w' hd.2 s' hk
 | cond cnd c1 c2 ih1 ih2 =>
  intro ρ0 w0 ρ fr ys p H a w hd s hne;simp only[Bg,Ds] at hd
  have he:Ch P callf yf rf loopf (.cond cnd c1 c2) fr ys p H=(match fr.ev cnd with
   | some (.lit (.bool true))=>Ch P callf yf rf loopf c1 fr ys p H
   | some (.lit (.bool false))=>Ch P callf yf rf loopf c2 fr ys p H
   | _=>.bad):=rfl
  rw[he] at hne |-;split at hne
  ·rename_i hev;exact wpIn_cond_true (s.ev _ _ hev) (ih1 ρ0 w0 ρ fr ys p H a w hd.1 s hne)
  ·rename_i hev;exact wpIn_cond_false (s.ev _ _ hev) (ih2 ρ0 w0 ρ fr ys p H a w hd.2 s hne)
  grind
 | block id b ih =>
  intro ρ0 w0 ρ fr ys p H a w hd s hne;have he:Ch P callf yf rf loopf (.block id b) fr ys p H=c5m id (Ch P callf yf rf loopf b fr ys p H):=rfl;rw[he] at hne |-;have hr:Ch P callf yf rf loopf b fr ys p H≠.bad:=fun h=>hne (by rw[h];rfl);refine wpIn_block (Code.wpIn_mono ?_ (ih ρ0 w0 ρ fr ys p H a w hd s hr));intro e a' w' h;generalize Ch P callf yf rf loopf b fr ys p H=o at h hne |-
  cases o with
  | norm fr' ys' p' H'=>obtain⟨rfl,h'⟩:=h;exact⟨rfl,h'⟩
  | jump j fr' ys' p' H' =>
   obtain⟨rfl,ρ',s'⟩:=h
   cases j with
   | none=>exact⟨rfl,ρ',s'⟩
   | some id2 =>
    unfold c5m;dsimp only[jexit];split
    ·rename_i hb;have:=Eh hb;subst this;simp only[Exit.inBlock,if_true];exact⟨rfl,ρ',s'⟩
    ·rename_i hb;have hne2:id2≠id:=by intro h0;simp_all
     simp only[Exit.inBlock,hne2,if_false];exact⟨rfl,ρ',s'⟩
  | bad=>exact absurd rfl hne
 | loop b ih =>
  intro ρ0 w0 ρ fr ys p H a w hd s hne;exact(d4r hl ih ρ0 w0 ρ fr ys p H a w hd s hne).wp
 | rangeFunc g ps c1 c2 ih1 ih2 =>
  intro ρ0 w0 ρ fr ys p H a w hd s hne
  cases ys with
  | cons y ys=>exact absurd rfl hne
  | nil =>
   have he:Ch P callf yf rf loopf (.rangeFunc g ps c1 c2) fr [] p H=(match rf g ps c1 c2 fr H with
    | .ok none H'=>.norm fr [] p H'
    | .ok (some j) H'=>.jump j fr [] p H'
    | .bad=>.bad):=rfl
   rw[he] at hne |-;split at hne
   ·rename_i H' hrr;exact hrf _ _ _ _ _ _ _ _ hrr ρ0 w0 ρ p a w s
   ·rename_i j H' hrr;exact hrf _ _ _ _ _ _ _ _ hrr ρ0 w0 ρ p a w s
   grind
 | exit id=>intro ρ0 w0 ρ fr ys p H a w hd s hne;exact wpIn_exit ⟨rfl,ρ,s⟩
 | scope b ih=>intro ρ0 w0 ρ fr ys p H a w hd s hne;exact absurd rfl hne
 | label l=>intro ρ0 w0 ρ fr ys p H a w hd s hne;exact wpIn_label ⟨rfl,ρ,s⟩
 | goto l=>intro ρ0 w0 ρ fr ys p H a w hd s hne;exact absurd rfl hne
 | ret=>intro ρ0 w0 ρ fr ys p H a w hd s hne;exact wpIn_ret ⟨rfl,ρ,s⟩
 | refuse why=>intro ρ0 w0 ρ fr ys p H a w hd s hne;exact absurd rfl hne
theorem b2d (hcs:∀ B,Be B G P callf) (hG:G=P.globals.size) (hy:∀ m,YOK B G P r x l m I yf) (hI:b0a I)
  (hrf:∀ m,ROK B G n n0 P r x l m I rf) : ∀ k,c5q B G n n0 P r x l I (a5q P callf yf rf k)
 | 0=>fun b ρ0 w0 ρ fr ys p H a w hd s hne=>absurd rfl hne
 | k+1=>fun b ρ0 w0 ρ fr ys p H a w hd s hne=>d4r (m:=0) (b2d hcs hG hy hI hrf k) (b3w hcs hG hy hI (hrf 0) (b2d hcs hG hy hI hrf k) b) ρ0 w0 ρ fr ys p H a w hd s hne
end Go.Ai
end
section
namespace Go.Ai
open Go.RowKit (Below)
variable {B G n n0 m l:Nat} {P:Program} {ρ0 ρ:Rn} {w0 w:World} {x r:Option Nat} {I:Inv} {fr fr0:Fr} {ys:List Nat} {p:Option J} {H:Mem} {a:Act} {callf:CallF} {fid D:Nat} {tm:Array Value} {ps:Array Tmp} {asg body:Code} {fuel:Nat}
theorem b9x {o:Obj} (hB:B<=l) : Below B w (w.putObj l o):=⟨rfl,rfl,rfl,by simp,fun k hk=>World.putObj_heap_other (by omega)⟩
theorem d4s {o:Obj} : KX (some l) w (w.putObj l o):=⟨fun k ob hk ho hx=>by
 grind[World.putObj_heap_other],Dp _⟩
theorem b9y {o ob:Obj} (s:Sim B G ρ H w) (hl:w.heap[l]?=some ob) (ho:isMk ob=true) : Sim B G ρ H (w.putObj l o) :=
 s.mark hl ho (fun k hk=>World.putObj_heap_other hk) (by simp)
noncomputable def yBad:YF:=fun _ _=>.bad
noncomputable def rBad:RF:=fun _ _ _ _ _ _=>.bad
theorem b0c (m:Nat) : YOK B G P r x l m I yBad:=fun _ _ _ _ _ h=>by cases h
theorem b0d (m:Nat) : ROK B G n n0 P r x l m I rBad:=fun _ _ _ _ _ _ _ _ h=>by cases h
noncomputable def putPs:List Tmp->List AV->Fr->Fr
 | t :: ts,v :: vs,fr=>putPs ts vs (fr.upd t v)
 | _,_,fr=>fr
theorem putPs_ok:∀ {ps:List Tmp} {vs:List AV} {us:List Value} {fr:Fr} {tm:Array Value},(∀ t∈ps,t<n)->VRs ρ vs us->a1a n ρ fr { tmps:=tm,defers:=[] } ->
  a1a n ρ (putPs ps vs fr) { tmps:=(ps.zip us).foldl (fun tmps (t,a)=>tmps.setIfInBounds t a) tm,defers:=[] }
 | [],vs,us,fr,tm,_,_,h=>by assumption
 | t :: ts,[],us,fr,tm,_,hv,h=>by cases hv;assumption
 | t :: ts,v :: vs,us,fr,tm,ht,hv,h=>by
  obtain⟨u,us',rfl,h1,h2⟩:=hv;have:=a1a.put (d:=some t) h (fun j hj=>by simp_all) h1;exact putPs_ok (ps:=ts) (vs:=vs) (us:=us') (fr:=fr.upd t v) (tm:=tm.setIfInBounds t u) (fun j hj=>ht j (by grind)) h2 this
def a5r (fid:FuncId) (tm:Array Value) (ps:Array Tmp) (asg body:Code) (D:Nat) (st:LoopState) (pd:Option Code) : Loop:={ state:=st,pending:=pd,fn:=fid,tmps:=tm,params:=ps,assign:=asg,body:=body,defers:=D }
def IR (fid:FuncId) (tm:Array Value) (ps:Array Tmp) (asg body:Code) (D l:Nat) (st:LoopState) : Inv:=fun _ _ ds w=>ds=[]/\w.heap[l]?=some (.loop (a5r fid tm ps asg body D st none))
def b3x (p:Option J) : LoopState:=match p with|none=>.ready|some _=>.done
def II (n:Nat) (fr0:Fr) (fid:FuncId) (tm:Array Value) (ps:Array Tmp) (asg body:Code) (D l:Nat) : Inv:=fun ρ p ds w=>ds=[]/\a1a n ρ fr0 { tmps:=tm,defers:=[] }/\w.heap[l]?=some (.loop (a5r fid tm ps asg body D (b3x p) (p.map jcode)))
theorem b3y {st:LoopState} : b0a (IR fid tm ps asg body D l st):=fun _ _ _ _ _ _ h hk _ _=>⟨h.1,hk.1 _ _ h.2 rfl⟩
theorem II_ok:b0a (II n fr0 fid tm ps asg body D l):=fun _ _ _ _ _ _ h hk _ hs=>⟨h.1,h.2.1.mono hs,hk.1 _ _ h.2.2 rfl⟩
noncomputable def yfR (P:Program) (callf:CallF) (fuel:Nat) (ps:Array Tmp) (asg body:Code) (fr0:Fr) : YF:=fun vs H=>match Nat.beq vs.length ps.size with
 | true=>(match Ch P callf yBad rBad (a5q P callf yBad rBad fuel) asg (putPs ps.toList vs fr0) [] none H with
  | .norm fr1 ys1 p1 H1=>(match Ch P callf yBad rBad (a5q P callf yBad rBad fuel) body fr1 ys1 p1 H1 with
   | .norm _ _ _ H2=>.ok true none H2
   | .jump j _ _ _ H2=>.ok false (some j) H2
   | .bad=>.bad)
  | _=>.bad)
 | false=>.bad
theorem d4t {ρ' : Rn} (s:Sim B G ρ H w) (h:∀ a,a<H.next->ρ' a=ρ a) : Sub ρ ρ':=by
 intro a y hy
 rw[h a ?_];· grind
 rcases Nat.lt_or_ge a H.next with k|k
 ·exact k
 ·rw[s.fresh a k] at hy;grind
theorem d4u (hcs:∀ B,Be B G P callf) (hG:G=P.globals.size) (hB:B<=l) (hps:∀ t∈ps.toList,t<n) (hda:Bg n asg=true) (hdb:Bg n body=true) (m:Nat) :
  YOK B G P none (some l) l m (II n fr0 fid tm ps asg body D l) (yfR P callf fuel ps asg body fr0):=by
 intro vs H b p' H' hyf ρ us ds w hs hv hI;obtain⟨rfl,hfr,hl⟩:=hI;unfold yfR at hyf;split at hyf
 ·rename_i hlen;have hlen':=Eh hlen;have hsz:us.size=ps.size:=by have:=hv.length;grind
  refine⟨fid,_,asg,body,run_yield hl hsz,roundIn_of_wpIn trivial ?_⟩;generalize htm:((a5r fid tm ps asg body D (b3x none) (Option.map jcode none)).params.zip us).foldl (fun tmps (t,a)=>tmps.setIfInBounds t a) (a5r fid tm ps asg body D (b3x none) (Option.map jcode none)).tmps=tm1;have hfr1:a1a n ρ (putPs ps.toList vs fr0) { tmps:=tm1,defers:=[] }:=by
   have:=putPs_ok hps hv hfr;rw[<- htm];show a1a n ρ (putPs ps.toList vs fr0) { tmps:=(ps.zip us).foldl (fun tmps (t,a)=>tmps.setIfInBounds t a) tm,defers:=[] };grind[Array.toList_zip]
  have s0:StE B G n H.next ρ w none 0 (IR fid tm ps asg body D l .ready) ρ (putPs ps.toList vs fr0) [] none H { tmps:=tm1,defers:=[] } w :=
   ⟨fun _ _=>rfl,KX.refl _ _,Below.refl _ _,hs,hfr1,Dp _,⟨rfl,hl⟩,by simp⟩
  split at hyf
  ·rename_i fr1 ys1 p1 H1 he1;have key:asg.wpIn (FR (some l)) m P _ _ _:=b3w (r:=some l) (m:=m) hcs hG b0c b3y (b0d m) (b2d hcs hG b0c b3y b0d fuel) asg ρ w ρ _ [] none H _ w hda s0 (by grind);rw[he1] at key;refine Code.wpIn_mono ?_ key;rintro e a1 w1 ⟨rfl,ρ1,s1⟩;obtain⟨hds1,hl1⟩:=s1.inv;refine⟨_,run_beginRound hl1 rfl,?_⟩;have hl2:(w1.putObj l (.loop { a5r fid tm ps asg body D .ready none with state:=.busy })).heap[l]?=some (.loop (a5r fid tm ps asg body D .busy none)):=World.putObj_heap_same (g2y.1 hl1).1;generalize hw2:w1.putObj l (.loop { a5r fid tm ps asg body D .ready none with state:=.busy })=w2 at hl2 |-;have s2:StE B G n H1.next ρ1 w2 none 0 (IR fid tm ps asg body D l .busy) ρ1 fr1 ys1 p1 H1 a1 w2 :=
    ⟨fun _ _=>rfl,KX.refl _ _,Below.refl _ _,by rw[<- hw2];exact b9y s1.sim hl1 rfl,s1.frel,Dp _,⟨hds1,hl2⟩,s1.ysl⟩
   have fin:∀ {H2:Mem} {ρ2:Rn} {fr2:Fr} {ys2:List Nat} {q:Option J} {a2:Act} {w3:World} (j:Option J),StE B G n H1.next ρ1 w2 none 0 (IR fid tm ps asg body D l .busy) ρ2 fr2 ys2 q H2 a2 w3 ->
     ∃ v w4,(Instr.endRound l (j.map jcode)).run P w3=.ok v w4/\(Ending.returned v=.returned (.bool j.isNone)/\∃ ρ',(∀ a,a<H.next->ρ' a=ρ a)/\KX (some l) w w4/\Below B w w4/\Sim B G ρ' H2 w4/\H.next<=H2.next/\II n fr0 fid tm ps asg body D l ρ' j [] w4):=by
    intro H2 ρ2 fr2 ys2 q a2 w3 j s3;obtain⟨_,hl3⟩:=s3.inv;have hne:((j.map jcode).isNone)=j.isNone:=by grind
    refine⟨_,_,run_endRound _ hl3,by grind,ρ2,fun b hb=>?_,?_,?_,b9y s3.sim hl3 rfl,Ec s1.le s3.le,rfl,?_,?_⟩
    ·exact(s3.same b (Et hb s1.le)).trans (s1.same b hb)
    ·have k1:KX (some l) w w1:=⟨fun k o hk ho hx=>s1.keeps.1 k o hk ho (by simp),s1.keeps.2⟩;have k2:KX (some l) w1 w2:=by grind[d4s]
     have k3:KX (some l) w2 w3:=⟨fun k o hk ho hx=>s3.keeps.1 k o hk ho (by simp),s3.keeps.2⟩;exact((k1.trans k2).trans k3).trans d4s
    ·have k2:Below B w1 w2:=by grind[b9x]
     exact((s1.below.trans k2).trans s3.below).trans (b9x hB)
    ·exact hfr.mono (d4t hs fun b hb=>(s3.same b (Et hb s1.le)).trans (s1.same b hb))
    ·rw[World.putObj_heap_same (g2y.1 hl3).1];cases j<;>rfl
   split at hyf
   ·rename_i fr2 ys2 p2 H2 he2;cases hyf;have key2:body.wpIn (FR (some l)) m P _ _ _:=b3w (r:=some l) (m:=m) hcs hG b0c b3y (b0d m) (b2d hcs hG b0c b3y b0d fuel) body ρ1 w2 ρ1 _ _ _ H1 _ w2 hdb s2 (by grind);rw[he2] at key2;refine Code.wpIn_mono ?_ key2;rintro e a2 w3 ⟨rfl,ρ2,s3⟩;exact fin none s3
   ·rename_i j fr2 ys2 p2 H2 he2;cases hyf;have key2:body.wpIn (FR (some l)) m P _ _ _:=b3w (r:=some l) (m:=m) hcs hG b0c b3y (b0d m) (b2d hcs hG b0c b3y b0d fuel) body ρ1 w2 ρ1 _ _ _ H1 _ w2 hdb s2 (by grind);rw[he2] at key2;refine Code.wpIn_mono ?_ key2;rintro e a2 w3 ⟨rfl,ρ2,s3⟩
    cases j with
    | none=>exact fin (some none) s3
    | some id=>exact fin (some (some id)) s3
   grind
  grind
 grind
end Go.Ai
end
section
namespace Go.Ai
open Go.RowKit (Below)
variable {B G n n0 m l l1 lo:Nat} {P:Program} {ρ0 ρ:Rn} {w0 w:World} {x r:Option Nat} {I:Inv} {fr fr0:Fr} {ys:List Nat} {p:Option J} {H:Mem} {a:Act} {callf:CallF} {fid D:Nat} {tm:Array Value} {ps:Array Tmp} {asg body:Code} {fuel:Nat}
noncomputable def f6s (P:Program) (it:Func) (r:a1s) : b9u:=match r with
 | .norm fr _ p H=>(match a2p P it fr H with|some _=>.ok p H|none=>.bad)
 | .jump none fr _ p H=>(match a2p P it fr H with|some _=>.ok p H|none=>.bad)
 | _=>.bad
noncomputable def itE (P:Program) (callf:CallF) (fuel:Nat) (yf:YF) (f:FuncId) (cap:List AV) (H:Mem) : b9u:=match P.funcs[f]? with
 | some it=>(match it.body,Ap P f with
  | some c,true=>(match Bg it.ntmps c,Nat.ble (len cap+1) it.ntmps with
   | true,true=>f6s P it (Ch P callf yf rBad (a5q P callf yf rBad fuel) c (putArgs cap (Cv it.ntmps) 1) [0] none H)
   | _,_=>.bad)
  | _,_=>.bad)
 | none=>.bad
noncomputable def rfR (P:Program) (callf:CallF) (fuel n:Nat) : RF:=fun g ps asg body fr H=>match ps.toList.all (fun t=>Nat.blt t n),Bg n asg && Bg n body,fr.ev g with
 | true,true,some (.func (.func f) [] cap)=>itE P callf fuel (yfR P callf fuel ps asg body fr) f cap H
 | _,_,_=>.bad
def MKs (lo:Nat) : List Deferred->World->Prop
 | [],_=>True
 | d :: ds,w=>∃ D,d.target=.collected D/\lo<=D/\w.heap[D]?=some (.deferred (some []))/\(∀ d'∈ds,d'.target≠.collected D)/\MKs lo ds w
theorem MKs.keep {w w': World} (hk:∀ D:Nat,w.heap[D]?=some (Obj.deferred (some []))->w'.heap[D]?=some (Obj.deferred (some []))) : ∀ {ds:List Deferred},MKs lo ds w->MKs lo ds w'
 | [],_=>trivial
 | _ :: _,⟨D,h1,h2,h3,h4,h5⟩=>⟨D,h1,h2,hk D h3,h4,MKs.keep hk h5⟩
theorem MKs.keepBut {w w': World} {E:Nat} (hk:∀ D,D≠E->w'.heap[D]?=w.heap[D]?) : ∀ {ds:List Deferred},(∀ d'∈ds,d'.target≠.collected E)->MKs lo ds w->MKs lo ds w'
 | [],_,_=>trivial
 | d :: _,hE,⟨D,h1,h2,h3,h4,h5⟩=>⟨D,h1,h2,by grind,h4,MKs.keepBut hk (fun d' h=>hE d' (by grind)) h5⟩
theorem MKs.lt {w:World} : ∀ {ds:List Deferred},MKs lo ds w->∀ d'∈ds,d'.target≠.collected w.heap.size
 | d :: ds,⟨D,h1,h2,h3,h4,h5⟩,d',hd=>by
  rcases Dz.1 hd with rfl|hd
  ·rw[h1];intro e;cases e;have:=(g2y.1 h3).1;omega
  ·exact MKs.lt h5 d' hd
def Iv0 (lo:Nat) : Inv:=fun _ p ds w=>p=none/\lo<=w.heap.size/\MKs lo ds w
theorem IO_ok:b0a (Iv0 lo):=fun _ _ _ _ _ _ h hk hz _=>⟨h.1,Ec h.2.1 hz,h.2.2.keep fun D hD=>hk.1 D _ hD rfl⟩
theorem f6t {cap:List AV} {cs:Array Value} {yv:Value} (hv:VRs ρ cap cs.toList) (hle:cap.length+1<=n) :
  a1a n ρ (putArgs cap (Cv n) 1) { tmps:=#[yv]++cs++Array.replicate (n-(#[yv]++cs).size) undef,defers:=[] } /\
  (∀ t,t∈[0]->t<n/\(putArgs cap (Cv n) 1).get t=none/\(#[yv]++cs++Array.replicate (n-(#[yv]++cs).size) undef).getD t undef=yv):=by
 have hsz:cs.size=cap.length:=by have:=hv.length;grind
 have hget:∀ t v,(putArgs cap (Cv n) 1).get t=some v->1<=t/\cap[t-1]?=some v:=by
  intro t v h;rcases putArgs_get _ _ _ _ _ h with h1|h1
  all_goals grind[c8w]
 refine⟨⟨?_,?_,by grind,?_⟩,?_⟩
 ·intro t v h _;obtain⟨h1,h2⟩:=hget t v h;obtain⟨u,hu,hvu⟩:=hv.get (t-1) h2
  (simp_all;grind)
 ·rw[putArgs_defers,c8x];rfl
 ·grind
 ·intro t ht;have:t=0:=by grind
  subst this;refine⟨by omega,?_,?_⟩
  ·cases hg:(putArgs cap (Cv n) 1).get 0 with
   | none=>rfl
   | some v=>grind
  simp[Array.getElem?_append_left]
theorem d4v (hcs:∀ B,Be B G P callf) (hG:G=P.globals.size) (m:Nat) : ROK B G n n0 P none none l1 m (Iv0 lo) (rfR P callf fuel n):=by
 intro g ps asg body fr H j H' hrf ρ0 w0 ρ p a w s;unfold rfR at hrf;split at hrf
 ·rename_i f cap hps hds hev;simp only[Ds] at hds;have hps' : ∀ t∈ps.toList,t<n:=fun t ht=>Dq (Eb.1 hps t ht);obtain⟨f',c',hu,h1,h2⟩:=s.ev _ _ hev;have hf' : f'=#[]:=by grind[VRs]
  subst hf';unfold itE at hrf;split at hrf
  ·rename_i it hit;split at hrf
   ·rename_i c hbd hbody;split at hrf
    ·rename_i hdst hlen;have hlen' : cap.length+1<=it.ntmps:=by simp_all[a0t]
     refine wpIn_rangeFunc fun fn _=>?_;have hen:=run_enterLoop_outer (P:=P) (w:=w) fn a.tmps ps asg body;have hal:=World.alloc_heap_new (w.alloc (.deferred (some []))) (.loop { state:=.ready,pending:=none,fn:=fn,tmps:=a.tmps,params:=ps,assign:=asg,body:=body,defers:=w.heap.size });rw[World.size_alloc] at hal;generalize hl0:w.heap.size+1=l at hen hal;generalize hw1:(w.alloc (.deferred (some []))).alloc (.loop { state:=.ready,pending:=none,fn:=fn,tmps:=a.tmps,params:=ps,assign:=asg,body:=body,defers:=w.heap.size })=w1 at hen hal;refine⟨l,_,w1,{ target:=.fn (.func f) c',args:=#[.func (.yield l) #[] #[]] },w1,f,#[.func (.yield l) #[] #[]]++c',w1,hen,?_,fun _ _=>trivial,?_,fun h=>(by cases h),?_⟩
     ·have hcst:∀ v:Value,a.eval (.const v)=v:=fun _=>rfl;simp_all[Deferred.ofValue,resolve]
     ·exact c2h hbody _ _
     ·
      have hsz1:w1.heap.size=w.heap.size+2:=by rw[<- hw1];simp
      have hdrw:w.drawn<=w1.drawn:=by rw[<- hw1];simp
      have hold:∀ k,k<w.heap.size->w1.heap[k]?=w.heap[k]?:=by
       grind[Below.heap_alloc]
      have hD:w1.heap[w.heap.size]?=some (.deferred (some [])):=by
       grind[World.alloc_heap_new,Below.heap_alloc]
      have hl:w1.heap[l]?=some (.loop (a5r fn a.tmps ps asg body w.heap.size .ready none)):=hal;have hbw:Below B w w1:=by
       rw[<- hw1];exact((Below.refl B w).alloc s.sim.base _).alloc (by simp;have:=s.sim.base;omega) _
      have hsim1:Sim B G ρ H w1:=s.sim.other (by omega) fun a x b o k hx hr=>hold b (by
       rcases s.sim.blk a x hx with h|⟨b',o',k',h,hb⟩
       ·grind
       ·rw[hr] at h;cases h;exact hb.lt)
      obtain⟨hf1,hf2⟩:=f6t (yv:=.func (.yield l) #[] #[]) h2 hlen';have hB:B<=l:=by have:=s.sim.base;omega
      have s1:StE B G it.ntmps H.next ρ w1 (some l) l (II n fr fn a.tmps ps asg body w.heap.size l) ρ (putArgs cap (Cv it.ntmps) 1) [0] none H { tmps:=#[Value.func (.yield l) #[] #[]]++c'++Array.replicate (it.ntmps-(#[Value.func (.yield l) #[] #[]]++c').size) undef,defers:=[] } w1 :=
       ⟨fun _ _=>rfl,KX.refl _ _,Below.refl _ _,hsim1,hf1,Dp _,⟨rfl,s.frel,hl⟩,hf2⟩
      have hne:Ch P callf (yfR P callf fuel ps asg body fr) rBad (a5q P callf (yfR P callf fuel ps asg body fr) rBad fuel) c (putArgs cap (Cv it.ntmps) 1) [0] none H≠.bad:=fun e=>by rw[e] at hrf;cases hrf
      have key:=b3w (r:=none) (x:=some l) (l:=l) (m:=m-1) (I:=II n fr fn a.tmps ps asg body w.heap.size l) hcs hG (d4u hcs hG hB hps' hds.1 hds.2) II_ok (b0d _) (b2d hcs hG (d4u hcs hG hB hps' hds.1 hds.2) II_ok b0d fuel) c ρ w1 ρ _ [0] none H _ w1 hdst s1 hne;have fin:∀ {fr2:Fr} {ys2:List Nat} {p2:Option J} {H2:Mem} {ρ2:Rn} {a2:Act} {w3:World},StE B G it.ntmps H.next ρ w1 (some l) l (II n fr fn a.tmps ps asg body w.heap.size l) ρ2 fr2 ys2 p2 H2 a2 w3 ->
        (match a2p P it fr2 H2 with|some _=>b9u.ok p2 H2|none=>.bad)=.ok j H'->a2.defers=[]/\∃ v,(results it a2.tmps).run P w3=.ok v w3 /\
         rangePost (FR none) m P l (a4u B G n n0 ρ0 w0 none l1 (Iv0 lo) (d4l j fr p H')) { a with defers:=[{ target:=.collected w.heap.size,args:=#[] }]++a.defers } (.returned v) w3:=by
       intro fr2 ys2 p2 H2 ρ2 a2 w3 s3 hres;split at hres
       ·rename_i v hv;cases hres;obtain⟨hd3,hfr3,hl3⟩:=s3.inv;obtain⟨u,hu1,hu2⟩:=b3f s3.st hG hv;refine⟨hd3,u,hu1,_,_,run_endLoop hl3 (by cases j<;>simp[a5r,b3x]),?_⟩;have hkd:KD w (w3.putObj l (.loop { a5r fn a.tmps ps asg body w.heap.size (b3x j) (j.map jcode) with state:=.exhausted })):=by
         refine⟨fun k o hk ho=>?_,Ec hdrw s3.keeps.2⟩;have hlt:=(g2y.1 hk).1;rw[World.putObj_heap_other (by omega)];exact s3.keeps.1 k o (by grind) ho (by grind)
        have hsame:∀ a,a<H.next->ρ2 a=ρ a:=s3.same;have s4:StE B G n n0 ρ0 w0 none l1 (Iv0 lo) ρ2 fr [] p H' { a with defers:=[{ target:=.collected w.heap.size,args:=#[] }]++a.defers } (w3.putObj l (.loop { a5r fn a.tmps ps asg body w.heap.size (b3x j) (j.map jcode) with state:=.exhausted })):=by
         refine⟨fun b hb=>(hsame b (Et hb s.le)).trans (s.same b hb),s.keeps.trans hkd.kx,((s.below.trans hbw).trans s3.below).trans (b9x hB),b9y s3.sim hl3 rfl,s.frel.mono (d4t s.sim hsame),Ec s.le s3.le,?_,by simp⟩;obtain⟨i1,i2,i3⟩:=s.inv;have hz3:=s3.below.size;refine⟨i1,by simp;omega,w.heap.size,rfl,i2,?_,i3.lt,i3.keep fun D hD=>hkd.1 D _ hD rfl⟩;rw[World.putObj_heap_other (by omega)];exact s3.keeps.1 _ _ hD rfl (by grind)
        cases j with
        | none=>exact⟨rfl,ρ2,s4⟩
        | some j =>
         cases j with
         | none=>exact wpIn_ret ⟨rfl,ρ2,s4⟩
         | some id=>exact wpIn_exit ⟨rfl,ρ2,s4⟩
       grind
      refine callsIn_of_wp hit hbd trivial (Code.wpIn_mono ?_ key);intro e a2 w3 h;generalize Ch P callf (yfR P callf fuel ps asg body fr) rBad (a5q P callf (yfR P callf fuel ps asg body fr) rBad fuel) c (putArgs cap (Cv it.ntmps) 1) [0] none H=o at h hrf
      cases o with
      | norm fr2 ys2 p2 H2=>obtain⟨rfl,ρ2,s3⟩:=h;exact fin s3 hrf
      | jump jj fr2 ys2 p2 H2 =>
       cases jj with
       | none=>obtain⟨rfl,ρ2,s3⟩:=h;exact fin s3 hrf
       | some id=>cases hrf
      | bad=>cases hrf
    grind
   grind
  grind
 grind
end Go.Ai
end
section
namespace Go.Ai
open Go.RowKit (Below)
variable {B G n n0 m l l1 lo:Nat} {P:Program} {ρ0 ρ:Rn} {w0 w wb:World} {x r:Option Nat} {I:Inv} {fr fr0:Fr} {ys:List Nat} {p:Option J} {H:Mem} {a:Act} {callf:CallF} {fuel:Nat}
theorem d4w {fn:Func} {tmps:Array Value} {R:Ending->World->Prop} (hB:B<=lo) (hlo:wb.heap.size<=lo)
  (hR:∀ w',Sim B G ρ H w'->KD wb w'->Below B wb w'->∃ v,(results fn tmps).run P w'=.ok v w'/\R (.returned v) w') :
  ∀ (ds:List Deferred) (w:World),MKs lo ds w->Sim B G ρ H w->KD wb w->Below B wb w->LeavesInM (FR none) m P fn tmps R ds .returning w
 | [],w,_,h1,h2,h3=>hR w h1 h2 h3
 | d :: ds,w,⟨D,k1,k2,k3,k4,k5⟩,h1,h2,h3=>by
  refine⟨by simp,.inl ⟨D,_,k1,run_takeDeferred k3,d4w hB hlo hR ds _ (k5.keepBut (fun E hE=>World.putObj_heap_other hE) k4) (b9y h1 k3 rfl) ?_ (h3.trans (b9x (Ec hB k2)))⟩⟩;refine⟨fun k o hk ho=>?_,h2.2⟩;have:=(g2y.1 hk).1;rw[World.putObj_heap_other (by omega)];exact h2.1 k o hk ho
noncomputable def endE (P:Program) (fn:Func) (r:a1s) : Az:=match r with
 | .norm fr _ _ H=>(match a2p P fn fr H with|some v=>.ret v H|none=>.bad)
 | .jump none fr _ _ H=>(match a2p P fn fr H with|some v=>.ret v H|none=>.bad)
 | _=>.bad
noncomputable def d4x (P:Program) (callf:CallF) (fuel:Nat) (fn:Func) (c:Code) (args:List AV) (H:Mem) : Az:=match Bg fn.ntmps c,Nat.ble (len args) fn.ntmps with
 | true,true=>endE P fn (b4y args (Cv fn.ntmps) fun fr=>Ch P callf yBad (rfR P callf fuel fn.ntmps) (a5q P callf yBad (rfR P callf fuel fn.ntmps) fuel) c fr [] none H)
 | _,_=>.bad
noncomputable def c5r (P:Program) (callf:CallF) (fuel:Nat) (f:FuncId) (args:List AV) (H:Mem) : Az:=match P.funcs[f]? with
 | some fn=>(match fn.body with
  | some c=>d4x P callf fuel fn c args H
  | none=>.bad)
 | none=>.bad
theorem f6u (hcs:∀ B,Be B G P callf) (hG:G=P.globals.size) : Be B G P (c5r P callf fuel):=by
 intro f args H hne ρ us w hs hv;unfold c5r at hne |-;split at hne
 ·rename_i fn hfn;split at hne
  ·rename_i c hb;unfold d4x at hne |-;split at hne
   ·rename_i hdst hlen;rw[c2q] at hne |-;have hfe:=c2r (n:=fn.ntmps) hv (by simp_all[a0t]);have s1:StE B G fn.ntmps H.next ρ w none 0 (Iv0 w.heap.size) ρ (putArgs args (Cv fn.ntmps) 0) [] none H { tmps:=us++Array.replicate (fn.ntmps-us.size) undef,defers:=[] } w :=
     ⟨fun _ _=>rfl,KX.refl _ _,Below.refl _ _,hs,hfe,Dp _,⟨rfl,Dp _,trivial⟩,by simp⟩
    have hr:Ch P callf yBad (rfR P callf fuel fn.ntmps) (a5q P callf yBad (rfR P callf fuel fn.ntmps) fuel) c (putArgs args (Cv fn.ntmps) 0) [] none H≠.bad:=fun h0=>hne (by rw[h0];rfl);have key:=b3w (r:=none) (x:=none) (l:=0) (m:=0) (I:=Iv0 w.heap.size) hcs hG b0c IO_ok (d4v hcs hG 0) (b2d hcs hG b0c IO_ok (d4v hcs hG) fuel) c ρ w ρ _ [] none H _ w hdst s1 hr;refine f6j (r:=none) (m:=0) (callsIn_of_wp_marks hfn hb trivial (Code.wpIn_mono ?_ key));intro e a' w' h;generalize Ch P callf yBad (rfR P callf fuel fn.ntmps) (a5q P callf yBad (rfR P callf fuel fn.ntmps) fuel) c (putArgs args (Cv fn.ntmps) 0) [] none H=o at h hne |-;have fin:∀ {fr2:Fr} {ys2:List Nat} {p2:Option J} {H2:Mem} {ρ2:Rn},StE B G fn.ntmps H.next ρ w none 0 (Iv0 w.heap.size) ρ2 fr2 ys2 p2 H2 a' w' ->
      (match a2p P fn fr2 H2 with|some v=>Az.ret v H2|none=>.bad)≠.bad->LeavesInM (FR none) 0 P fn a'.tmps (b1j B G H.next ρ w (match a2p P fn fr2 H2 with|some v=>Az.ret v H2|none=>.bad)) a'.defers .returning w':=by
     intro fr2 ys2 p2 H2 ρ2 s2 hn;split at hn
     ·rename_i v hv2;obtain⟨_,_,i3⟩:=s2.inv;refine d4w (wb:=w) (lo:=w.heap.size) (ρ:=ρ2) (H:=H2) hs.base (Dp _) (fun w4 g1 g2 g3=>?_) a'.defers w' i3 s2.sim s2.keeps.kd s2.below;obtain⟨u,hu1,hu2⟩:=b3f (⟨Ext.refl _ _ _ _,g1,s2.frel,Dp _⟩ : St B G fn.ntmps H2.next ρ2 w4 ρ2 fr2 H2 (Act.bare a') w4) hG hv2;exact⟨u,hu1,ρ2,⟨s2.same,g2,g3⟩,g1,hu2,s2.le⟩
     grind
    cases o with
    | norm fr2 ys2 p2 H2=>obtain⟨rfl,ρ2,s2⟩:=h;exact fin s2 hne
    | jump jj fr2 ys2 p2 H2 =>
     cases jj with
     | none=>obtain⟨rfl,ρ2,s2⟩:=h;exact fin s2 hne
     | some id=>exact absurd rfl hne
    | bad=>exact absurd rfl hne
   grind
  grind
 grind
def hasRange:Code->Bool
 | .seq a b=>hasRange a || hasRange b
 | .cond _ a b=>hasRange a || hasRange b
 | .block _ b=>hasRange b
 | .loop b=>hasRange b
 | .scope b=>hasRange b
 | .rangeFunc _ _ _ _=>true
 | _=>false
noncomputable def c5s (P:Program) (use:FuncId->Code->Bool) (callf:CallF) (loopf:LoopF) (fuel:Nat) (f:FuncId) (args:List AV) (H:Mem) : Az:=match P.funcs[f]? with
 | some fn=>(match fn.body with
  | some c=>(match use f c with
   | true=>c5r P callf fuel f args H
   | false=>c4s P callf loopf f args H)
  | none=>.bad)
 | none=>.bad
theorem f6v {use:FuncId->Code->Bool} {callf:CallF} {loopf:LoopF} (hcs:∀ B,Be B G P callf) (hl:a5l B G P loopf) (hG:G=P.globals.size) : Be B G P (c5s P use callf loopf fuel):=by
 intro f args H hne;unfold c5s at hne |-;split at hne
 ·split at hne
  ·split at hne
   ·exact f6u hcs hG f args H hne
   ·exact f3f hcs hl hG f args H hne
  grind
 grind
noncomputable def c5t (P:Program) (use:FuncId->Code->Bool) (O:CallF) (n:Nat) : CallF×LoopF :=
 Nat.rec (motive:=fun _=>CallF×LoopF) (fun _ _ _=>.bad,fun _ _ _=>.bad) (fun k ih=>(orC O (c5s P use ih.1 ih.2 k),a0n P ih.1 ih.2)) n
noncomputable def b0e (P:Program) (O:CallF) (n:Nat) : CallF:=(c5t P (fun _ c=>hasRange c) O n).1
theorem d4y {use:FuncId->Code->Bool} {O:CallF} (hO:∀ B,Be B G P O) (hG:G=P.globals.size) : ∀ n,(∀ B,Be B G P (c5t P use O n).1)/\∀ B,a5l B G P (c5t P use O n).2
 | 0=>⟨fun B f args H hne=>absurd rfl hne,fun B b n n0 ρ0 w0 ρ fr H a w hd s hne=>absurd rfl hne⟩
 | m+1=>by
  obtain⟨hc,hl⟩:=d4y hO hG m;refine⟨fun B=>f2r (hO B) (f6v hc (hl B) hG),fun B b n n0 ρ0 w0 ρ fr H a w hd s hne=>?_⟩;exact d3j (hl B) (d3k hc (hl B) hG b) n n0 ρ0 w0 ρ fr H a w hd s hne
theorem b2e {O:CallF} (hO:∀ B,Be B G P O) (hG:G=P.globals.size) (fuel:Nat) : ∀ B,Be B G P (b0e P O fuel):=(d4y hO hG fuel).1
end Go.Ai
end
section
namespace Go.Ai
open Go.Proofs Go.Shelf Go.Sort
open Go.RowKit (Below)
set_option maxRecDepth 10000
def froz (R:Nat) (g:Gb) : Gb:=fun a=>if a=R then none else match g a with
 | some (.cells l _ z)=>some (.cells l false z)
 | _=>none
theorem c5u {R a:Nat} {g:Gb} {x:Blk} (h:froz R g a=some x) : a≠R/\∃ l own z,g a=some (.cells l own z)/\x=.cells l false z:=by
 grind[froz]
theorem f6w {R a:Nat} {g:Gb} {l:List AV} {own:Bool} {z:Nat} (hne:a≠R) (h:g a=some (.cells l own z)) : froz R g a=some (.cells l false z):=by
 simp_all[froz]
theorem f6x {W w': World} (hB:Below W.heap.size W w') (hd:W.drawn<=w'.drawn) : ∃ q os',w'=grow (W.drewN q) os':=by
 refine⟨w'.drawn-W.drawn,w'.heap.extract W.heap.size w'.heap.size,?_⟩;obtain⟨h1,h2,h3,h4,h5⟩:=hB
 cases w' with
 | mk heap tape drawn os output =>
  cases W with
  | mk heap' tape' drawn' os' output' =>
   have e1:os=os':=h1;have e2:tape=tape':=h2;have e3:output=output':=h3;have h4' : heap'.size<=heap.size:=h4;have h5' : ∀ k,k<heap'.size->heap[k]?=heap'[k]?:=h5;have e4:drawn=drawn'+(drawn-drawn'):=by grind
   have e5:heap=heap'++heap.extract heap'.size heap.size:=by
    grind
   subst e1 e2 e3;show World.mk heap tape drawn os output=World.mk (heap'++heap.extract heap'.size heap.size) tape (drawn'+(drawn-drawn')) os output;grind
theorem b9z {k:Nat} : ∀ (its:List (List AV)),(∀ x∈its,x.length=k)->∀ (i:Nat) (hi:i<its.length) (t:Nat),t<k->its.flatten[i*k+t]?=(its[i])[t]?
 | [],_,i,hi,_,_=>by grind
 | x :: its,h,0,_,t,ht=>by
  grind
 | x :: its,h,i+1,hi,t,ht=>by
  have hx:=h x (by simp);rw[g4z,Eu (by rw[hx,g2u];omega),hx,show (i+1)*k+t-k=i*k+t by rw[g2u];omega];simpa using b9z its (fun y hy=>h y (by simp[hy])) i (by simpa using hi) t ht
theorem c0a {k:Nat} : ∀ (its:List (List AV)),(∀ x∈its,x.length=k)->its.flatten.length=its.length*k
 | [],_=>by simp
 | x :: its,h=>by
  rw[g4z,Dr,h x (by simp),c0a its fun y hy=>h y (by simp[hy]),Ek,g2u];omega
theorem c0b {α:Type} [Inhabited α] {enc:α->List Value} {k:Nat} {w:World} {b off m j:Nat} {dk:Array α} {os:Array Obj} (hj:j<w.heap.size) (hne:j≠b) : (sortWorldK enc k w b off m dk os).heap[j]?=w.heap[j]?:=by
 show ((w.heap.modify b _)++os)[j]?=_;grind
theorem f6y {α:Type} [Inhabited α] {enc:α->List Value} {k:Nat} {w:World} {b off m:Nat} {dk:Array α} {os:Array Obj} {c:Array Value} {e:TypeId} {fz:Nat×Nat} (hb:w.heap[b]?=some (.cells c e fz)) : (sortWorldK enc k w b off m dk os).heap[b]?=some (.cells (putCells id off (flatK enc k dk) c) e fz):=by
 have hlt:=(g2y.1 hb).1;show ((w.heap.modify b _)++os)[b]?=_;rw[Array.getElem?_append,if_pos (by grind),Array.getElem?_modify,if_pos rfl,hb];rfl
theorem c5v {α:Type} [Inhabited α] {enc:α->List Value} {k:Nat} {w:World} {b off m:Nat} {dk:Array α} {os:Array Obj} : (sortWorldK enc k w b off m dk os).heap.size=w.heap.size+os.size:=by
 show ((w.heap.modify b _)++os).size=_;simp
end Go.Ai
end
section
namespace Go.Ai
open Go.Proofs Go.Shelf Go.Sort
open Go.RowKit (Below)
set_option maxRecDepth 10000
theorem f6z {B G:Nat} {ρ:Rn} {g:Gb} {n:Nat} {w W:World} (s:Sim B G ρ ⟨.fn g,n⟩ w) {R:Nat} {l:List AV} {z b o kk:Nat} (hg:g R=some (.cells l true z)) (hr:ρ R=some (b,o,kk)) (hW:∀ j,j<w.heap.size->j≠b->W.heap[j]?=w.heap[j]?) (hsz:w.heap.size<=W.heap.size) : Sim W.heap.size G ρ ⟨.fn (froz R g),n⟩ W:=by
 refine⟨fun a x hx=>?_,fun a a' x x' b1 o1 k1 o2 k2 h1 h2 hne hown=>?_,fun a ha=>s.fresh a ha,fun a x ha hx=>?_,s.names,Dp _⟩
 ·obtain⟨hne,l1,own,z1,h1,rfl⟩:=c5u hx;rcases s.blk a _ h1 with h|⟨b1,o1,k1,h2,h3⟩
  ·grind
  ·refine .inr ⟨b1,o1,k1,h2,?_⟩;have hb:b1≠b:=by
    rintro rfl;exact s.inj R a _ _ b1 o kk o1 k1 hg h1 (Ne.symm hne) rfl hr h2
   have hlt:=h3.lt;obtain⟨c,e,fz,e1,e2,_⟩:=h3;exact⟨c,e,fz,(hW _ hlt hb).trans e1,e2,fun h=>by cases h⟩
 ·obtain⟨_,l1,own,z1,_,rfl⟩:=c5u h1;cases hown
 ·obtain⟨_,l1,own,z1,h1,_⟩:=c5u hx;exact s.glob a _ ha h1
theorem allOne_mem:∀ {l:List AV} {x:AV},allOne l=true->x∈l->oneC x=true
 | y :: l,x,h,hx=>by
  have h' : (match oneC y with|true=>allOne l|false=>false)=true:=h
  cases hy:oneC y with
  | false=>grind
  | true =>
   rw[hy] at h';rcases Dz.1 hx with rfl|hx
   ·exact hy
   ·exact allOne_mem h' hx
theorem WC.sortK {G:Nat} {P:Program} {R:Ren} (L:SlLaysF0.n6 P R) (k:Nat) (hk0:0<k) (aE:∀ w,(isAgg (R.t 24)).run P w=.ok true w) (zE:∀ w,(Go.sizeOf (R.t 24)).run P w=.ok k w) (c:FuncId) (ec:∀ args w,(callFunc c args).run P w=.ok (.enter c args) w)
  {its:List (List AV)} (h1:∀ x∈its,x.length=k/\allOne x=true) (cf:Nat->Nat->Int) (hO:SWO (ltOf cf)) {g:Gb} {n Bn z:Nat} (hg:g Bn=some (.cells its.flatten true z)) {sv:AV} (hsv:(∃ cp,sv=.sl Bn 0 its.length cp)\/∃ d,sv=.slq Bn 0 its.length d) (hpos:0<its.length) (hlen:its.length<1000000)
  (hcmp:∀ (i j:Nat) (hi:i<its.length) (hj:j<its.length),WC G P c [.agg its[i],.agg its[j]] ⟨.fn (froz Bn g),n⟩ fun r=>∃ g' n',r=.ret (.li (cf i j)) ⟨.fn g',n'⟩) :
  WC G P (R.f 6) [sv,.lit (.func (.func c) #[] #[])] ⟨.fn g,n⟩ fun r=>∃ is:List Nat,is.Perm (List.range its.length)/\(∀ (i j:Nat) (_:i<j) (hj:j<is.length),¬ cf is[j] (is[i]'(by omega))<0)/\r=.ret (.tup []) ⟨.fn (Aj g Bn (some (.cells (is.map fun i=>its.getD i []).flatten true z))),n⟩:=by
 intro B ρ us w s v;obtain⟨u1,us1,e1,hv1,u2,us2,e2,hv2,e3⟩:=v;subst e3 e2;have hus:us=#[u1,u2]:=Array.toList_inj.1 (by simpa using e1);subst hus;have hv2:u2=.func (.func c) #[] #[]:=hv2;subst hv2;obtain⟨b,o,kk,cap,hr,rfl⟩ : ∃ b o kk cap,ρ Bn=some (b,o,kk)/\u1=.slice (some ⟨b,o,none⟩) its.length cap:=by
  rcases hsv with⟨cp,rfl⟩|⟨d,rfl⟩
  ·obtain⟨b,o,kk,hr,_,e⟩:=hv1;grind
  ·obtain⟨b,o,kk,hr,_,e⟩:=hv1;grind
 have hBR:=s.at (H:=⟨.fn g,n⟩) hg hr;obtain⟨c0,e,fz,hb,hc,hown⟩:=hBR;obtain⟨hBb,hfr,hsz0,hz0⟩:=hown rfl;have hlt:=(g2y.1 hb).1;have hfl:=c0a its fun x hx=>(h1 x hx).1;have hcell:∀ (i:Nat) (hi:i<its.length) (t:Nat) (ht:t<k),∃ u,c0[o+(i*k+t)]?=some u/\u.oneCell=true/\∀ v,(its[i])[t]?=some v->VR ρ v u:=by
  intro i hi t ht;have h2:=h1 _ (Dt hi);have h3:=b9z its (fun x hx=>(h1 x hx).1) i hi t ht;grind[c8y,allOne_mem]
 obtain⟨m,hm⟩ : ∃ m,its.length=m:=⟨_,rfl⟩;rw[hm] at hpos hlen hfl |-;clear hv1 e1
 haveI:Inhabited (Fin m):=⟨⟨0,hpos⟩⟩
 let enc:Fin m->List Value:=fun i=>(List.range k).map fun t=>c0[o+(i.val*k+t)]!
 have henc:∀ i:Fin m,(enc i).length=k:=fun i=>by simp[enc]
 have henct:∀ (i:Fin m) (t:Nat),t<k->((enc i)[t]!)=c0[o+(i.val*k+t)]!:=fun i t ht=>by simp[enc,ht]
 have hget:∀ {j:Nat} {u:Value},c0[j]?=some u->(c0[j]!)=u:=fun {j u} h=>by
  grind
 let d:Array (Fin m):=Array.ofFn fun i=>i
 have hds:d.size=m:=by simp[d]
 have hdi:∀ i (hi:i<m),(d[i]!)=⟨i,hi⟩:=fun i hi=>by simp[d,hi]
 have hone1:∀ x:Fin m,∀ v∈enc x,v.oneCell'=true:=by
  intro x v hv;obtain⟨t,ht,rfl⟩:=Ei.1 hv;obtain⟨u,q1,q2,_⟩:=hcell x.val (by rw[hm];exact x.isLt) t (g4l.1 ht);rw[hget q1,c9a];exact q2
 have hH:HoldsK enc k w b o d:=by
  intro j hj;rw[size_flatK,hds] at hj;have hjm:j / k<m:=Nat.div_lt_of_lt_mul (by rw[g5w];exact hj);have hjk:j % k<k:=Es _ hk0;obtain⟨u,q1,_,_⟩:=hcell (j / k) (by rw[hm];exact hjm) (j % k) hjk;have hjj:j / k*k+j % k=j:=by rw[g5w];exact Nat.div_add_mod j k
  rw[hjj] at q1;rw[get_flatK _ _ _ _ (by rw[hds];exact hj),hdi _ hjm,henct _ _ hjk,hjj,hget q1];grind[c9b,b7s]
 let cfF:Fin m->Fin m->Int:=fun x y=>cf x.val y.val
 have hOF:SWO (ltOf cfF):=⟨fun x=>hO.irrefl x.val,fun x y z=>hO.trans x.val y.val z.val,fun x y z=>hO.ntrans x.val y.val z.val⟩;have hvrs:∀ x:Fin m,VRs ρ (its[x.val]'(by grind)) (enc x):=by
  intro x;refine VRs.of_get (by grind) fun t v hv=>?_;grind
 have hC:CmpLays P c #[] enc k cfF b o d.size w:=by
  intro m2 os dk hdk x y;have hsW:=f6z s hg hr (W:=sortWorldK enc k w b o m2 dk os) (fun j hj hne=>c0b hj hne) (by simp[c5v]);have hcall:=hcmp x.val y.val (by grind) (by grind) _ ρ #[.agg (enc x).toArray,.agg (enc y).toArray] _ hsW ⟨_,_,rfl,⟨_,rfl,by simpa using hvrs x⟩,_,_,rfl,⟨_,rfl,by simpa using hvrs y⟩,rfl⟩;refine Calls.mono (by assumption) ?_;rintro e w' ⟨r,⟨g',n',rfl⟩,hcp⟩
  cases e with
  | returned u =>
   obtain⟨ρ',q1,q2,q3,q4⟩:=hcp;refine⟨?_,f6x q1.below q1.keeps.2⟩;have:u=_:=q3;rw[this]
  | _=>exact hcp.elim
 have hmain:=AnyQ.slices_SortFunc L k aE zE enc henc hone1 cfF hOF c #[] b o cap d w ec hC hH hlt (by rw[hds];omega);rw[hds] at hmain;refine hmain.mono ?_;rintro e' w' ⟨rfl,d',n2,os,hp,hsrt,rfl⟩;have hds' : d'.size=m:=by rw[hp.1,hds]
 have hperm:d'.toList.Perm d.toList:=by
  have:=hp.2.2
  rwa [show d'.extract 0 m=d' from (congrArg (fun z=>d'.extract 0 z) hds'.symm).trans Array.extract_size,show d.extract 0 m=d from (congrArg (fun z=>d.extract 0 z) hds.symm).trans Array.extract_size] at this
 have hdl:d.toList.map Fin.val=List.range m:=by
  apply List.ext_getElem
  ·simp[d]
  ·intro i h2 h3;simp[d]
 have hil:(d'.toList.map Fin.val).length=m:=by simp[hds']
 have hisq:∀ q (hq:q<m),(d'.toList.map Fin.val)[q]'(by rw[hil];exact hq)=(d'[q]!).val:=by
  intro q hq;simp[hds',hq]
 refine⟨_,⟨d'.toList.map Fin.val,hdl ▸ hperm.map _,fun i j hij hj=>?_,rfl⟩,?_⟩
 ·rw[hil] at hj;rw[hisq j hj,hisq i (by omega)];have:=hsrt i j (Du _) hij hj;grind[ltOf]
 ·have hnl:((d'.toList.map Fin.val).map fun i=>its.getD i []).flatten.length=m*k:=by
   rw[c0a (k:=k)]
   all_goals simp_all
  have hkd:KD w (sortWorldK enc k w b o n2 d' os):=⟨fun j ob hj ho=>by
   have hjl:=(g2y.1 hj).1;by_cases hjb:j=b
   ·subst hjb;rw[hb] at hj;cases hj;cases ho
   ·rw[c0b hjl hjb];exact hj,g5n _ _⟩
  have hbel:Below B w (sortWorldK enc k w b o n2 d' os):=⟨rfl,rfl,rfl,by simp[c5v],fun j hj=>c0b (Et hj s.base) (by omega)⟩;refine⟨ρ,⟨fun _ _=>rfl,hkd,hbel⟩,?_,⟨_,rfl,rfl⟩,Dp _⟩;refine Sim.set (H:=⟨.fn g,n⟩) s (x:=.cells its.flatten true z) (y:=.cells ((d'.toList.map Fin.val).map fun i=>its.getD i []).flatten true z) hg hr rfl rfl (by simp[c5v]) (fun j hne hj=>c0b hj hne) ?_;refine⟨_,e,fz,f6y hb,fun i v hv=>?_,fun _=>⟨hBb,fun j hj=>hfr j (by grind[putCells]),by simpa[putCells] using hsz0,?_⟩⟩
  ·have hi:i<m*k:=by
    grind
   have hq:i / k<m:=Nat.div_lt_of_lt_mul (by rw[g5w];exact hi);have ht:i % k<k:=Es _ hk0;have hjj:i / k*k+i % k=i:=by rw[g5w];exact Nat.div_add_mod i k
   obtain⟨u0,p1,_,_⟩:=hcell (i / k) (by rw[hm];exact hq) (i % k) ht;rw[hjj] at p1;obtain⟨u,q1,_,q3⟩:=hcell (d'[i / k]!).val (by rw[hm];exact(d'[i / k]!).isLt) (i % k) ht;refine⟨u,?_,q3 v ?_⟩
   ·unfold putCells;rw[Array.getElem?_mapIdx,p1,Option.map_some,if_pos ⟨by omega,by rw[size_flatK,hds'];omega⟩,Nat.add_sub_cancel_left,get_flatK _ _ _ _ (by rw[hds'];exact hi),henct _ _ ht,hget q1];rfl
   ·have h5:=b9z (k:=k) ((d'.toList.map Fin.val).map fun i=>its.getD i []) (fun x hx=>by
     obtain⟨i,hi,rfl⟩:=Ei.1 hx;obtain⟨q,_,rfl⟩:=Ei.1 hi;simp_all) (i / k) (by simp[hds'];exact hq) (i % k) ht
    simp_all
  grind
end Go.Ai
end

