/- A small verified interpreter over names, its proofs, and what was proved with it. No condition. -/
import Derived.RangeFuncRecord
import Derived.RangeFuncIn
import Derived.TacticsIn
import Derived.Shelf.SlSortCmp.WholeK
import Derived.Shelf.SlSortCmp.Whole1
import Derived.Test.YtpimmmnkcgnjjaaGreatN06
import Derived.Test.YtpimmmnkcgnjjaaGreatN05
set_option linter.all false
set_option linter.deprecated false
section
namespace Go.Ai
open Go.RowKit (Below)
abbrev J:=Option Nat
def jcode:J→Code
 | none=>.ret
 | some id=>.exit id
def jexit:J→Exit
 | none=>.ret
 | some id=>.exit id
inductive OutE where
 | norm (fr:Fr) (ys:List Nat) (p:Option J) (H:Mem)
 | jump (j:J) (fr:Fr) (ys:List Nat) (p:Option J) (H:Mem)
 | bad
inductive YOut where
 | ok (b:Bool) (p:Option J) (H:Mem)
 | bad
inductive ROut where
 | ok (j:Option J) (H:Mem)
 | bad
inductive KE where
 | mv
 | yl (args:Array Operand)
 | no
def kindE (o:Oper) (ys:List Nat) : KE:=match o.op with
 | .move (.tmp t)=>(match elemN t ys with | true=>.mv | false=>.no)
 | .call c=>(match c.callee with
  | .value (.tmp t)=>(match elemN t ys with | true=>.yl c.args | false=>.no)
  | _=>.no)
 | _=>.no
def noDfO (o:Oper) : Bool:=match o.op with | .defer _=>false | _=>true
def dropN (d:Nat) : List Nat→List Nat
 | []=>[]
 | t :: l=>match Nat.beq d t with | true=>dropN d l | false=>t :: dropN d l
def dropO (d:Option Tmp) (ys:List Nat) : List Nat:=match d with | none=>ys | some d=>dropN d ys
abbrev YF:=List AV→Mem→YOut
abbrev RF:=Operand→Array Tmp→Code→Code→Fr→Mem→ROut
abbrev KF:=Fr→List Nat→Option J→Mem→OutE
noncomputable def mvE (o:Oper) (fr:Fr) (ys:List Nat) (p:Option J) (H:Mem) (K:KF) : OutE:=match o.dst with
 | none=>.bad
 | some d=>match fr.get d with
  | none=>K fr (d :: ys) p H
  | some _=>.bad
noncomputable def ylE (yf:YF) (o:Oper) (args:Array Operand) (fr:Fr) (ys:List Nat) (p:Option J) (H:Mem) (K:KF) : OutE:=match p,evals fr.ev args.toList with
 | none,some vs=>match yf vs H with
  | .ok b p' H'=>K (fr.put o.dst (.lit (.bool b))) (dropO o.dst ys) p' H'
  | .bad=>.bad
 | _,_=>.bad
noncomputable def afE (callf:CallF) (o:Oper) (fr:Fr) (ys:List Nat) (p:Option J) (K:KF) (r:R) : OutE:=match r with
 | .val v H'=>K (fr.put o.dst v) (dropO o.dst ys) p H'
 | .skip H'=>K (fr.put o.dst (.lit undef)) (dropO o.dst ys) p H'
 | .enter f args H'=>match callf f args H' with
  | .ret v H''=>K (fr.put o.dst v) (dropO o.dst ys) p H''
  | _=>.bad
 | _=>.bad
noncomputable def opE (P:Program) (callf:CallF) (yf:YF) (o:Oper) (fr:Fr) (ys:List Nat) (p:Option J) (H:Mem) (K:KF) : OutE:=match kindE o ys with
 | .mv=>mvE o fr ys p H K
 | .yl args=>ylE yf o args fr ys p H K
 | .no=>match noDfO o with
  | true=>afE callf o fr ys p K (opV P H fr.ev o)
  | false=>.bad
noncomputable def wantE (ops:Array Oper) (o:Oper) (fr:Fr) : Option Bool:=match o.guard with
 | none=>some true
 | some g=>wantedG ops fr g
noncomputable def opsE (P:Program) (callf:CallF) (yf:YF) (ops:Array Oper) : List Oper→KF
 | [],fr,ys,p,H=>.norm fr ys p H
 | o :: l,fr,ys,p,H=>match wantE ops o fr with
  | some true=>opE P callf yf o fr ys p H (opsE P callf yf ops l)
  | some false=>opsE P callf yf ops l (fr.put o.dst (.lit undef)) (dropO o.dst ys) p H
  | none=>.bad
def thenE (r:OutE) (k:KF) : OutE:=match r with
 | .norm fr ys p H=>k fr ys p H
 | r=>r
def blockE (id:Nat) (r:OutE) : OutE:=match r with
 | .jump (some id') fr ys p H=>(match Nat.beq id' id with | true=>.norm fr ys p H | false=>.jump (some id') fr ys p H)
 | r=>r
abbrev LFE:=Code→KF
noncomputable def drawE (P:Program) (callf:CallF) (ops:Array Oper) (fr:Fr) (ys:List Nat) (p:Option J) (H:Mem) : OutE:=match ys,ops.toList.all noDfO with
 | [],true=>(match drawnF P callf ops fr H with
  | .norm fr' H'=>(match fr'.defers with | []=>.norm fr' [] p H' | _=>.bad)
  | _=>.bad)
 | _,_=>.bad
noncomputable def execE (P:Program) (callf:CallF) (yf:YF) (rf:RF) (loopf:LFE) : Code→KF
 | .skip,fr,ys,p,H=>.norm fr ys p H
 | .region _ ops draw,fr,ys,p,H=>(match draw with | true=>drawE P callf ops fr ys p H | false=>opsE P callf yf ops ops.toList fr ys p H)
 | .seq a b,fr,ys,p,H=>thenE (execE P callf yf rf loopf a fr ys p H) (execE P callf yf rf loopf b)
 | .cond c a b,fr,ys,p,H=>(match fr.ev c with
  | some (.lit (.bool true))=>execE P callf yf rf loopf a fr ys p H
  | some (.lit (.bool false))=>execE P callf yf rf loopf b fr ys p H
  | _=>.bad)
 | .block id b,fr,ys,p,H=>blockE id (execE P callf yf rf loopf b fr ys p H)
 | .loop b,fr,ys,p,H=>thenE (execE P callf yf rf loopf b fr ys p H) (loopf b)
 | .rangeFunc g ps asg body,fr,ys,p,H=>(match ys with
  | []=>(match rf g ps asg body fr H with
   | .ok none H'=>.norm fr [] p H'
   | .ok (some j) H'=>.jump j fr [] p H'
   | .bad=>.bad)
  | _=>.bad)
 | .exit id,fr,ys,p,H=>.jump (some id) fr ys p H
 | .label _,fr,ys,p,H=>.norm fr ys p H
 | .ret,fr,ys,p,H=>.jump none fr ys p H
 | _,_,_,_,_=>.bad
noncomputable def loopE (P:Program) (callf:CallF) (yf:YF) (rf:RF) : Nat→LFE
 | 0=>fun _ _ _ _ _=>.bad
 | m+1=>fun b fr ys p H=>thenE (execE P callf yf rf (loopE P callf yf rf m) b fr ys p H) (loopE P callf yf rf m b)
def FR (r:Option Nat) : Fence:={ Fence.wide with round:=r }
theorem callsFR {r:Option Nat} {m:Nat} {P:Program} {f:FuncId} {args:Array Value} {w:World} {R:Ending→World→Prop} (h:Calls P f args w R) : CallsIn (FR r) m P f args w R:=(callsIn_wide (n:=m)).2 h
theorem callsOfFR {r:Option Nat} {m:Nat} {P:Program} {f:FuncId} {args:Array Value} {w:World} {R:Ending→World→Prop} (h:CallsIn (FR r) m P f args w R) : Calls P f args w R:=(callsIn_wide (n:=m)).1 h
def Act.bare (a:Act) : Act:={ a with defers:=[] }
theorem bare_put (a:Act) (d:Option Tmp) (v:Value) : Act.bare (a.put d v)=(Act.bare a).put d v:=by cases d <;> rfl
theorem bare_eval (a:Act) : (Act.bare a).eval=a.eval:=by funext x; cases x <;> rfl
def KX (x:Option Nat) (w w' : World) : Prop:=(∀ (k:Nat) (o:Obj),w.heap[k]?=some o→isMk o=true→x≠some k→w'.heap[k]?=some o)∧w.drawn≤w'.drawn
theorem KX.refl (x:Option Nat) (w:World) : KX x w w:=⟨fun _ _ h _ _=>h,Nat.le_refl _⟩
theorem KX.trans {x:Option Nat} {a b c:World} (h:KX x a b) (k:KX x b c) : KX x a c:=⟨fun i o hi ho hx=>k.1 i o (h.1 i o hi ho hx) ho hx,Nat.le_trans h.2 k.2⟩
theorem KD.kx {x:Option Nat} {w w' : World} (h:KD w w') : KX x w w':=⟨fun i o hi ho _=>h.1 i o hi ho,h.2⟩
theorem KX.kd {w w' : World} (h:KX none w w') : KD w w':=⟨fun i o hi ho=>h.1 i o hi ho (by simp),h.2⟩
theorem Sim.mark {B G:Nat} {ρ:Rn} {H:Mem} {w w' : World} {l:Nat} {ob:Obj} (s:Sim B G ρ H w) (hl:w.heap[l]?=some ob) (ho:isMk ob=true) (hw:∀ k,k≠l→w'.heap[k]?=w.heap[k]?) (hsz:w.heap.size≤w'.heap.size) : Sim B G ρ H w':=by
 refine s.other hsz fun a x b o k hx hr=>hw b fun e=>?_
 subst e
 rcases s.blk a x hx with h | ⟨b',o',k',h,hb⟩
 ·grind
 ·rw [hr] at h; cases h
  cases x with
  | cells l own z=>obtain ⟨c,e,fz,h1,_⟩:=hb; rw [hl] at h1; cases h1; cases ho
  | map es clock=>obtain ⟨es',h1,_⟩:=hb; rw [hl] at h1; cases h1; cases ho
  | siter s pos=>have h1:=hb.1; rw [hl] at h1; cases h1; cases ho
  | typ T l ex=>obtain ⟨_,_,c,h1,_⟩:=hb; rw [hl] at h1; cases h1; cases ho
abbrev Inv:=Rn→Option J→List Deferred→World→Prop
def InvOK (I:Inv) : Prop:=∀ ρ ρ' p ds w w',I ρ p ds w→KD w w'→w.heap.size≤w'.heap.size→Sub ρ ρ'→I ρ' p ds w'
structure StE (B G n n0:Nat) (ρ0:Rn) (w0:World) (x:Option Nat) (l:Nat) (I:Inv) (ρ:Rn) (fr:Fr) (ys:List Nat) (p:Option J) (H:Mem) (a:Act) (w:World) : Prop where
 same:∀ a,a < n0→ρ a=ρ0 a
 keeps:KX x w0 w
 below:Below B w0 w
 sim:Sim B G ρ H w
 frel:FRel n ρ fr (Act.bare a)
 le:n0≤H.next
 inv:I ρ p a.defers w
 ysl:∀ t,t∈ys→t < n∧fr.get t=none∧a.tmps.getD t undef=.func (.yield l) #[] #[]
def PostE (B G n n0:Nat) (ρ0:Rn) (w0:World) (x:Option Nat) (l:Nat) (I:Inv) (out:OutE) : Exit→Act→World→Prop:=fun e a' w'=>match out with
 | .norm fr ys p H=>e=.normal∧∃ ρ',StE B G n n0 ρ0 w0 x l I ρ' fr ys p H a' w'
 | .jump j fr ys p H=>e=jexit j∧∃ ρ',StE B G n n0 ρ0 w0 x l I ρ' fr ys p H a' w'
 | .bad=>False
def YOK (B G:Nat) (P:Program) (r x:Option Nat) (l m:Nat) (I:Inv) (yf:YF) : Prop:=∀ vs H b p' H',yf vs H=.ok b p' H'→∀ (ρ:Rn) (us:Array Value) (ds:List Deferred) (w:World),Sim B G ρ H w→VRs ρ vs us.toList→I ρ none ds w →
 ∃ f tm asg bd,(Instr.yield l us).run P w=.ok (.round l f tm asg bd) w ∧
  RoundIn (FR r) m P l f tm asg bd w fun e w'=>e=.returned (.bool b)∧∃ ρ',(∀ a,a < H.next→ρ' a=ρ a)∧KX x w w'∧Below B w w'∧Sim B G ρ' H' w'∧H.next≤H'.next∧I ρ' p' ds w'
def rOut (j:Option J) (fr:Fr) (p:Option J) (H:Mem) : OutE:=match j with | none=>.norm fr [] p H | some j=>.jump j fr [] p H
def ROK (B G n n0:Nat) (P:Program) (r x:Option Nat) (l m:Nat) (I:Inv) (rf:RF) : Prop:=∀ g ps asg body fr H j H',rf g ps asg body fr H=.ok j H' →
 ∀ (ρ0:Rn) (w0:World) (ρ:Rn) (p:Option J) (a:Act) (w:World),StE B G n n0 ρ0 w0 x l I ρ fr [] p H a w →
  (Code.rangeFunc g ps asg body).wpIn (FR r) m P (PostE B G n n0 ρ0 w0 x l I (rOut j fr p H')) a w
variable {B G n n0 m l:Nat} {P:Program} {ρ0 ρ:Rn} {w0 w:World} {x r:Option Nat} {I:Inv} {fr:Fr} {ys:List Nat} {p:Option J} {H:Mem} {a:Act}
theorem StE.st (s:StE B G n n0 ρ0 w0 x l I ρ fr ys p H a w) : St B G n H.next ρ w ρ fr H (Act.bare a) w:=⟨Ext.refl _ _ _ _,s.sim,s.frel,Nat.le_refl _⟩
theorem StE.ev (s:StE B G n n0 ρ0 w0 x l I ρ fr ys p H a w) : EvR ρ fr.ev a.eval:=by rw [← bare_eval]; exact s.st.ev
theorem mem_dropN {d t:Nat} : ∀ {l:List Nat},t∈dropN d l→t∈l∧t≠d
 | y :: l,h=>by
  unfold dropN at h
  split at h
  ·obtain ⟨h1,h2⟩:=mem_dropN h; exact ⟨by simp [h1],h2⟩
  ·rename_i hb
   rcases List.mem_cons.1 h with rfl | h
   ·refine ⟨by simp,fun e=>?_⟩
    simp_all
   ·obtain ⟨h1,h2⟩:=mem_dropN h; exact ⟨by simp [h1],h2⟩
theorem ysl_put {d:Option Tmp} {v:AV} {u yv:Value} (h:∀ t,t∈ys→t < n∧fr.get t=none∧a.tmps.getD t undef=yv) :
  ∀ t,t∈dropO d ys→t < n∧(fr.put d v).get t=none∧(a.put d u).tmps.getD t undef=yv:=by
 intro t ht
 cases d with
 | none=>exact h t ht
 | some d =>
  obtain ⟨h1,h2⟩:=mem_dropN ht
  obtain ⟨h3,h4,h5⟩:=h t h1
  refine ⟨h3,?_,?_⟩
  ·cases hg:(fr.put (some d) v).get t with
   | none=>rfl
   | some y =>
    rcases Fr.get_upd hg with ⟨rfl,_⟩ | ⟨_,hy⟩
    all_goals grind
  ·show (a.tmps.setIfInBounds d u).getD t undef=yv
   simp_all [Ne.symm]
theorem StE.step {ρ' : Rn} {H' : Mem} {w' : World} {v:AV} {u:Value} {d:Option Tmp} {p' : Option J} (s:StE B G n n0 ρ0 w0 x l I ρ fr ys p H a w) (h1:∀ a,a < H.next→ρ' a=ρ a) (h2:KX x w w') (h3:Below B w w') (hs:Sim B G ρ' H' w')
  (hv:VR ρ' v u) (hn:H.next≤H'.next) (hd:∀ t,d=some t→t < n) (hI:I ρ' p' a.defers w') : StE B G n n0 ρ0 w0 x l I ρ' (fr.put d v) (dropO d ys) p' H' (a.put d u) w':=by
 have hsub:Sub ρ ρ':=by
  intro a x hx
  rw [h1 a ?_]; · grind
  rcases Nat.lt_or_ge a H.next with k | k
  ·exact k
  ·rw [s.sim.fresh a k] at hx; grind
 refine ⟨fun b hb=>(h1 b (Nat.lt_of_lt_of_le hb s.le)).trans (s.same b hb),s.keeps.trans h2,s.below.trans h3,hs,?_,Nat.le_trans s.le hn,by grind [put_defers],ysl_put s.ysl⟩
 rw [bare_put]
 exact (s.frel.mono hsub).put hd hv
theorem elemN_of {i:Nat} : ∀ {l:List Nat},elemN i l=true→i∈l
 | j :: l,h=>by
  unfold elemN at h
  split at h
  ·rename_i hb; simp [Nat.eq_of_beq_eq_true hb]
  ·simp [elemN_of h]
theorem opE_sound {callf:CallF} {yf:YF} {ops:Array Oper} {o:Oper} {rest:List Oper} {K:KF} {out:OutE} (hc:CallOK B G P callf) (hG:G=P.globals.size) (hy:∀ m,YOK B G P r x l m I yf)
  (hI:InvOK I) (hdst:dstOk n o=true) (s:StE B G n n0 ρ0 w0 x l I ρ fr ys p H a w)
  (hk:∀ fr' ys' p' H' ρ' a' w',StE B G n n0 ρ0 w0 x l I ρ' fr' ys' p' H' a' w'→K fr' ys' p' H'=out→wpListIn (FR r) m P ops (PostE B G n n0 ρ0 w0 x l I out) rest a' w')
  (hout:opE P callf yf o fr ys p H K=out) (hne:out≠.bad) :
  o.wpIn (FR r) m P a w (wpListIn (FR r) m P ops (PostE B G n n0 ρ0 w0 x l I out) rest) (PostE B G n n0 ρ0 w0 x l I out):=by
 refine ⟨fun _ _=>trivial,?_⟩
 have hd:=dstOk_lt hdst
 unfold opE at hout
 split at hout
 ·
  rename_i hkd
  unfold kindE at hkd
  split at hkd
  ·rename_i t hop
   split at hkd
   ·rename_i ht
    obtain ⟨h1,h2,h3⟩:=s.ysl t (elemN_of ht)
    have hrun:(o.semAt (FR r).round a.eval).run P w=.ok (.value (.func (.yield l) #[] #[])) w:=by
     rw [Oper.semAt_eq _ _ _ (by grind)]
     have:a.eval (.tmp t)=.func (.yield l) #[] #[]:=h3
     simp_all [execOp]
    rw [hrun]
    show wpListIn _ _ _ _ _ _ (a.put o.dst _) w
    unfold mvE at hout
    split at hout
    ·grind
    ·rename_i d hdd
     split at hout
     ·rename_i hg
      refine hk fr (d :: ys) p H ρ _ w ⟨s.same,s.keeps,s.below,s.sim,?_,s.le,by rw [put_defers]; exact s.inv,?_⟩ hout
      ·rw [hdd]
       refine ⟨fun j v hj hjn=>?_,s.frel.dfr,?_,s.frel.only⟩
       ·have hjd:j≠d:=fun e=>by grind
        have:=s.frel.slot j v hj hjn
        show VR ρ v ((a.tmps.setIfInBounds d _).getD j undef)
        rw [Array.getD_eq_getD_getElem?,Array.getElem?_setIfInBounds_ne (Ne.symm hjd),← Array.getD_eq_getD_getElem?]
        exact this
       ·show n≤(a.tmps.setIfInBounds d _).size
        simp; exact s.frel.size
      ·intro j hj
       rw [hdd]
       have hdn:=hd d hdd
       have hsz:d < a.tmps.size:=Nat.lt_of_lt_of_le hdn s.frel.size
       by_cases hjd:j=d
       ·subst hjd
        refine ⟨hdn,hg,?_⟩
        show (a.tmps.setIfInBounds j _).getD j undef=_
        simp_all
       ·have hj' : j∈ys:=by grind
        obtain ⟨k1,k2,k3⟩:=s.ysl j hj'
        refine ⟨k1,k2,?_⟩
        show (a.tmps.setIfInBounds d _).getD j undef=_
        simp_all [Ne.symm]
     grind
   grind
  all_goals grind
 ·
  rename_i args hkd
  unfold kindE at hkd
  split at hkd
  ·grind
  ·rename_i c hop
   split at hkd
   ·rename_i t hcal
    split at hkd
    ·rename_i ht
     cases hkd
     obtain ⟨h1,h2,h3⟩:=s.ysl t (elemN_of ht)
     unfold ylE at hout
     split at hout
     ·rename_i vs hvs
      split at hout
      ·rename_i b p' H' hyf
       have hva:VRs ρ vs (c.args.map a.eval).toList:=by simpa using evals_VRs s.ev hvs
       obtain ⟨f,tm,asg,bd,hrun,hround⟩:=hy (m - 1) vs H b p' H' hyf ρ (c.args.map a.eval) a.defers w s.sim hva s.inv
       have hrun2:(o.semAt (FR r).round a.eval).run P w=.ok (.round l f tm asg bd) w:=by
        rw [Oper.semAt_eq _ _ _ (by grind)]
        have:a.eval (.tmp t)=.func (.yield l) #[] #[]:=h3
        grind [invoke,Deferred.ofValue,resolve,execOp]
       rw [hrun2,Oper.uponIn_round]
       refine ⟨fun h=>(by cases h),hround.mono fun e w' he=>?_⟩
       obtain ⟨rfl,ρ',g1,g2,g3,g4,g5,g6⟩:=he
       exact hk _ _ _ _ _ _ _ (s.step (v:=.lit (.bool b)) (u:=.bool b) g1 g2 g3 g4 rfl g5 hd g6) hout
      grind
     grind
    grind
   grind
  grind
 ·rename_i hkd
  split at hout
  ·rename_i hnd
   have hop:∀ c,o.op≠.defer c:=by
    grind [noDfO]
   rw [Oper.semAt_eq _ _ _ hop]
   have hrs:=opV_sound (o:=o) s.sim s.ev hG
   unfold afE at hout
   cases hr:opV P H fr.ev o with
   | val v H' =>
    rw [hr] at hrs hout
    obtain ⟨ρ',u,w',h1,h2,h3,h4,h5⟩:=hrs
    rw [h1]
    exact hk _ _ _ _ _ _ _ (s.step h2.same h2.keeps.kx h2.below h3 h4 h5 hd (hI _ _ _ _ _ _ s.inv h2.keeps h2.below.size (h2.sub s.sim))) hout
   | skip H' =>
    rw [hr] at hrs hout
    obtain ⟨ρ',w',h1,h2,h3,h5⟩:=hrs
    rw [h1]
    exact hk _ _ _ _ _ _ _ (s.step h2.same h2.keeps.kx h2.below h3 (undef_VR _) h5 hd (hI _ _ _ _ _ _ s.inv h2.keeps h2.below.size (h2.sub s.sim))) hout
   | enter f args H' =>
    rw [hr] at hrs hout
    obtain ⟨us,h1,h2,rfl⟩:=hrs
    rw [h1,Oper.uponIn_enter]
    refine ⟨fun h=>(by cases h),?_⟩
    cases hcall:callf f args H' with
    | ret v H2 =>
     dsimp only at hout
     rw [hcall] at hout
     have:=hc f args H' (by grind) ρ us w s.sim h2
     rw [hcall] at this
     refine (callsFR this).mono fun e w' he=>?_
     cases e with
     | returned u =>
      obtain ⟨ρ',g1,g2,g3,g4⟩:=he
      exact hk _ _ _ _ _ _ _ (s.step g1.same g1.keeps.kx g1.below g2 g3 g4 hd (hI _ _ _ _ _ _ s.inv g1.keeps g1.below.size (g1.sub s.sim))) hout
     | panicked chain=>exact he.elim
     | outgrown=>exact he.elim
    | panic v H2=>grind
    | bad=>grind
   | dfr fn cap args H'=>grind
   | recover=>grind
   | panic v H'=>grind
   | bad=>grind
  grind
theorem wantE_sound {ops:Array Oper} {o:Oper} {b:Bool} (s:StE B G n n0 ρ0 w0 x l I ρ fr ys p H a w) (h:wantE ops o fr=some b) : Region.wanted o (yielded ops a.tmps)=b:=by
 unfold wantE at h
 cases hg:o.guard with
 | none=>grind [Region.wanted]
 | some g=>rw [hg] at h; exact wantedG_sound (a:=Act.bare a) s.st hg h
theorem opsE_sound {callf:CallF} {yf:YF} {ops:Array Oper} (hc:CallOK B G P callf) (hG:G=P.globals.size) (hy:∀ m,YOK B G P r x l m I yf) (hI:InvOK I) {out:OutE} (hne:out≠.bad) :
  ∀ (li:List Oper) (fr:Fr) (ys:List Nat) (p:Option J) (H:Mem) (ρ:Rn) (a:Act) (w:World),(∀ o∈li,dstOk n o=true)→StE B G n n0 ρ0 w0 x l I ρ fr ys p H a w→opsE P callf yf ops li fr ys p H=out →
   wpListIn (FR r) m P ops (PostE B G n n0 ρ0 w0 x l I out) li a w
 | [],fr,ys,p,H,ρ,a,w,_,s,h=>by
  have h' : OutE.norm fr ys p H=out:=h
  subst h'
  exact wpListIn_nil ⟨rfl,ρ,s⟩
 | o :: li,fr,ys,p,H,ρ,a,w,hd,s,h=>by
  have hdo:=hd o (by simp)
  unfold opsE at h
  unfold wpListIn
  split at h
  ·rename_i hw
   rw [if_pos (wantE_sound s hw)]
   exact opE_sound hc hG hy hI hdo s (fun fr' ys' p' H' ρ' a' w' s' hk=>opsE_sound hc hG hy hI hne li fr' ys' p' H' ρ' a' w' (fun o ho=>hd o (by simp [ho])) s' hk) h hne
  ·rename_i hw
   rw [if_neg (by grind [wantE_sound])]
   exact ⟨fun _ _=>trivial,opsE_sound hc hG hy hI hne li _ _ _ _ ρ _ _ (fun o ho=>hd o (by grind)) (s.step (fun _ _=>rfl) (KX.refl _ _) (Below.refl _ _) s.sim (undef_VR _) (Nat.le_refl _) (dstOk_lt hdo) s.inv) h⟩
  grind
def Act.df (a:Act) (x:List Deferred) : Act:={ a with defers:=x }
theorem df_put (a:Act) (x:List Deferred) (d:Option Tmp) (v:Value) : (Act.df a x).put d v=Act.df (a.put d v) x:=by cases d <;> rfl
theorem df_eval (a:Act) (x:List Deferred) : (Act.df a x).eval=a.eval:=by rfl
theorem rowsFR {row:String} {args:Array Value} {w:World} {R:Value→World→Prop} (h:Rows P row args w R) : RowsIn (FR r) m P row args w R :=
 fun c cs _=>let ⟨v,w',hr,s⟩:=h c cs; ⟨v,w',hr,stepsIn_wide.2 s⟩
theorem opsIn_of {ops:Array Oper} {Q:Exit→Act→World→Prop} (hnd:ops.toList.all noDfO=true) (hQ:¬LetsOut Q) (D0:List Deferred) : ∀ (li:List Nat) (a:Act) (x:List Deferred) (w:World),a.defers=x++D0→wpOps P ops Q li (Act.df a x) w →
  wpOpsIn (FR r) m P ops (fun e a' w'=>∃ y,a'.defers=y++D0∧Q e (Act.df a' y) w') li a w
 | [],a,x,w,ha,h=>⟨x,ha,h⟩
 | i :: li,a,x,w,ha,h=>by
  unfold wpOps at h
  unfold wpOpsIn
  cases ho:ops[i]? with
  | none=>rw [ho] at h; exact opsIn_of hnd hQ D0 li a x w ha h
  | some o =>
   rw [ho] at h
   dsimp only at h ⊢
   have hno:=List.all_eq_true.1 hnd o (List.mem_of_getElem? (toList_at.2 ho))
   have hop:∀ c,o.op≠.defer c:=by
    grind [noDfO]
   have hdd:∀ d v,(a.put d v).defers=x++D0:=fun d v=>by grind [put_defers]
   split at h
   ·rename_i hw
    rw [if_pos (show Region.wanted o (yielded ops a.tmps)=true from hw)]
    rcases h with h | ⟨_,h2⟩
    ·refine ⟨fun _ _=>trivial,?_⟩
     rw [Oper.semAt_eq _ _ _ hop]
     unfold Oper.wp at h
     rw [df_eval] at h
     unfold Oper.upon at h
     split at h
     ·rename_i hr; rw [hr]; rw [df_put] at h; exact opsIn_of hnd hQ D0 li _ x _ (hdd _ _) h
     ·rename_i hr; rw [hr]; rw [df_put] at h; exact opsIn_of hnd hQ D0 li _ x _ (hdd _ _) h
     ·rename_i d w' hr
      rw [hr,Oper.uponIn_defer]
      refine opsIn_of hnd hQ D0 li _ (d :: x) _ (by grind [put_defers]) ?_
      have e:Act.df (({ a with defers:=d :: a.defers } : Act).put o.dst undef) (d :: x)=({ Act.df a x with defers:=d :: (Act.df a x).defers } : Act).put o.dst undef:=by
       cases o.dst <;> rfl
      grind
     ·rename_i f args w' hr
      rw [hr,Oper.uponIn_enter]
      refine ⟨fun h=>(by cases h),(callsFR h).mono fun e w2 he=>?_⟩
      cases e with
      | returned v=>dsimp only at he ⊢; rw [df_put] at he; exact opsIn_of hnd hQ D0 li _ x _ (hdd _ _) he
      | panicked c=>exact ⟨x,ha,he⟩
      | outgrown=>exact absurd he hQ
     ·rename_i row args w' hr
      rw [hr,Oper.uponIn_row]
      refine ⟨fun h=>(by cases h),(rowsFR h).mono fun v w2 he=>?_⟩
      rw [df_put] at he; exact opsIn_of hnd hQ D0 li _ x _ (hdd _ _) he
     ·rename_i v w' hr
      rw [hr]; exact ⟨x,ha,h⟩
     grind
    grind
   ·rename_i hw
    rw [if_neg (show ¬Region.wanted o (yielded ops a.tmps)=true from hw)]
    refine ⟨fun _ _=>trivial,opsIn_of hnd hQ D0 li _ x _ (hdd _ _) ?_⟩
    grind [df_put]
theorem uponIn_monoQ {o:Oper} {next next' : Act→World→Prop} {Q Q' : Exit→Act→World→Prop} (hn:∀ a w,next a w→next' a w) (hq:∀ e a w,Q e a w→Q' e a w) {F:Fence} {re:Result Next} (h:o.uponIn F m P a next Q re) : o.uponIn F m P a next' Q' re:=by
 have hl:LetsOut Q→LetsOut Q':=fun ⟨a,w,h⟩=>⟨a,w,hq _ _ _ h⟩
 unfold Oper.uponIn at h ⊢
 split at h
 ·grind
 ·grind
 ·grind
 ·refine ⟨h.1,h.2.mono fun e w' he=>?_⟩
  grind
 ·exact ⟨h.1,h.2.mono fun v w' he=>hn _ _ he⟩
 ·refine ⟨h.1,h.2.mono fun e w' he=>?_⟩
  grind
 all_goals grind
theorem wpOpsIn_monoQ {F:Fence} {ops:Array Oper} {Q Q' : Exit→Act→World→Prop} (hq:∀ e a w,Q e a w→Q' e a w) : ∀ (l:List Nat) (a:Act) (w:World),wpOpsIn F m P ops Q l a w→wpOpsIn F m P ops Q' l a w
 | [],a,w,h=>hq _ _ _ h
 | i :: l,a,w,h=>by
  unfold wpOpsIn at h ⊢
  cases ho:ops[i]? with
  | none=>rw [ho] at h; exact wpOpsIn_monoQ hq l a w h
  | some o =>
   rw [ho] at h
   dsimp only at h ⊢
   split at h
   ·rename_i hw
    rw [if_pos hw]
    exact ⟨h.1,uponIn_monoQ (wpOpsIn_monoQ hq l) hq h.2⟩
   ·rename_i hw
    rw [if_neg hw]
    exact ⟨h.1,wpOpsIn_monoQ hq l _ _ h.2⟩
theorem drawE_sound {callf:CallF} {ops:Array Oper} {id:Nat} (hcs:∀ B,CallOK B G P callf) (hG:G=P.globals.size) (hI:InvOK I) (hd:dstsOk n (.region id ops true)=true)
  (s:StE B G n n0 ρ0 w0 x l I ρ fr ys p H a w) (hne:drawE P callf ops fr ys p H≠.bad) : (Code.region id ops true).wpIn (FR r) m P (PostE B G n n0 ρ0 w0 x l I (drawE P callf ops fr ys p H)) a w:=by
 unfold drawE at hne ⊢
 split at hne
 ·rename_i hnd
  split at hne
  ·rename_i fr' H' hr
   split at hne
   case h_2=>grind
   rename_i hfd
   refine wpIn_region_draw fun t=>?_
   have hq:¬LetsOut (OutPost B G n H.next ρ w (drawnF P callf ops fr H)):=by
    rintro ⟨a',w',h⟩
    rw [hr] at h
    assumption
   have key:=opsIn_of (r:=r) (m:=m) hnd hq a.defers _ a [] _ rfl (drawnF_ops (id:=id) hcs hG s.st hd (by grind) t)
   refine wpOpsIn_monoQ ?_ _ _ _ key
   rintro e a' w' ⟨y,hy,h⟩
   rw [hr] at h
   cases e with
   | normal =>
    obtain ⟨ρ',s'⟩:=h
    have hy0:y=[]:=by
     have h1:DR ρ' fr'.defers y:=s'.frel.dfr
     rw [hfd] at h1; exact h1
    subst hy0
    refine ⟨rfl,ρ',fun b hb=>(s'.ext.same b (Nat.lt_of_lt_of_le hb s.le)).trans (s.same b hb),s.keeps.trans s'.ext.keeps.kx,s.below.trans s'.ext.below,s'.sim,s'.frel,Nat.le_trans s.le s'.le,?_,by simp⟩
    have hy' : a'.defers=a.defers:=by grind
    rw [hy']
    exact hI _ _ _ _ _ _ s.inv s'.ext.keeps s'.ext.below.size (s'.ext.sub s.sim)
   | _=>exact h.elim
  grind
 grind
end Go.Ai
end
section
namespace Go.Ai
open Go.RowKit (Below)
variable {B G n n0 m l:Nat} {P:Program} {ρ0 ρ:Rn} {w0 w:World} {x r:Option Nat} {I:Inv} {fr:Fr} {ys:List Nat} {p:Option J} {H:Mem} {a:Act}
def LWR (r:Option Nat) (P:Program) (c:Code) (Q:Exit→Act→World→Prop) (a:Act) (w:World) : Prop :=
 ∀ (b:Frame) (k:List Item) (cs:List Frame),b.roundOf=r→∃ e a' w',Q e a' w'∧ArrivesIn (Machine.fenced P (FR r)) P (lone (b.atR a (.code c :: .inLoop c :: k)) cs w) b k cs e a' w'
theorem room_FR (n:Nat) : (FR r).room n:=fun _ h=>by cases h
theorem fencedFR {b:Frame} {k:List Item} {cs:List Frame} (hr:b.roundOf=r) (ha:(b.atR a k).about P w=none) : (lone (b.atR a k) cs w).fenced P (FR r):=fenced_calm (n:=0) (F:=FR r) trivial (room_FR _) ha
theorem LWR.wp {c:Code} {Q:Exit→Act→World→Prop} (h:LWR r P c Q a w) : (Code.loop c).wpIn (FR r) m P Q a w :=
 fun b k cs hro _ _=>let ⟨e,a',w',q,s⟩:=h b k cs hro; ⟨e,a',w',q,.of_steps (.one (fencedFR hro rfl) stepR_loop) s⟩
theorem LWR.unroll {c:Code} {Q:Exit→Act→World→Prop} (h:c.wpIn (FR r) m P (Exit.then (LWR r P c Q) Q) a w) : LWR r P c Q a w:=by
 intro b k cs hro
 obtain ⟨e,a₁,w₁,hq,harr⟩:=h b (.inLoop c :: k) cs hro trivial (room_FR _)
 cases e with
 | normal =>
  obtain ⟨e₂,a₂,w₂,hq₂,harr₂⟩:=hq b k cs hro
  exact ⟨e₂,a₂,w₂,hq₂,.of_steps (StepsIn.trans harr (.one (fencedFR hro rfl) stepR_inLoop)) harr₂⟩
 | exit id=>exact ⟨_,a₁,w₁,hq,.pass (x:=.inLoop c) rfl (fun _ _=>.inl (by simp)) harr⟩
 | goto l=>exact ⟨_,a₁,w₁,hq,.pass (x:=.inLoop c) rfl (fun _ _=>.inl (by simp)) harr⟩
 | ret=>exact ⟨_,a₁,w₁,hq,.pass (x:=.inLoop c) rfl (fun _ _=>.inl (by simp)) harr⟩
 | panic ch=>exact ⟨_,a₁,w₁,hq,.pass (x:=.inLoop c) rfl (fun _ _=>.inl (by simp)) harr⟩
 | outgrown=>exact ⟨_,a₁,w₁,hq,.pass (x:=.inLoop c) rfl (fun _ _=>.inl (by simp)) harr⟩
def GoodE (B G n n0:Nat) (P:Program) (r x:Option Nat) (l m:Nat) (I:Inv) (ex:KF) (c:Code) : Prop :=
 ∀ (ρ0:Rn) (w0:World) (ρ:Rn) (fr:Fr) (ys:List Nat) (p:Option J) (H:Mem) (a:Act) (w:World),dstsOk n c=true→StE B G n n0 ρ0 w0 x l I ρ fr ys p H a w→ex fr ys p H≠.bad →
  c.wpIn (FR r) m P (PostE B G n n0 ρ0 w0 x l I (ex fr ys p H)) a w
def LoopE (B G n n0:Nat) (P:Program) (r x:Option Nat) (l:Nat) (I:Inv) (loopf:LFE) : Prop :=
 ∀ (b:Code) (ρ0:Rn) (w0:World) (ρ:Rn) (fr:Fr) (ys:List Nat) (p:Option J) (H:Mem) (a:Act) (w:World),dstsOk n b=true→StE B G n n0 ρ0 w0 x l I ρ fr ys p H a w→loopf b fr ys p H≠.bad →
  LWR r P b (PostE B G n n0 ρ0 w0 x l I (loopf b fr ys p H)) a w
theorem thenE_post {o:OutE} {k:KF} {K:Act→World→Prop} (hne:thenE o k≠.bad)
  (hk:∀ fr' ys' p' H' ρ' a' w',o=.norm fr' ys' p' H'→StE B G n n0 ρ0 w0 x l I ρ' fr' ys' p' H' a' w'→k fr' ys' p' H'≠.bad→K a' w') :
  ∀ e a' w',PostE B G n n0 ρ0 w0 x l I o e a' w'→Exit.then K (PostE B G n n0 ρ0 w0 x l I (thenE o k)) e a' w':=by
 intro e a' w' h
 cases o with
 | norm fr' ys' p' H'=>obtain ⟨rfl,ρ',s'⟩:=h; exact hk _ _ _ _ ρ' a' w' rfl s' hne
 | jump j fr' ys' p' H' =>
  have h0:=h
  obtain ⟨rfl,ρ',s'⟩:=h0
  cases j <;> exact h
 | bad=>exact absurd rfl hne
theorem good_loopE {callf:CallF} {yf:YF} {rf:RF} {loopf:LFE} {b:Code} (hl:LoopE B G n n0 P r x l I loopf) (hb:GoodE B G n n0 P r x l m I (execE P callf yf rf loopf b) b) (ρ0:Rn) (w0:World) (ρ:Rn) (fr:Fr) (ys:List Nat) (p:Option J) (H:Mem) (a:Act) (w:World)
  (hd:dstsOk n b=true) (s:StE B G n n0 ρ0 w0 x l I ρ fr ys p H a w) (hne:thenE (execE P callf yf rf loopf b fr ys p H) (loopf b)≠.bad) :
  LWR r P b (PostE B G n n0 ρ0 w0 x l I (thenE (execE P callf yf rf loopf b fr ys p H) (loopf b))) a w:=by
 have hr:execE P callf yf rf loopf b fr ys p H≠.bad:=fun h=>hne (by rw [h]; rfl)
 refine LWR.unroll (m:=m) (Code.wpIn_mono (thenE_post hne fun fr' ys' p' H' ρ' a' w' hr' s' hk=>?_) (hb ρ0 w0 ρ fr ys p H a w hd s hr))
 rw [hr']
 exact hl b ρ0 w0 ρ' fr' ys' p' H' a' w' hd s' hk
theorem execE_sound {callf:CallF} {yf:YF} {rf:RF} {loopf:LFE} (hcs:∀ B,CallOK B G P callf) (hG:G=P.globals.size) (hy:∀ m,YOK B G P r x l m I yf) (hI:InvOK I)
  (hrf:ROK B G n n0 P r x l m I rf) (hl:LoopE B G n n0 P r x l I loopf) : ∀ c:Code,GoodE B G n n0 P r x l m I (execE P callf yf rf loopf c) c:=by
 intro c
 induction c with
 | skip=>intro ρ0 w0 ρ fr ys p H a w hd s hne; exact wpIn_skip ⟨rfl,ρ,s⟩
 | region id ops draw =>
  intro ρ0 w0 ρ fr ys p H a w hd s hne
  cases draw with
  | false =>
   refine wpIn_region_list (opsE_sound (hcs B) hG hy hI hne ops.toList fr ys p H ρ a w ?_ s rfl)
   exact fun o ho=>List.all_eq_true.1 hd o ho
  | true=>exact drawE_sound hcs hG hI hd s hne
 | seq c1 c2 ih1 ih2 =>
  intro ρ0 w0 ρ fr ys p H a w hd s hne
  have he:execE P callf yf rf loopf (.seq c1 c2) fr ys p H=thenE (execE P callf yf rf loopf c1 fr ys p H) (execE P callf yf rf loopf c2):=rfl
  rw [he] at hne ⊢
  simp only [dstsOk,Bool.and_eq_true] at hd
  have hr:execE P callf yf rf loopf c1 fr ys p H≠.bad:=fun h=>hne (by rw [h]; rfl)
  refine wpIn_seq (Code.wpIn_mono (thenE_post hne fun fr' ys' p' H' ρ' a' w' hr' s' hk=>?_) (ih1 ρ0 w0 ρ fr ys p H a w hd.1 s hr))
  rw [hr']
  exact ih2 ρ0 w0 ρ' fr' ys' p' H' a' w' hd.2 s' hk
 | cond cnd c1 c2 ih1 ih2 =>
  intro ρ0 w0 ρ fr ys p H a w hd s hne
  simp only [dstsOk,Bool.and_eq_true] at hd
  have he:execE P callf yf rf loopf (.cond cnd c1 c2) fr ys p H=(match fr.ev cnd with
   | some (.lit (.bool true))=>execE P callf yf rf loopf c1 fr ys p H
   | some (.lit (.bool false))=>execE P callf yf rf loopf c2 fr ys p H
   | _=>.bad):=rfl
  rw [he] at hne ⊢
  split at hne
  ·rename_i hev
   exact wpIn_cond_true (s.ev _ _ hev) (ih1 ρ0 w0 ρ fr ys p H a w hd.1 s hne)
  ·rename_i hev
   exact wpIn_cond_false (s.ev _ _ hev) (ih2 ρ0 w0 ρ fr ys p H a w hd.2 s hne)
  grind
 | block id b ih =>
  intro ρ0 w0 ρ fr ys p H a w hd s hne
  have he:execE P callf yf rf loopf (.block id b) fr ys p H=blockE id (execE P callf yf rf loopf b fr ys p H):=rfl
  rw [he] at hne ⊢
  have hr:execE P callf yf rf loopf b fr ys p H≠.bad:=fun h=>hne (by rw [h]; rfl)
  refine wpIn_block (Code.wpIn_mono ?_ (ih ρ0 w0 ρ fr ys p H a w hd s hr))
  intro e a' w' h
  generalize execE P callf yf rf loopf b fr ys p H=o at h hne ⊢
  cases o with
  | norm fr' ys' p' H'=>obtain ⟨rfl,h'⟩:=h; exact ⟨rfl,h'⟩
  | jump j fr' ys' p' H' =>
   obtain ⟨rfl,ρ',s'⟩:=h
   cases j with
   | none=>exact ⟨rfl,ρ',s'⟩
   | some id2 =>
    unfold blockE
    dsimp only [jexit]
    split
    ·rename_i hb
     have:=Nat.eq_of_beq_eq_true hb
     subst this
     simp only [Exit.inBlock,if_true]
     exact ⟨rfl,ρ',s'⟩
    ·rename_i hb
     have hne2:id2≠id:=by intro h0; simp_all
     simp only [Exit.inBlock,hne2,if_false]
     exact ⟨rfl,ρ',s'⟩
  | bad=>exact absurd rfl hne
 | loop b ih =>
  intro ρ0 w0 ρ fr ys p H a w hd s hne
  exact (good_loopE hl ih ρ0 w0 ρ fr ys p H a w hd s hne).wp
 | rangeFunc g ps c1 c2 ih1 ih2 =>
  intro ρ0 w0 ρ fr ys p H a w hd s hne
  cases ys with
  | cons y ys=>exact absurd rfl hne
  | nil =>
   have he:execE P callf yf rf loopf (.rangeFunc g ps c1 c2) fr [] p H=(match rf g ps c1 c2 fr H with
    | .ok none H'=>.norm fr [] p H'
    | .ok (some j) H'=>.jump j fr [] p H'
    | .bad=>.bad):=rfl
   rw [he] at hne ⊢
   split at hne
   ·rename_i H' hrr; exact hrf _ _ _ _ _ _ _ _ hrr ρ0 w0 ρ p a w s
   ·rename_i j H' hrr; exact hrf _ _ _ _ _ _ _ _ hrr ρ0 w0 ρ p a w s
   grind
 | exit id=>intro ρ0 w0 ρ fr ys p H a w hd s hne; exact wpIn_exit ⟨rfl,ρ,s⟩
 | scope b ih=>intro ρ0 w0 ρ fr ys p H a w hd s hne; exact absurd rfl hne
 | label l=>intro ρ0 w0 ρ fr ys p H a w hd s hne; exact wpIn_label ⟨rfl,ρ,s⟩
 | goto l=>intro ρ0 w0 ρ fr ys p H a w hd s hne; exact absurd rfl hne
 | ret=>intro ρ0 w0 ρ fr ys p H a w hd s hne; exact wpIn_ret ⟨rfl,ρ,s⟩
 | refuse why=>intro ρ0 w0 ρ fr ys p H a w hd s hne; exact absurd rfl hne
theorem loopE_sound {callf:CallF} {yf:YF} {rf:RF} (hcs:∀ B,CallOK B G P callf) (hG:G=P.globals.size) (hy:∀ m,YOK B G P r x l m I yf) (hI:InvOK I)
  (hrf:∀ m,ROK B G n n0 P r x l m I rf) : ∀ k,LoopE B G n n0 P r x l I (loopE P callf yf rf k)
 | 0=>fun b ρ0 w0 ρ fr ys p H a w hd s hne=>absurd rfl hne
 | k+1=>fun b ρ0 w0 ρ fr ys p H a w hd s hne=>good_loopE (m:=0) (loopE_sound hcs hG hy hI hrf k) (execE_sound hcs hG hy hI (hrf 0) (loopE_sound hcs hG hy hI hrf k) b) ρ0 w0 ρ fr ys p H a w hd s hne
end Go.Ai
end
section
namespace Go.Ai
open Go.RowKit (Below)
variable {B G n n0 m l:Nat} {P:Program} {ρ0 ρ:Rn} {w0 w:World} {x r:Option Nat} {I:Inv} {fr fr0:Fr} {ys:List Nat} {p:Option J} {H:Mem} {a:Act} {callf:CallF} {fid D:Nat} {tm:Array Value} {ps:Array Tmp} {asg body:Code} {fuel:Nat}
theorem below_putObj {o:Obj} (hB:B≤l) : Below B w (w.putObj l o):=⟨rfl,rfl,rfl,by simp,fun k hk=>World.putObj_heap_other (by omega)⟩
theorem kx_putObj {o:Obj} : KX (some l) w (w.putObj l o):=⟨fun k ob hk ho hx=>by
 grind [World.putObj_heap_other],Nat.le_refl _⟩
theorem sim_putObj {o ob:Obj} (s:Sim B G ρ H w) (hl:w.heap[l]?=some ob) (ho:isMk ob=true) : Sim B G ρ H (w.putObj l o) :=
 s.mark hl ho (fun k hk=>World.putObj_heap_other hk) (by simp)
noncomputable def yBad:YF:=fun _ _=>.bad
noncomputable def rBad:RF:=fun _ _ _ _ _ _=>.bad
theorem yBad_ok (m:Nat) : YOK B G P r x l m I yBad:=fun _ _ _ _ _ h=>by cases h
theorem rBad_ok (m:Nat) : ROK B G n n0 P r x l m I rBad:=fun _ _ _ _ _ _ _ _ h=>by cases h
noncomputable def putPs:List Tmp→List AV→Fr→Fr
 | t :: ts,v :: vs,fr=>putPs ts vs (fr.upd t v)
 | _,_,fr=>fr
theorem putPs_ok:∀ {ps:List Tmp} {vs:List AV} {us:List Value} {fr:Fr} {tm:Array Value},(∀ t∈ps,t < n)→VRs ρ vs us→FRel n ρ fr { tmps:=tm,defers:=[] } →
  FRel n ρ (putPs ps vs fr) { tmps:=(ps.zip us).foldl (fun tmps (t,a)=>tmps.setIfInBounds t a) tm,defers:=[] }
 | [],vs,us,fr,tm,_,_,h=>by assumption
 | t :: ts,[],us,fr,tm,_,hv,h=>by cases hv; assumption
 | t :: ts,v :: vs,us,fr,tm,ht,hv,h=>by
  obtain ⟨u,us',rfl,h1,h2⟩:=hv
  have:=FRel.put (d:=some t) h (fun j hj=>by simp_all) h1
  exact putPs_ok (ps:=ts) (vs:=vs) (us:=us') (fr:=fr.upd t v) (tm:=tm.setIfInBounds t u) (fun j hj=>ht j (by grind)) h2 this
def recL (fid:FuncId) (tm:Array Value) (ps:Array Tmp) (asg body:Code) (D:Nat) (st:LoopState) (pd:Option Code) : Loop:={ state:=st,pending:=pd,fn:=fid,tmps:=tm,params:=ps,assign:=asg,body:=body,defers:=D }
def IR (fid:FuncId) (tm:Array Value) (ps:Array Tmp) (asg body:Code) (D l:Nat) (st:LoopState) : Inv:=fun _ _ ds w=>ds=[]∧w.heap[l]?=some (.loop (recL fid tm ps asg body D st none))
def stOf (p:Option J) : LoopState:=match p with | none=>.ready | some _=>.done
def II (n:Nat) (fr0:Fr) (fid:FuncId) (tm:Array Value) (ps:Array Tmp) (asg body:Code) (D l:Nat) : Inv:=fun ρ p ds w=>ds=[]∧FRel n ρ fr0 { tmps:=tm,defers:=[] }∧w.heap[l]?=some (.loop (recL fid tm ps asg body D (stOf p) (p.map jcode)))
theorem IR_ok {st:LoopState} : InvOK (IR fid tm ps asg body D l st):=fun _ _ _ _ _ _ h hk _ _=>⟨h.1,hk.1 _ _ h.2 rfl⟩
theorem II_ok:InvOK (II n fr0 fid tm ps asg body D l):=fun _ _ _ _ _ _ h hk _ hs=>⟨h.1,h.2.1.mono hs,hk.1 _ _ h.2.2 rfl⟩
noncomputable def yfR (P:Program) (callf:CallF) (fuel:Nat) (ps:Array Tmp) (asg body:Code) (fr0:Fr) : YF:=fun vs H=>match Nat.beq vs.length ps.size with
 | true=>(match execE P callf yBad rBad (loopE P callf yBad rBad fuel) asg (putPs ps.toList vs fr0) [] none H with
  | .norm fr1 ys1 p1 H1=>(match execE P callf yBad rBad (loopE P callf yBad rBad fuel) body fr1 ys1 p1 H1 with
   | .norm _ _ _ H2=>.ok true none H2
   | .jump j _ _ _ H2=>.ok false (some j) H2
   | .bad=>.bad)
  | _=>.bad)
 | false=>.bad
theorem subOf {ρ' : Rn} (s:Sim B G ρ H w) (h:∀ a,a < H.next→ρ' a=ρ a) : Sub ρ ρ':=by
 intro a y hy
 rw [h a ?_]; · grind
 rcases Nat.lt_or_ge a H.next with k | k
 ·exact k
 ·rw [s.fresh a k] at hy; grind
theorem yfR_ok (hcs:∀ B,CallOK B G P callf) (hG:G=P.globals.size) (hB:B≤l) (hps:∀ t∈ps.toList,t < n) (hda:dstsOk n asg=true) (hdb:dstsOk n body=true) (m:Nat) :
  YOK B G P none (some l) l m (II n fr0 fid tm ps asg body D l) (yfR P callf fuel ps asg body fr0):=by
 intro vs H b p' H' hyf ρ us ds w hs hv hI
 obtain ⟨rfl,hfr,hl⟩:=hI
 unfold yfR at hyf
 split at hyf
 ·rename_i hlen
  have hlen':=Nat.eq_of_beq_eq_true hlen
  have hsz:us.size=ps.size:=by have:=hv.length; grind
  refine ⟨fid,_,asg,body,run_yield hl hsz,roundIn_of_wpIn trivial ?_⟩
  generalize htm:((recL fid tm ps asg body D (stOf none) (Option.map jcode none)).params.zip us).foldl (fun tmps (t,a)=>tmps.setIfInBounds t a) (recL fid tm ps asg body D (stOf none) (Option.map jcode none)).tmps=tm1
  have hfr1:FRel n ρ (putPs ps.toList vs fr0) { tmps:=tm1,defers:=[] }:=by
   have:=putPs_ok hps hv hfr
   rw [← htm]
   show FRel n ρ (putPs ps.toList vs fr0) { tmps:=(ps.zip us).foldl (fun tmps (t,a)=>tmps.setIfInBounds t a) tm,defers:=[] }
   grind [Array.toList_zip]
  have s0:StE B G n H.next ρ w none 0 (IR fid tm ps asg body D l .ready) ρ (putPs ps.toList vs fr0) [] none H { tmps:=tm1,defers:=[] } w :=
   ⟨fun _ _=>rfl,KX.refl _ _,Below.refl _ _,hs,hfr1,Nat.le_refl _,⟨rfl,hl⟩,by simp⟩
  split at hyf
  ·rename_i fr1 ys1 p1 H1 he1
   have key:asg.wpIn (FR (some l)) m P _ _ _:=execE_sound (r:=some l) (m:=m) hcs hG yBad_ok IR_ok (rBad_ok m) (loopE_sound hcs hG yBad_ok IR_ok rBad_ok fuel) asg ρ w ρ _ [] none H _ w hda s0 (by grind)
   rw [he1] at key
   refine Code.wpIn_mono ?_ key
   rintro e a1 w1 ⟨rfl,ρ1,s1⟩
   obtain ⟨hds1,hl1⟩:=s1.inv
   refine ⟨_,run_beginRound hl1 rfl,?_⟩
   have hl2:(w1.putObj l (.loop { recL fid tm ps asg body D .ready none with state:=.busy })).heap[l]?=some (.loop (recL fid tm ps asg body D .busy none)):=World.putObj_heap_same (Array.getElem?_eq_some_iff.1 hl1).1
   generalize hw2:w1.putObj l (.loop { recL fid tm ps asg body D .ready none with state:=.busy })=w2 at hl2 ⊢
   have s2:StE B G n H1.next ρ1 w2 none 0 (IR fid tm ps asg body D l .busy) ρ1 fr1 ys1 p1 H1 a1 w2 :=
    ⟨fun _ _=>rfl,KX.refl _ _,Below.refl _ _,by rw [← hw2]; exact sim_putObj s1.sim hl1 rfl,s1.frel,Nat.le_refl _,⟨hds1,hl2⟩,s1.ysl⟩
   have fin:∀ {H2:Mem} {ρ2:Rn} {fr2:Fr} {ys2:List Nat} {q:Option J} {a2:Act} {w3:World} (j:Option J),StE B G n H1.next ρ1 w2 none 0 (IR fid tm ps asg body D l .busy) ρ2 fr2 ys2 q H2 a2 w3 →
     ∃ v w4,(Instr.endRound l (j.map jcode)).run P w3=.ok v w4∧(Ending.returned v=.returned (.bool j.isNone)∧∃ ρ',(∀ a,a < H.next→ρ' a=ρ a)∧KX (some l) w w4∧Below B w w4∧Sim B G ρ' H2 w4∧H.next≤H2.next∧II n fr0 fid tm ps asg body D l ρ' j [] w4):=by
    intro H2 ρ2 fr2 ys2 q a2 w3 j s3
    obtain ⟨_,hl3⟩:=s3.inv
    have hne:((j.map jcode).isNone)=j.isNone:=by grind
    refine ⟨_,_,run_endRound _ hl3,by grind,ρ2,fun b hb=>?_,?_,?_,sim_putObj s3.sim hl3 rfl,Nat.le_trans s1.le s3.le,rfl,?_,?_⟩
    ·exact (s3.same b (Nat.lt_of_lt_of_le hb s1.le)).trans (s1.same b hb)
    ·have k1:KX (some l) w w1:=⟨fun k o hk ho hx=>s1.keeps.1 k o hk ho (by simp),s1.keeps.2⟩
     have k2:KX (some l) w1 w2:=by grind [kx_putObj]
     have k3:KX (some l) w2 w3:=⟨fun k o hk ho hx=>s3.keeps.1 k o hk ho (by simp),s3.keeps.2⟩
     exact ((k1.trans k2).trans k3).trans kx_putObj
    ·have k2:Below B w1 w2:=by grind [below_putObj]
     exact ((s1.below.trans k2).trans s3.below).trans (below_putObj hB)
    ·exact hfr.mono (subOf hs fun b hb=>(s3.same b (Nat.lt_of_lt_of_le hb s1.le)).trans (s1.same b hb))
    ·rw [World.putObj_heap_same (Array.getElem?_eq_some_iff.1 hl3).1]
     cases j <;> rfl
   split at hyf
   ·rename_i fr2 ys2 p2 H2 he2
    cases hyf
    have key2:body.wpIn (FR (some l)) m P _ _ _:=execE_sound (r:=some l) (m:=m) hcs hG yBad_ok IR_ok (rBad_ok m) (loopE_sound hcs hG yBad_ok IR_ok rBad_ok fuel) body ρ1 w2 ρ1 _ _ _ H1 _ w2 hdb s2 (by grind)
    rw [he2] at key2
    refine Code.wpIn_mono ?_ key2
    rintro e a2 w3 ⟨rfl,ρ2,s3⟩
    exact fin none s3
   ·rename_i j fr2 ys2 p2 H2 he2
    cases hyf
    have key2:body.wpIn (FR (some l)) m P _ _ _:=execE_sound (r:=some l) (m:=m) hcs hG yBad_ok IR_ok (rBad_ok m) (loopE_sound hcs hG yBad_ok IR_ok rBad_ok fuel) body ρ1 w2 ρ1 _ _ _ H1 _ w2 hdb s2 (by grind)
    rw [he2] at key2
    refine Code.wpIn_mono ?_ key2
    rintro e a2 w3 ⟨rfl,ρ2,s3⟩
    cases j with
    | none=>exact fin (some none) s3
    | some id=>exact fin (some (some id)) s3
   grind
  grind
 grind
end Go.Ai
end
section
namespace Go.Ai
open Go.RowKit (Below)
variable {B G n n0 m l l1 lo:Nat} {P:Program} {ρ0 ρ:Rn} {w0 w:World} {x r:Option Nat} {I:Inv} {fr fr0:Fr} {ys:List Nat} {p:Option J} {H:Mem} {a:Act} {callf:CallF} {fid D:Nat} {tm:Array Value} {ps:Array Tmp} {asg body:Code} {fuel:Nat}
noncomputable def itEnd (P:Program) (it:Func) (r:OutE) : ROut:=match r with
 | .norm fr _ p H=>(match resultsA P it fr H with | some _=>.ok p H | none=>.bad)
 | .jump none fr _ p H=>(match resultsA P it fr H with | some _=>.ok p H | none=>.bad)
 | _=>.bad
noncomputable def itE (P:Program) (callf:CallF) (fuel:Nat) (yf:YF) (f:FuncId) (cap:List AV) (H:Mem) : ROut:=match P.funcs[f]? with
 | some it=>(match it.body,hasBody P f with
  | some c,true=>(match dstsOk it.ntmps c,Nat.ble (len cap+1) it.ntmps with
   | true,true=>itEnd P it (execE P callf yf rBad (loopE P callf yf rBad fuel) c (putArgs cap (frame0 it.ntmps) 1) [0] none H)
   | _,_=>.bad)
  | _,_=>.bad)
 | none=>.bad
noncomputable def rfR (P:Program) (callf:CallF) (fuel n:Nat) : RF:=fun g ps asg body fr H=>match ps.toList.all (fun t=>Nat.blt t n),dstsOk n asg && dstsOk n body,fr.ev g with
 | true,true,some (.func (.func f) [] cap)=>itE P callf fuel (yfR P callf fuel ps asg body fr) f cap H
 | _,_,_=>.bad
def MKs (lo:Nat) : List Deferred→World→Prop
 | [],_=>True
 | d :: ds,w=>∃ D,d.target=.collected D∧lo≤D∧w.heap[D]?=some (.deferred (some []))∧(∀ d'∈ds,d'.target≠.collected D)∧MKs lo ds w
theorem MKs.keep {w w' : World} (hk:∀ D:Nat,w.heap[D]?=some (Obj.deferred (some []))→w'.heap[D]?=some (Obj.deferred (some []))) : ∀ {ds:List Deferred},MKs lo ds w→MKs lo ds w'
 | [],_=>trivial
 | _ :: _,⟨D,h1,h2,h3,h4,h5⟩=>⟨D,h1,h2,hk D h3,h4,MKs.keep hk h5⟩
theorem MKs.keepBut {w w' : World} {E:Nat} (hk:∀ D,D≠E→w'.heap[D]?=w.heap[D]?) : ∀ {ds:List Deferred},(∀ d'∈ds,d'.target≠.collected E)→MKs lo ds w→MKs lo ds w'
 | [],_,_=>trivial
 | d :: _,hE,⟨D,h1,h2,h3,h4,h5⟩=>⟨D,h1,h2,by grind,h4,MKs.keepBut hk (fun d' h=>hE d' (by grind)) h5⟩
theorem MKs.lt {w:World} : ∀ {ds:List Deferred},MKs lo ds w→∀ d'∈ds,d'.target≠.collected w.heap.size
 | d :: ds,⟨D,h1,h2,h3,h4,h5⟩,d',hd=>by
  rcases List.mem_cons.1 hd with rfl | hd
  ·rw [h1]
   intro e
   cases e
   have:=(Array.getElem?_eq_some_iff.1 h3).1
   omega
  ·exact MKs.lt h5 d' hd
def Iv0 (lo:Nat) : Inv:=fun _ p ds w=>p=none∧lo≤w.heap.size∧MKs lo ds w
theorem IO_ok:InvOK (Iv0 lo):=fun _ _ _ _ _ _ h hk hz _=>⟨h.1,Nat.le_trans h.2.1 hz,h.2.2.keep fun D hD=>hk.1 D _ hD rfl⟩
theorem frame_it {cap:List AV} {cs:Array Value} {yv:Value} (hv:VRs ρ cap cs.toList) (hle:cap.length+1≤n) :
  FRel n ρ (putArgs cap (frame0 n) 1) { tmps:=#[yv]++cs++Array.replicate (n - (#[yv]++cs).size) undef,defers:=[] } ∧
  (∀ t,t∈[0]→t < n∧(putArgs cap (frame0 n) 1).get t=none∧(#[yv]++cs++Array.replicate (n - (#[yv]++cs).size) undef).getD t undef=yv):=by
 have hsz:cs.size=cap.length:=by have:=hv.length; grind
 have hget:∀ t v,(putArgs cap (frame0 n) 1).get t=some v→1≤t∧cap[t - 1]?=some v:=by
  intro t v h
  rcases putArgs_get _ _ _ _ _ h with h1 | h1
  all_goals grind [get_frame0]
 refine ⟨⟨?_,?_,by grind,?_⟩,?_⟩
 ·intro t v h _
  obtain ⟨h1,h2⟩:=hget t v h
  obtain ⟨u,hu,hvu⟩:=hv.get (t - 1) h2
  (simp_all; grind)
 ·rw [putArgs_defers,defers_frame0]; rfl
 ·grind
 ·intro t ht
  have:t=0:=by grind
  subst this
  refine ⟨by omega,?_,?_⟩
  ·cases hg:(putArgs cap (frame0 n) 1).get 0 with
   | none=>rfl
   | some v=>grind
  simp [Array.getElem?_append_left]
theorem rfR_ok (hcs:∀ B,CallOK B G P callf) (hG:G=P.globals.size) (m:Nat) : ROK B G n n0 P none none l1 m (Iv0 lo) (rfR P callf fuel n):=by
 intro g ps asg body fr H j H' hrf ρ0 w0 ρ p a w s
 unfold rfR at hrf
 split at hrf
 ·rename_i f cap hps hds hev
  simp only [Bool.and_eq_true] at hds
  have hps' : ∀ t∈ps.toList,t < n:=fun t ht=>Nat.le_of_ble_eq_true (List.all_eq_true.1 hps t ht)
  obtain ⟨f',c',hu,h1,h2⟩:=s.ev _ _ hev
  have hf' : f'=#[]:=by grind [VRs]
  subst hf'
  unfold itE at hrf
  split at hrf
  ·rename_i it hit
   split at hrf
   ·rename_i c hbd hbody
    split at hrf
    ·rename_i hdst hlen
     have hlen' : cap.length+1≤it.ntmps:=by simp_all [len_eq]
     refine wpIn_rangeFunc fun fn _=>?_
     have hen:=run_enterLoop_outer (P:=P) (w:=w) fn a.tmps ps asg body
     have hal:=World.alloc_heap_new (w.alloc (.deferred (some []))) (.loop { state:=.ready,pending:=none,fn:=fn,tmps:=a.tmps,params:=ps,assign:=asg,body:=body,defers:=w.heap.size })
     rw [World.size_alloc] at hal
     generalize hl0:w.heap.size+1=l at hen hal
     generalize hw1:(w.alloc (.deferred (some []))).alloc (.loop { state:=.ready,pending:=none,fn:=fn,tmps:=a.tmps,params:=ps,assign:=asg,body:=body,defers:=w.heap.size })=w1 at hen hal
     refine ⟨l,_,w1,{ target:=.fn (.func f) c',args:=#[.func (.yield l) #[] #[]] },w1,f,#[.func (.yield l) #[] #[]]++c',w1,hen,?_,fun _ _=>trivial,?_,fun h=>(by cases h),?_⟩
     ·have hcst:∀ v:Value,a.eval (.const v)=v:=fun _=>rfl
      simp_all [Deferred.ofValue,resolve]
     ·exact hasBody_run hbody _ _
     ·
      have hsz1:w1.heap.size=w.heap.size+2:=by rw [← hw1]; simp
      have hdrw:w.drawn≤w1.drawn:=by rw [← hw1]; simp
      have hold:∀ k,k < w.heap.size→w1.heap[k]?=w.heap[k]?:=by
       grind [Below.heap_alloc]
      have hD:w1.heap[w.heap.size]?=some (.deferred (some [])):=by
       grind [World.alloc_heap_new,Below.heap_alloc]
      have hl:w1.heap[l]?=some (.loop (recL fn a.tmps ps asg body w.heap.size .ready none)):=hal
      have hbw:Below B w w1:=by
       rw [← hw1]
       exact ((Below.refl B w).alloc s.sim.base _).alloc (by simp; have:=s.sim.base; omega) _
      have hsim1:Sim B G ρ H w1:=s.sim.other (by omega) fun a x b o k hx hr=>hold b (by
       rcases s.sim.blk a x hx with h | ⟨b',o',k',h,hb⟩
       ·grind
       ·rw [hr] at h; cases h; exact hb.lt)
      obtain ⟨hf1,hf2⟩:=frame_it (yv:=.func (.yield l) #[] #[]) h2 hlen'
      have hB:B≤l:=by have:=s.sim.base; omega
      have s1:StE B G it.ntmps H.next ρ w1 (some l) l (II n fr fn a.tmps ps asg body w.heap.size l) ρ (putArgs cap (frame0 it.ntmps) 1) [0] none H { tmps:=#[Value.func (.yield l) #[] #[]]++c'++Array.replicate (it.ntmps - (#[Value.func (.yield l) #[] #[]]++c').size) undef,defers:=[] } w1 :=
       ⟨fun _ _=>rfl,KX.refl _ _,Below.refl _ _,hsim1,hf1,Nat.le_refl _,⟨rfl,s.frel,hl⟩,hf2⟩
      have hne:execE P callf (yfR P callf fuel ps asg body fr) rBad (loopE P callf (yfR P callf fuel ps asg body fr) rBad fuel) c (putArgs cap (frame0 it.ntmps) 1) [0] none H≠.bad:=fun e=>by rw [e] at hrf; cases hrf
      have key:=execE_sound (r:=none) (x:=some l) (l:=l) (m:=m - 1) (I:=II n fr fn a.tmps ps asg body w.heap.size l) hcs hG (yfR_ok hcs hG hB hps' hds.1 hds.2) II_ok (rBad_ok _) (loopE_sound hcs hG (yfR_ok hcs hG hB hps' hds.1 hds.2) II_ok rBad_ok fuel) c ρ w1 ρ _ [0] none H _ w1 hdst s1 hne
      have fin:∀ {fr2:Fr} {ys2:List Nat} {p2:Option J} {H2:Mem} {ρ2:Rn} {a2:Act} {w3:World},StE B G it.ntmps H.next ρ w1 (some l) l (II n fr fn a.tmps ps asg body w.heap.size l) ρ2 fr2 ys2 p2 H2 a2 w3 →
        (match resultsA P it fr2 H2 with | some _=>ROut.ok p2 H2 | none=>.bad)=.ok j H'→a2.defers=[]∧∃ v,(results it a2.tmps).run P w3=.ok v w3 ∧
         rangePost (FR none) m P l (PostE B G n n0 ρ0 w0 none l1 (Iv0 lo) (rOut j fr p H')) { a with defers:=[{ target:=.collected w.heap.size,args:=#[] }]++a.defers } (.returned v) w3:=by
       intro fr2 ys2 p2 H2 ρ2 a2 w3 s3 hres
       split at hres
       ·rename_i v hv
        cases hres
        obtain ⟨hd3,hfr3,hl3⟩:=s3.inv
        obtain ⟨u,hu1,hu2⟩:=results_sound s3.st hG hv
        refine ⟨hd3,u,hu1,_,_,run_endLoop hl3 (by cases j <;> simp [recL,stOf]),?_⟩
        have hkd:KD w (w3.putObj l (.loop { recL fn a.tmps ps asg body w.heap.size (stOf j) (j.map jcode) with state:=.exhausted })):=by
         refine ⟨fun k o hk ho=>?_,Nat.le_trans hdrw s3.keeps.2⟩
         have hlt:=(Array.getElem?_eq_some_iff.1 hk).1
         rw [World.putObj_heap_other (by omega)]
         exact s3.keeps.1 k o (by grind) ho (by grind)
        have hsame:∀ a,a < H.next→ρ2 a=ρ a:=s3.same
        have s4:StE B G n n0 ρ0 w0 none l1 (Iv0 lo) ρ2 fr [] p H' { a with defers:=[{ target:=.collected w.heap.size,args:=#[] }]++a.defers } (w3.putObj l (.loop { recL fn a.tmps ps asg body w.heap.size (stOf j) (j.map jcode) with state:=.exhausted })):=by
         refine ⟨fun b hb=>(hsame b (Nat.lt_of_lt_of_le hb s.le)).trans (s.same b hb),s.keeps.trans hkd.kx,((s.below.trans hbw).trans s3.below).trans (below_putObj hB),sim_putObj s3.sim hl3 rfl,s.frel.mono (subOf s.sim hsame),Nat.le_trans s.le s3.le,?_,by simp⟩
         obtain ⟨i1,i2,i3⟩:=s.inv
         have hz3:=s3.below.size
         refine ⟨i1,by simp; omega,w.heap.size,rfl,i2,?_,i3.lt,i3.keep fun D hD=>hkd.1 D _ hD rfl⟩
         rw [World.putObj_heap_other (by omega)]
         exact s3.keeps.1 _ _ hD rfl (by grind)
        cases j with
        | none=>exact ⟨rfl,ρ2,s4⟩
        | some j =>
         cases j with
         | none=>exact wpIn_ret ⟨rfl,ρ2,s4⟩
         | some id=>exact wpIn_exit ⟨rfl,ρ2,s4⟩
       grind
      refine callsIn_of_wp hit hbd trivial (Code.wpIn_mono ?_ key)
      intro e a2 w3 h
      generalize execE P callf (yfR P callf fuel ps asg body fr) rBad (loopE P callf (yfR P callf fuel ps asg body fr) rBad fuel) c (putArgs cap (frame0 it.ntmps) 1) [0] none H=o at h hrf
      cases o with
      | norm fr2 ys2 p2 H2=>obtain ⟨rfl,ρ2,s3⟩:=h; exact fin s3 hrf
      | jump jj fr2 ys2 p2 H2 =>
       cases jj with
       | none=>obtain ⟨rfl,ρ2,s3⟩:=h; exact fin s3 hrf
       | some id=>cases hrf
      | bad=>cases hrf
    grind
   grind
  grind
 grind
end Go.Ai
end
section
namespace Go.Ai
open Go.RowKit (Below)
variable {B G n n0 m l l1 lo:Nat} {P:Program} {ρ0 ρ:Rn} {w0 w wb:World} {x r:Option Nat} {I:Inv} {fr fr0:Fr} {ys:List Nat} {p:Option J} {H:Mem} {a:Act} {callf:CallF} {fuel:Nat}
theorem leaves_marks {fn:Func} {tmps:Array Value} {R:Ending→World→Prop} (hB:B≤lo) (hlo:wb.heap.size≤lo)
  (hR:∀ w',Sim B G ρ H w'→KD wb w'→Below B wb w'→∃ v,(results fn tmps).run P w'=.ok v w'∧R (.returned v) w') :
  ∀ (ds:List Deferred) (w:World),MKs lo ds w→Sim B G ρ H w→KD wb w→Below B wb w→LeavesInM (FR none) m P fn tmps R ds .returning w
 | [],w,_,h1,h2,h3=>hR w h1 h2 h3
 | d :: ds,w,⟨D,k1,k2,k3,k4,k5⟩,h1,h2,h3=>by
  refine ⟨by simp,.inl ⟨D,_,k1,run_takeDeferred k3,leaves_marks hB hlo hR ds _ (k5.keepBut (fun E hE=>World.putObj_heap_other hE) k4) (sim_putObj h1 k3 rfl) ?_ (h3.trans (below_putObj (Nat.le_trans hB k2)))⟩⟩
  refine ⟨fun k o hk ho=>?_,h2.2⟩
  have:=(Array.getElem?_eq_some_iff.1 hk).1
  rw [World.putObj_heap_other (by omega)]
  exact h2.1 k o hk ho
noncomputable def endE (P:Program) (fn:Func) (r:OutE) : COut:=match r with
 | .norm fr _ _ H=>(match resultsA P fn fr H with | some v=>.ret v H | none=>.bad)
 | .jump none fr _ _ H=>(match resultsA P fn fr H with | some v=>.ret v H | none=>.bad)
 | _=>.bad
noncomputable def enterEB (P:Program) (callf:CallF) (fuel:Nat) (fn:Func) (c:Code) (args:List AV) (H:Mem) : COut:=match dstsOk fn.ntmps c,Nat.ble (len args) fn.ntmps with
 | true,true=>endE P fn (putArgsK args (frame0 fn.ntmps) fun fr=>execE P callf yBad (rfR P callf fuel fn.ntmps) (loopE P callf yBad (rfR P callf fuel fn.ntmps) fuel) c fr [] none H)
 | _,_=>.bad
noncomputable def enterE (P:Program) (callf:CallF) (fuel:Nat) (f:FuncId) (args:List AV) (H:Mem) : COut:=match P.funcs[f]? with
 | some fn=>(match fn.body with
  | some c=>enterEB P callf fuel fn c args H
  | none=>.bad)
 | none=>.bad
theorem enterE_sound (hcs:∀ B,CallOK B G P callf) (hG:G=P.globals.size) : CallOK B G P (enterE P callf fuel):=by
 intro f args H hne ρ us w hs hv
 unfold enterE at hne ⊢
 split at hne
 ·rename_i fn hfn
  split at hne
  ·rename_i c hb
   unfold enterEB at hne ⊢
   split at hne
   ·rename_i hdst hlen
    rw [putArgsK_eq] at hne ⊢
    have hfe:=frame_entered (n:=fn.ntmps) hv (by simp_all [len_eq])
    have s1:StE B G fn.ntmps H.next ρ w none 0 (Iv0 w.heap.size) ρ (putArgs args (frame0 fn.ntmps) 0) [] none H { tmps:=us++Array.replicate (fn.ntmps - us.size) undef,defers:=[] } w :=
     ⟨fun _ _=>rfl,KX.refl _ _,Below.refl _ _,hs,hfe,Nat.le_refl _,⟨rfl,Nat.le_refl _,trivial⟩,by simp⟩
    have hr:execE P callf yBad (rfR P callf fuel fn.ntmps) (loopE P callf yBad (rfR P callf fuel fn.ntmps) fuel) c (putArgs args (frame0 fn.ntmps) 0) [] none H≠.bad:=fun h0=>hne (by rw [h0]; rfl)
    have key:=execE_sound (r:=none) (x:=none) (l:=0) (m:=0) (I:=Iv0 w.heap.size) hcs hG yBad_ok IO_ok (rfR_ok hcs hG 0) (loopE_sound hcs hG yBad_ok IO_ok (rfR_ok hcs hG) fuel) c ρ w ρ _ [] none H _ w hdst s1 hr
    refine callsOfFR (r:=none) (m:=0) (callsIn_of_wp_marks hfn hb trivial (Code.wpIn_mono ?_ key))
    intro e a' w' h
    generalize execE P callf yBad (rfR P callf fuel fn.ntmps) (loopE P callf yBad (rfR P callf fuel fn.ntmps) fuel) c (putArgs args (frame0 fn.ntmps) 0) [] none H=o at h hne ⊢
    have fin:∀ {fr2:Fr} {ys2:List Nat} {p2:Option J} {H2:Mem} {ρ2:Rn},StE B G fn.ntmps H.next ρ w none 0 (Iv0 w.heap.size) ρ2 fr2 ys2 p2 H2 a' w' →
      (match resultsA P fn fr2 H2 with | some v=>COut.ret v H2 | none=>.bad)≠.bad→LeavesInM (FR none) 0 P fn a'.tmps (CPost B G H.next ρ w (match resultsA P fn fr2 H2 with | some v=>COut.ret v H2 | none=>.bad)) a'.defers .returning w':=by
     intro fr2 ys2 p2 H2 ρ2 s2 hn
     split at hn
     ·rename_i v hv2
      obtain ⟨_,_,i3⟩:=s2.inv
      refine leaves_marks (wb:=w) (lo:=w.heap.size) (ρ:=ρ2) (H:=H2) hs.base (Nat.le_refl _) (fun w4 g1 g2 g3=>?_) a'.defers w' i3 s2.sim s2.keeps.kd s2.below
      obtain ⟨u,hu1,hu2⟩:=results_sound (⟨Ext.refl _ _ _ _,g1,s2.frel,Nat.le_refl _⟩ : St B G fn.ntmps H2.next ρ2 w4 ρ2 fr2 H2 (Act.bare a') w4) hG hv2
      exact ⟨u,hu1,ρ2,⟨s2.same,g2,g3⟩,g1,hu2,s2.le⟩
     grind
    cases o with
    | norm fr2 ys2 p2 H2=>obtain ⟨rfl,ρ2,s2⟩:=h; exact fin s2 hne
    | jump jj fr2 ys2 p2 H2 =>
     cases jj with
     | none=>obtain ⟨rfl,ρ2,s2⟩:=h; exact fin s2 hne
     | some id=>exact absurd rfl hne
    | bad=>exact absurd rfl hne
   grind
  grind
 grind
def hasRange:Code→Bool
 | .seq a b=>hasRange a || hasRange b
 | .cond _ a b=>hasRange a || hasRange b
 | .block _ b=>hasRange b
 | .loop b=>hasRange b
 | .scope b=>hasRange b
 | .rangeFunc _ _ _ _=>true
 | _=>false
noncomputable def enterG (P:Program) (use:FuncId→Code→Bool) (callf:CallF) (loopf:LoopF) (fuel:Nat) (f:FuncId) (args:List AV) (H:Mem) : COut:=match P.funcs[f]? with
 | some fn=>(match fn.body with
  | some c=>(match use f c with
   | true=>enterE P callf fuel f args H
   | false=>enterQ P callf loopf f args H)
  | none=>.bad)
 | none=>.bad
theorem enterG_sound {use:FuncId→Code→Bool} {callf:CallF} {loopf:LoopF} (hcs:∀ B,CallOK B G P callf) (hl:LoopOK B G P loopf) (hG:G=P.globals.size) : CallOK B G P (enterG P use callf loopf fuel):=by
 intro f args H hne
 unfold enterG at hne ⊢
 split at hne
 ·split at hne
  ·split at hne
   ·exact enterE_sound hcs hG f args H hne
   ·exact enterQ_sound hcs hl hG f args H hne
  grind
 grind
noncomputable def bothG (P:Program) (use:FuncId→Code→Bool) (O:CallF) (n:Nat) : CallF×LoopF :=
 Nat.rec (motive:=fun _=>CallF×LoopF) (fun _ _ _=>.bad,fun _ _ _=>.bad) (fun k ih=>(orC O (enterG P use ih.1 ih.2 k),execF P ih.1 ih.2)) n
noncomputable def callG (P:Program) (O:CallF) (n:Nat) : CallF:=(bothG P (fun _ c=>hasRange c) O n).1
theorem bothG_sound {use:FuncId→Code→Bool} {O:CallF} (hO:∀ B,CallOK B G P O) (hG:G=P.globals.size) : ∀ n,(∀ B,CallOK B G P (bothG P use O n).1)∧∀ B,LoopOK B G P (bothG P use O n).2
 | 0=>⟨fun B f args H hne=>absurd rfl hne,fun B b n n0 ρ0 w0 ρ fr H a w hd s hne=>absurd rfl hne⟩
 | m+1=>by
  obtain ⟨hc,hl⟩:=bothG_sound hO hG m
  refine ⟨fun B=>orC_ok (hO B) (enterG_sound hc (hl B) hG),fun B b n n0 ρ0 w0 ρ fr H a w hd s hne=>?_⟩
  exact good_loopF (hl B) (execF_sound hc (hl B) hG b) n n0 ρ0 w0 ρ fr H a w hd s hne
theorem callG_ok {O:CallF} (hO:∀ B,CallOK B G P O) (hG:G=P.globals.size) (fuel:Nat) : ∀ B,CallOK B G P (callG P O fuel):=(bothG_sound hO hG fuel).1
end Go.Ai
end
section
namespace Go.Ai
open Go.RowKit (Below)
abbrev QR:=Option J→Out→Prop
abbrev YW:=List AV→Mem→(Bool→Option J→Mem→Prop)→Prop
abbrev RWF:=Operand→Array Tmp→Code→Code→Fr→Mem→QR→Prop
abbrev LFR:=Code→Option J→Fr→Mem→QR→Prop
def ylOf (v:Option AV) : Option Nat:=match v with
 | some (.lit (.func (.yield l) a c))=>if a=#[]∧c=#[] then some l else none
 | _=>none
def tcOf (o:Oper) : Option (Tmp×Array Operand):=match o.op with
 | .call c=>(match c.callee with | .value (.tmp t)=>some (t,c.args) | _=>none)
 | _=>none
def onL {α:Type} (x:Option α) (K:α→Prop) : Prop:=match x with | some v=>K v | none=>False
noncomputable def afterR (W:WF) (o:Oper) (fr:Fr) (k:Fr→Mem→Prop) : R→Prop
 | .val v H=>k (fr.put o.dst v) H
 | .skip H=>k (fr.put o.dst (.lit undef)) H
 | .enter f args H=>W f args H fun r=>match r with
  | .ret v H=>k (fr.put o.dst v) H
  | _=>False
 | _=>False
noncomputable def oneR (P:Program) (W:WF) (ops:Array Oper) (o:Oper) (fr:Fr) (H:Mem) (k:Fr→Mem→Prop) : Prop:=match o.guard with
 | none=>afterR W o fr k (opV P H fr.ev o)
 | some g=>byGuard (guardSlot ops fr g.1) g.2 (afterR W o fr k (opV P H fr.ev o)) (k (fr.put o.dst (.lit undef)) H)
noncomputable def stepY (P:Program) (W:WF) (Y:YW) (l:Nat) (ops:Array Oper) (o:Oper) (args:Array Operand) (p:Option J) (fr:Fr) (H:Mem) (k:Option J→Fr→Mem→Prop) : Option Nat→Prop
 | none=>oneR P W ops o fr H (k p)
 | some l'=>l'=l∧o.guard=none∧p=none∧onL (evals fr.ev args.toList) fun vs=>Y vs H fun b p' H'=>k p' (fr.put o.dst (.lit (.bool b))) H'
noncomputable def stepR (P:Program) (W:WF) (Y:YW) (l:Nat) (ops:Array Oper) (o:Oper) (p:Option J) (fr:Fr) (H:Mem) (k:Option J→Fr→Mem→Prop) : Prop:=match tcOf o with
 | some (t,args)=>stepY P W Y l ops o args p fr H k (ylOf (fr.get t))
 | none=>oneR P W ops o fr H (k p)
noncomputable def seqR (P:Program) (W:WF) (Y:YW) (l:Nat) (ops:Array Oper) (Q:QR) : List Oper→Option J→Fr→Mem→Prop
 | [],p,fr,H=>Q p (.norm fr H)
 | o :: li,p,fr,H=>stepR P W Y l ops o p fr H (seqR P W Y l ops Q li)
def calm (Q:Out→Prop) : Out→Prop
 | .norm fr H=>fr.defers=[]∧Q (.norm fr H)
 | _=>False
noncomputable def execR (P:Program) (W:WF) (Y:YW) (R:RWF) (L:LFR) (l:Nat) (yr:List Nat) (plan:List (Nat×List It)) : Code→Option J→Fr→Mem→QR→Prop
 | .skip,p,fr,H,Q=>Q p (.norm fr H)
 | .region id ops false,p,fr,H,Q=>(if id∈yr then seqR P W Y l ops Q ops.toList p fr H else seqW P W ops (calm (Q p)) ops.toList fr H)
 | .region id ops true,p,fr,H,Q=>regP P W ops (calm (Q p)) (planAt plan id) fr H
 | .seq a b,p,fr,H,Q=>execR P W Y R L l yr plan a p fr H fun p=>thenW (fun fr H=>execR P W Y R L l yr plan b p fr H Q) (Q p)
 | .cond c a b,p,fr,H,Q=>condW (fr.ev c) (execR P W Y R L l yr plan a p fr H Q) (execR P W Y R L l yr plan b p fr H Q)
 | .block id b,p,fr,H,Q=>execR P W Y R L l yr plan b p fr H fun p=>inBlockW id (Q p)
 | .loop b,p,fr,H,Q=>L b p fr H Q
 | .rangeFunc g ps a b,p,fr,H,Q=>p=none∧R g ps a b fr H Q
 | .exit id,p,fr,H,Q=>Q p (.exit id fr H)
 | .label _,p,fr,H,Q=>Q p (.norm fr H)
 | .ret,p,fr,H,Q=>Q p (.ret fr H)
 | _,_,_,_,_=>False
def codeOkR (P:Program) (plan:List (Nat×List It)) : Code→Bool
 | .region id ops true=>ops.toList.all noDfO && (flatOk P ops.toList && decide (planOf ops.toList=planAt plan id))
 | .region _ ops false=>ops.toList.all noDfO
 | .seq a b=>codeOkR P plan a && codeOkR P plan b
 | .cond _ a b=>codeOkR P plan a && codeOkR P plan b
 | .block _ b=>codeOkR P plan b
 | .loop b=>codeOkR P plan b
 | _=>true
variable {B G n n0 m l:Nat} {P:Program} {ρ0 ρ:Rn} {w0 w:World} {x r:Option Nat} {I:Inv} {fr:Fr} {p:Option J} {H:Mem} {a:Act} {W:WF} {Y:YW} {R:RWF} {plan:List (Nat×List It)} {yr:List Nat}
def OutR (B G n n0:Nat) (ρ0:Rn) (w0:World) (x:Option Nat) (l:Nat) (I:Inv) (p:Option J) : Out→Exit→Act→World→Prop:=fun out e a' w'=>match out with
 | .norm fr H=>e=.normal∧∃ ρ',StE B G n n0 ρ0 w0 x l I ρ' fr [] p H a' w'
 | .exit id fr H=>e=.exit id∧∃ ρ',StE B G n n0 ρ0 w0 x l I ρ' fr [] p H a' w'
 | .ret fr H=>e=.ret∧∃ ρ',StE B G n n0 ρ0 w0 x l I ρ' fr [] p H a' w'
 | _=>False
def PostR (B G n n0:Nat) (ρ0:Rn) (w0:World) (x:Option Nat) (l:Nat) (I:Inv) (Q:QR) : Exit→Act→World→Prop:=fun e a' w'=>∃ p out,Q p out∧OutR B G n n0 ρ0 w0 x l I p out e a' w'
def YOKW (B G:Nat) (P:Program) (r x:Option Nat) (l:Nat) (I:Inv) (Y:YW) : Prop:=∀ vs H K,Y vs H K→∀ (m:Nat) (ρ:Rn) (us:Array Value) (ds:List Deferred) (w:World),Sim B G ρ H w→VRs ρ vs us.toList→I ρ none ds w →
 ∃ f tm asg bd,(Instr.yield l us).run P w=.ok (.round l f tm asg bd) w ∧
  RoundIn (FR r) m P l f tm asg bd w fun e w'=>∃ b p' H',K b p' H'∧e=.returned (.bool b)∧∃ ρ',(∀ a,a < H.next→ρ' a=ρ a)∧KX x w w'∧Below B w w'∧Sim B G ρ' H' w'∧H.next≤H'.next∧I ρ' p' ds w'
def ROKW (B G n n0:Nat) (P:Program) (r x:Option Nat) (l:Nat) (I:Inv) (R:RWF) : Prop:=∀ g ps asg body fr H Q,R g ps asg body fr H Q →
 ∀ (m:Nat) (ρ0:Rn) (w0:World) (ρ:Rn) (a:Act) (w:World),StE B G n n0 ρ0 w0 x l I ρ fr [] none H a w →
  (Code.rangeFunc g ps asg body).wpIn (FR r) m P (PostR B G n n0 ρ0 w0 x l I Q) a w
def LXR (G:Nat) (P:Program) (n l:Nat) (Y:YW) (R:RWF) : LFR:=fun b p fr H Q =>
 ∀ (B n0:Nat) (r x:Option Nat) (I:Inv),InvOK I→YOKW B G P r x l I Y→ROKW B G n n0 P r x l I R →
  ∀ (ρ0:Rn) (w0:World) (ρ:Rn) (a:Act) (w:World),StE B G n n0 ρ0 w0 x l I ρ fr [] p H a w→LWR r P b (PostR B G n n0 ρ0 w0 x l I Q) a w
theorem StE.step0 {ρ' : Rn} {H' : Mem} {w' : World} {v:AV} {u:Value} {d:Option Tmp} {p' : Option J} (s:StE B G n n0 ρ0 w0 x l I ρ fr [] p H a w) (h1:∀ a,a < H.next→ρ' a=ρ a) (h2:KX x w w') (h3:Below B w w') (hs:Sim B G ρ' H' w')
  (hv:VR ρ' v u) (hn:H.next≤H'.next) (hd:∀ t,d=some t→t < n) (hI:I ρ' p' a.defers w') : StE B G n n0 ρ0 w0 x l I ρ' (fr.put d v) [] p' H' (a.put d u) w':=by
 have:=s.step h1 h2 h3 hs hv hn hd hI
 cases d <;> exact this
theorem afterR_sound (hW:WOK G P W) (hI:InvOK I) {ops:Array Oper} {o:Oper} {rest:List Oper} {k:Fr→Mem→Prop} {Qx:Exit→Act→World→Prop} (hG:G=P.globals.size) (hdst:dstOk n o=true) (hnd:noDfO o=true)
  (s:StE B G n n0 ρ0 w0 x l I ρ fr [] p H a w)
  (hk:∀ (fr' : Fr) (H' : Mem) (ρ' : Rn) (a' : Act) (w' : World),StE B G n n0 ρ0 w0 x l I ρ' fr' [] p H' a' w'→k fr' H'→wpListIn (FR r) m P ops Qx rest a' w')
  (h:afterR W o fr k (opV P H fr.ev o)) :
  o.wpIn (FR r) m P a w (wpListIn (FR r) m P ops Qx rest) Qx:=by
 have hrs:=opV_sound (o:=o) s.sim s.ev hG
 have hd:=dstOk_lt hdst
 have hop:∀ c,o.op≠.defer c:=by
  grind [noDfO]
 refine ⟨fun _ _=>trivial,?_⟩
 rw [Oper.semAt_eq _ _ _ hop]
 cases hr:opV P H fr.ev o with
 | val v H' =>
  rw [hr] at hrs h
  obtain ⟨ρ',u,w',h1,h2,h3,h4,h5⟩:=hrs
  rw [h1]
  exact hk _ _ _ _ _ (s.step0 h2.same h2.keeps.kx h2.below h3 h4 h5 hd (hI _ _ _ _ _ _ s.inv h2.keeps h2.below.size (h2.sub s.sim))) h
 | skip H' =>
  rw [hr] at hrs h
  obtain ⟨ρ',w',h1,h2,h3,h5⟩:=hrs
  rw [h1]
  exact hk _ _ _ _ _ (s.step0 h2.same h2.keeps.kx h2.below h3 (undef_VR _) h5 hd (hI _ _ _ _ _ _ s.inv h2.keeps h2.below.size (h2.sub s.sim))) h
 | enter f args H' =>
  rw [hr] at hrs h
  obtain ⟨us,h1,h2,rfl⟩:=hrs
  rw [h1,Oper.uponIn_enter]
  refine ⟨fun h=>(by cases h),(callsFR (hW _ _ _ _ h B ρ us w s.sim h2)).mono fun e w' ⟨q,hkr,hc⟩=>?_⟩
  cases q with
  | bad=>grind
  | ret v H2 =>
   cases e with
   | returned u =>
    obtain ⟨ρ',g1,g2,g3,g4⟩:=hc
    exact hk _ _ _ _ _ (s.step0 g1.same g1.keeps.kx g1.below g2 g3 g4 hd (hI _ _ _ _ _ _ s.inv g1.keeps g1.below.size (g1.sub s.sim))) hkr
   | panicked chain=>exact hc.elim
   | outgrown=>exact hc.elim
  | panic v H2=>grind
 | dfr fn cap args H'=>rw [hr] at h; exact h.elim
 | recover=>rw [hr] at h; exact h.elim
 | panic v H'=>rw [hr] at h; exact h.elim
 | bad=>rw [hr] at h; exact h.elim
theorem oneR_sound (hW:WOK G P W) (hI:InvOK I) {ops:Array Oper} {o:Oper} {rest:List Oper} {k:Fr→Mem→Prop} {Qx:Exit→Act→World→Prop} (hG:G=P.globals.size) (hdst:dstOk n o=true) (hnd:noDfO o=true)
  (s:StE B G n n0 ρ0 w0 x l I ρ fr [] p H a w)
  (hk:∀ (fr' : Fr) (H' : Mem) (ρ' : Rn) (a' : Act) (w' : World),StE B G n n0 ρ0 w0 x l I ρ' fr' [] p H' a' w'→k fr' H'→wpListIn (FR r) m P ops Qx rest a' w')
  (h:oneR P W ops o fr H k) : wpListIn (FR r) m P ops Qx (o :: rest) a w:=by
 unfold oneR at h
 unfold wpListIn
 cases hg:o.guard with
 | none =>
  rw [hg] at h
  rw [if_pos (by grind [Region.wanted])]
  grind [afterR_sound]
 | some g =>
  rw [hg] at h
  rcases byGuard_sound (a:=Act.bare a) s.st hg h with ⟨hw,hy⟩ | ⟨hw,hn⟩
  ·rw [if_pos (show Region.wanted o (yielded ops a.tmps)=true from hw)]
   grind [afterR_sound]
  ·rw [if_neg (show ¬Region.wanted o (yielded ops a.tmps)=true from by rw [show Region.wanted o (yielded ops a.tmps)=false from hw]; simp)]
   exact ⟨fun _ _=>trivial,hk _ _ _ _ _ (s.step0 (fun _ _=>rfl) (KX.refl _ _) (Below.refl _ _) s.sim (undef_VR _) (Nat.le_refl _) (dstOk_lt hdst) s.inv) hn⟩
theorem seqR_sound (hW:WOK G P W) (hI:InvOK I) (hY:YOKW B G P r x l I Y) {ops:Array Oper} {Q:QR} (hG:G=P.globals.size) : ∀ (li:List Oper) (p:Option J) (fr:Fr) (H:Mem) (ρ:Rn) (a:Act) (w:World),
  (∀ o∈li,dstOk n o=true)→(∀ o∈li,noDfO o=true)→StE B G n n0 ρ0 w0 x l I ρ fr [] p H a w→seqR P W Y l ops Q li p fr H→wpListIn (FR r) m P ops (PostR B G n n0 ρ0 w0 x l I Q) li a w
 | [],p,fr,H,ρ,a,w,_,_,s,h=>wpListIn_nil ⟨p,_,h,rfl,ρ,s⟩
 | o :: li,p,fr,H,ρ,a,w,hd,hnd,s,h=>by
  have hdo:=hd o (by simp)
  have hno:=hnd o (by simp)
  have hk:∀ (p' : Option J) (fr' : Fr) (H' : Mem) (ρ' : Rn) (a' : Act) (w' : World),StE B G n n0 ρ0 w0 x l I ρ' fr' [] p' H' a' w'→seqR P W Y l ops Q li p' fr' H'→wpListIn (FR r) m P ops (PostR B G n n0 ρ0 w0 x l I Q) li a' w' :=
   fun p' fr' H' ρ' a' w' s' hk=>seqR_sound hW hI hY hG li p' fr' H' ρ' a' w' (fun o ho=>hd o (by grind)) (fun o ho=>hnd o (by grind)) s' hk
  have h' : stepR P W Y l ops o p fr H (seqR P W Y l ops Q li):=h
  unfold stepR at h'
  split at h'
  ·rename_i t args htc
   unfold stepY at h'
   split at h'
   ·grind [oneR_sound]
   ·rename_i l' hyl
    obtain ⟨rfl,hgd,rfl,h3⟩:=h'
    unfold onL at h3
    split at h3
    ·rename_i vs hvs
     unfold wpListIn
     rw [if_pos (by grind [Region.wanted])]
     refine ⟨fun _ _=>trivial,?_⟩
     unfold tcOf at htc
     split at htc
     ·rename_i c hop
      split at htc
      ·rename_i t' hcal
       cases htc
       have hva:VRs ρ vs (c.args.map a.eval).toList:=by simpa using evals_VRs s.ev hvs
       obtain ⟨f,tm,asg,bd,hrun,hround⟩:=hY vs H _ h3 (m - 1) ρ (c.args.map a.eval) a.defers w s.sim hva s.inv
       have hslot:a.eval (.tmp t)=.func (.yield l') #[] #[]:=by
        unfold ylOf at hyl
        split at hyl
        ·rename_i l2 aa cc hg
         split at hyl
         ·rename_i hac
          obtain ⟨rfl,rfl⟩:=hac
          cases hyl
          have:=s.ev (.tmp t) _ (show fr.ev (.tmp t)=some _ from by assumption)
          exact this
         grind
        grind
       have hrun2:(o.semAt (FR r).round a.eval).run P w=.ok (.round l' f tm asg bd) w:=by
        grind [Oper.semAt_eq,invoke,Deferred.ofValue,resolve,execOp]
       rw [hrun2,Oper.uponIn_round]
       refine ⟨fun h=>(by cases h),hround.mono fun e w' he=>?_⟩
       obtain ⟨b,p',H',hK,rfl,ρ',g1,g2,g3,g4,g5,g6⟩:=he
       exact hk _ _ _ _ _ _ (s.step0 (v:=.lit (.bool b)) (u:=.bool b) g1 g2 g3 g4 rfl g5 (dstOk_lt hdo) g6) hK
      grind
     grind
    grind
  grind [oneR_sound]
theorem region_in {ops:Array Oper} {Q:QR} (hI:InvOK I) (hnd:ops.toList.all noDfO=true) (s:StE B G n n0 ρ0 w0 x l I ρ fr [] p H a w) {li:List Nat} {w1:World}
  (h:wpOps P ops (PostQ B G n H.next ρ w (calm (Q p))) li (Act.bare a) w1) : wpOpsIn (FR r) m P ops (PostR B G n n0 ρ0 w0 x l I Q) li a w1:=by
 have hq:¬LetsOut (PostQ B G n H.next ρ w (calm (Q p))):=by
  rintro ⟨a',w',out,h1,h2⟩
  cases out <;> first | exact h1.elim | assumption
 have key:=opsIn_of (r:=r) (m:=m) hnd hq a.defers li a [] w1 rfl h
 refine wpOpsIn_monoQ ?_ _ _ _ key
 rintro e a' w' ⟨y,hy,out,h1,h2⟩
 cases out with
 | norm fr' H' =>
  obtain ⟨hfd,hQ⟩:=h1
  cases e with
  | normal =>
   obtain ⟨ρ',s'⟩:=h2
   have hy0:y=[]:=by
    have h1:DR ρ' fr'.defers y:=s'.frel.dfr
    rw [hfd] at h1; exact h1
   subst hy0
   refine ⟨p,_,hQ,rfl,ρ',fun b hb=>(s'.ext.same b (Nat.lt_of_lt_of_le hb s.le)).trans (s.same b hb),s.keeps.trans s'.ext.keeps.kx,s.below.trans s'.ext.below,s'.sim,s'.frel,Nat.le_trans s.le s'.le,?_,by simp⟩
   have hy' : a'.defers=a.defers:=by grind
   rw [hy']
   exact hI _ _ _ _ _ _ s.inv s'.ext.keeps s'.ext.below.size (s'.ext.sub s.sim)
  | _=>exact h2.elim
 | _=>exact h1.elim
theorem postR_then {Q:QR} {K:Act→World→Prop} {k:Fr→Mem→QR→Prop} {b:Option J→Fr→Mem→Prop}
  (hk:∀ p' fr' H' ρ' a' w',StE B G n n0 ρ0 w0 x l I ρ' fr' [] p' H' a' w'→b p' fr' H'→K a' w') :
  ∀ e a' w',PostR B G n n0 ρ0 w0 x l I (fun p=>thenW (b p) (Q p)) e a' w'→Exit.then K (PostR B G n n0 ρ0 w0 x l I Q) e a' w':=by
 rintro e a' w' ⟨p',out,h1,h2⟩
 cases out with
 | norm fr' H'=>obtain ⟨rfl,ρ',s'⟩:=h2; exact hk _ _ _ _ _ _ s' h1
 | exit id fr' H'=>obtain ⟨rfl,ρ',s'⟩:=h2; exact ⟨p',_,h1,rfl,ρ',s'⟩
 | ret fr' H'=>obtain ⟨rfl,ρ',s'⟩:=h2; exact ⟨p',_,h1,rfl,ρ',s'⟩
 | panic v fr' H'=>exact h2.elim
 | bad=>exact h1.elim
theorem execR_sound (hW:WOK G P W) (hM:WMono W) (hG:G=P.globals.size) (hI:InvOK I) (hY:YOKW B G P r x l I Y) (hR:ROKW B G n n0 P r x l I R) (m:Nat) : ∀ (c:Code) (p:Option J) (fr:Fr) (H:Mem) (Q:QR) (ρ0:Rn) (w0:World) (ρ:Rn) (a:Act) (w:World),
  dstsOk n c=true→codeOkR P plan c=true→execR P W Y R (LXR G P n l Y R) l yr plan c p fr H Q→StE B G n n0 ρ0 w0 x l I ρ fr [] p H a w→c.wpIn (FR r) m P (PostR B G n n0 ρ0 w0 x l I Q) a w:=by
 intro c
 induction c with
 | skip=>intro p fr H Q ρ0 w0 ρ a w _ _ h s; exact wpIn_skip ⟨p,_,h,rfl,ρ,s⟩
 | region id ops draw =>
  intro p fr H Q ρ0 w0 ρ a w hd hc h s
  cases draw with
  | false =>
   have h' : if id∈yr then seqR P W Y l ops Q ops.toList p fr H else seqW P W ops (calm (Q p)) ops.toList fr H:=h
   have hnd:ops.toList.all noDfO=true:=hc
   split at h'
   ·exact wpIn_region_list (seqR_sound hW hI hY hG ops.toList p fr H ρ a w (fun o ho=>List.all_eq_true.1 hd o ho) (fun o ho=>List.all_eq_true.1 hnd o ho) s h')
   ·refine wpIn_region (region_in hI hnd s ?_)
    rw [List.range_eq_range',← Array.length_toList,wpOps_eq_wpList ops.toList 0 (by simp)]
    exact seqW_sound hW hG ops.toList fr H ρ (Act.bare a) w (fun o ho=>List.all_eq_true.1 hd o ho) s.st h'
  | true =>
   have h' : regP P W ops (calm (Q p)) (planAt plan id) fr H:=h
   simp only [codeOkR,Bool.and_eq_true,decide_eq_true_eq] at hc
   obtain ⟨hnd,hf,hpl⟩:=hc
   rw [← hpl] at h'
   cases fr with
   | f g ds=>exact wpIn_region_draw fun t=>region_in hI hnd s (drawnW_ops (id:=id) hW hG s.st hd (planW_drawn hM hf h') t)
   | _=>exact h'.elim
 | seq c1 c2 ih1 ih2 =>
  intro p fr H Q ρ0 w0 ρ a w hd hc h s
  simp only [dstsOk,Bool.and_eq_true] at hd
  simp only [codeOkR,Bool.and_eq_true] at hc
  exact wpIn_seq (Code.wpIn_mono (postR_then (k:=fun _ _ _=>True) fun p' fr' H' ρ' a' w' s' hb=>ih2 p' fr' H' Q ρ0 w0 ρ' a' w' hd.2 hc.2 hb s') (ih1 p fr H _ ρ0 w0 ρ a w hd.1 hc.1 h s))
 | cond cnd c1 c2 ih1 ih2 =>
  intro p fr H Q ρ0 w0 ρ a w hd hc h s
  simp only [dstsOk,Bool.and_eq_true] at hd
  simp only [codeOkR,Bool.and_eq_true] at hc
  have h' : condW (fr.ev cnd) (execR P W Y R (LXR G P n l Y R) l yr plan c1 p fr H Q) (execR P W Y R (LXR G P n l Y R) l yr plan c2 p fr H Q):=h
  unfold condW at h'
  split at h'
  ·rename_i b hev
   have:=s.ev _ _ hev
   cases b with
   | true=>exact wpIn_cond_true this (ih1 p fr H Q ρ0 w0 ρ a w hd.1 hc.1 (h'.1 rfl) s)
   | false=>exact wpIn_cond_false this (ih2 p fr H Q ρ0 w0 ρ a w hd.2 hc.2 (h'.2 rfl) s)
  grind
 | block id b ih =>
  intro p fr H Q ρ0 w0 ρ a w hd hc h s
  refine wpIn_block (Code.wpIn_mono ?_ (ih p fr H _ ρ0 w0 ρ a w hd hc h s))
  rintro e a' w' ⟨p',out,hq,ho⟩
  cases out with
  | norm fr' H'=>obtain ⟨rfl,h'⟩:=ho; exact ⟨p',_,hq,rfl,h'⟩
  | ret fr' H'=>obtain ⟨rfl,h'⟩:=ho; exact ⟨p',_,hq,rfl,h'⟩
  | exit id2 fr' H' =>
   obtain ⟨rfl,h'⟩:=ho
   have hq' : if id2=id then Q p' (.norm fr' H') else Q p' (.exit id2 fr' H'):=hq
   by_cases e:id2=id
   ·subst e
    rw [if_pos rfl] at hq'
    simp only [Exit.inBlock,if_true]
    exact ⟨p',_,hq',rfl,h'⟩
   ·rw [if_neg e] at hq'
    simp only [Exit.inBlock,e,if_false]
    exact ⟨p',_,hq',rfl,h'⟩
  | panic v fr' H'=>exact ho.elim
  | bad=>exact hq.elim
 | loop b ih =>
  intro p fr H Q ρ0 w0 ρ a w hd hc h s
  exact (h B n0 r x I hI hY hR ρ0 w0 ρ a w s).wp
 | rangeFunc g ps c1 c2 ih1 ih2 =>
  intro p fr H Q ρ0 w0 ρ a w hd hc h s
  obtain ⟨rfl,h2⟩ : p=none∧R g ps c1 c2 fr H Q:=h
  exact hR _ _ _ _ _ _ _ h2 m ρ0 w0 ρ a w s
 | exit id=>intro p fr H Q ρ0 w0 ρ a w hd hc h s; exact wpIn_exit ⟨p,_,h,rfl,ρ,s⟩
 | scope b ih=>intro p fr H Q ρ0 w0 ρ a w hd hc h; exact h.elim
 | label lb=>intro p fr H Q ρ0 w0 ρ a w hd hc h s; exact wpIn_label ⟨p,_,h,rfl,ρ,s⟩
 | goto lb=>intro p fr H Q ρ0 w0 ρ a w hd hc h; exact h.elim
 | ret=>intro p fr H Q ρ0 w0 ρ a w hd hc h s; exact wpIn_ret ⟨p,_,h,rfl,ρ,s⟩
 | refuse why=>intro p fr H Q ρ0 w0 ρ a w hd hc h; exact h.elim
theorem LXR.round {O:CallF} (hO:∀ B,CallOK B G P O) (hG:G=P.globals.size) (yr:List Nat) (plan:List (Nat×List It)) {b:Code} {Q:QR} (hd:(dstsOk n b && codeOkR P plan b)=true)
  (h:execR P (orW O (WC G P)) Y R (LXR G P n l Y R) l yr plan b p fr H fun p=>thenW (fun fr H=>LXR G P n l Y R b p fr H Q) (Q p)) : LXR G P n l Y R b p fr H Q:=by
 rw [Bool.and_eq_true] at hd
 intro B n0 r x I hI hY hR ρ0 w0 ρ a w s
 exact LWR.unroll (m:=0) (Code.wpIn_mono (postR_then (k:=fun _ _ _=>True) fun p' fr' H' ρ' a' w' s' hb=>hb B n0 r x I hI hY hR ρ0 w0 ρ' a' w' s') (execR_sound (orW_ok hO) (orW_mono (WC_mono' G P)) hG hI hY hR 0 b p fr H _ ρ0 w0 ρ a w hd.1 hd.2 h s))
theorem LXR.ind {b:Code} {ds:List Dfr} {Q:QR} (J:Nat→(Nat→Option AV)→Mem→Prop) {m0:Nat} {g0:Nat→Option AV} {H0:Mem} (h0:J m0 g0 H0)
  (hs:∀ m g H,J m g H→Hide (∀ m' g' H',m' < m→J m' g' H'→LXR G P n l Y R b p (.f g' ds) H' Q)→LXR G P n l Y R b p (.f g ds) H Q) : LXR G P n l Y R b p (.f g0 ds) H0 Q:=by
 have:∀ m g H,J m g H→LXR G P n l Y R b p (.f g ds) H Q:=by
  intro m
  induction m using Nat.strongRecOn with
  | _ m ih=>exact fun g H hi=>hs m g H hi ⟨fun m' g' H' hlt hi'=>ih m' hlt g' H' hi'⟩
 grind
end Go.Ai
end
section
namespace Go.Ai
open Go.RowKit (Below)
variable {B G n n0 m l l1 lo:Nat} {P:Program} {ρ0 ρ:Rn} {w0 w wb:World} {x r:Option Nat} {I:Inv} {fr fr0:Fr} {p:Option J} {H:Mem} {a:Act} {W:WF} {fid D:Nat} {tm:Array Value} {ps:Array Tmp} {asg body:Code} {plan:List (Nat×List It)}
def YN:YW:=fun _ _ _=>False
def RN:RWF:=fun _ _ _ _ _ _ _=>False
theorem YN_ok:YOKW B G P r x l I YN:=fun _ _ _ h=>h.elim
theorem RN_ok:ROKW B G n n0 P r x l I RN:=fun _ _ _ _ _ _ _ h=>h.elim
def rdW (K:Bool→Option J→Mem→Prop) : QR:=fun _ out=>match out with
 | .norm _ H=>K true none H
 | .exit id _ H=>K false (some (some id)) H
 | .ret _ H=>K false (some none) H
 | _=>False
def rd0 (k:Fr→Mem→Prop) : QR:=fun _ out=>match out with
 | .norm fr H=>k fr H
 | _=>False
noncomputable def rdX (G:Nat) (P:Program) (W:WF) (n:Nat) (plan:List (Nat×List It)) (c:Code) (fr:Fr) (H:Mem) (Q:QR) : Prop:=execR P W YN RN (LXR G P n 0 YN RN) 0 [] plan c none fr H Q
noncomputable def YB (G:Nat) (P:Program) (W:WF) (n:Nat) (plan:List (Nat×List It)) (ps:Array Tmp) (asg body:Code) (fr0:Fr) : YW:=fun vs H K =>
 vs.length=ps.size∧rdX G P W n plan asg (putPs ps.toList vs fr0) H (rd0 fun fr1 H1=>rdX G P W n plan body fr1 H1 (rdW K))
theorem YB_ok (hW:WOK G P W) (hM:WMono W) (hG:G=P.globals.size) (hB:B≤l) (hps:∀ t∈ps.toList,t < n) (hda:dstsOk n asg=true) (hdb:dstsOk n body=true) (hca:codeOkR P plan asg=true) (hcb:codeOkR P plan body=true) :
  YOKW B G P none (some l) l (II n fr0 fid tm ps asg body D l) (YB G P W n plan ps asg body fr0):=by
 intro vs H K hyf m ρ us ds w hs hv hI
 obtain ⟨rfl,hfr,hl⟩:=hI
 obtain ⟨hlen',hx⟩:=hyf
 have hsz:us.size=ps.size:=by have:=hv.length; simp at this; omega
 refine ⟨fid,_,asg,body,run_yield hl hsz,roundIn_of_wpIn trivial ?_⟩
 generalize htm:((recL fid tm ps asg body D (stOf none) (Option.map jcode none)).params.zip us).foldl (fun tmps (t,a)=>tmps.setIfInBounds t a) (recL fid tm ps asg body D (stOf none) (Option.map jcode none)).tmps=tm1
 have hfr1:FRel n ρ (putPs ps.toList vs fr0) { tmps:=tm1,defers:=[] }:=by
  have:=putPs_ok hps hv hfr
  rw [← htm]
  show FRel n ρ (putPs ps.toList vs fr0) { tmps:=(ps.zip us).foldl (fun tmps (t,a)=>tmps.setIfInBounds t a) tm,defers:=[] }
  rw [← Array.foldl_toList,Array.toList_zip]
  exact this
 have s0:StE B G n H.next ρ w none 0 (IR fid tm ps asg body D l .ready) ρ (putPs ps.toList vs fr0) [] none H { tmps:=tm1,defers:=[] } w :=
  ⟨fun _ _=>rfl,KX.refl _ _,Below.refl _ _,hs,hfr1,Nat.le_refl _,⟨rfl,hl⟩,by simp⟩
 have key:=execR_sound (r:=some l) (yr:=[]) hW hM hG (IR_ok (st:=.ready)) (YN_ok (r:=some l)) (RN_ok (n:=n) (n0:=H.next)) m asg none _ H _ ρ w ρ _ w hda hca hx s0
 refine Code.wpIn_mono ?_ key
 rintro e a1 w1 ⟨q1,out1,hq1,ho1⟩
 cases out1 with
 | norm fr1 H1 =>
  obtain ⟨rfl,ρ1,s1⟩:=ho1
  obtain ⟨hds1,hl1⟩:=s1.inv
  refine ⟨_,run_beginRound hl1 rfl,?_⟩
  have hl2:(w1.putObj l (.loop { recL fid tm ps asg body D .ready none with state:=.busy })).heap[l]?=some (.loop (recL fid tm ps asg body D .busy none)):=World.putObj_heap_same (Array.getElem?_eq_some_iff.1 hl1).1
  generalize hw2:w1.putObj l (.loop { recL fid tm ps asg body D .ready none with state:=.busy })=w2 at hl2 ⊢
  have s2:StE B G n H1.next ρ1 w2 none 0 (IR fid tm ps asg body D l .busy) ρ1 fr1 [] none H1 a1 w2 :=
   ⟨fun _ _=>rfl,KX.refl _ _,Below.refl _ _,by rw [← hw2]; exact sim_putObj s1.sim hl1 rfl,s1.frel,Nat.le_refl _,⟨hds1,hl2⟩,by simp⟩
  have fin:∀ {H2:Mem} {ρ2:Rn} {fr2:Fr} {q:Option J} {a2:Act} {w3:World} (j:Option J),StE B G n H1.next ρ1 w2 none 0 (IR fid tm ps asg body D l .busy) ρ2 fr2 [] q H2 a2 w3→K j.isNone j H2 →
    ∃ v w4,(Instr.endRound l (j.map jcode)).run P w3=.ok v w4∧∃ b p' H',K b p' H'∧Ending.returned v=.returned (.bool b)∧∃ ρ',(∀ a,a < H.next→ρ' a=ρ a)∧KX (some l) w w4∧Below B w w4∧Sim B G ρ' H' w4∧H.next≤H'.next∧II n fr0 fid tm ps asg body D l ρ' p' [] w4:=by
   intro H2 ρ2 fr2 q a2 w3 j s3 hk
   obtain ⟨_,hl3⟩:=s3.inv
   have hne:((j.map jcode).isNone)=j.isNone:=by cases j <;> rfl
   refine ⟨_,_,run_endRound _ hl3,_,_,_,hk,by rw [hne],ρ2,fun b hb=>?_,?_,?_,sim_putObj s3.sim hl3 rfl,Nat.le_trans s1.le s3.le,rfl,?_,?_⟩
   ·exact (s3.same b (Nat.lt_of_lt_of_le hb s1.le)).trans (s1.same b hb)
   ·have k1:KX (some l) w w1:=⟨fun k o hk ho hx=>s1.keeps.1 k o hk ho (by simp),s1.keeps.2⟩
    have k2:KX (some l) w1 w2:=by rw [← hw2]; exact kx_putObj
    have k3:KX (some l) w2 w3:=⟨fun k o hk ho hx=>s3.keeps.1 k o hk ho (by simp),s3.keeps.2⟩
    exact ((k1.trans k2).trans k3).trans kx_putObj
   ·have k2:Below B w1 w2:=by rw [← hw2]; exact below_putObj hB
    exact ((s1.below.trans k2).trans s3.below).trans (below_putObj hB)
   ·exact hfr.mono (subOf hs fun b hb=>(s3.same b (Nat.lt_of_lt_of_le hb s1.le)).trans (s1.same b hb))
   ·rw [World.putObj_heap_same (Array.getElem?_eq_some_iff.1 hl3).1]
    cases j <;> rfl
  have key2:=execR_sound (r:=some l) (yr:=[]) hW hM hG (IR_ok (st:=.busy)) (YN_ok (r:=some l)) (RN_ok (n:=n) (n0:=H1.next)) m body none fr1 H1 _ ρ1 w2 ρ1 a1 w2 hdb hcb hq1 s2
  refine Code.wpIn_mono ?_ key2
  rintro e a2 w3 ⟨q2,out2,hq2,ho2⟩
  cases out2 with
  | norm fr2 H2=>obtain ⟨rfl,ρ2,s3⟩:=ho2; exact fin none s3 hq2
  | exit id fr2 H2=>obtain ⟨rfl,ρ2,s3⟩:=ho2; exact fin (some (some id)) s3 hq2
  | ret fr2 H2=>obtain ⟨rfl,ρ2,s3⟩:=ho2; exact fin (some none) s3 hq2
  | panic v fr2 H2=>exact hq2.elim
  | bad=>exact hq2.elim
 | exit id fr1 H1=>exact hq1.elim
 | ret fr1 H1=>exact hq1.elim
 | panic v fr1 H1=>exact hq1.elim
 | bad=>exact hq1.elim
def jumpW (Q:QR) (fr:Fr) (H:Mem) : Option J→Prop
 | none=>Q none (.norm fr H)
 | some none=>Q none (.ret fr H)
 | some (some id)=>Q none (.exit id fr H)
def onRet (k:Mem→Prop) : COut→Prop
 | .ret _ H=>k H
 | _=>False
noncomputable def itQ (P:Program) (it:Func) (K:Option J→Mem→Prop) : QR:=fun p out=>match out with
 | .norm fr2 H2=>leaveW P noO it (onRet (K p)) (.norm fr2 H2)
 | .ret fr2 H2=>leaveW P noO it (onRet (K p)) (.ret fr2 H2)
 | _=>False
noncomputable def itX (G:Nat) (P:Program) (W:WF) (Y:YW) (n l:Nat) (yr:List Nat) (plan:List (Nat×List It)) (c:Code) (fr:Fr) (H:Mem) (Q:QR) : Prop:=execR P W Y RN (LXR G P n l Y RN) l yr plan c none fr H Q
noncomputable def RG (G:Nat) (P:Program) (W:WF) (n:Nat) (plan:List (Nat×List It)) : RWF:=fun g ps asg body fr H Q =>
 (ps.toList.all (fun t=>Nat.blt t n) && (dstsOk n asg && dstsOk n body && (codeOkR P plan asg && codeOkR P plan body)))=true ∧
 ∃ (f:FuncId) (cap:List AV) (it:Func) (c:Code) (yr:List Nat) (planI:List (Nat×List It)),fr.ev g=some (.func (.func f) [] cap)∧P.funcs[f]?=some it∧it.body=some c∧hasBody P f=true∧(dstsOk it.ntmps c && codeOkR P planI c)=true∧cap.length+1≤it.ntmps ∧
  ∀ l,itX G P W (YB G P W n plan ps asg body fr) it.ntmps l yr planI c (frameW (.lit (.func (.yield l) #[] #[]) :: cap)) H (itQ P it (fun p H'=>jumpW Q fr H' p))
theorem leave_calm {fn:Func} {fr:Fr} {K:COut→Prop} (hd:fr.defers=[]) (h:match leave P noO (fun _ _ _=>.bad) fn fr fr.defers .returning H with | .bad=>False | r=>K r) : ∃ v,resultsA P fn fr H=some v∧K (.ret v H):=by
 rw [hd] at h
 unfold leave at h
 split at h
 ·exact h.elim
 ·rename_i r hr
  cases hv:resultsA P fn fr H with
  | none=>rw [hv] at hr; exact absurd rfl hr
  | some v=>rw [hv] at h; exact ⟨v,rfl,h⟩
theorem RG_ok (hW:WOK G P W) (hM:WMono W) (hG:G=P.globals.size) : ROKW B G n n0 P none none l1 (Iv0 lo) (RG G P W n plan):=by
 intro g ps asg body fr H Q hrf m ρ0 w0 ρ a w s
 obtain ⟨hst,f,cap,it,c,yr,planI,hev,hit,hbd,hbody,hdst,hlen',hx⟩:=hrf
 simp only [Bool.and_eq_true] at hst hdst
 obtain ⟨hps,⟨hda,hdb⟩,hca,hcb⟩:=hst
 have hps' : ∀ t∈ps.toList,t < n:=fun t ht=>Nat.le_of_ble_eq_true (List.all_eq_true.1 hps t ht)
 obtain ⟨f',c',hu,h1,h2⟩:=s.ev _ _ hev
 have hf' : f'=#[]:=by cases f'; simp [VRs] at h1; simp [h1]
 subst hf'
 refine wpIn_rangeFunc fun fn _=>?_
 have hen:=run_enterLoop_outer (P:=P) (w:=w) fn a.tmps ps asg body
 have hal:=World.alloc_heap_new (w.alloc (.deferred (some []))) (.loop { state:=.ready,pending:=none,fn:=fn,tmps:=a.tmps,params:=ps,assign:=asg,body:=body,defers:=w.heap.size })
 rw [World.size_alloc] at hal
 generalize hl0:w.heap.size+1=l at hen hal
 generalize hw1:(w.alloc (.deferred (some []))).alloc (.loop { state:=.ready,pending:=none,fn:=fn,tmps:=a.tmps,params:=ps,assign:=asg,body:=body,defers:=w.heap.size })=w1 at hen hal
 refine ⟨l,_,w1,{ target:=.fn (.func f) c',args:=#[.func (.yield l) #[] #[]] },w1,f,#[.func (.yield l) #[] #[]]++c',w1,hen,?_,fun _ _=>trivial,?_,fun h=>(by cases h),?_⟩
 ·have hcst:∀ v:Value,a.eval (.const v)=v:=fun _=>rfl
  simp [resolve,hu,Deferred.ofValue,hcst]
 ·exact hasBody_run hbody _ _
 ·
  have hsz1:w1.heap.size=w.heap.size+2:=by rw [← hw1]; simp
  have hdrw:w.drawn≤w1.drawn:=by rw [← hw1]; exact Nat.le_refl _
  have hold:∀ k,k < w.heap.size→w1.heap[k]?=w.heap[k]?:=by
   intro k hk
   rw [← hw1,Below.heap_alloc _ _ _ (by simp; omega),Below.heap_alloc _ _ _ hk]
  have hD:w1.heap[w.heap.size]?=some (.deferred (some [])):=by
   rw [← hw1,Below.heap_alloc _ _ _ (by simp),World.alloc_heap_new]
  have hl:w1.heap[l]?=some (.loop (recL fn a.tmps ps asg body w.heap.size .ready none)):=hal
  have hbw:Below B w w1:=by
   rw [← hw1]
   exact ((Below.refl B w).alloc s.sim.base _).alloc (by simp; have:=s.sim.base; omega) _
  have hsim1:Sim B G ρ H w1:=s.sim.other (by omega) fun a x b o k hx hr=>hold b (by
   rcases s.sim.blk a x hx with h | ⟨b',o',k',h,hb⟩
   ·rw [hr] at h; cases h
   ·rw [hr] at h; cases h; exact hb.lt)
  have hvs:VRs ρ (.lit (.func (.yield l) #[] #[]) :: cap) (#[Value.func (.yield l) #[] #[]]++c').toList:=by
   rw [Array.toList_append]
   exact ⟨_,_,rfl,rfl,h2⟩
  have hf1:=frameW_entered (n:=it.ntmps) hvs (by simpa using hlen')
  have hB:B≤l:=by have:=s.sim.base; omega
  have s1:StE B G it.ntmps H.next ρ w1 (some l) l (II n fr fn a.tmps ps asg body w.heap.size l) ρ (frameW (.lit (.func (.yield l) #[] #[]) :: cap)) [] none H { tmps:=#[Value.func (.yield l) #[] #[]]++c'++Array.replicate (it.ntmps - (#[Value.func (.yield l) #[] #[]]++c').size) undef,defers:=[] } w1 :=
   ⟨fun _ _=>rfl,KX.refl _ _,Below.refl _ _,hsim1,hf1,Nat.le_refl _,⟨rfl,s.frel,hl⟩,by simp⟩
  have hY:YOKW B G P none (some l) l (II n fr fn a.tmps ps asg body w.heap.size l) (YB G P W n plan ps asg body fr):=YB_ok hW hM hG hB hps' hda hdb hca hcb
  have key:=execR_sound (r:=none) (x:=some l) (I:=II n fr fn a.tmps ps asg body w.heap.size l) hW hM hG II_ok hY (RN_ok (n:=it.ntmps) (n0:=H.next)) (m - 1) c none _ H _ ρ w1 ρ _ w1 hdst.1 hdst.2 (hx l) s1
  have fin:∀ {fr2:Fr} {p2:Option J} {H2:Mem} {ρ2:Rn} {a2:Act} {w3:World},StE B G it.ntmps H.next ρ w1 (some l) l (II n fr fn a.tmps ps asg body w.heap.size l) ρ2 fr2 [] p2 H2 a2 w3 →
    (match leave P noO (fun _ _ _=>.bad) it fr2 fr2.defers .returning H2 with | .bad=>False | r=>onRet (fun H'=>jumpW Q fr H' p2) r)→a2.defers=[]∧∃ v,(results it a2.tmps).run P w3=.ok v w3 ∧
     rangePost (FR none) m P l (PostR B G n n0 ρ0 w0 none l1 (Iv0 lo) Q) { a with defers:=[{ target:=.collected w.heap.size,args:=#[] }]++a.defers } (.returned v) w3:=by
   intro fr2 p2 H2 ρ2 a2 w3 s3 hres
   have hfd:fr2.defers=[]:=by
    have:DR ρ2 fr2.defers (Act.bare a2).defers:=s3.frel.dfr
    cases hd:fr2.defers with
    | nil=>rfl
    | cons d ds=>rw [hd] at this; obtain ⟨fn,cp,ar⟩:=d; obtain ⟨_,_,_,he,_⟩:=this; cases he
   obtain ⟨v,hv,hj⟩:=leave_calm hfd hres
   have hj' : jumpW Q fr H2 p2:=hj
   obtain ⟨hd3,hfr3,hl3⟩:=s3.inv
   obtain ⟨u,hu1,hu2⟩:=results_sound s3.st hG hv
   refine ⟨hd3,u,hu1,_,_,run_endLoop hl3 (by cases p2 <;> simp [recL,stOf]),?_⟩
   have hkd:KD w (w3.putObj l (.loop { recL fn a.tmps ps asg body w.heap.size (stOf p2) (p2.map jcode) with state:=.exhausted })):=by
    refine ⟨fun k o hk ho=>?_,Nat.le_trans hdrw s3.keeps.2⟩
    have hlt:=(Array.getElem?_eq_some_iff.1 hk).1
    rw [World.putObj_heap_other (by omega)]
    exact s3.keeps.1 k o (by rw [hold k hlt]; exact hk) ho (by intro e; cases e; omega)
   have hsame:∀ a,a < H.next→ρ2 a=ρ a:=s3.same
   have s4:StE B G n n0 ρ0 w0 none l1 (Iv0 lo) ρ2 fr [] none H2 { a with defers:=[{ target:=.collected w.heap.size,args:=#[] }]++a.defers } (w3.putObj l (.loop { recL fn a.tmps ps asg body w.heap.size (stOf p2) (p2.map jcode) with state:=.exhausted })):=by
    refine ⟨fun b hb=>(hsame b (Nat.lt_of_lt_of_le hb s.le)).trans (s.same b hb),s.keeps.trans hkd.kx,((s.below.trans hbw).trans s3.below).trans (below_putObj hB),sim_putObj s3.sim hl3 rfl,s.frel.mono (subOf s.sim hsame),Nat.le_trans s.le s3.le,?_,by simp⟩
    obtain ⟨i1,i2,i3⟩:=s.inv
    have hz3:=s3.below.size
    refine ⟨i1,by simp; omega,w.heap.size,rfl,i2,?_,i3.lt,i3.keep fun D hD=>hkd.1 D _ hD rfl⟩
    rw [World.putObj_heap_other (by omega)]
    exact s3.keeps.1 _ _ hD rfl (by intro e; cases e; omega)
   cases p2 with
   | none=>exact ⟨none,_,hj',rfl,ρ2,s4⟩
   | some j =>
    cases j with
    | none=>exact wpIn_ret ⟨none,_,hj',rfl,ρ2,s4⟩
    | some id=>exact wpIn_exit ⟨none,_,hj',rfl,ρ2,s4⟩
  refine callsIn_of_wp hit hbd trivial (Code.wpIn_mono ?_ key)
  rintro e a2 w3 ⟨p2,out,hq,ho⟩
  cases out with
  | norm fr2 H2=>obtain ⟨rfl,ρ2,s3⟩:=ho; exact fin s3 hq
  | ret fr2 H2=>obtain ⟨rfl,ρ2,s3⟩:=ho; exact fin s3 hq
  | exit id fr2 H2=>exact hq.elim
  | panic v fr2 H2=>exact hq.elim
  | bad=>exact hq.elim
noncomputable def endRg (P:Program) (fn:Func) (K:COut→Prop) : QR:=fun _ out=>match out with
 | .norm fr H=>leaveW P noO fn K (.norm fr H)
 | .ret fr H=>leaveW P noO fn K (.ret fr H)
 | _=>False
noncomputable def fnX (G:Nat) (P:Program) (W:WF) (n:Nat) (plan:List (Nat×List It)) (c:Code) (fr:Fr) (H:Mem) (Q:QR) : Prop:=execR P W YN (RG G P W n plan) (LXR G P n 0 YN (RG G P W n plan)) 0 [] plan c none fr H Q
theorem WC.enterR {f:FuncId} {fn:Func} {c:Code} {args:List AV} {K:COut→Prop} {O:CallF} (hO:∀ B,CallOK B G P O) (hG:G=P.globals.size) (plan:List (Nat×List It)) (hf:P.funcs[f]?=some fn) (hb:fn.body=some c)
  (hd:(dstsOk fn.ntmps c && codeOkR P plan c)=true) (hl:args.length≤fn.ntmps) (h:fnX G P (orW O (WC G P)) fn.ntmps plan c (frameW args) H (endRg P fn K)) : WC G P f args H K:=by
 rw [Bool.and_eq_true] at hd
 intro B ρ us w hs hv
 have hW:=orW_ok (G:=G) (P:=P) hO
 have hM:=orW_mono (O:=O) (WC_mono' G P)
 have s1:StE B G fn.ntmps H.next ρ w none 0 (Iv0 w.heap.size) ρ (frameW args) [] none H { tmps:=us++Array.replicate (fn.ntmps - us.size) undef,defers:=[] } w :=
  ⟨fun _ _=>rfl,KX.refl _ _,Below.refl _ _,hs,frameW_entered hv hl,Nat.le_refl _,⟨rfl,Nat.le_refl _,trivial⟩,by simp⟩
 have key:=execR_sound (r:=none) (x:=none) (I:=Iv0 w.heap.size) hW hM hG IO_ok (YN_ok (r:=none)) (RG_ok (plan:=plan) (n:=fn.ntmps) (n0:=H.next) hW hM hG) 0 c none _ H _ ρ w ρ _ w hd.1 hd.2 h s1
 refine callsOfFR (r:=none) (m:=0) (callsIn_of_wp_marks hf hb trivial (Code.wpIn_mono ?_ key))
 rintro e a' w' ⟨p2,out,hq,ho⟩
 have fin:∀ {fr2:Fr} {p2:Option J} {H2:Mem} {ρ2:Rn},StE B G fn.ntmps H.next ρ w none 0 (Iv0 w.heap.size) ρ2 fr2 [] p2 H2 a' w' →
   (match leave P noO (fun _ _ _=>.bad) fn fr2 fr2.defers .returning H2 with | .bad=>False | r=>K r)→LeavesInM (FR none) 0 P fn a'.tmps (fun e w'=>∃ r,K r∧CPost B G H.next ρ w r e w') a'.defers .returning w':=by
  intro fr2 p2 H2 ρ2 s2 hn
  have hfd:fr2.defers=[]:=by
   have:DR ρ2 fr2.defers (Act.bare a').defers:=s2.frel.dfr
   cases hd:fr2.defers with
   | nil=>rfl
   | cons d ds=>rw [hd] at this; obtain ⟨fn,cp,ar⟩:=d; obtain ⟨_,_,_,he,_⟩:=this; cases he
  obtain ⟨v,hv2,hk⟩:=leave_calm hfd hn
  obtain ⟨_,_,i3⟩:=s2.inv
  refine leaves_marks (wb:=w) (lo:=w.heap.size) (ρ:=ρ2) (H:=H2) hs.base (Nat.le_refl _) (fun w4 g1 g2 g3=>?_) a'.defers w' i3 s2.sim s2.keeps.kd s2.below
  obtain ⟨u,hu1,hu2⟩:=results_sound (⟨Ext.refl _ _ _ _,g1,s2.frel,Nat.le_refl _⟩ : St B G fn.ntmps H2.next ρ2 w4 ρ2 fr2 H2 (Act.bare a') w4) hG hv2
  exact ⟨u,hu1,_,hk,ρ2,⟨s2.same,g2,g3⟩,g1,hu2,s2.le⟩
 cases out with
 | norm fr2 H2=>obtain ⟨rfl,ρ2,s2⟩:=ho; exact fin s2 hq
 | ret fr2 H2=>obtain ⟨rfl,ρ2,s2⟩:=ho; exact fin s2 hq
 | exit id fr2 H2=>exact hq.elim
 | panic v fr2 H2=>exact hq.elim
 | bad=>exact hq.elim
end Go.Ai
end
section
namespace Go.Ai
variable {P:Program} {W:WF} {Y:YW} {R:RWF} {L:LFR} {Q:QR} {fr:Fr} {p:Option J} {H:Mem} {plan:List (Nat×List It)} {yr:List Nat} {l G n:Nat} {ops:Array Oper} {g:Nat→Option AV} {ds:List Dfr}
theorem execR_congr {tk:Nat} (_h0:tick=tk) {c:Code} {fr fr' : Fr} {H H' : Mem} (h1:fr=fr') (h2:H=H') : execR P W Y R L l yr plan c p fr H Q=execR P W Y R L l yr plan c p fr' H' Q:=by rw [h1,h2]
theorem seqR_congr {tk:Nat} (_h0:tick=tk) {li:List Oper} {fr fr' : Fr} {H H' : Mem} (h1:fr=fr') (h2:H=H') : seqR P W Y l ops Q li p fr H=seqR P W Y l ops Q li p fr' H':=by rw [h1,h2]
theorem stepR_congr {tk:Nat} (_h0:tick=tk) {o:Oper} {k:Option J→Fr→Mem→Prop} {fr fr' : Fr} {H H' : Mem} (h1:fr=fr') (h2:H=H') : stepR P W Y l ops o p fr H k=stepR P W Y l ops o p fr' H' k:=by rw [h1,h2]
theorem stepY_congr {tk:Nat} (_h0:tick=tk) {o:Oper} {asx:Array Operand} {k:Option J→Fr→Mem→Prop} {fr fr' : Fr} {H H' : Mem} {y y' : Option Nat} (h1:fr=fr') (h2:H=H') (h3:y=y') : stepY P W Y l ops o asx p fr H k y=stepY P W Y l ops o asx p fr' H' k y':=by rw [h1,h2,h3]
theorem oneR_congr {tk:Nat} (_h0:tick=tk) {o:Oper} {k:Fr→Mem→Prop} {fr fr' : Fr} {H H' : Mem} (h1:fr=fr') (h2:H=H') : oneR P W ops o fr H k=oneR P W ops o fr' H' k:=by rw [h1,h2]
theorem afterR_congr {tk:Nat} (_h0:tick=tk) {o:Oper} {k:Fr→Mem→Prop} {fr fr' : Fr} {r r' : Go.Ai.R} (h1:fr=fr') (h2:r=r') : afterR W o fr k r=afterR W o fr' k r':=by rw [h1,h2]
theorem onL_congr {tk:Nat} (_h0:tick=tk) {α:Type} {x x' : Option α} {K:α→Prop} (h:x=x') : onL x K=onL x' K:=by rw [h]
theorem calm_congr {tk:Nat} (_h0:tick=tk) {Q:Out→Prop} {o o' : Out} (h:o=o') : calm Q o=calm Q o':=by rw [h]
theorem LXR_congr {tk:Nat} (_h0:tick=tk) {b:Code} {fr fr' : Fr} {H H' : Mem} (h1:fr=fr') (h2:H=H') : LXR G P n l Y R b p fr H Q=LXR G P n l Y R b p fr' H' Q:=by rw [h1,h2]
theorem RG_congr {tk:Nat} (_h0:tick=tk) {o:Operand} {ps:Array Tmp} {a b:Code} {fr fr' : Fr} {H H' : Mem} (h1:fr=fr') (h2:H=H') : RG G P W n plan o ps a b fr H Q=RG G P W n plan o ps a b fr' H' Q:=by rw [h1,h2]
theorem endRg_congr {tk:Nat} (_h0:tick=tk) {fn:Func} {K:COut→Prop} {o o' : Out} (h:o=o') : endRg P fn K p o=endRg P fn K p o':=by rw [h]
theorem itQ_congr {tk:Nat} (_h0:tick=tk) {fn:Func} {K:Option J→Mem→Prop} {o o' : Out} (h:o=o') : itQ P fn K p o=itQ P fn K p o':=by rw [h]
attribute [congr] execR_congr seqR_congr stepR_congr stepY_congr oneR_congr afterR_congr onL_congr calm_congr LXR_congr RG_congr endRg_congr itQ_congr
theorem execR_skip:execR P W Y R L l yr plan .skip p fr H Q=Q p (.norm fr H):=(rfl)
theorem execR_region {id:Nat} {li:List Oper} : execR P W Y R L l yr plan (.region id li.toArray false) p fr H Q=if id∈yr then seqR P W Y l li.toArray Q li p fr H else seqW P W li.toArray (calm (Q p)) li fr H:=(rfl)
theorem execR_seq {a b:Code} : execR P W Y R L l yr plan (.seq a b) p fr H Q=execR P W Y R L l yr plan a p fr H fun p=>thenW (fun fr H=>execR P W Y R L l yr plan b p fr H Q) (Q p):=(rfl)
theorem execR_cond {x:Operand} {a b:Code} : execR P W Y R L l yr plan (.cond x a b) p fr H Q=condW (fr.ev x) (execR P W Y R L l yr plan a p fr H Q) (execR P W Y R L l yr plan b p fr H Q):=(rfl)
theorem execR_block {id:Nat} {b:Code} : execR P W Y R L l yr plan (.block id b) p fr H Q=execR P W Y R L l yr plan b p fr H fun p=>inBlockW id (Q p):=(rfl)
theorem execR_loop {b:Code} : execR P W Y R L l yr plan (.loop b) p fr H Q=L b p fr H Q:=(rfl)
theorem execR_range {o:Operand} {ps:Array Tmp} {a b:Code} : execR P W Y R L l yr plan (.rangeFunc o ps a b) none fr H Q=R o ps a b fr H Q:=by simp [execR]
theorem execR_exit {id:Nat} : execR P W Y R L l yr plan (.exit id) p fr H Q=Q p (.exit id fr H):=(rfl)
theorem execR_ret:execR P W Y R L l yr plan .ret p fr H Q=Q p (.ret fr H):=(rfl)
attribute [simp] execR_skip execR_region execR_seq execR_cond execR_block execR_loop execR_range execR_exit execR_ret
theorem calm_norm {Q:Out→Prop} : calm Q (.norm (.f g []) H)=Q (.norm (.f g []) H):=by simp [calm,fr_defers]
theorem seqR_nil:seqR P W Y l ops Q [] p fr H=Q p (.norm fr H):=(rfl)
theorem seqR_cons {d:Option Tmp} {op:Op} {t:TypeId} {s:String} {af:Array Edge} {gd:Option (Nat×Bool)} {li:List Oper} :
  seqR P W Y l ops Q (⟨d,op,t,s,af,gd⟩ :: li) p fr H=stepR P W Y l ops ⟨d,op,t,s,af,gd⟩ p fr H (seqR P W Y l ops Q li):=(rfl)
section
variable {d:Option Tmp} {op:Op} {t:TypeId} {s:String} {af:Array Edge} {gd:Option (Nat×Bool)} {k:Option J→Fr→Mem→Prop} {j:Fr→Mem→Prop}
def onT (x:Option (Tmp×Array Operand)) (a:Tmp→Array Operand→Prop) (b:Prop) : Prop:=match x with | some (t,asx)=>a t asx | none=>b
theorem onT_some {t:Tmp} {asx:Array Operand} {a:Tmp→Array Operand→Prop} {b:Prop} : onT (some (t,asx)) a b=a t asx:=(rfl)
theorem onT_none {a:Tmp→Array Operand→Prop} {b:Prop} : onT none a b=b:=(rfl)
theorem stepR_eq {o:Oper} : stepR P W Y l ops o p fr H k=onT (tcOf o) (fun x asx=>stepY P W Y l ops o asx p fr H k (ylOf (fr.get x))) (oneR P W ops o fr H (k p)):=by
 unfold stepR onT
 cases tcOf o <;> rfl
theorem stepY_some {asx:Array Operand} : stepY P W Y l ops ⟨d,op,t,s,af,none⟩ asx none fr H k (some l)=onL (evals fr.ev asx.toList) fun vs=>Y vs H fun b p' H'=>k p' (fr.put d (.lit (.bool b))) H':=by simp [stepY]
theorem onL_some {α:Type} {x:α} {K:α→Prop} : onL (some x) K=K x:=(rfl)
theorem ylOf_yield {l:Nat} : ylOf (some (.lit (.func (.yield l) #[] #[])))=some l:=by simp [ylOf]
theorem oneR_none:oneR P W ops ⟨d,op,t,s,af,none⟩ fr H j=afterR W ⟨d,op,t,s,af,none⟩ fr j (opV P H fr.ev ⟨d,op,t,s,af,none⟩):=(rfl)
theorem afterR_val {o:Oper} {v:AV} : afterR W o fr j (.val v H)=retW o.dst j fr v (tagOf v) H:=(rfl)
theorem afterR_enter {o:Oper} {f:FuncId} {args:List AV} : afterR W o fr j (.enter f args H)=W f args H (fun r=>match r with
  | .ret v H=>retW o.dst j fr v (tagOf v) H
  | _=>False):=(rfl)
end
attribute [simp] calm_norm seqR_nil seqR_cons stepR_eq onT_some onT_none stepY_some onL_some ylOf_yield oneR_none afterR_val afterR_enter tcOf
theorem rdW_norm {K:Bool→Option J→Mem→Prop} : rdW K p (.norm fr H)=K true none H:=(rfl)
theorem rd0_norm {k:Fr→Mem→Prop} : rd0 k p (.norm fr H)=k fr H:=(rfl)
theorem itQ_norm {fn:Func} {K:Option J→Mem→Prop} : itQ P fn K p (.norm fr H)=leaveW P noO fn (onRet (K p)) (.norm fr H):=(rfl)
theorem itQ_ret {fn:Func} {K:Option J→Mem→Prop} : itQ P fn K p (.ret fr H)=leaveW P noO fn (onRet (K p)) (.ret fr H):=(rfl)
theorem onRet_ret {k:Mem→Prop} {v:AV} : onRet k (.ret v H)=k H:=(rfl)
theorem endRg_ret {fn:Func} {K:COut→Prop} : endRg P fn K p (.ret fr H)=leaveW P noO fn K (.ret fr H):=(rfl)
theorem jumpW_none:jumpW Q fr H none=Q none (.norm fr H):=(rfl)
theorem jumpW_ret:jumpW Q fr H (some none)=Q none (.ret fr H):=(rfl)
theorem putPs_nil:putPs [] [] fr=fr:=by cases fr <;> rfl
theorem putPs_cons {t:Tmp} {ts:List Tmp} {v:AV} {vs:List AV} : putPs (t :: ts) (v :: vs) fr=putPs ts vs (fr.upd t v):=(rfl)
theorem fr_upd {t:Tmp} {v:AV} : (Fr.f g ds).upd t v=.f (fput g t v) ds:=(rfl)
theorem rdX_eq {c:Code} : rdX G P W n plan c fr H Q=execR P W YN RN (LXR G P n 0 YN RN) 0 [] plan c none fr H Q:=(rfl)
theorem itX_eq {c:Code} : itX G P W Y n l yr plan c fr H Q=execR P W Y RN (LXR G P n l Y RN) l yr plan c none fr H Q:=(rfl)
theorem fnX_eq {c:Code} : fnX G P W n plan c fr H Q=execR P W YN (RG G P W n plan) (LXR G P n 0 YN (RG G P W n plan)) 0 [] plan c none fr H Q:=(rfl)
attribute [simp] rdW_norm rd0_norm itQ_norm itQ_ret onRet_ret endRg_ret jumpW_none jumpW_ret putPs_nil putPs_cons fr_upd rdX_eq itX_eq fnX_eq
theorem RG.enter {o:Operand} {ps:Array Tmp} {asg body:Code} (f:FuncId) (cap:List AV) (it:Func) (c:Code) (yr:List Nat) (planI:List (Nat×List It))
  (h0:(ps.toList.all (fun t=>Nat.blt t n) && (dstsOk n asg && dstsOk n body && (codeOkR P plan asg && codeOkR P plan body)))=true) (hev:fr.ev o=some (.func (.func f) [] cap)) (hf:P.funcs[f]?=some it) (hb:it.body=some c)
  (hh:hasBody P f=true) (hd:(dstsOk it.ntmps c && codeOkR P planI c)=true) (hl:cap.length+1≤it.ntmps)
  (h:∀ l,itX G P W (YB G P W n plan ps asg body fr) it.ntmps l yr planI c (frameW (.lit (.func (.yield l) #[] #[]) :: cap)) H (itQ P it (fun p H'=>jumpW Q fr H' p))) : RG G P W n plan o ps asg body fr H Q :=
 ⟨h0,f,cap,it,c,yr,planI,hev,hf,hb,hh,hd,hl,h⟩
theorem YB.enter {ps:Array Tmp} {asg body:Code} {vs:List AV} {K:Bool→Option J→Mem→Prop} (hl:vs.length=ps.size)
  (h:rdX G P W n plan asg (putPs ps.toList vs fr) H (rd0 fun fr1 H1=>rdX G P W n plan body fr1 H1 (rdW K))) : YB G P W n plan ps asg body fr vs H K:=⟨hl,h⟩
theorem LWR.mono {r:Option Nat} {c:Code} {Q Q' : Exit→Act→World→Prop} {a:Act} {w:World} (h:LWR r P c Q a w) (hq:∀ e a w,Q e a w→Q' e a w) : LWR r P c Q' a w:=fun b k cs hr =>
 let ⟨e,a',w',q,s⟩:=h b k cs hr; ⟨e,a',w',hq _ _ _ q,s⟩
theorem LXR.mono {b:Code} {Q' : QR} (h:LXR G P n l Y R b p fr H Q) (hq:∀ p o,Q p o→Q' p o) : LXR G P n l Y R b p fr H Q' :=
 fun B n0 r x I hI hY hR ρ0 w0 ρ a w s=>(h B n0 r x I hI hY hR ρ0 w0 ρ a w s).mono fun _ _ _ ⟨p,o,h1,h2⟩=>⟨p,o,hq _ _ h1,h2⟩
end Go.Ai
end
section
namespace Go.Ai
open Go.Proofs Go.Shelf Go.Sort
open Go.RowKit (Below)
set_option maxRecDepth 10000
def froz (R:Nat) (g:Nat→Option Blk) : Nat→Option Blk:=fun a=>if a=R then none else match g a with
 | some (.cells l _ z)=>some (.cells l false z)
 | _=>none
theorem froz_some {R a:Nat} {g:Nat→Option Blk} {x:Blk} (h:froz R g a=some x) : a≠R∧∃ l own z,g a=some (.cells l own z)∧x=.cells l false z:=by
 grind [froz]
theorem froz_at {R a:Nat} {g:Nat→Option Blk} {l:List AV} {own:Bool} {z:Nat} (hne:a≠R) (h:g a=some (.cells l own z)) : froz R g a=some (.cells l false z):=by
 simp_all [froz]
theorem grow_of {W w' : World} (hB:Below W.heap.size W w') (hd:W.drawn≤w'.drawn) : ∃ q os',w'=grow (W.drewN q) os':=by
 refine ⟨w'.drawn - W.drawn,w'.heap.extract W.heap.size w'.heap.size,?_⟩
 obtain ⟨h1,h2,h3,h4,h5⟩:=hB
 cases w' with
 | mk heap tape drawn os output =>
  cases W with
  | mk heap' tape' drawn' os' output' =>
   have e1:os=os':=h1
   have e2:tape=tape':=h2
   have e3:output=output':=h3
   have h4' : heap'.size≤heap.size:=h4
   have h5' : ∀ k,k < heap'.size→heap[k]?=heap'[k]?:=h5
   have e4:drawn=drawn'+(drawn - drawn'):=by grind
   have e5:heap=heap'++heap.extract heap'.size heap.size:=by
    grind
   subst e1 e2 e3
   show World.mk heap tape drawn os output=World.mk (heap'++heap.extract heap'.size heap.size) tape (drawn'+(drawn - drawn')) os output
   grind
theorem froz_sim {B G:Nat} {ρ:Rn} {g:Nat→Option Blk} {n:Nat} {w W:World} (s:Sim B G ρ ⟨.fn g,n⟩ w) {R:Nat} {l:List AV} {z b o kk:Nat} (hg:g R=some (.cells l true z)) (hr:ρ R=some (b,o,kk)) (hW:∀ j,j < w.heap.size→j≠b→W.heap[j]?=w.heap[j]?) (hsz:w.heap.size≤W.heap.size) : Sim W.heap.size G ρ ⟨.fn (froz R g),n⟩ W:=by
 refine ⟨fun a x hx=>?_,fun a a' x x' b1 o1 k1 o2 k2 h1 h2 hne hown=>?_,fun a ha=>s.fresh a ha,fun a x ha hx=>?_,s.names,Nat.le_refl _⟩
 ·obtain ⟨hne,l1,own,z1,h1,rfl⟩:=froz_some hx
  rcases s.blk a _ h1 with h | ⟨b1,o1,k1,h2,h3⟩
  ·grind
  ·refine .inr ⟨b1,o1,k1,h2,?_⟩
   have hb:b1≠b:=by
    rintro rfl
    exact s.inj R a _ _ b1 o kk o1 k1 hg h1 (Ne.symm hne) rfl hr h2
   have hlt:=h3.lt
   obtain ⟨c,e,fz,e1,e2,_⟩:=h3
   exact ⟨c,e,fz,(hW _ hlt hb).trans e1,e2,fun h=>by cases h⟩
 ·obtain ⟨_,l1,own,z1,_,rfl⟩:=froz_some h1
  cases hown
 ·obtain ⟨_,l1,own,z1,h1,_⟩:=froz_some hx
  exact s.glob a _ ha h1
theorem allOne_mem:∀ {l:List AV} {x:AV},allOne l=true→x∈l→oneC x=true
 | y :: l,x,h,hx=>by
  have h' : (match oneC y with | true=>allOne l | false=>false)=true:=h
  cases hy:oneC y with
  | false=>grind
  | true =>
   rw [hy] at h'
   rcases List.mem_cons.1 hx with rfl | hx
   ·exact hy
   ·exact allOne_mem h' hx
theorem sw1_other {α:Type} [Inhabited α] {enc:α→Value} {w:World} {b off m j:Nat} {dk:Array α} {os:Array Obj} (hj:j < w.heap.size) (hne:j≠b) : (sortWorld enc w b off m dk os).heap[j]?=w.heap[j]?:=by
 show ((w.heap.modify b _)++os)[j]?=_
 rw [Array.getElem?_append,if_pos (by simpa using hj),Array.getElem?_modify,if_neg (Ne.symm hne)]
theorem sw1_self {α:Type} [Inhabited α] {enc:α→Value} {w:World} {b off m:Nat} {dk:Array α} {os:Array Obj} {c:Array Value} {e:TypeId} {fz:Nat×Nat} (hb:w.heap[b]?=some (.cells c e fz)) : (sortWorld enc w b off m dk os).heap[b]?=some (.cells (putCells enc off dk c) e fz):=by
 have hlt:=(Array.getElem?_eq_some_iff.1 hb).1
 show ((w.heap.modify b _)++os)[b]?=_
 rw [Array.getElem?_append,if_pos (by simpa using hlt),Array.getElem?_modify,if_pos rfl,hb]
 rfl
theorem sw1_size {α:Type} [Inhabited α] {enc:α→Value} {w:World} {b off m:Nat} {dk:Array α} {os:Array Obj} : (sortWorld enc w b off m dk os).heap.size=w.heap.size+os.size:=by
 show ((w.heap.modify b _)++os).size=_
 simp
theorem WC.sort1 {G:Nat} {P:Program} {R:Ren} (L:SlLaysF.n6 P R) (c:FuncId) (ec:∀ args w,(callFunc c args).run P w=.ok (.enter c args) w)
  {its:List AV} (h1:allOne its=true) (cf:Nat→Nat→Int) (hO:SWO (ltOf cf)) {g:Nat→Option Blk} {n Bn z:Nat} (hg:g Bn=some (.cells its true z)) {sv:AV} (hsv:(∃ cp,sv=.sl Bn 0 its.length cp)∨∃ d,sv=.slq Bn 0 its.length d) (hpos:0 < its.length) (hlen:its.length < 1000000)
  (hcmp:∀ (i j:Nat) (hi:i < its.length) (hj:j < its.length),WC G P c [its[i],its[j]] ⟨.fn (froz Bn g),n⟩ fun r=>∃ g' n',r=.ret (.lit (.int .i64 (cf i j))) ⟨.fn g',n'⟩) :
  WC G P (R.f 6) [sv,.lit (.func (.func c) #[] #[])] ⟨.fn g,n⟩ fun r=>∃ is:List Nat,is.Perm (List.range its.length)∧(∀ (i j:Nat) (_:i < j) (hj:j < is.length),¬ cf is[j] (is[i]'(by omega)) < 0)∧r=.ret (.tup []) ⟨.fn (gput g Bn (some (.cells (is.map fun i=>its.getD i (.lit undef)) true z))),n⟩:=by
 intro B ρ us w s v
 obtain ⟨u1,us1,e1,hv1,u2,us2,e2,hv2,e3⟩:=v
 subst e3 e2
 have hus:us=#[u1,u2]:=Array.toList_inj.1 (by simpa using e1)
 subst hus
 have hv2:u2=.func (.func c) #[] #[]:=hv2
 subst hv2
 obtain ⟨b,o,kk,cap,hr,rfl⟩ : ∃ b o kk cap,ρ Bn=some (b,o,kk)∧u1=.slice (some ⟨b,o,none⟩) its.length cap:=by
  rcases hsv with ⟨cp,rfl⟩ | ⟨d,rfl⟩
  ·obtain ⟨b,o,kk,hr,_,e⟩:=hv1
   exact ⟨b,o,kk,_,hr,e⟩
  ·obtain ⟨b,o,kk,hr,_,e⟩:=hv1
   exact ⟨b,o,kk,_,hr,e⟩
 have hBR:=s.at (H:=⟨.fn g,n⟩) hg hr
 obtain ⟨c0,e,fz,hb,hc,hown⟩:=hBR
 obtain ⟨hBb,hfr,hsz0,hz0⟩:=hown rfl
 have hlt:=(Array.getElem?_eq_some_iff.1 hb).1
 have hcell:∀ (i:Nat) (hi:i < its.length),∃ u,c0[o+i]?=some u∧u.oneCell=true∧VR ρ its[i] u:=by
  intro i hi
  obtain ⟨u,q1,q2⟩:=hc i _ (List.getElem?_eq_getElem hi)
  exact ⟨u,q1,oneC_VR q2 (allOne_mem h1 (List.getElem_mem _)),q2⟩
 obtain ⟨m,hm⟩ : ∃ m,its.length=m:=⟨_,rfl⟩
 rw [hm] at hpos hlen ⊢
 clear hv1 e1
 haveI:Inhabited (Fin m):=⟨⟨0,hpos⟩⟩
 let enc:Fin m→Value:=fun i=>c0[o+i.val]!
 have hget:∀ {j:Nat} {u:Value},c0[j]?=some u→(c0[j]!)=u:=fun {j u} h=>by
  obtain ⟨hl,e⟩:=Array.getElem?_eq_some_iff.1 h
  rw [getElem!_pos c0 j hl,e]
 let d:Array (Fin m):=Array.ofFn fun i=>i
 have hds:d.size=m:=by simp [d]
 have hdi:∀ i (hi:i < m),(d[i]!)=⟨i,hi⟩:=fun i hi=>by simp [d,hi]
 have hone1:OneCell enc:=by
  intro x
  obtain ⟨u,q1,q2,_⟩:=hcell x.val (by rw [hm]; exact x.isLt)
  show (c0[o+x.val]!).oneCell'=true
  rw [hget q1,one_eq]; exact q2
 have hH:Holds enc w b o d:=by
  intro j hj
  rw [hds] at hj
  obtain ⟨u,q1,_,_⟩:=hcell j (by rw [hm]; exact hj)
  rw [hdi _ hj]
  show w.cell? _=some (c0[o+j]!)∧_
  rw [hget q1]
  exact ⟨cell_of hb q1,frozen_of hb (hfr _ (Array.getElem?_eq_some_iff.1 q1).1)⟩
 let cfF:Fin m→Fin m→Int:=fun x y=>cf x.val y.val
 have hOF:SWO (ltOf cfF):=⟨fun x=>hO.irrefl x.val,fun x y z=>hO.trans x.val y.val z.val,fun x y z=>hO.ntrans x.val y.val z.val⟩
 have hvr:∀ x:Fin m,VR ρ (its[x.val]'(by rw [hm]; exact x.isLt)) (enc x):=by
  intro x
  obtain ⟨u,q1,_,q3⟩:=hcell x.val (by rw [hm]; exact x.isLt)
  show VR ρ _ (c0[o+x.val]!)
  rw [hget q1]; exact q3
 have hC:CmpLays1 P c #[] enc cfF b o d.size w:=by
  intro m2 os dk hdk x y
  have hsW:=froz_sim s hg hr (W:=sortWorld enc w b o m2 dk os) (fun j hj hne=>sw1_other hj hne) (by rw [sw1_size]; exact Nat.le_add_right _ _)
  have hcall:=hcmp x.val y.val (by rw [hm]; exact x.isLt) (by rw [hm]; exact y.isLt) _ ρ #[enc x,enc y] _ hsW ⟨_,_,rfl,hvr x,_,_,rfl,hvr y,rfl⟩
  refine Calls.mono (by simpa using hcall) ?_
  rintro e w' ⟨r,⟨g',n',rfl⟩,hcp⟩
  cases e with
  | returned u =>
   obtain ⟨ρ',q1,q2,q3,q4⟩:=hcp
   refine ⟨?_,grow_of q1.below q1.keeps.2⟩
   have:u=_:=q3
   rw [this]
  | _=>exact hcp.elim
 have hmain:=Any.slices_SortFunc L enc hone1 cfF hOF c #[] b o cap d w ec hC hH hlt (by rw [hds]; omega)
 rw [hds] at hmain
 refine hmain.mono ?_
 rintro e' w' ⟨rfl,d',n2,os,hp,hsrt,rfl⟩
 have hds' : d'.size=m:=by rw [hp.1,hds]
 have hperm:d'.toList.Perm d.toList:=by
  have:=hp.2.2
  rwa [show d'.extract 0 m=d' from (congrArg (fun z=>d'.extract 0 z) hds'.symm).trans Array.extract_size,show d.extract 0 m=d from (congrArg (fun z=>d.extract 0 z) hds.symm).trans Array.extract_size] at this
 have hdl:d.toList.map Fin.val=List.range m:=by
  apply List.ext_getElem
  ·simp [d]
  ·intro i h2 h3; simp [d]
 have hil:(d'.toList.map Fin.val).length=m:=by simp [hds']
 have hisq:∀ q (hq:q < m),(d'.toList.map Fin.val)[q]'(by rw [hil]; exact hq)=(d'[q]!).val:=by
  intro q hq; simp [hds',hq]
 refine ⟨_,⟨d'.toList.map Fin.val,hdl ▸ hperm.map _,fun i j hij hj=>?_,rfl⟩,?_⟩
 ·rw [hil] at hj
  rw [hisq j hj,hisq i (by omega)]
  have:=hsrt i j (Nat.zero_le _) hij hj
  unfold ltOf at this
  simpa [cfF] using this
 ·have hkd:KD w (sortWorld enc w b o n2 d' os):=⟨fun j ob hj ho=>by
   have hjl:=(Array.getElem?_eq_some_iff.1 hj).1
   by_cases hjb:j=b
   ·subst hjb; rw [hb] at hj; cases hj; cases ho
   ·rw [sw1_other hjl hjb]; exact hj,Nat.le_add_right _ _⟩
  have hbel:Below B w (sortWorld enc w b o n2 d' os):=⟨rfl,rfl,rfl,by rw [sw1_size]; exact Nat.le_add_right _ _,fun j hj=>sw1_other (Nat.lt_of_lt_of_le hj s.base) (by omega)⟩
  refine ⟨ρ,⟨fun _ _=>rfl,hkd,hbel⟩,?_,⟨_,rfl,rfl⟩,Nat.le_refl _⟩
  refine Sim.set (H:=⟨.fn g,n⟩) s (x:=.cells its true z) (y:=.cells ((d'.toList.map Fin.val).map fun i=>its.getD i (.lit undef)) true z) hg hr rfl rfl (by rw [sw1_size]; exact Nat.le_add_right _ _) (fun j hne hj=>sw1_other hj hne) ?_
  refine ⟨_,e,fz,sw1_self hb,fun i v hv=>?_,fun _=>⟨hBb,fun j hj=>hfr j (by simpa [putCells] using hj),by simpa [putCells] using hsz0,?_⟩⟩
  ·have hi:i < m:=by
    have:=(List.getElem?_eq_some_iff.1 hv).1
    simpa [hds'] using this
   obtain ⟨u0,p1,_,_⟩:=hcell i (by rw [hm]; exact hi)
   obtain ⟨u,q1,_,q3⟩:=hcell (d'[i]!).val (by rw [hm]; exact (d'[i]!).isLt)
   refine ⟨u,?_,?_⟩
   ·unfold putCells
    rw [Array.getElem?_mapIdx,p1,Option.map_some,if_pos ⟨by omega,by rw [hds']; omega⟩,Nat.add_sub_cancel_left]
    exact congrArg some (hget q1)
   ·have hv2:v=its.getD (d'[i]!).val (.lit undef):=by
     have h5:=(List.getElem?_eq_some_iff.1 hv).2
     rw [← h5,List.getElem_map,hisq _ hi]
    have hgd:its.getD (d'[i]!).val (.lit undef)=its[(d'[i]!).val]'(by rw [hm]; exact (d'[i]!).isLt):=by
     rw [List.getD_eq_getElem?_getD,List.getElem?_eq_getElem (by rw [hm]; exact (d'[i]!).isLt)]; rfl
    rw [hv2,hgd]; exact q3
  ·rcases hz0 with h | h
   ·exact .inl h
   ·right; simpa [hds',hm] using h
end Go.Ai
end
