/- A small verified interpreter over names, its proofs, and what was proved with it. No condition. -/
import Derived.RangeFuncRecord
import Derived.RangeFuncIn
import Derived.TacticsIn
import Derived.Test.YtpimmmnkcgnjjaaGreatR05
import Derived.Test.YtpimmmnkcgnjjaaGreatR06
set_option linter.all false
set_option linter.deprecated false
section
namespace Go.Ai
open Go.RowKit (Below)
abbrev J:=Option Nat
def jcode:J→Code
 | none=>.ret
 | some id=>.exit id
def jexit:J→Exit
 | none=>.ret
 | some id=>.exit id
inductive OutE where
 | norm (fr:Fr) (ys:List Nat) (p:Option J) (H:Mem)
 | jump (j:J) (fr:Fr) (ys:List Nat) (p:Option J) (H:Mem)
 | bad
inductive YOut where
 | ok (b:Bool) (p:Option J) (H:Mem)
 | bad
inductive ROut where
 | ok (j:Option J) (H:Mem)
 | bad
inductive KE where
 | mv
 | yl (args:Array Operand)
 | no
def kindE (o:Oper) (ys:List Nat) : KE:=match o.op with
 | .move (.tmp t)=>(match elemN t ys with | true=>.mv | false=>.no)
 | .call c=>(match c.callee with
  | .value (.tmp t)=>(match elemN t ys with | true=>.yl c.args | false=>.no)
  | _=>.no)
 | _=>.no
def noDfO (o:Oper) : Bool:=match o.op with | .defer _=>false | _=>true
def dropN (d:Nat) : List Nat→List Nat
 | []=>[]
 | t :: l=>match Nat.beq d t with | true=>dropN d l | false=>t :: dropN d l
def dropO (d:Option Tmp) (ys:List Nat) : List Nat:=match d with | none=>ys | some d=>dropN d ys
abbrev YF:=List AV→Mem→YOut
abbrev RF:=Operand→Array Tmp→Code→Code→Fr→Mem→ROut
abbrev KF:=Fr→List Nat→Option J→Mem→OutE
noncomputable def mvE (o:Oper) (fr:Fr) (ys:List Nat) (p:Option J) (H:Mem) (K:KF) : OutE:=match o.dst with
 | none=>.bad
 | some d=>match fr.get d with
  | none=>K fr (d :: ys) p H
  | some _=>.bad
noncomputable def ylE (yf:YF) (o:Oper) (args:Array Operand) (fr:Fr) (ys:List Nat) (p:Option J) (H:Mem) (K:KF) : OutE:=match p,evals fr.ev args.toList with
 | none,some vs=>match yf vs H with
  | .ok b p' H'=>K (fr.put o.dst (.lit (.bool b))) (dropO o.dst ys) p' H'
  | .bad=>.bad
 | _,_=>.bad
noncomputable def afE (callf:CallF) (o:Oper) (fr:Fr) (ys:List Nat) (p:Option J) (K:KF) (r:R) : OutE:=match r with
 | .val v H'=>K (fr.put o.dst v) (dropO o.dst ys) p H'
 | .skip H'=>K (fr.put o.dst (.lit undef)) (dropO o.dst ys) p H'
 | .enter f args H'=>match callf f args H' with
  | .ret v H''=>K (fr.put o.dst v) (dropO o.dst ys) p H''
  | _=>.bad
 | _=>.bad
noncomputable def opE (P:Program) (callf:CallF) (yf:YF) (o:Oper) (fr:Fr) (ys:List Nat) (p:Option J) (H:Mem) (K:KF) : OutE:=match kindE o ys with
 | .mv=>mvE o fr ys p H K
 | .yl args=>ylE yf o args fr ys p H K
 | .no=>match noDfO o with
  | true=>afE callf o fr ys p K (opB P H fr.ev o)
  | false=>.bad
noncomputable def wantE (ops:Array Oper) (o:Oper) (fr:Fr) : Option Bool:=match o.guard with
 | none=>some true
 | some g=>wantedG ops fr g
noncomputable def opsE (P:Program) (callf:CallF) (yf:YF) (ops:Array Oper) : List Oper→KF
 | [],fr,ys,p,H=>.norm fr ys p H
 | o :: l,fr,ys,p,H=>match wantE ops o fr with
  | some true=>opE P callf yf o fr ys p H (opsE P callf yf ops l)
  | some false=>opsE P callf yf ops l (fr.put o.dst (.lit undef)) (dropO o.dst ys) p H
  | none=>.bad
def thenE (r:OutE) (k:KF) : OutE:=match r with
 | .norm fr ys p H=>k fr ys p H
 | r=>r
def blockE (id:Nat) (r:OutE) : OutE:=match r with
 | .jump (some id') fr ys p H=>(match Nat.beq id' id with | true=>.norm fr ys p H | false=>.jump (some id') fr ys p H)
 | r=>r
abbrev LFE:=Code→KF
noncomputable def drawE (P:Program) (callf:CallF) (ops:Array Oper) (fr:Fr) (ys:List Nat) (p:Option J) (H:Mem) : OutE:=match ys,ops.toList.all noDfO with
 | [],true=>(match drawnF P callf ops fr H with
  | .norm fr' H'=>(match fr'.defers with | []=>.norm fr' [] p H' | _=>.bad)
  | _=>.bad)
 | _,_=>.bad
noncomputable def execE (P:Program) (callf:CallF) (yf:YF) (rf:RF) (loopf:LFE) : Code→KF
 | .skip,fr,ys,p,H=>.norm fr ys p H
 | .region _ ops draw,fr,ys,p,H=>(match draw with | true=>drawE P callf ops fr ys p H | false=>opsE P callf yf ops ops.toList fr ys p H)
 | .seq a b,fr,ys,p,H=>thenE (execE P callf yf rf loopf a fr ys p H) (execE P callf yf rf loopf b)
 | .cond c a b,fr,ys,p,H=>(match fr.ev c with
  | some (.lit (.bool true))=>execE P callf yf rf loopf a fr ys p H
  | some (.lit (.bool false))=>execE P callf yf rf loopf b fr ys p H
  | _=>.bad)
 | .block id b,fr,ys,p,H=>blockE id (execE P callf yf rf loopf b fr ys p H)
 | .loop b,fr,ys,p,H=>thenE (execE P callf yf rf loopf b fr ys p H) (loopf b)
 | .rangeFunc g ps asg body,fr,ys,p,H=>(match ys with
  | []=>(match rf g ps asg body fr H with
   | .ok none H'=>.norm fr [] p H'
   | .ok (some j) H'=>.jump j fr [] p H'
   | .bad=>.bad)
  | _=>.bad)
 | .exit id,fr,ys,p,H=>.jump (some id) fr ys p H
 | .label _,fr,ys,p,H=>.norm fr ys p H
 | .ret,fr,ys,p,H=>.jump none fr ys p H
 | _,_,_,_,_=>.bad
noncomputable def loopE (P:Program) (callf:CallF) (yf:YF) (rf:RF) : Nat→LFE
 | 0=>fun _ _ _ _ _=>.bad
 | m+1=>fun b fr ys p H=>thenE (execE P callf yf rf (loopE P callf yf rf m) b fr ys p H) (loopE P callf yf rf m b)
def FR (r:Option Nat) : Fence:={ Fence.wide with round:=r }
theorem callsFR {r:Option Nat} {m:Nat} {P:Program} {f:FuncId} {args:Array Value} {w:World} {R:Ending→World→Prop} (h:Calls P f args w R) : CallsIn (FR r) m P f args w R:=(callsIn_wide (n:=m)).2 h
theorem callsOfFR {r:Option Nat} {m:Nat} {P:Program} {f:FuncId} {args:Array Value} {w:World} {R:Ending→World→Prop} (h:CallsIn (FR r) m P f args w R) : Calls P f args w R:=(callsIn_wide (n:=m)).1 h
def Act.bare (a:Act) : Act:={ a with defers:=[] }
theorem bare_put (a:Act) (d:Option Tmp) (v:Value) : Act.bare (a.put d v)=(Act.bare a).put d v:=by cases d <;> rfl
theorem bare_eval (a:Act) : (Act.bare a).eval=a.eval:=by funext x; cases x <;> rfl
def KX (x:Option Nat) (w w' : World) : Prop:=(∀ (k:Nat) (o:Obj),w.heap[k]?=some o→isMk o=true→x≠some k→w'.heap[k]?=some o)∧w.drawn≤w'.drawn
theorem KX.refl (x:Option Nat) (w:World) : KX x w w:=⟨fun _ _ h _ _=>h,Nat.le_refl _⟩
theorem KX.trans {x:Option Nat} {a b c:World} (h:KX x a b) (k:KX x b c) : KX x a c:=⟨fun i o hi ho hx=>k.1 i o (h.1 i o hi ho hx) ho hx,Nat.le_trans h.2 k.2⟩
theorem KD.kx {x:Option Nat} {w w' : World} (h:KD w w') : KX x w w':=⟨fun i o hi ho _=>h.1 i o hi ho,h.2⟩
theorem KX.kd {w w' : World} (h:KX none w w') : KD w w':=⟨fun i o hi ho=>h.1 i o hi ho (by simp),h.2⟩
theorem Sim.mark {B G:Nat} {ρ:Rn} {H:Mem} {w w' : World} {l:Nat} {ob:Obj} (s:Sim B G ρ H w) (hl:w.heap[l]?=some ob) (ho:isMk ob=true) (hw:∀ k,k≠l→w'.heap[k]?=w.heap[k]?) (hsz:w.heap.size≤w'.heap.size) : Sim B G ρ H w':=by
 refine s.other hsz fun a x b o k hx hr=>hw b fun e=>?_
 subst e
 rcases s.blk a x hx with h | ⟨b',o',k',h,hb⟩
 ·rw [hr] at h; cases h
 ·rw [hr] at h; cases h
  cases x with
  | cells l own z=>obtain ⟨c,e,fz,h1,_⟩:=hb; rw [hl] at h1; cases h1; cases ho
  | map es clock=>obtain ⟨es',h1,_⟩:=hb; rw [hl] at h1; cases h1; cases ho
  | siter s pos=>have h1:=hb.1; rw [hl] at h1; cases h1; cases ho
  | typ T l ex=>obtain ⟨_,_,c,h1,_⟩:=hb; rw [hl] at h1; cases h1; cases ho
abbrev Inv:=Rn→Option J→List Deferred→World→Prop
def InvOK (I:Inv) : Prop:=∀ ρ ρ' p ds w w',I ρ p ds w→KD w w'→w.heap.size≤w'.heap.size→Sub ρ ρ'→I ρ' p ds w'
structure StE (B G n n0:Nat) (ρ0:Rn) (w0:World) (x:Option Nat) (l:Nat) (I:Inv) (ρ:Rn) (fr:Fr) (ys:List Nat) (p:Option J) (H:Mem) (a:Act) (w:World) : Prop where
 same:∀ a,a < n0→ρ a=ρ0 a
 keeps:KX x w0 w
 below:Below B w0 w
 sim:Sim B G ρ H w
 frel:FRel n ρ fr (Act.bare a)
 le:n0≤H.next
 inv:I ρ p a.defers w
 ysl:∀ t,t∈ys→t < n∧fr.get t=none∧a.tmps.getD t undef=.func (.yield l) #[] #[]
def PostE (B G n n0:Nat) (ρ0:Rn) (w0:World) (x:Option Nat) (l:Nat) (I:Inv) (out:OutE) : Exit→Act→World→Prop:=fun e a' w'=>match out with
 | .norm fr ys p H=>e=.normal∧∃ ρ',StE B G n n0 ρ0 w0 x l I ρ' fr ys p H a' w'
 | .jump j fr ys p H=>e=jexit j∧∃ ρ',StE B G n n0 ρ0 w0 x l I ρ' fr ys p H a' w'
 | .bad=>False
def YOK (B G:Nat) (P:Program) (r x:Option Nat) (l m:Nat) (I:Inv) (yf:YF) : Prop:=∀ vs H b p' H',yf vs H=.ok b p' H'→∀ (ρ:Rn) (us:Array Value) (ds:List Deferred) (w:World),Sim B G ρ H w→VRs ρ vs us.toList→I ρ none ds w →
 ∃ f tm asg bd,(Instr.yield l us).run P w=.ok (.round l f tm asg bd) w ∧
  RoundIn (FR r) m P l f tm asg bd w fun e w'=>e=.returned (.bool b)∧∃ ρ',(∀ a,a < H.next→ρ' a=ρ a)∧KX x w w'∧Below B w w'∧Sim B G ρ' H' w'∧H.next≤H'.next∧I ρ' p' ds w'
def rOut (j:Option J) (fr:Fr) (p:Option J) (H:Mem) : OutE:=match j with | none=>.norm fr [] p H | some j=>.jump j fr [] p H
def ROK (B G n n0:Nat) (P:Program) (r x:Option Nat) (l m:Nat) (I:Inv) (rf:RF) : Prop:=∀ g ps asg body fr H j H',rf g ps asg body fr H=.ok j H' →
 ∀ (ρ0:Rn) (w0:World) (ρ:Rn) (p:Option J) (a:Act) (w:World),StE B G n n0 ρ0 w0 x l I ρ fr [] p H a w →
  (Code.rangeFunc g ps asg body).wpIn (FR r) m P (PostE B G n n0 ρ0 w0 x l I (rOut j fr p H')) a w
variable {B G n n0 m l:Nat} {P:Program} {ρ0 ρ:Rn} {w0 w:World} {x r:Option Nat} {I:Inv} {fr:Fr} {ys:List Nat} {p:Option J} {H:Mem} {a:Act}
theorem StE.st (s:StE B G n n0 ρ0 w0 x l I ρ fr ys p H a w) : St B G n H.next ρ w ρ fr H (Act.bare a) w:=⟨Ext.refl _ _ _ _,s.sim,s.frel,Nat.le_refl _⟩
theorem StE.ev (s:StE B G n n0 ρ0 w0 x l I ρ fr ys p H a w) : EvR ρ fr.ev a.eval:=by rw [← bare_eval]; exact s.st.ev
theorem mem_dropN {d t:Nat} : ∀ {l:List Nat},t∈dropN d l→t∈l∧t≠d
 | y :: l,h=>by
  unfold dropN at h
  split at h
  ·obtain ⟨h1,h2⟩:=mem_dropN h; exact ⟨by simp [h1],h2⟩
  ·rename_i hb
   rcases List.mem_cons.1 h with rfl | h
   ·refine ⟨by simp,fun e=>?_⟩
    subst e; simp at hb
   ·obtain ⟨h1,h2⟩:=mem_dropN h; exact ⟨by simp [h1],h2⟩
theorem ysl_put {d:Option Tmp} {v:AV} {u yv:Value} (h:∀ t,t∈ys→t < n∧fr.get t=none∧a.tmps.getD t undef=yv) :
  ∀ t,t∈dropO d ys→t < n∧(fr.put d v).get t=none∧(a.put d u).tmps.getD t undef=yv:=by
 intro t ht
 cases d with
 | none=>exact h t ht
 | some d =>
  obtain ⟨h1,h2⟩:=mem_dropN ht
  obtain ⟨h3,h4,h5⟩:=h t h1
  refine ⟨h3,?_,?_⟩
  ·cases hg:(fr.put (some d) v).get t with
   | none=>rfl
   | some y =>
    rcases Fr.get_upd hg with ⟨rfl,_⟩ | ⟨_,hy⟩
    ·exact absurd rfl h2
    ·rw [h4] at hy; cases hy
  ·show (a.tmps.setIfInBounds d u).getD t undef=yv
   rw [Array.getD_eq_getD_getElem?] at h5 ⊢
   rw [Array.getElem?_setIfInBounds_ne (Ne.symm h2)]
   exact h5
theorem StE.step {ρ' : Rn} {H' : Mem} {w' : World} {v:AV} {u:Value} {d:Option Tmp} {p' : Option J} (s:StE B G n n0 ρ0 w0 x l I ρ fr ys p H a w) (h1:∀ a,a < H.next→ρ' a=ρ a) (h2:KX x w w') (h3:Below B w w') (hs:Sim B G ρ' H' w')
  (hv:VR ρ' v u) (hn:H.next≤H'.next) (hd:∀ t,d=some t→t < n) (hI:I ρ' p' a.defers w') : StE B G n n0 ρ0 w0 x l I ρ' (fr.put d v) (dropO d ys) p' H' (a.put d u) w':=by
 have hsub:Sub ρ ρ':=by
  intro a x hx
  rw [h1 a ?_]; · exact hx
  rcases Nat.lt_or_ge a H.next with k | k
  ·exact k
  ·rw [s.sim.fresh a k] at hx; cases hx
 refine ⟨fun b hb=>(h1 b (Nat.lt_of_lt_of_le hb s.le)).trans (s.same b hb),s.keeps.trans h2,s.below.trans h3,hs,?_,Nat.le_trans s.le hn,by rw [put_defers]; exact hI,ysl_put s.ysl⟩
 rw [bare_put]
 exact (s.frel.mono hsub).put hd hv
theorem elemN_of {i:Nat} : ∀ {l:List Nat},elemN i l=true→i∈l
 | j :: l,h=>by
  unfold elemN at h
  split at h
  ·rename_i hb; simp [Nat.eq_of_beq_eq_true hb]
  ·simp [elemN_of h]
theorem opE_sound {callf:CallF} {yf:YF} {ops:Array Oper} {o:Oper} {rest:List Oper} {K:KF} {out:OutE} (hc:CallOK B G P callf) (hG:G=P.globals.size) (hy:∀ m,YOK B G P r x l m I yf)
  (hI:InvOK I) (hdst:dstOk n o=true) (s:StE B G n n0 ρ0 w0 x l I ρ fr ys p H a w)
  (hk:∀ fr' ys' p' H' ρ' a' w',StE B G n n0 ρ0 w0 x l I ρ' fr' ys' p' H' a' w'→K fr' ys' p' H'=out→wpListIn (FR r) m P ops (PostE B G n n0 ρ0 w0 x l I out) rest a' w')
  (hout:opE P callf yf o fr ys p H K=out) (hne:out≠.bad) :
  o.wpIn (FR r) m P a w (wpListIn (FR r) m P ops (PostE B G n n0 ρ0 w0 x l I out) rest) (PostE B G n n0 ρ0 w0 x l I out):=by
 refine ⟨fun _ _=>trivial,?_⟩
 have hd:=dstOk_lt hdst
 unfold opE at hout
 split at hout
 ·
  rename_i hkd
  unfold kindE at hkd
  split at hkd
  ·rename_i t hop
   split at hkd
   ·rename_i ht
    obtain ⟨h1,h2,h3⟩:=s.ysl t (elemN_of ht)
    have hrun:(o.semAt (FR r).round a.eval).run P w=.ok (.value (.func (.yield l) #[] #[])) w:=by
     rw [Oper.semAt_eq _ _ _ (by rw [hop]; simp)]
     have:a.eval (.tmp t)=.func (.yield l) #[] #[]:=h3
     simp [execOp,hop,this]
    rw [hrun]
    show wpListIn _ _ _ _ _ _ (a.put o.dst _) w
    unfold mvE at hout
    split at hout
    ·exact absurd hout.symm hne
    ·rename_i d hdd
     split at hout
     ·rename_i hg
      refine hk fr (d :: ys) p H ρ _ w ⟨s.same,s.keeps,s.below,s.sim,?_,s.le,by rw [put_defers]; exact s.inv,?_⟩ hout
      ·rw [hdd]
       refine ⟨fun j v hj hjn=>?_,s.frel.dfr,?_,s.frel.only⟩
       ·have hjd:j≠d:=fun e=>by rw [e,hg] at hj; cases hj
        have:=s.frel.slot j v hj hjn
        show VR ρ v ((a.tmps.setIfInBounds d _).getD j undef)
        rw [Array.getD_eq_getD_getElem?,Array.getElem?_setIfInBounds_ne (Ne.symm hjd),← Array.getD_eq_getD_getElem?]
        exact this
       ·show n≤(a.tmps.setIfInBounds d _).size
        simp; exact s.frel.size
      ·intro j hj
       rw [hdd]
       have hdn:=hd d hdd
       have hsz:d < a.tmps.size:=Nat.lt_of_lt_of_le hdn s.frel.size
       by_cases hjd:j=d
       ·subst hjd
        refine ⟨hdn,hg,?_⟩
        show (a.tmps.setIfInBounds j _).getD j undef=_
        rw [Array.getD_eq_getD_getElem?]
        simp [hsz]
       ·have hj' : j∈ys:=by simpa [hjd] using hj
        obtain ⟨k1,k2,k3⟩:=s.ysl j hj'
        refine ⟨k1,k2,?_⟩
        show (a.tmps.setIfInBounds d _).getD j undef=_
        rw [Array.getD_eq_getD_getElem?,Array.getElem?_setIfInBounds_ne (Ne.symm hjd),← Array.getD_eq_getD_getElem?]
        exact k3
     ·exact absurd hout.symm hne
   ·cases hkd
  ·split at hkd
   ·split at hkd <;> cases hkd
   ·cases hkd
  ·cases hkd
 ·
  rename_i args hkd
  unfold kindE at hkd
  split at hkd
  ·split at hkd <;> cases hkd
  ·rename_i c hop
   split at hkd
   ·rename_i t hcal
    split at hkd
    ·rename_i ht
     cases hkd
     obtain ⟨h1,h2,h3⟩:=s.ysl t (elemN_of ht)
     unfold ylE at hout
     split at hout
     ·rename_i vs hvs
      split at hout
      ·rename_i b p' H' hyf
       have hva:VRs ρ vs (c.args.map a.eval).toList:=by simpa using evals_VRs s.ev hvs
       obtain ⟨f,tm,asg,bd,hrun,hround⟩:=hy (m - 1) vs H b p' H' hyf ρ (c.args.map a.eval) a.defers w s.sim hva s.inv
       have hrun2:(o.semAt (FR r).round a.eval).run P w=.ok (.round l f tm asg bd) w:=by
        rw [Oper.semAt_eq _ _ _ (by rw [hop]; simp)]
        have:a.eval (.tmp t)=.func (.yield l) #[] #[]:=h3
        simp only [execOp,hop,resolve,hcal,this,Deferred.ofValue,Sem.run_bind,Sem.run_pure,Result.andThen_ok,invoke]
        simpa using hrun
       rw [hrun2,Oper.uponIn_round]
       refine ⟨fun h=>(by cases h),hround.mono fun e w' he=>?_⟩
       obtain ⟨rfl,ρ',g1,g2,g3,g4,g5,g6⟩:=he
       exact hk _ _ _ _ _ _ _ (s.step (v:=.lit (.bool b)) (u:=.bool b) g1 g2 g3 g4 rfl g5 hd g6) hout
      ·exact absurd hout.symm hne
     ·exact absurd hout.symm hne
    ·cases hkd
   ·cases hkd
  ·cases hkd
 ·rename_i hkd
  split at hout
  ·rename_i hnd
   have hop:∀ c,o.op≠.defer c:=by
    intro c hc
    unfold noDfO at hnd
    rw [hc] at hnd
    cases hnd
   rw [Oper.semAt_eq _ _ _ hop]
   have hrs:=opB_sound (o:=o) s.sim s.ev hG
   unfold afE at hout
   cases hr:opB P H fr.ev o with
   | val v H' =>
    rw [hr] at hrs hout
    obtain ⟨ρ',u,w',h1,h2,h3,h4,h5⟩:=hrs
    rw [h1]
    exact hk _ _ _ _ _ _ _ (s.step h2.same h2.keeps.kx h2.below h3 h4 h5 hd (hI _ _ _ _ _ _ s.inv h2.keeps h2.below.size (h2.sub s.sim))) hout
   | skip H' =>
    rw [hr] at hrs hout
    obtain ⟨ρ',w',h1,h2,h3,h5⟩:=hrs
    rw [h1]
    exact hk _ _ _ _ _ _ _ (s.step h2.same h2.keeps.kx h2.below h3 (undef_VR _) h5 hd (hI _ _ _ _ _ _ s.inv h2.keeps h2.below.size (h2.sub s.sim))) hout
   | enter f args H' =>
    rw [hr] at hrs hout
    obtain ⟨us,h1,h2,rfl⟩:=hrs
    rw [h1,Oper.uponIn_enter]
    refine ⟨fun h=>(by cases h),?_⟩
    cases hcall:callf f args H' with
    | ret v H2 =>
     dsimp only at hout
     rw [hcall] at hout
     have:=hc f args H' (by rw [hcall]; simp) ρ us w s.sim h2
     rw [hcall] at this
     refine (callsFR this).mono fun e w' he=>?_
     cases e with
     | returned u =>
      obtain ⟨ρ',g1,g2,g3,g4⟩:=he
      exact hk _ _ _ _ _ _ _ (s.step g1.same g1.keeps.kx g1.below g2 g3 g4 hd (hI _ _ _ _ _ _ s.inv g1.keeps g1.below.size (g1.sub s.sim))) hout
     | panicked chain=>exact he.elim
     | outgrown=>exact he.elim
    | panic v H2=>dsimp only at hout; rw [hcall] at hout; exact absurd hout.symm hne
    | bad=>dsimp only at hout; rw [hcall] at hout; exact absurd hout.symm hne
   | dfr fn cap args H'=>rw [hr] at hout; exact absurd hout.symm hne
   | recover=>rw [hr] at hout; exact absurd hout.symm hne
   | panic v H'=>rw [hr] at hout; exact absurd hout.symm hne
   | bad=>rw [hr] at hout; exact absurd hout.symm hne
  ·exact absurd hout.symm hne
theorem wantE_sound {ops:Array Oper} {o:Oper} {b:Bool} (s:StE B G n n0 ρ0 w0 x l I ρ fr ys p H a w) (h:wantE ops o fr=some b) : Region.wanted o (yielded ops a.tmps)=b:=by
 unfold wantE at h
 cases hg:o.guard with
 | none=>rw [hg] at h; cases h; simp [Region.wanted,hg]
 | some g=>rw [hg] at h; exact wantedG_sound (a:=Act.bare a) s.st hg h
theorem opsE_sound {callf:CallF} {yf:YF} {ops:Array Oper} (hc:CallOK B G P callf) (hG:G=P.globals.size) (hy:∀ m,YOK B G P r x l m I yf) (hI:InvOK I) {out:OutE} (hne:out≠.bad) :
  ∀ (li:List Oper) (fr:Fr) (ys:List Nat) (p:Option J) (H:Mem) (ρ:Rn) (a:Act) (w:World),(∀ o∈li,dstOk n o=true)→StE B G n n0 ρ0 w0 x l I ρ fr ys p H a w→opsE P callf yf ops li fr ys p H=out →
   wpListIn (FR r) m P ops (PostE B G n n0 ρ0 w0 x l I out) li a w
 | [],fr,ys,p,H,ρ,a,w,_,s,h=>by
  have h' : OutE.norm fr ys p H=out:=h
  subst h'
  exact wpListIn_nil ⟨rfl,ρ,s⟩
 | o :: li,fr,ys,p,H,ρ,a,w,hd,s,h=>by
  have hdo:=hd o (by simp)
  unfold opsE at h
  unfold wpListIn
  split at h
  ·rename_i hw
   rw [if_pos (wantE_sound s hw)]
   exact opE_sound hc hG hy hI hdo s (fun fr' ys' p' H' ρ' a' w' s' hk=>opsE_sound hc hG hy hI hne li fr' ys' p' H' ρ' a' w' (fun o ho=>hd o (by simp [ho])) s' hk) h hne
  ·rename_i hw
   rw [if_neg (by rw [wantE_sound s hw]; simp)]
   exact ⟨fun _ _=>trivial,opsE_sound hc hG hy hI hne li _ _ _ _ ρ _ _ (fun o ho=>hd o (by simp [ho])) (s.step (fun _ _=>rfl) (KX.refl _ _) (Below.refl _ _) s.sim (undef_VR _) (Nat.le_refl _) (dstOk_lt hdo) s.inv) h⟩
  ·exact absurd h.symm hne
def Act.df (a:Act) (x:List Deferred) : Act:={ a with defers:=x }
theorem df_put (a:Act) (x:List Deferred) (d:Option Tmp) (v:Value) : (Act.df a x).put d v=Act.df (a.put d v) x:=by cases d <;> rfl
theorem df_eval (a:Act) (x:List Deferred) : (Act.df a x).eval=a.eval:=by funext y; cases y <;> rfl
theorem rowsFR {row:String} {args:Array Value} {w:World} {R:Value→World→Prop} (h:Rows P row args w R) : RowsIn (FR r) m P row args w R :=
 fun c cs _=>let ⟨v,w',hr,s⟩:=h c cs; ⟨v,w',hr,stepsIn_wide.2 s⟩
theorem opsIn_of {ops:Array Oper} {Q:Exit→Act→World→Prop} (hnd:ops.toList.all noDfO=true) (hQ:¬LetsOut Q) (D0:List Deferred) : ∀ (li:List Nat) (a:Act) (x:List Deferred) (w:World),a.defers=x++D0→wpOps P ops Q li (Act.df a x) w →
  wpOpsIn (FR r) m P ops (fun e a' w'=>∃ y,a'.defers=y++D0∧Q e (Act.df a' y) w') li a w
 | [],a,x,w,ha,h=>⟨x,ha,h⟩
 | i :: li,a,x,w,ha,h=>by
  unfold wpOps at h
  unfold wpOpsIn
  cases ho:ops[i]? with
  | none=>rw [ho] at h; exact opsIn_of hnd hQ D0 li a x w ha h
  | some o =>
   rw [ho] at h
   dsimp only at h ⊢
   have hno:=List.all_eq_true.1 hnd o (List.mem_of_getElem? (toList_at.2 ho))
   have hop:∀ c,o.op≠.defer c:=by
    intro c hc
    unfold noDfO at hno
    rw [hc] at hno
    cases hno
   have hdd:∀ d v,(a.put d v).defers=x++D0:=fun d v=>by rw [put_defers]; exact ha
   split at h
   ·rename_i hw
    rw [if_pos (show Region.wanted o (yielded ops a.tmps)=true from hw)]
    rcases h with h | ⟨_,h2⟩
    ·refine ⟨fun _ _=>trivial,?_⟩
     rw [Oper.semAt_eq _ _ _ hop]
     unfold Oper.wp at h
     rw [df_eval] at h
     unfold Oper.upon at h
     split at h
     ·rename_i hr; rw [hr]; rw [df_put] at h; exact opsIn_of hnd hQ D0 li _ x _ (hdd _ _) h
     ·rename_i hr; rw [hr]; rw [df_put] at h; exact opsIn_of hnd hQ D0 li _ x _ (hdd _ _) h
     ·rename_i d w' hr
      rw [hr,Oper.uponIn_defer]
      refine opsIn_of hnd hQ D0 li _ (d :: x) _ (by rw [put_defers]; simp [ha]) ?_
      have e:Act.df (({ a with defers:=d :: a.defers } : Act).put o.dst undef) (d :: x)=({ Act.df a x with defers:=d :: (Act.df a x).defers } : Act).put o.dst undef:=by
       cases o.dst <;> rfl
      rw [e]; exact h
     ·rename_i f args w' hr
      rw [hr,Oper.uponIn_enter]
      refine ⟨fun h=>(by cases h),(callsFR h).mono fun e w2 he=>?_⟩
      cases e with
      | returned v=>dsimp only at he ⊢; rw [df_put] at he; exact opsIn_of hnd hQ D0 li _ x _ (hdd _ _) he
      | panicked c=>exact ⟨x,ha,he⟩
      | outgrown=>exact absurd he hQ
     ·rename_i row args w' hr
      rw [hr,Oper.uponIn_row]
      refine ⟨fun h=>(by cases h),(rowsFR h).mono fun v w2 he=>?_⟩
      rw [df_put] at he; exact opsIn_of hnd hQ D0 li _ x _ (hdd _ _) he
     ·rename_i v w' hr
      rw [hr]; exact ⟨x,ha,h⟩
     ·exact h.elim
    ·exact absurd h2 hQ
   ·rename_i hw
    rw [if_neg (show ¬Region.wanted o (yielded ops a.tmps)=true from hw)]
    refine ⟨fun _ _=>trivial,opsIn_of hnd hQ D0 li _ x _ (hdd _ _) ?_⟩
    rw [← df_put]; exact h
theorem uponIn_monoQ {o:Oper} {next next' : Act→World→Prop} {Q Q' : Exit→Act→World→Prop} (hn:∀ a w,next a w→next' a w) (hq:∀ e a w,Q e a w→Q' e a w) {F:Fence} {re:Result Next} (h:o.uponIn F m P a next Q re) : o.uponIn F m P a next' Q' re:=by
 have hl:LetsOut Q→LetsOut Q':=fun ⟨a,w,h⟩=>⟨a,w,hq _ _ _ h⟩
 unfold Oper.uponIn at h ⊢
 split at h
 ·exact hn _ _ h
 ·exact hn _ _ h
 ·exact hn _ _ h
 ·refine ⟨h.1,h.2.mono fun e w' he=>?_⟩
  cases e with
  | returned v=>exact hn _ _ he
  | panicked c=>exact hq _ _ _ he
  | outgrown=>exact hl he
 ·exact ⟨h.1,h.2.mono fun v w' he=>hn _ _ he⟩
 ·refine ⟨h.1,h.2.mono fun e w' he=>?_⟩
  cases e with
  | returned v=>exact hn _ _ he
  | panicked c=>exact hq _ _ _ he
  | outgrown=>exact hl he
 ·exact hq _ _ _ h
 ·exact h.elim
theorem wpOpsIn_monoQ {F:Fence} {ops:Array Oper} {Q Q' : Exit→Act→World→Prop} (hq:∀ e a w,Q e a w→Q' e a w) : ∀ (l:List Nat) (a:Act) (w:World),wpOpsIn F m P ops Q l a w→wpOpsIn F m P ops Q' l a w
 | [],a,w,h=>hq _ _ _ h
 | i :: l,a,w,h=>by
  unfold wpOpsIn at h ⊢
  cases ho:ops[i]? with
  | none=>rw [ho] at h; exact wpOpsIn_monoQ hq l a w h
  | some o =>
   rw [ho] at h
   dsimp only at h ⊢
   split at h
   ·rename_i hw
    rw [if_pos hw]
    exact ⟨h.1,uponIn_monoQ (wpOpsIn_monoQ hq l) hq h.2⟩
   ·rename_i hw
    rw [if_neg hw]
    exact ⟨h.1,wpOpsIn_monoQ hq l _ _ h.2⟩
theorem drawE_sound {callf:CallF} {ops:Array Oper} {id:Nat} (hcs:∀ B,CallOK B G P callf) (hG:G=P.globals.size) (hI:InvOK I) (hd:dstsOk n (.region id ops true)=true)
  (s:StE B G n n0 ρ0 w0 x l I ρ fr ys p H a w) (hne:drawE P callf ops fr ys p H≠.bad) : (Code.region id ops true).wpIn (FR r) m P (PostE B G n n0 ρ0 w0 x l I (drawE P callf ops fr ys p H)) a w:=by
 unfold drawE at hne ⊢
 split at hne
 ·rename_i hnd
  split at hne
  ·rename_i fr' H' hr
   split at hne
   case h_2=>exact absurd rfl hne
   rename_i hfd
   refine wpIn_region_draw fun t=>?_
   have hq:¬LetsOut (OutPost B G n H.next ρ w (drawnF P callf ops fr H)):=by
    rintro ⟨a',w',h⟩
    rw [hr] at h
    exact h.elim
   have key:=opsIn_of (r:=r) (m:=m) hnd hq a.defers _ a [] _ rfl (drawnF_ops (id:=id) hcs hG s.st hd (by rw [hr]; simp) t)
   refine wpOpsIn_monoQ ?_ _ _ _ key
   rintro e a' w' ⟨y,hy,h⟩
   rw [hr] at h
   cases e with
   | normal =>
    obtain ⟨ρ',s'⟩:=h
    have hy0:y=[]:=by
     have h1:DR ρ' fr'.defers y:=s'.frel.dfr
     rw [hfd] at h1; exact h1
    subst hy0
    refine ⟨rfl,ρ',fun b hb=>(s'.ext.same b (Nat.lt_of_lt_of_le hb s.le)).trans (s.same b hb),s.keeps.trans s'.ext.keeps.kx,s.below.trans s'.ext.below,s'.sim,s'.frel,Nat.le_trans s.le s'.le,?_,by simp⟩
    have hy' : a'.defers=a.defers:=by simpa using hy
    rw [hy']
    exact hI _ _ _ _ _ _ s.inv s'.ext.keeps s'.ext.below.size (s'.ext.sub s.sim)
   | _=>exact h.elim
  ·exact absurd rfl hne
 ·exact absurd rfl hne
end Go.Ai
end
section
namespace Go.Ai
open Go.RowKit (Below)
variable {B G n n0 m l:Nat} {P:Program} {ρ0 ρ:Rn} {w0 w:World} {x r:Option Nat} {I:Inv} {fr:Fr} {ys:List Nat} {p:Option J} {H:Mem} {a:Act}
def LWR (r:Option Nat) (P:Program) (c:Code) (Q:Exit→Act→World→Prop) (a:Act) (w:World) : Prop :=
 ∀ (b:Frame) (k:List Item) (cs:List Frame),b.roundOf=r→∃ e a' w',Q e a' w'∧ArrivesIn (Machine.fenced P (FR r)) P (lone (b.atR a (.code c :: .inLoop c :: k)) cs w) b k cs e a' w'
theorem room_FR (n:Nat) : (FR r).room n:=fun _ h=>by cases h
theorem fencedFR {b:Frame} {k:List Item} {cs:List Frame} (hr:b.roundOf=r) (ha:(b.atR a k).about P w=none) : (lone (b.atR a k) cs w).fenced P (FR r):=fenced_calm (n:=0) (F:=FR r) trivial (room_FR _) ha
theorem LWR.wp {c:Code} {Q:Exit→Act→World→Prop} (h:LWR r P c Q a w) : (Code.loop c).wpIn (FR r) m P Q a w :=
 fun b k cs hro _ _=>let ⟨e,a',w',q,s⟩:=h b k cs hro; ⟨e,a',w',q,.of_steps (.one (fencedFR hro rfl) stepR_loop) s⟩
theorem LWR.unroll {c:Code} {Q:Exit→Act→World→Prop} (h:c.wpIn (FR r) m P (Exit.then (LWR r P c Q) Q) a w) : LWR r P c Q a w:=by
 intro b k cs hro
 obtain ⟨e,a₁,w₁,hq,harr⟩:=h b (.inLoop c :: k) cs hro trivial (room_FR _)
 cases e with
 | normal =>
  obtain ⟨e₂,a₂,w₂,hq₂,harr₂⟩:=hq b k cs hro
  exact ⟨e₂,a₂,w₂,hq₂,.of_steps (StepsIn.trans harr (.one (fencedFR hro rfl) stepR_inLoop)) harr₂⟩
 | exit id=>exact ⟨_,a₁,w₁,hq,.pass (x:=.inLoop c) rfl (fun _ _=>.inl (by simp)) harr⟩
 | goto l=>exact ⟨_,a₁,w₁,hq,.pass (x:=.inLoop c) rfl (fun _ _=>.inl (by simp)) harr⟩
 | ret=>exact ⟨_,a₁,w₁,hq,.pass (x:=.inLoop c) rfl (fun _ _=>.inl (by simp)) harr⟩
 | panic ch=>exact ⟨_,a₁,w₁,hq,.pass (x:=.inLoop c) rfl (fun _ _=>.inl (by simp)) harr⟩
 | outgrown=>exact ⟨_,a₁,w₁,hq,.pass (x:=.inLoop c) rfl (fun _ _=>.inl (by simp)) harr⟩
def GoodE (B G n n0:Nat) (P:Program) (r x:Option Nat) (l m:Nat) (I:Inv) (ex:KF) (c:Code) : Prop :=
 ∀ (ρ0:Rn) (w0:World) (ρ:Rn) (fr:Fr) (ys:List Nat) (p:Option J) (H:Mem) (a:Act) (w:World),dstsOk n c=true→StE B G n n0 ρ0 w0 x l I ρ fr ys p H a w→ex fr ys p H≠.bad →
  c.wpIn (FR r) m P (PostE B G n n0 ρ0 w0 x l I (ex fr ys p H)) a w
def LoopE (B G n n0:Nat) (P:Program) (r x:Option Nat) (l:Nat) (I:Inv) (loopf:LFE) : Prop :=
 ∀ (b:Code) (ρ0:Rn) (w0:World) (ρ:Rn) (fr:Fr) (ys:List Nat) (p:Option J) (H:Mem) (a:Act) (w:World),dstsOk n b=true→StE B G n n0 ρ0 w0 x l I ρ fr ys p H a w→loopf b fr ys p H≠.bad →
  LWR r P b (PostE B G n n0 ρ0 w0 x l I (loopf b fr ys p H)) a w
theorem thenE_post {o:OutE} {k:KF} {K:Act→World→Prop} (hne:thenE o k≠.bad)
  (hk:∀ fr' ys' p' H' ρ' a' w',o=.norm fr' ys' p' H'→StE B G n n0 ρ0 w0 x l I ρ' fr' ys' p' H' a' w'→k fr' ys' p' H'≠.bad→K a' w') :
  ∀ e a' w',PostE B G n n0 ρ0 w0 x l I o e a' w'→Exit.then K (PostE B G n n0 ρ0 w0 x l I (thenE o k)) e a' w':=by
 intro e a' w' h
 cases o with
 | norm fr' ys' p' H'=>obtain ⟨rfl,ρ',s'⟩:=h; exact hk _ _ _ _ ρ' a' w' rfl s' hne
 | jump j fr' ys' p' H' =>
  have h0:=h
  obtain ⟨rfl,ρ',s'⟩:=h0
  cases j <;> exact h
 | bad=>exact absurd rfl hne
theorem good_loopE {callf:CallF} {yf:YF} {rf:RF} {loopf:LFE} {b:Code} (hl:LoopE B G n n0 P r x l I loopf) (hb:GoodE B G n n0 P r x l m I (execE P callf yf rf loopf b) b) (ρ0:Rn) (w0:World) (ρ:Rn) (fr:Fr) (ys:List Nat) (p:Option J) (H:Mem) (a:Act) (w:World)
  (hd:dstsOk n b=true) (s:StE B G n n0 ρ0 w0 x l I ρ fr ys p H a w) (hne:thenE (execE P callf yf rf loopf b fr ys p H) (loopf b)≠.bad) :
  LWR r P b (PostE B G n n0 ρ0 w0 x l I (thenE (execE P callf yf rf loopf b fr ys p H) (loopf b))) a w:=by
 have hr:execE P callf yf rf loopf b fr ys p H≠.bad:=fun h=>hne (by rw [h]; rfl)
 refine LWR.unroll (m:=m) (Code.wpIn_mono (thenE_post hne fun fr' ys' p' H' ρ' a' w' hr' s' hk=>?_) (hb ρ0 w0 ρ fr ys p H a w hd s hr))
 rw [hr']
 exact hl b ρ0 w0 ρ' fr' ys' p' H' a' w' hd s' hk
theorem execE_sound {callf:CallF} {yf:YF} {rf:RF} {loopf:LFE} (hcs:∀ B,CallOK B G P callf) (hG:G=P.globals.size) (hy:∀ m,YOK B G P r x l m I yf) (hI:InvOK I)
  (hrf:ROK B G n n0 P r x l m I rf) (hl:LoopE B G n n0 P r x l I loopf) : ∀ c:Code,GoodE B G n n0 P r x l m I (execE P callf yf rf loopf c) c:=by
 intro c
 induction c with
 | skip=>intro ρ0 w0 ρ fr ys p H a w hd s hne; exact wpIn_skip ⟨rfl,ρ,s⟩
 | region id ops draw =>
  intro ρ0 w0 ρ fr ys p H a w hd s hne
  cases draw with
  | false =>
   refine wpIn_region_list (opsE_sound (hcs B) hG hy hI hne ops.toList fr ys p H ρ a w ?_ s rfl)
   exact fun o ho=>List.all_eq_true.1 hd o ho
  | true=>exact drawE_sound hcs hG hI hd s hne
 | seq c1 c2 ih1 ih2 =>
  intro ρ0 w0 ρ fr ys p H a w hd s hne
  have he:execE P callf yf rf loopf (.seq c1 c2) fr ys p H=thenE (execE P callf yf rf loopf c1 fr ys p H) (execE P callf yf rf loopf c2):=rfl
  rw [he] at hne ⊢
  simp only [dstsOk,Bool.and_eq_true] at hd
  have hr:execE P callf yf rf loopf c1 fr ys p H≠.bad:=fun h=>hne (by rw [h]; rfl)
  refine wpIn_seq (Code.wpIn_mono (thenE_post hne fun fr' ys' p' H' ρ' a' w' hr' s' hk=>?_) (ih1 ρ0 w0 ρ fr ys p H a w hd.1 s hr))
  rw [hr']
  exact ih2 ρ0 w0 ρ' fr' ys' p' H' a' w' hd.2 s' hk
 | cond cnd c1 c2 ih1 ih2 =>
  intro ρ0 w0 ρ fr ys p H a w hd s hne
  simp only [dstsOk,Bool.and_eq_true] at hd
  have he:execE P callf yf rf loopf (.cond cnd c1 c2) fr ys p H=(match fr.ev cnd with
   | some (.lit (.bool true))=>execE P callf yf rf loopf c1 fr ys p H
   | some (.lit (.bool false))=>execE P callf yf rf loopf c2 fr ys p H
   | _=>.bad):=rfl
  rw [he] at hne ⊢
  split at hne
  ·rename_i hev
   exact wpIn_cond_true (s.ev _ _ hev) (ih1 ρ0 w0 ρ fr ys p H a w hd.1 s hne)
  ·rename_i hev
   exact wpIn_cond_false (s.ev _ _ hev) (ih2 ρ0 w0 ρ fr ys p H a w hd.2 s hne)
  ·exact absurd rfl hne
 | block id b ih =>
  intro ρ0 w0 ρ fr ys p H a w hd s hne
  have he:execE P callf yf rf loopf (.block id b) fr ys p H=blockE id (execE P callf yf rf loopf b fr ys p H):=rfl
  rw [he] at hne ⊢
  have hr:execE P callf yf rf loopf b fr ys p H≠.bad:=fun h=>hne (by rw [h]; rfl)
  refine wpIn_block (Code.wpIn_mono ?_ (ih ρ0 w0 ρ fr ys p H a w hd s hr))
  intro e a' w' h
  generalize execE P callf yf rf loopf b fr ys p H=o at h hne ⊢
  cases o with
  | norm fr' ys' p' H'=>obtain ⟨rfl,h'⟩:=h; exact ⟨rfl,h'⟩
  | jump j fr' ys' p' H' =>
   obtain ⟨rfl,ρ',s'⟩:=h
   cases j with
   | none=>exact ⟨rfl,ρ',s'⟩
   | some id2 =>
    unfold blockE
    dsimp only [jexit]
    split
    ·rename_i hb
     have:=Nat.eq_of_beq_eq_true hb
     subst this
     simp only [Exit.inBlock,if_true]
     exact ⟨rfl,ρ',s'⟩
    ·rename_i hb
     have hne2:id2≠id:=by intro h0; subst h0; simp at hb
     simp only [Exit.inBlock,hne2,if_false]
     exact ⟨rfl,ρ',s'⟩
  | bad=>exact absurd rfl hne
 | loop b ih =>
  intro ρ0 w0 ρ fr ys p H a w hd s hne
  exact (good_loopE hl ih ρ0 w0 ρ fr ys p H a w hd s hne).wp
 | rangeFunc g ps c1 c2 ih1 ih2 =>
  intro ρ0 w0 ρ fr ys p H a w hd s hne
  cases ys with
  | cons y ys=>exact absurd rfl hne
  | nil =>
   have he:execE P callf yf rf loopf (.rangeFunc g ps c1 c2) fr [] p H=(match rf g ps c1 c2 fr H with
    | .ok none H'=>.norm fr [] p H'
    | .ok (some j) H'=>.jump j fr [] p H'
    | .bad=>.bad):=rfl
   rw [he] at hne ⊢
   split at hne
   ·rename_i H' hrr; exact hrf _ _ _ _ _ _ _ _ hrr ρ0 w0 ρ p a w s
   ·rename_i j H' hrr; exact hrf _ _ _ _ _ _ _ _ hrr ρ0 w0 ρ p a w s
   ·exact absurd rfl hne
 | exit id=>intro ρ0 w0 ρ fr ys p H a w hd s hne; exact wpIn_exit ⟨rfl,ρ,s⟩
 | scope b ih=>intro ρ0 w0 ρ fr ys p H a w hd s hne; exact absurd rfl hne
 | label l=>intro ρ0 w0 ρ fr ys p H a w hd s hne; exact wpIn_label ⟨rfl,ρ,s⟩
 | goto l=>intro ρ0 w0 ρ fr ys p H a w hd s hne; exact absurd rfl hne
 | ret=>intro ρ0 w0 ρ fr ys p H a w hd s hne; exact wpIn_ret ⟨rfl,ρ,s⟩
 | refuse why=>intro ρ0 w0 ρ fr ys p H a w hd s hne; exact absurd rfl hne
theorem loopE_sound {callf:CallF} {yf:YF} {rf:RF} (hcs:∀ B,CallOK B G P callf) (hG:G=P.globals.size) (hy:∀ m,YOK B G P r x l m I yf) (hI:InvOK I)
  (hrf:∀ m,ROK B G n n0 P r x l m I rf) : ∀ k,LoopE B G n n0 P r x l I (loopE P callf yf rf k)
 | 0=>fun b ρ0 w0 ρ fr ys p H a w hd s hne=>absurd rfl hne
 | k+1=>fun b ρ0 w0 ρ fr ys p H a w hd s hne=>good_loopE (m:=0) (loopE_sound hcs hG hy hI hrf k) (execE_sound hcs hG hy hI (hrf 0) (loopE_sound hcs hG hy hI hrf k) b) ρ0 w0 ρ fr ys p H a w hd s hne
end Go.Ai
end
section
namespace Go.Ai
open Go.RowKit (Below)
variable {B G n n0 m l:Nat} {P:Program} {ρ0 ρ:Rn} {w0 w:World} {x r:Option Nat} {I:Inv} {fr fr0:Fr} {ys:List Nat} {p:Option J} {H:Mem} {a:Act} {callf:CallF} {fid D:Nat} {tm:Array Value} {ps:Array Tmp} {asg body:Code} {fuel:Nat}
theorem below_putObj {o:Obj} (hB:B≤l) : Below B w (w.putObj l o):=⟨rfl,rfl,rfl,by simp,fun k hk=>World.putObj_heap_other (by omega)⟩
theorem kx_putObj {o:Obj} : KX (some l) w (w.putObj l o):=⟨fun k ob hk ho hx=>by
 rw [World.putObj_heap_other (fun e=>hx (by rw [e]))]; exact hk,Nat.le_refl _⟩
theorem sim_putObj {o ob:Obj} (s:Sim B G ρ H w) (hl:w.heap[l]?=some ob) (ho:isMk ob=true) : Sim B G ρ H (w.putObj l o) :=
 s.mark hl ho (fun k hk=>World.putObj_heap_other hk) (by simp)
noncomputable def yBad:YF:=fun _ _=>.bad
noncomputable def rBad:RF:=fun _ _ _ _ _ _=>.bad
theorem yBad_ok (m:Nat) : YOK B G P r x l m I yBad:=fun _ _ _ _ _ h=>by cases h
theorem rBad_ok (m:Nat) : ROK B G n n0 P r x l m I rBad:=fun _ _ _ _ _ _ _ _ h=>by cases h
noncomputable def putPs:List Tmp→List AV→Fr→Fr
 | t :: ts,v :: vs,fr=>putPs ts vs (fr.upd t v)
 | _,_,fr=>fr
theorem putPs_ok:∀ {ps:List Tmp} {vs:List AV} {us:List Value} {fr:Fr} {tm:Array Value},(∀ t∈ps,t < n)→VRs ρ vs us→FRel n ρ fr { tmps:=tm,defers:=[] } →
  FRel n ρ (putPs ps vs fr) { tmps:=(ps.zip us).foldl (fun tmps (t,a)=>tmps.setIfInBounds t a) tm,defers:=[] }
 | [],vs,us,fr,tm,_,_,h=>by simpa [putPs] using h
 | t :: ts,[],us,fr,tm,_,hv,h=>by cases hv; simpa [putPs] using h
 | t :: ts,v :: vs,us,fr,tm,ht,hv,h=>by
  obtain ⟨u,us',rfl,h1,h2⟩:=hv
  have:=FRel.put (d:=some t) h (fun j hj=>by cases hj; exact ht t (by simp)) h1
  exact putPs_ok (ps:=ts) (vs:=vs) (us:=us') (fr:=fr.upd t v) (tm:=tm.setIfInBounds t u) (fun j hj=>ht j (by simp [hj])) h2 this
def recL (fid:FuncId) (tm:Array Value) (ps:Array Tmp) (asg body:Code) (D:Nat) (st:LoopState) (pd:Option Code) : Loop:={ state:=st,pending:=pd,fn:=fid,tmps:=tm,params:=ps,assign:=asg,body:=body,defers:=D }
def IR (fid:FuncId) (tm:Array Value) (ps:Array Tmp) (asg body:Code) (D l:Nat) (st:LoopState) : Inv:=fun _ _ ds w=>ds=[]∧w.heap[l]?=some (.loop (recL fid tm ps asg body D st none))
def stOf (p:Option J) : LoopState:=match p with | none=>.ready | some _=>.done
def II (n:Nat) (fr0:Fr) (fid:FuncId) (tm:Array Value) (ps:Array Tmp) (asg body:Code) (D l:Nat) : Inv:=fun ρ p ds w=>ds=[]∧FRel n ρ fr0 { tmps:=tm,defers:=[] }∧w.heap[l]?=some (.loop (recL fid tm ps asg body D (stOf p) (p.map jcode)))
theorem IR_ok {st:LoopState} : InvOK (IR fid tm ps asg body D l st):=fun _ _ _ _ _ _ h hk _ _=>⟨h.1,hk.1 _ _ h.2 rfl⟩
theorem II_ok:InvOK (II n fr0 fid tm ps asg body D l):=fun _ _ _ _ _ _ h hk _ hs=>⟨h.1,h.2.1.mono hs,hk.1 _ _ h.2.2 rfl⟩
noncomputable def yfR (P:Program) (callf:CallF) (fuel:Nat) (ps:Array Tmp) (asg body:Code) (fr0:Fr) : YF:=fun vs H=>match Nat.beq vs.length ps.size with
 | true=>(match execE P callf yBad rBad (loopE P callf yBad rBad fuel) asg (putPs ps.toList vs fr0) [] none H with
  | .norm fr1 ys1 p1 H1=>(match execE P callf yBad rBad (loopE P callf yBad rBad fuel) body fr1 ys1 p1 H1 with
   | .norm _ _ _ H2=>.ok true none H2
   | .jump j _ _ _ H2=>.ok false (some j) H2
   | .bad=>.bad)
  | _=>.bad)
 | false=>.bad
theorem subOf {ρ' : Rn} (s:Sim B G ρ H w) (h:∀ a,a < H.next→ρ' a=ρ a) : Sub ρ ρ':=by
 intro a y hy
 rw [h a ?_]; · exact hy
 rcases Nat.lt_or_ge a H.next with k | k
 ·exact k
 ·rw [s.fresh a k] at hy; cases hy
theorem yfR_ok (hcs:∀ B,CallOK B G P callf) (hG:G=P.globals.size) (hB:B≤l) (hps:∀ t∈ps.toList,t < n) (hda:dstsOk n asg=true) (hdb:dstsOk n body=true) (m:Nat) :
  YOK B G P none (some l) l m (II n fr0 fid tm ps asg body D l) (yfR P callf fuel ps asg body fr0):=by
 intro vs H b p' H' hyf ρ us ds w hs hv hI
 obtain ⟨rfl,hfr,hl⟩:=hI
 unfold yfR at hyf
 split at hyf
 ·rename_i hlen
  have hlen':=Nat.eq_of_beq_eq_true hlen
  have hsz:us.size=ps.size:=by have:=hv.length; simp at this; omega
  refine ⟨fid,_,asg,body,run_yield hl hsz,roundIn_of_wpIn trivial ?_⟩
  generalize htm:((recL fid tm ps asg body D (stOf none) (Option.map jcode none)).params.zip us).foldl (fun tmps (t,a)=>tmps.setIfInBounds t a) (recL fid tm ps asg body D (stOf none) (Option.map jcode none)).tmps=tm1
  have hfr1:FRel n ρ (putPs ps.toList vs fr0) { tmps:=tm1,defers:=[] }:=by
   have:=putPs_ok hps hv hfr
   rw [← htm]
   show FRel n ρ (putPs ps.toList vs fr0) { tmps:=(ps.zip us).foldl (fun tmps (t,a)=>tmps.setIfInBounds t a) tm,defers:=[] }
   rw [← Array.foldl_toList,Array.toList_zip]
   exact this
  have s0:StE B G n H.next ρ w none 0 (IR fid tm ps asg body D l .ready) ρ (putPs ps.toList vs fr0) [] none H { tmps:=tm1,defers:=[] } w :=
   ⟨fun _ _=>rfl,KX.refl _ _,Below.refl _ _,hs,hfr1,Nat.le_refl _,⟨rfl,hl⟩,by simp⟩
  split at hyf
  ·rename_i fr1 ys1 p1 H1 he1
   have key:asg.wpIn (FR (some l)) m P _ _ _:=execE_sound (r:=some l) (m:=m) hcs hG yBad_ok IR_ok (rBad_ok m) (loopE_sound hcs hG yBad_ok IR_ok rBad_ok fuel) asg ρ w ρ _ [] none H _ w hda s0 (by rw [he1]; simp)
   rw [he1] at key
   refine Code.wpIn_mono ?_ key
   rintro e a1 w1 ⟨rfl,ρ1,s1⟩
   obtain ⟨hds1,hl1⟩:=s1.inv
   refine ⟨_,run_beginRound hl1 rfl,?_⟩
   have hl2:(w1.putObj l (.loop { recL fid tm ps asg body D .ready none with state:=.busy })).heap[l]?=some (.loop (recL fid tm ps asg body D .busy none)):=World.putObj_heap_same (Array.getElem?_eq_some_iff.1 hl1).1
   generalize hw2:w1.putObj l (.loop { recL fid tm ps asg body D .ready none with state:=.busy })=w2 at hl2 ⊢
   have s2:StE B G n H1.next ρ1 w2 none 0 (IR fid tm ps asg body D l .busy) ρ1 fr1 ys1 p1 H1 a1 w2 :=
    ⟨fun _ _=>rfl,KX.refl _ _,Below.refl _ _,by rw [← hw2]; exact sim_putObj s1.sim hl1 rfl,s1.frel,Nat.le_refl _,⟨hds1,hl2⟩,s1.ysl⟩
   have fin:∀ {H2:Mem} {ρ2:Rn} {fr2:Fr} {ys2:List Nat} {q:Option J} {a2:Act} {w3:World} (j:Option J),StE B G n H1.next ρ1 w2 none 0 (IR fid tm ps asg body D l .busy) ρ2 fr2 ys2 q H2 a2 w3 →
     ∃ v w4,(Instr.endRound l (j.map jcode)).run P w3=.ok v w4∧(Ending.returned v=.returned (.bool j.isNone)∧∃ ρ',(∀ a,a < H.next→ρ' a=ρ a)∧KX (some l) w w4∧Below B w w4∧Sim B G ρ' H2 w4∧H.next≤H2.next∧II n fr0 fid tm ps asg body D l ρ' j [] w4):=by
    intro H2 ρ2 fr2 ys2 q a2 w3 j s3
    obtain ⟨_,hl3⟩:=s3.inv
    have hne:((j.map jcode).isNone)=j.isNone:=by cases j <;> rfl
    refine ⟨_,_,run_endRound _ hl3,by rw [hne],ρ2,fun b hb=>?_,?_,?_,sim_putObj s3.sim hl3 rfl,Nat.le_trans s1.le s3.le,rfl,?_,?_⟩
    ·exact (s3.same b (Nat.lt_of_lt_of_le hb s1.le)).trans (s1.same b hb)
    ·have k1:KX (some l) w w1:=⟨fun k o hk ho hx=>s1.keeps.1 k o hk ho (by simp),s1.keeps.2⟩
     have k2:KX (some l) w1 w2:=by rw [← hw2]; exact kx_putObj
     have k3:KX (some l) w2 w3:=⟨fun k o hk ho hx=>s3.keeps.1 k o hk ho (by simp),s3.keeps.2⟩
     exact ((k1.trans k2).trans k3).trans kx_putObj
    ·have k2:Below B w1 w2:=by rw [← hw2]; exact below_putObj hB
     exact ((s1.below.trans k2).trans s3.below).trans (below_putObj hB)
    ·exact hfr.mono (subOf hs fun b hb=>(s3.same b (Nat.lt_of_lt_of_le hb s1.le)).trans (s1.same b hb))
    ·rw [World.putObj_heap_same (Array.getElem?_eq_some_iff.1 hl3).1]
     cases j <;> rfl
   split at hyf
   ·rename_i fr2 ys2 p2 H2 he2
    cases hyf
    have key2:body.wpIn (FR (some l)) m P _ _ _:=execE_sound (r:=some l) (m:=m) hcs hG yBad_ok IR_ok (rBad_ok m) (loopE_sound hcs hG yBad_ok IR_ok rBad_ok fuel) body ρ1 w2 ρ1 _ _ _ H1 _ w2 hdb s2 (by rw [he2]; simp)
    rw [he2] at key2
    refine Code.wpIn_mono ?_ key2
    rintro e a2 w3 ⟨rfl,ρ2,s3⟩
    exact fin none s3
   ·rename_i j fr2 ys2 p2 H2 he2
    cases hyf
    have key2:body.wpIn (FR (some l)) m P _ _ _:=execE_sound (r:=some l) (m:=m) hcs hG yBad_ok IR_ok (rBad_ok m) (loopE_sound hcs hG yBad_ok IR_ok rBad_ok fuel) body ρ1 w2 ρ1 _ _ _ H1 _ w2 hdb s2 (by rw [he2]; simp)
    rw [he2] at key2
    refine Code.wpIn_mono ?_ key2
    rintro e a2 w3 ⟨rfl,ρ2,s3⟩
    cases j with
    | none=>exact fin (some none) s3
    | some id=>exact fin (some (some id)) s3
   ·cases hyf
  ·cases hyf
 ·cases hyf
end Go.Ai
end
section
namespace Go.Ai
open Go.RowKit (Below)
variable {B G n n0 m l l1 lo:Nat} {P:Program} {ρ0 ρ:Rn} {w0 w:World} {x r:Option Nat} {I:Inv} {fr fr0:Fr} {ys:List Nat} {p:Option J} {H:Mem} {a:Act} {callf:CallF} {fid D:Nat} {tm:Array Value} {ps:Array Tmp} {asg body:Code} {fuel:Nat}
noncomputable def itEnd (P:Program) (it:Func) (r:OutE) : ROut:=match r with
 | .norm fr _ p H=>(match resultsA P it fr H with | some _=>.ok p H | none=>.bad)
 | .jump none fr _ p H=>(match resultsA P it fr H with | some _=>.ok p H | none=>.bad)
 | _=>.bad
noncomputable def itE (P:Program) (callf:CallF) (fuel:Nat) (yf:YF) (f:FuncId) (cap:List AV) (H:Mem) : ROut:=match P.funcs[f]? with
 | some it=>(match it.body,hasBody P f with
  | some c,true=>(match dstsOk it.ntmps c,Nat.ble (len cap+1) it.ntmps with
   | true,true=>itEnd P it (execE P callf yf rBad (loopE P callf yf rBad fuel) c (putArgs cap (frame0 it.ntmps) 1) [0] none H)
   | _,_=>.bad)
  | _,_=>.bad)
 | none=>.bad
noncomputable def rfR (P:Program) (callf:CallF) (fuel n:Nat) : RF:=fun g ps asg body fr H=>match ps.toList.all (fun t=>Nat.blt t n),dstsOk n asg && dstsOk n body,fr.ev g with
 | true,true,some (.func (.func f) [] cap)=>itE P callf fuel (yfR P callf fuel ps asg body fr) f cap H
 | _,_,_=>.bad
def MKs (lo:Nat) : List Deferred→World→Prop
 | [],_=>True
 | d :: ds,w=>∃ D,d.target=.collected D∧lo≤D∧w.heap[D]?=some (.deferred (some []))∧(∀ d'∈ds,d'.target≠.collected D)∧MKs lo ds w
theorem MKs.keep {w w' : World} (hk:∀ D:Nat,w.heap[D]?=some (Obj.deferred (some []))→w'.heap[D]?=some (Obj.deferred (some []))) : ∀ {ds:List Deferred},MKs lo ds w→MKs lo ds w'
 | [],_=>trivial
 | _ :: _,⟨D,h1,h2,h3,h4,h5⟩=>⟨D,h1,h2,hk D h3,h4,MKs.keep hk h5⟩
theorem MKs.keepBut {w w' : World} {E:Nat} (hk:∀ D,D≠E→w'.heap[D]?=w.heap[D]?) : ∀ {ds:List Deferred},(∀ d'∈ds,d'.target≠.collected E)→MKs lo ds w→MKs lo ds w'
 | [],_,_=>trivial
 | d :: _,hE,⟨D,h1,h2,h3,h4,h5⟩=>⟨D,h1,h2,by rw [hk D (fun e=>hE d (by simp) (by rw [h1,e]))]; exact h3,h4,MKs.keepBut hk (fun d' h=>hE d' (by simp [h])) h5⟩
theorem MKs.lt {w:World} : ∀ {ds:List Deferred},MKs lo ds w→∀ d'∈ds,d'.target≠.collected w.heap.size
 | d :: ds,⟨D,h1,h2,h3,h4,h5⟩,d',hd=>by
  rcases List.mem_cons.1 hd with rfl | hd
  ·rw [h1]
   intro e
   cases e
   have:=(Array.getElem?_eq_some_iff.1 h3).1
   omega
  ·exact MKs.lt h5 d' hd
def Iv0 (lo:Nat) : Inv:=fun _ p ds w=>p=none∧lo≤w.heap.size∧MKs lo ds w
theorem IO_ok:InvOK (Iv0 lo):=fun _ _ _ _ _ _ h hk hz _=>⟨h.1,Nat.le_trans h.2.1 hz,h.2.2.keep fun D hD=>hk.1 D _ hD rfl⟩
theorem frame_it {cap:List AV} {cs:Array Value} {yv:Value} (hv:VRs ρ cap cs.toList) (hle:cap.length+1≤n) :
  FRel n ρ (putArgs cap (frame0 n) 1) { tmps:=#[yv]++cs++Array.replicate (n - (#[yv]++cs).size) undef,defers:=[] } ∧
  (∀ t,t∈[0]→t < n∧(putArgs cap (frame0 n) 1).get t=none∧(#[yv]++cs++Array.replicate (n - (#[yv]++cs).size) undef).getD t undef=yv):=by
 have hsz:cs.size=cap.length:=by have:=hv.length; simpa using this
 have hget:∀ t v,(putArgs cap (frame0 n) 1).get t=some v→1≤t∧cap[t - 1]?=some v:=by
  intro t v h
  rcases putArgs_get _ _ _ _ _ h with h1 | h1
  ·exact h1
  ·rw [get_frame0] at h1; cases h1
 refine ⟨⟨?_,?_,by simp; omega,?_⟩,?_⟩
 ·intro t v h _
  obtain ⟨h1,h2⟩:=hget t v h
  obtain ⟨u,hu,hvu⟩:=hv.get (t - 1) h2
  have hlt:t - 1 < cs.size:=by have:=(List.getElem?_eq_some_iff.1 hu).1; simpa using this
  rw [Array.getD_eq_getD_getElem?,Array.getElem?_append_left (by simp; omega),Array.getElem?_append_right (by simp; omega)]
  have:cs[t - 1]?=some u:=by simpa using hu
  simp only [List.size_toArray,List.length_singleton]
  rw [this]; exact hvu
 ·rw [putArgs_defers,defers_frame0]; rfl
 ·intro t v h
  obtain ⟨h1,h2⟩:=hget t v h
  have:=(List.getElem?_eq_some_iff.1 h2).1
  omega
 ·intro t ht
  have:t=0:=by simpa using ht
  subst this
  refine ⟨by omega,?_,?_⟩
  ·cases hg:(putArgs cap (frame0 n) 1).get 0 with
   | none=>rfl
   | some v=>have:=(hget 0 v hg).1; omega
  ·rw [Array.getD_eq_getD_getElem?,Array.getElem?_append_left (by simp; omega),Array.getElem?_append_left (by simp)]
   rfl
theorem rfR_ok (hcs:∀ B,CallOK B G P callf) (hG:G=P.globals.size) (m:Nat) : ROK B G n n0 P none none l1 m (Iv0 lo) (rfR P callf fuel n):=by
 intro g ps asg body fr H j H' hrf ρ0 w0 ρ p a w s
 unfold rfR at hrf
 split at hrf
 ·rename_i f cap hps hds hev
  simp only [Bool.and_eq_true] at hds
  have hps' : ∀ t∈ps.toList,t < n:=fun t ht=>Nat.le_of_ble_eq_true (List.all_eq_true.1 hps t ht)
  obtain ⟨f',c',hu,h1,h2⟩:=s.ev _ _ hev
  have hf' : f'=#[]:=by cases f'; simp [VRs] at h1; simp [h1]
  subst hf'
  unfold itE at hrf
  split at hrf
  ·rename_i it hit
   split at hrf
   ·rename_i c hbd hbody
    split at hrf
    ·rename_i hdst hlen
     have hlen' : cap.length+1≤it.ntmps:=by rw [← len_eq]; exact Nat.le_of_ble_eq_true hlen
     refine wpIn_rangeFunc fun fn _=>?_
     have hen:=run_enterLoop_outer (P:=P) (w:=w) fn a.tmps ps asg body
     have hal:=World.alloc_heap_new (w.alloc (.deferred (some []))) (.loop { state:=.ready,pending:=none,fn:=fn,tmps:=a.tmps,params:=ps,assign:=asg,body:=body,defers:=w.heap.size })
     rw [World.size_alloc] at hal
     generalize hl0:w.heap.size+1=l at hen hal
     generalize hw1:(w.alloc (.deferred (some []))).alloc (.loop { state:=.ready,pending:=none,fn:=fn,tmps:=a.tmps,params:=ps,assign:=asg,body:=body,defers:=w.heap.size })=w1 at hen hal
     refine ⟨l,_,w1,{ target:=.fn (.func f) c',args:=#[.func (.yield l) #[] #[]] },w1,f,#[.func (.yield l) #[] #[]]++c',w1,hen,?_,fun _ _=>trivial,?_,fun h=>(by cases h),?_⟩
     ·have hcst:∀ v:Value,a.eval (.const v)=v:=fun _=>rfl
      simp [resolve,hu,Deferred.ofValue,hcst]
     ·exact hasBody_run hbody _ _
     ·
      have hsz1:w1.heap.size=w.heap.size+2:=by rw [← hw1]; simp
      have hdrw:w.drawn≤w1.drawn:=by rw [← hw1]; exact Nat.le_refl _
      have hold:∀ k,k < w.heap.size→w1.heap[k]?=w.heap[k]?:=by
       intro k hk
       rw [← hw1,Below.heap_alloc _ _ _ (by simp; omega),Below.heap_alloc _ _ _ hk]
      have hD:w1.heap[w.heap.size]?=some (.deferred (some [])):=by
       rw [← hw1,Below.heap_alloc _ _ _ (by simp),World.alloc_heap_new]
      have hl:w1.heap[l]?=some (.loop (recL fn a.tmps ps asg body w.heap.size .ready none)):=hal
      have hbw:Below B w w1:=by
       rw [← hw1]
       exact ((Below.refl B w).alloc s.sim.base _).alloc (by simp; have:=s.sim.base; omega) _
      have hsim1:Sim B G ρ H w1:=s.sim.other (by omega) fun a x b o k hx hr=>hold b (by
       rcases s.sim.blk a x hx with h | ⟨b',o',k',h,hb⟩
       ·rw [hr] at h; cases h
       ·rw [hr] at h; cases h; exact hb.lt)
      obtain ⟨hf1,hf2⟩:=frame_it (yv:=.func (.yield l) #[] #[]) h2 hlen'
      have hB:B≤l:=by have:=s.sim.base; omega
      have s1:StE B G it.ntmps H.next ρ w1 (some l) l (II n fr fn a.tmps ps asg body w.heap.size l) ρ (putArgs cap (frame0 it.ntmps) 1) [0] none H { tmps:=#[Value.func (.yield l) #[] #[]]++c'++Array.replicate (it.ntmps - (#[Value.func (.yield l) #[] #[]]++c').size) undef,defers:=[] } w1 :=
       ⟨fun _ _=>rfl,KX.refl _ _,Below.refl _ _,hsim1,hf1,Nat.le_refl _,⟨rfl,s.frel,hl⟩,hf2⟩
      have hne:execE P callf (yfR P callf fuel ps asg body fr) rBad (loopE P callf (yfR P callf fuel ps asg body fr) rBad fuel) c (putArgs cap (frame0 it.ntmps) 1) [0] none H≠.bad:=fun e=>by rw [e] at hrf; cases hrf
      have key:=execE_sound (r:=none) (x:=some l) (l:=l) (m:=m - 1) (I:=II n fr fn a.tmps ps asg body w.heap.size l) hcs hG (yfR_ok hcs hG hB hps' hds.1 hds.2) II_ok (rBad_ok _) (loopE_sound hcs hG (yfR_ok hcs hG hB hps' hds.1 hds.2) II_ok rBad_ok fuel) c ρ w1 ρ _ [0] none H _ w1 hdst s1 hne
      have fin:∀ {fr2:Fr} {ys2:List Nat} {p2:Option J} {H2:Mem} {ρ2:Rn} {a2:Act} {w3:World},StE B G it.ntmps H.next ρ w1 (some l) l (II n fr fn a.tmps ps asg body w.heap.size l) ρ2 fr2 ys2 p2 H2 a2 w3 →
        (match resultsA P it fr2 H2 with | some _=>ROut.ok p2 H2 | none=>.bad)=.ok j H'→a2.defers=[]∧∃ v,(results it a2.tmps).run P w3=.ok v w3 ∧
         rangePost (FR none) m P l (PostE B G n n0 ρ0 w0 none l1 (Iv0 lo) (rOut j fr p H')) { a with defers:=[{ target:=.collected w.heap.size,args:=#[] }]++a.defers } (.returned v) w3:=by
       intro fr2 ys2 p2 H2 ρ2 a2 w3 s3 hres
       split at hres
       ·rename_i v hv
        cases hres
        obtain ⟨hd3,hfr3,hl3⟩:=s3.inv
        obtain ⟨u,hu1,hu2⟩:=results_sound s3.st hG hv
        refine ⟨hd3,u,hu1,_,_,run_endLoop hl3 (by cases j <;> simp [recL,stOf]),?_⟩
        have hkd:KD w (w3.putObj l (.loop { recL fn a.tmps ps asg body w.heap.size (stOf j) (j.map jcode) with state:=.exhausted })):=by
         refine ⟨fun k o hk ho=>?_,Nat.le_trans hdrw s3.keeps.2⟩
         have hlt:=(Array.getElem?_eq_some_iff.1 hk).1
         rw [World.putObj_heap_other (by omega)]
         exact s3.keeps.1 k o (by rw [hold k hlt]; exact hk) ho (by intro e; cases e; omega)
        have hsame:∀ a,a < H.next→ρ2 a=ρ a:=s3.same
        have s4:StE B G n n0 ρ0 w0 none l1 (Iv0 lo) ρ2 fr [] p H' { a with defers:=[{ target:=.collected w.heap.size,args:=#[] }]++a.defers } (w3.putObj l (.loop { recL fn a.tmps ps asg body w.heap.size (stOf j) (j.map jcode) with state:=.exhausted })):=by
         refine ⟨fun b hb=>(hsame b (Nat.lt_of_lt_of_le hb s.le)).trans (s.same b hb),s.keeps.trans hkd.kx,((s.below.trans hbw).trans s3.below).trans (below_putObj hB),sim_putObj s3.sim hl3 rfl,s.frel.mono (subOf s.sim hsame),Nat.le_trans s.le s3.le,?_,by simp⟩
         obtain ⟨i1,i2,i3⟩:=s.inv
         have hz3:=s3.below.size
         refine ⟨i1,by simp; omega,w.heap.size,rfl,i2,?_,i3.lt,i3.keep fun D hD=>hkd.1 D _ hD rfl⟩
         rw [World.putObj_heap_other (by omega)]
         exact s3.keeps.1 _ _ hD rfl (by intro e; cases e; omega)
        cases j with
        | none=>exact ⟨rfl,ρ2,s4⟩
        | some j =>
         cases j with
         | none=>exact wpIn_ret ⟨rfl,ρ2,s4⟩
         | some id=>exact wpIn_exit ⟨rfl,ρ2,s4⟩
       ·cases hres
      refine callsIn_of_wp hit hbd trivial (Code.wpIn_mono ?_ key)
      intro e a2 w3 h
      generalize execE P callf (yfR P callf fuel ps asg body fr) rBad (loopE P callf (yfR P callf fuel ps asg body fr) rBad fuel) c (putArgs cap (frame0 it.ntmps) 1) [0] none H=o at h hrf
      cases o with
      | norm fr2 ys2 p2 H2=>obtain ⟨rfl,ρ2,s3⟩:=h; exact fin s3 hrf
      | jump jj fr2 ys2 p2 H2 =>
       cases jj with
       | none=>obtain ⟨rfl,ρ2,s3⟩:=h; exact fin s3 hrf
       | some id=>cases hrf
      | bad=>cases hrf
    ·cases hrf
   ·cases hrf
  ·cases hrf
 ·cases hrf
end Go.Ai
end
section
namespace Go.Ai
open Go.RowKit (Below)
variable {B G n n0 m l l1 lo:Nat} {P:Program} {ρ0 ρ:Rn} {w0 w wb:World} {x r:Option Nat} {I:Inv} {fr fr0:Fr} {ys:List Nat} {p:Option J} {H:Mem} {a:Act} {callf:CallF} {fuel:Nat}
theorem leaves_marks {fn:Func} {tmps:Array Value} {R:Ending→World→Prop} (hB:B≤lo) (hlo:wb.heap.size≤lo)
  (hR:∀ w',Sim B G ρ H w'→KD wb w'→Below B wb w'→∃ v,(results fn tmps).run P w'=.ok v w'∧R (.returned v) w') :
  ∀ (ds:List Deferred) (w:World),MKs lo ds w→Sim B G ρ H w→KD wb w→Below B wb w→LeavesInM (FR none) m P fn tmps R ds .returning w
 | [],w,_,h1,h2,h3=>hR w h1 h2 h3
 | d :: ds,w,⟨D,k1,k2,k3,k4,k5⟩,h1,h2,h3=>by
  refine ⟨by simp,.inl ⟨D,_,k1,run_takeDeferred k3,leaves_marks hB hlo hR ds _ (k5.keepBut (fun E hE=>World.putObj_heap_other hE) k4) (sim_putObj h1 k3 rfl) ?_ (h3.trans (below_putObj (Nat.le_trans hB k2)))⟩⟩
  refine ⟨fun k o hk ho=>?_,h2.2⟩
  have:=(Array.getElem?_eq_some_iff.1 hk).1
  rw [World.putObj_heap_other (by omega)]
  exact h2.1 k o hk ho
noncomputable def endE (P:Program) (fn:Func) (r:OutE) : COut:=match r with
 | .norm fr _ _ H=>(match resultsA P fn fr H with | some v=>.ret v H | none=>.bad)
 | .jump none fr _ _ H=>(match resultsA P fn fr H with | some v=>.ret v H | none=>.bad)
 | _=>.bad
noncomputable def enterEB (P:Program) (callf:CallF) (fuel:Nat) (fn:Func) (c:Code) (args:List AV) (H:Mem) : COut:=match dstsOk fn.ntmps c,Nat.ble (len args) fn.ntmps with
 | true,true=>endE P fn (putArgsK args (frame0 fn.ntmps) fun fr=>execE P callf yBad (rfR P callf fuel fn.ntmps) (loopE P callf yBad (rfR P callf fuel fn.ntmps) fuel) c fr [] none H)
 | _,_=>.bad
noncomputable def enterE (P:Program) (callf:CallF) (fuel:Nat) (f:FuncId) (args:List AV) (H:Mem) : COut:=match P.funcs[f]? with
 | some fn=>(match fn.body with
  | some c=>enterEB P callf fuel fn c args H
  | none=>.bad)
 | none=>.bad
theorem enterE_sound (hcs:∀ B,CallOK B G P callf) (hG:G=P.globals.size) : CallOK B G P (enterE P callf fuel):=by
 intro f args H hne ρ us w hs hv
 unfold enterE at hne ⊢
 split at hne
 ·rename_i fn hfn
  split at hne
  ·rename_i c hb
   unfold enterEB at hne ⊢
   split at hne
   ·rename_i hdst hlen
    rw [putArgsK_eq] at hne ⊢
    have hfe:=frame_entered (n:=fn.ntmps) hv (by rw [← len_eq]; exact Nat.le_of_ble_eq_true hlen)
    have s1:StE B G fn.ntmps H.next ρ w none 0 (Iv0 w.heap.size) ρ (putArgs args (frame0 fn.ntmps) 0) [] none H { tmps:=us++Array.replicate (fn.ntmps - us.size) undef,defers:=[] } w :=
     ⟨fun _ _=>rfl,KX.refl _ _,Below.refl _ _,hs,hfe,Nat.le_refl _,⟨rfl,Nat.le_refl _,trivial⟩,by simp⟩
    have hr:execE P callf yBad (rfR P callf fuel fn.ntmps) (loopE P callf yBad (rfR P callf fuel fn.ntmps) fuel) c (putArgs args (frame0 fn.ntmps) 0) [] none H≠.bad:=fun h0=>hne (by rw [h0]; rfl)
    have key:=execE_sound (r:=none) (x:=none) (l:=0) (m:=0) (I:=Iv0 w.heap.size) hcs hG yBad_ok IO_ok (rfR_ok hcs hG 0) (loopE_sound hcs hG yBad_ok IO_ok (rfR_ok hcs hG) fuel) c ρ w ρ _ [] none H _ w hdst s1 hr
    refine callsOfFR (r:=none) (m:=0) (callsIn_of_wp_marks hfn hb trivial (Code.wpIn_mono ?_ key))
    intro e a' w' h
    generalize execE P callf yBad (rfR P callf fuel fn.ntmps) (loopE P callf yBad (rfR P callf fuel fn.ntmps) fuel) c (putArgs args (frame0 fn.ntmps) 0) [] none H=o at h hne ⊢
    have fin:∀ {fr2:Fr} {ys2:List Nat} {p2:Option J} {H2:Mem} {ρ2:Rn},StE B G fn.ntmps H.next ρ w none 0 (Iv0 w.heap.size) ρ2 fr2 ys2 p2 H2 a' w' →
      (match resultsA P fn fr2 H2 with | some v=>COut.ret v H2 | none=>.bad)≠.bad→LeavesInM (FR none) 0 P fn a'.tmps (CPost B G H.next ρ w (match resultsA P fn fr2 H2 with | some v=>COut.ret v H2 | none=>.bad)) a'.defers .returning w':=by
     intro fr2 ys2 p2 H2 ρ2 s2 hn
     split at hn
     ·rename_i v hv2
      obtain ⟨_,_,i3⟩:=s2.inv
      refine leaves_marks (wb:=w) (lo:=w.heap.size) (ρ:=ρ2) (H:=H2) hs.base (Nat.le_refl _) (fun w4 g1 g2 g3=>?_) a'.defers w' i3 s2.sim s2.keeps.kd s2.below
      obtain ⟨u,hu1,hu2⟩:=results_sound (⟨Ext.refl _ _ _ _,g1,s2.frel,Nat.le_refl _⟩ : St B G fn.ntmps H2.next ρ2 w4 ρ2 fr2 H2 (Act.bare a') w4) hG hv2
      exact ⟨u,hu1,ρ2,⟨s2.same,g2,g3⟩,g1,hu2,s2.le⟩
     ·exact absurd rfl hn
    cases o with
    | norm fr2 ys2 p2 H2=>obtain ⟨rfl,ρ2,s2⟩:=h; exact fin s2 hne
    | jump jj fr2 ys2 p2 H2 =>
     cases jj with
     | none=>obtain ⟨rfl,ρ2,s2⟩:=h; exact fin s2 hne
     | some id=>exact absurd rfl hne
    | bad=>exact absurd rfl hne
   ·exact absurd rfl hne
  ·exact absurd rfl hne
 ·exact absurd rfl hne
def hasRange:Code→Bool
 | .seq a b=>hasRange a || hasRange b
 | .cond _ a b=>hasRange a || hasRange b
 | .block _ b=>hasRange b
 | .loop b=>hasRange b
 | .scope b=>hasRange b
 | .rangeFunc _ _ _ _=>true
 | _=>false
noncomputable def enterG (P:Program) (use:FuncId→Code→Bool) (callf:CallF) (loopf:LoopF) (fuel:Nat) (f:FuncId) (args:List AV) (H:Mem) : COut:=match P.funcs[f]? with
 | some fn=>(match fn.body with
  | some c=>(match use f c with
   | true=>enterE P callf fuel f args H
   | false=>enterQ P callf loopf f args H)
  | none=>.bad)
 | none=>.bad
theorem enterG_sound {use:FuncId→Code→Bool} {callf:CallF} {loopf:LoopF} (hcs:∀ B,CallOK B G P callf) (hl:LoopOK B G P loopf) (hG:G=P.globals.size) : CallOK B G P (enterG P use callf loopf fuel):=by
 intro f args H hne
 unfold enterG at hne ⊢
 split at hne
 ·split at hne
  ·split at hne
   ·exact enterE_sound hcs hG f args H hne
   ·exact enterQ_sound hcs hl hG f args H hne
  ·exact absurd rfl hne
 ·exact absurd rfl hne
noncomputable def bothG (P:Program) (use:FuncId→Code→Bool) (O:CallF) (n:Nat) : CallF×LoopF :=
 Nat.rec (motive:=fun _=>CallF×LoopF) (fun _ _ _=>.bad,fun _ _ _=>.bad) (fun k ih=>(orC O (enterG P use ih.1 ih.2 k),execF P ih.1 ih.2)) n
noncomputable def callG (P:Program) (O:CallF) (n:Nat) : CallF:=(bothG P (fun _ c=>hasRange c) O n).1
theorem bothG_sound {use:FuncId→Code→Bool} {O:CallF} (hO:∀ B,CallOK B G P O) (hG:G=P.globals.size) : ∀ n,(∀ B,CallOK B G P (bothG P use O n).1)∧∀ B,LoopOK B G P (bothG P use O n).2
 | 0=>⟨fun B f args H hne=>absurd rfl hne,fun B b n n0 ρ0 w0 ρ fr H a w hd s hne=>absurd rfl hne⟩
 | m+1=>by
  obtain ⟨hc,hl⟩:=bothG_sound hO hG m
  refine ⟨fun B=>orC_ok (hO B) (enterG_sound hc (hl B) hG),fun B b n n0 ρ0 w0 ρ fr H a w hd s hne=>?_⟩
  exact good_loopF (hl B) (execF_sound hc (hl B) hG b) n n0 ρ0 w0 ρ fr H a w hd s hne
theorem callG_ok {O:CallF} (hO:∀ B,CallOK B G P O) (hG:G=P.globals.size) (fuel:Nat) : ∀ B,CallOK B G P (callG P O fuel):=(bothG_sound hO hG fuel).1
end Go.Ai
end
