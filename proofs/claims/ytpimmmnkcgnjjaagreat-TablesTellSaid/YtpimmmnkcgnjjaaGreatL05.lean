/- A small verified interpreter over names, its proofs, and what was proved with it. No condition. -/
import Derived.ProofKit
import Derived.Deep.DeepHandedRow
import Derived.Test.YtpimmmnkcgnjjaaGreatL04
import Derived.Test.YtpimmmnkcgnjjaaGreatL03
set_option linter.all false
set_option linter.deprecated false
section
namespace Go.Ai
class Spl (P:Prop) (A B:outParam Prop):Prop where
 of:A→B→P
instance {p x y:Prop}:Spl (b5o p x y) (p→x) (¬p→y):=⟨Ac⟩
instance {b:Bool} {x y:Prop}:Spl (a3l b x y) (b=true→x) (b=false→y):=⟨Ad⟩
theorem spl {P A B:Prop} [h:Spl P A B] (a:A) (b:B):P:=h.of a b
end Go.Ai
end
section
namespace Go.Ai
variable {P:Program} {H:Mem} {ev ev' : Ev}
theorem evals_congr:∀ {l:List Operand},(∀ x∈l,ev x=ev' x)->Bw ev l=Bw ev' l
 | [],_=>rfl
 | x :: l,h=>by
  unfold Bw;rw[h x (by simp),evals_congr fun y hy=>h y (by simp[hy])]
theorem evalParts_congr:∀ {l:List (Nat×Operand)},(∀ x∈l.map (·.2),ev x=ev' x)->Cy ev l=Cy ev' l
 | [],_=>rfl
 | (i,x) :: l,h=>by
  unfold Cy;rw[h x (by simp),evalParts_congr fun y hy=>h y (by simp at hy |-;exact .inr hy)]
theorem f1e {α:Type} {p q:α->Bool} : ∀ {l:List α},(∀ x∈l,p x=q x)->l.all p=l.all q
 | [],_=>rfl
 | x :: l,h=>by
  grind
theorem f1f {c c': Bool} {s s': Sem Next} (h1:c=c') (h2:s=s') : (if c=true then (match Ao P s with|some (.value v)=>some (AV.lit v)|_=>none) else none)=(if c'=true then (match Ao P s' with|some (.value v)=>some (AV.lit v)|_=>none) else none):=by
 grind
theorem f1g {o:Oper} (hs:∀ cs b,o.op≠.select cs b) (h:∀ x∈o.op.operands.toList,ev x=ev' x) : Ba P ev o=Ba P ev' o:=by
 unfold Ba;have h1:(o.op.operands.toList.all fun x=>match ev x with|some v=>(match toLit v with|some _=>true|none=>false)|none=>false)=(o.op.operands.toList.all fun x=>match ev' x with|some v=>(match toLit v with|some _=>true|none=>false)|none=>false) :=
  f1e fun x hx=>by grind
 have h2:=execOp_congr (ρ:=fun x=>match ev x with|some v=>(match toLit v with|some u=>u|none=>undef)|none=>undef) (ρ':=fun x=>match ev' x with|some v=>(match toLit v with|some u=>u|none=>undef)|none=>undef) o hs
  fun x hx=>by grind
 exact f1f h1 h2
theorem f1h {y:Option Operand} (h:∀ x∈y.toArray.toList,ev x=ev' x) : a1w ev y=a1w ev' y:=by
 (simp_all[a1w];grind)
theorem b9e {o:Oper} (hs:∀ cs b,o.op≠.select cs b) (h:∀ x∈o.op.operands.toList,ev x=ev' x) : opV P H ev o=opV P H ev' o:=by
 have hg:=f1g (P:=P) hs h;unfold opV
 cases hop:o.op with
 | select cs b=>rfl
 | move x=>rw[hop] at h;show a1m H (ev x)=a1m H (ev' x);grind[Op.operands]
 | assign x=>rw[hop] at h;show a1m H (ev x)=a1m H (ev' x);grind[Op.operands]
 | pick c a b=>rw[hop] at h;show a3u H (ev c) (ev a) (ev b)=a3u H (ev' c) (ev' a) (ev' b);grind[Op.operands]
 | alloc t=>rfl
 | box t x=>rw[hop] at h;show a4f H (ev x)=a4f H (ev' x);grind[Op.operands]
 | build t ps=>rw[hop] at h;show a4g P H t (Cy ev ps.toList)=a4g P H t (Cy ev' ps.toList);grind[Op.operands,evalParts_congr]
 | buildSlice t n ps=>rw[hop] at h;show a2m P H t n (Cy ev ps.toList)=a2m P H t n (Cy ev' ps.toList);grind[Op.operands,evalParts_congr]
 | insert t m k x=>rw[hop] at h;show a5g P H t (ev m) (ev k) (ev x)=a5g P H t (ev' m) (ev' k) (ev' x);grind[Op.operands]
 | mapUpdate t m k x=>rw[hop] at h;show a5g P H t (ev m) (ev k) (ev x)=a5g P H t (ev' m) (ev' k) (ev' x);grind[Op.operands]
 | load t a=>rw[hop] at h;show a2n P H t (ev a)=a2n P H t (ev' a);grind[Op.operands]
 | store t a x=>rw[hop] at h;show a5e P H t (ev a) (ev x)=a5e P H t (ev' a) (ev' x);grind[Op.operands]
 | nilCheck x=>rw[hop] at h;show a6d P H ev o (ev x)=a6d P H ev' o (ev' x);simp_all[a6d,Op.operands]
 | binOp op t x y r=>rw[hop] at h;show Bq P H ev o op t (ev x) (ev y)=Bq P H ev' o op t (ev' x) (ev' y);grind[Bq,Op.operands]
 | unOp op t x=>show ofOpt H (Ba P ev o)=ofOpt H (Ba P ev' o);rw[hg]
 | convert s d x=>rw[hop] at h;show a1l P H ev o s d (ev x)=a1l P H ev' o s d (ev' x);simp_all[a1l,Op.operands]
 | makeInterface t x=>rw[hop] at h;show a7j P H t (ev x)=a7j P H t (ev' x);grind[Op.operands]
 | makeFunc fn a b =>
  rw[hop] at h;show a5f H fn (Bw ev a.toList) (Bw ev b.toList)=a5f H fn (Bw ev' a.toList) (Bw ev' b.toList);grind[Op.operands,evals_congr]
 | makeMap t r =>
  rw[hop] at h;show a4h P H ev t r=a4h P H ev' t r
  (simp_all[a4h,Op.operands];grind)
 | makeSlice t l c=>rw[hop] at h;show a1v P H t (ev l) (ev c)=a1v P H t (ev' l) (ev' c);grind[Op.operands]
 | slice t x lo hi mx =>
  rw[hop] at h;show a0b P H ev o t (ev x) lo hi mx=a0b P H ev' o t (ev' x) lo hi mx;unfold a0b a3g;grind[Op.operands,f1h]
 | fieldAddr s x f=>rw[hop] at h;show a3v P H ev o s (ev x) f=a3v P H ev' o s (ev' x) f;simp_all[a3h,a3v,Op.operands]
 | field t x f=>rw[hop] at h;show a7k P H t (ev x) f=a7k P H t (ev' x) f;grind[Op.operands]
 | indexAddr t x i=>rw[hop] at h;show a0q P H ev o t (ev x) (ev i)=a0q P H ev' o t (ev' x) (ev' i);simp_all[a3h,a0q,Op.operands]
 | index t x i=>rw[hop] at h;show a6e P H ev o t (ev x) (ev i)=a6e P H ev' o t (ev' x) (ev' i);simp_all[a6e,Op.operands]
 | lookup t m k ok=>rw[hop] at h;show a4i P H ev o t (ev m) (ev k) ok=a4i P H ev' o t (ev' m) (ev' k) ok;simp_all[a4i,Op.operands]
 | range t x=>rw[hop] at h;show b4q P H t (ev x)=b4q P H t (ev' x);grind[Op.operands]
 | next x b=>rw[hop] at h;cases b with
  | true=>show b4r H (ev x)=b4r H (ev' x);grind[Op.operands]
  | false=>rfl
 | typeAssert x s t ok=>rw[hop] at h;show a6f P H ev o (ev x) t ok=a6f P H ev' o (ev' x) t ok;simp_all[a6f,Op.operands]
 | extract t i=>rw[hop] at h;show a5h H (ev t) i=a5h H (ev' t) i;grind[Op.operands]
 | panic x=>rw[hop] at h;show b4s H (ev x)=b4s H (ev' x);grind[Op.operands]
 | call c =>
  rw[hop] at h;show Cd P H ev o c=Cd P H ev' o c;have ha:Bw ev c.args.toList=Bw ev' c.args.toList:=evals_congr fun x hx=>h x (by grind[Call.operands,Op.operands]);unfold Cd;rw[ha]
  cases hc:c.callee with
  | value f=>grind[Call.operands,Op.operands]
  | invoke r m=>grind[b7o,Call.operands,Op.operands]
  | builtin b=>simp_all[a8x,a7i,a3f]
 | defer c =>
  rw[hop] at h;show b2u H ev c=b2u H ev' c;grind[Call.operands,Op.operands,evals_congr,b2u]
 | _=>rfl
theorem c4d {o:Oper} (h:cls o.op≠.no) : ∀ cs b,o.op≠.select cs b:=by
 intro cs b e;rw[e] at h;exact h rfl
end Go.Ai
end
section
namespace Go.Ai
variable {P:Program} {H:Mem} {ev:Ev} {o:Oper}
def vb:R->Bool
 | .val _ _=>true
 | .bad=>true
 | _=>false
theorem a4b (x:Option AV) : vb (ofOpt H x)=true:=by cases x<;>rfl
theorem b9f (l:List AV) (b:Bool) (v:AV) : vb (a0k H l b v)=true:=by unfold a0k;rw[Mem.newK_eq];rfl
theorem f1i (h:freeOp o.op=true) : vb (opV P H ev o)=true:=by
 have gen:∀ (x:Option AV),vb (match (x:Option AV) with|some v=>R.val v H|none=>.bad)=true:=by intro x;cases x<;>rfl
 have or' : ∀ (x:Option AV),vb (a3h P H ev o x)=true:=by
  intro x;unfold a3h;cases x with
  | none=>exact a4b _
  | some v=>rfl
 unfold opV
 cases hop:o.op with
 | move x=>show vb (a1m H (ev x))=true;unfold a1m;(split<;>rfl)
 | assign x=>show vb (a1m H (ev x))=true;unfold a1m;(split<;>rfl)
 | pick c a b=>show vb (a3u H (ev c) (ev a) (ev b))=true;unfold a3u;split<;>first|exact a4b _|rfl
 | build t ps=>show vb (a4g P H t (Cy ev ps.toList))=true;unfold a4g;split<;>first|exact a4b _|rfl
 | nilCheck x=>show vb (a6d P H ev o (ev x))=true;unfold a6d;split<;>first|exact a4b _|rfl
 | binOp op t x y r =>
  show vb (Bq P H ev o op t (ev x) (ev y))=true;unfold Bq;split
  ·rfl
  ·split
   ·rfl
   ·unfold b2v;split
    ·split<;>rfl
    ·rfl
 | unOp op t x=>show vb (ofOpt H (Ba P ev o))=true;exact a4b _
 | makeInterface t x=>show vb (a7j P H t (ev x))=true;unfold a7j;split<;>rfl
 | makeFunc fn a b=>show vb (a5f H fn (Bw ev a.toList) (Bw ev b.toList))=true;unfold a5f;split<;>rfl
 | slice t x lo hi mx =>
  show vb (a0b P H ev o t (ev x) lo hi mx)=true;unfold a0b;split
  ·rfl
  ·unfold a3g;split
   ·split<;>first|exact a4b _|rfl
   ·rfl
 | fieldAddr s x f=>show vb (a3v P H ev o s (ev x) f)=true;unfold a3v;split<;>first|exact or' _|rfl
 | field t x f=>show vb (a7k P H t (ev x) f)=true;unfold a7k;split<;>first|exact a4b _|rfl
 | indexAddr t x i=>show vb (a0q P H ev o t (ev x) (ev i))=true;unfold a0q;split<;>first|exact or' _|rfl
 | index t x i =>
  show vb (a6e P H ev o t (ev x) (ev i))=true;unfold a6e;split
  ·split<;>first|exact a4b _|rfl
  ·rfl
 | typeAssert x s t ok =>
  show vb (a6f P H ev o (ev x) t ok)=true;unfold a6f;split
  ·rfl
  ·split<;>first|exact a4b _|rfl
 | extract t i =>
  show vb (a5h H (ev t) i)=true;unfold a5h;split
  ·exact a4b _
  ·split<;>rfl
  ·rfl
 | _=>rw[hop] at h;cases h
theorem f1j (h:cls o.op=.read) : vb (opV P H ev o)=true:=by
 unfold opV;cases hop:o.op<;>rw[hop] at h<;>first|(simp[cls,freeOp] at h;done)|skip
 ·rename_i t x;show vb (a2n P H t (ev x))=true;unfold a2n;split<;>first|exact a4b _|rfl
 ·rename_i t m k ok;show vb (a4i P H ev o t (ev m) (ev k) ok)=true;unfold a4i;split<;>first|exact a4b _|rfl
 ·rename_i c;show vb (Cd P H ev o c)=true;unfold Cd;split
  ·rfl
  ·simp only[cls,freeOp] at h;split
   ·rename_i b hc;rw[hc] at h;unfold a3f;cases b<;>first|(cases h;done)|skip
    ·dsimp only;unfold a8x;split
     ·rfl
     ·split<;>rfl
    ·dsimp only;unfold a7i;split
     ·exact a4b _
     ·unfold a5d;split<;>first|rfl|skip;split<;>rfl
   all_goals grind
theorem f1k (h:cls o.op=.alloc) : vb (opV P H ev o)=true:=by
 unfold opV;rcases d0e h with⟨t,hop⟩|⟨t,x,hop⟩|⟨t,n,ps,hop⟩|⟨t,l,c,hop⟩|⟨t,r,hop⟩<;>rw[hop]
 ·show vb (a6c P H t)=true;unfold a6c;split<;>first|exact b9f _ _ _|rfl
 ·show vb (a4f H (ev x))=true;unfold a4f;split<;>first|exact b9f _ _ _|rfl
 ·show vb (a2m P H t n (Cy ev ps.toList))=true;unfold a2m;split
  ·split
   ·split<;>first|exact b9f _ _ _|rfl
   ·rfl
  ·rfl
 ·show vb (a1v P H t (ev l) (ev c))=true;unfold a1v;split
  ·split<;>first|exact b9f _ _ _|rfl
  ·rfl
 ·show vb (a4h P H ev t r)=true;unfold a4h;split
  ·rw[Mem.newK_eq];rfl
  ·split
   ·rw[Mem.newK_eq];rfl
   ·rfl
theorem f1l {s d:TypeId} {x:AV} (hs:b5t P s=true) (hd:b5t P d=true) : convert P H s d x=none:=by
 (simp_all[b5t,convert];grind)
theorem f1m (h:cls o.op=.gen) (hc:b9c P o=true) : opV P H ev o=.bad\/∃ v,opV P H ev o=.val v H/\Ba P ev o=some v:=by
 have opt:ofOpt H (Ba P ev o)=.bad\/∃ v,ofOpt H (Ba P ev o)=.val v H/\Ba P ev o=some v:=by
  cases hg:Ba P ev o with
  | none=>exact .inl rfl
  | some v=>exact .inr ⟨v,rfl,rfl⟩
 unfold opV;unfold b9c at hc;cases hop:o.op<;>rw[hop] at h hc<;>first|(simp[cls,freeOp] at h;done)|skip
 ·rename_i s d x;show a1l P H ev o s d (ev x)=.bad\/∃ v,a1l P H ev o s d (ev x)=.val v H/\_;unfold a1l;simp only[Ds] at hc
  cases hg:Ba P ev o with
  | some v=>grind
  | none =>
   grind[f1l]
 ·rename_i c;simp only[cls,freeOp] at h;show Cd P H ev o c=.bad\/∃ v,Cd P H ev o c=.val v H/\_;unfold Cd;split
  ·grind
  grind[a3f]
def acts:R->Bool
 | .dfr _ _ _ _=>false
 | .panic _ _=>false
 | .recover=>false
 | _=>true
theorem d2k (f:FuncId) (args:List AV) : acts (a6b P H f args)=true:=by unfold a6b;split<;>rfl
theorem f1n (h:cls o.op=.chain) : acts (opV P H ev o)=true:=by
 have upd:∀ (t:TypeId) (m k x:Option AV),acts (a5g P H t m k x)=true:=by
  intro t m k x;unfold a5g;split
  ·split<;>rfl
  ·rfl
 unfold opV;cases hop:o.op<;>rw[hop] at h<;>first|(simp[cls,freeOp] at h;done)|skip
 ·exact upd _ _ _ _
 ·rename_i t a x;show acts (a5e P H t (ev a) (ev x))=true;unfold a5e;split
  ·split<;>rfl
  ·rfl
 ·exact upd _ _ _ _
 ·rename_i c;simp only[cls,freeOp] at h;show acts (Cd P H ev o c)=true;unfold Cd;split
  ·rfl
  ·split
   ·rename_i b hcb;rw[hcb] at h;unfold a3f;cases b<;>first|(cases h;done)|skip
    ·dsimp only;unfold b7n;split
     ·split<;>rfl
     ·rfl
    ·dsimp only;unfold c1n;split
     ·split<;>rfl
     ·rfl
   ·unfold b7o;split
    ·split
     ·split
      ·grind[d2k]
      ·rfl
     ·rfl
    ·rfl
   ·unfold a8y;split<;>first|exact d2k _ _|rfl
theorem d2l (h1:cls o.op≠.chain) (h2:cls o.op≠.no) (h3:cls o.op≠.alloc) (hc:b9c P o=true) : opV P H ev o=.bad\/∃ v,opV P H ev o=.val v H/\quiet P H ev o=some v:=by
 cases hcl:cls o.op with
 | free =>
  have hf:freeOp o.op=true:=by
   cases hf:freeOp o.op with
   | true=>rfl
   | false =>
    (simp_all[cls];grind)
  have:=f1i (P:=P) (H:=H) (ev:=ev) hf
  cases hv:opV P H ev o with
  | val v H' =>
   obtain⟨rfl,_⟩:=c2j hf H v H' hv;exact .inr ⟨v,rfl,by grind[quiet]⟩
  | bad=>grind
  | _=>rw[hv] at this;cases this
 | read =>
  have:=f1j (P:=P) (H:=H) (ev:=ev) hcl
  cases hv:opV P H ev o with
  | val v H' =>
   have:=d0h hcl hv;subst this;exact .inr ⟨v,rfl,by grind[quiet]⟩
  | bad=>grind
  | _=>rw[hv] at this;cases this
 | gen =>
  grind[f1m,quiet]
 | chain=>grind
 | no=>grind
 | alloc=>grind
end Go.Ai
end
section
namespace Go.Ai
abbrev AlP:=List (Nat×Nat×Option Blk)
noncomputable def a1d (fr:Fr) (d:Option Tmp) : Option AV:=match d with|some d=>fr.get d|none=>none
noncomputable def a4q (P:Program) (W:WF) (ops:Array Oper) (fr:Fr) (H:Mem) : List Nat->Prop
 | []=>True
 | i :: l=>(match ops[i]? with
  | some o=>a0i P W ops o fr H (fun fr' _=>a1d fr' o.dst=a1d fr o.dst) (fun _=>False)
  | none=>False)/\a4q P W ops fr H l
noncomputable def a7y (H:Mem) (as:List Nat) : AlP->Prop
 | []=>True
 | (i,a,b) :: l=>(i∈as->H.get a=b)/\a7y H as l
noncomputable def Bz (P:Program) (W:WF) (ops:Array Oper) (Q:Out->Prop) : List It->Fr->Mem->AlP->Prop
 | [],fr,H,_=>Q (.norm fr H)
 | .run i :: l,fr,H,als=>match ops[i]? with
  | some o=>a0i P W ops o fr H (fun fr H=>Bz P W ops Q l fr H als) Q
  | none=>False
 | .mk i :: l,fr,H,als=>match ops[i]? with
  | some o=>a0i P W ops o fr H (fun fr H'=>Bz P W ops Q l fr H' ((i,H.next,H'.get H.next) :: als)) Q
  | none=>False
 | .gate hs as :: l,fr,H,als=>a4q P W ops fr H hs/\a7y H as als/\Bz P W ops Q l fr H als
noncomputable def a5o (Q:Out->Prop) : Out->Prop
 | .panic v fr H=>Q (.panic v fr.clear H)
 | r=>Q r
theorem Mem.get_add_same (H:Mem) (b:Blk) : (H.add b).get H.next=some b:=by
 obtain⟨t,n⟩:=H
 cases t with
 | tr t =>
  show a1u (u4 t n (.v n b)) n=some b;simp[a1u,c1w,b0v]
 | fn g=>exact if_pos rfl
variable {P:Program} {W:WF} {ops:Array Oper} {g:Nat→Option AV} {ds:List Dfr} {Q:Out→Prop} {S:Nat} {res:ResF} {H:Mem} {held:List Nat} {als:Als} {alsP:AlP} {i:Nat} {o:Oper}
structure PI (ops:Array Oper) (S:Nat) (res:ResF) : Prop where
 un:∀ j,S.testBit j=false->res j=none
 dn:∀ j,S.testBit j=true->∃ v,res j=some v
 down:∀ j k,S.testBit j=true->Aw (ancs [] ops.toList) j k=true->S.testBit k=true
noncomputable def Gs (ops:Array Oper) (g:Nat->Option AV) (S:Nat) (res:ResF) : Nat->Option AV:=fun t=>match a3w t ops.toList 0 with
 | some j=>(match S.testBit j with|true=>res j|false=>g t)
 | none=>g t
theorem c4e {i j:Nat} : (S ||| 2 ^ i).testBit j=(S.testBit j || decide (i=j)):=by grind
theorem PI.step (h:PI ops S res) (hi:S.testBit i=false) (ha:∀ j,Aw (ancs [] ops.toList) i j=true->S.testBit j=true) (v:AV) : PI ops (S ||| 2 ^ i) (Dh res i v):=by
 refine⟨fun j hj=>?_,fun j hj=>?_,fun j k hj hk=>?_⟩
 ·rw[c4e,Bool.or_eq_false_iff] at hj;have hne:¬j=i:=fun e=>of_decide_eq_false hj.2 e.symm;unfold Dh;rw[if_neg hne];exact h.un j hj.1
 ·unfold Dh;by_cases e:j=i
  ·simp_all
  ·rw[if_neg e];rw[c4e] at hj;have:¬i=j:=fun e'=>e e'.symm;simp[this] at hj;exact h.dn j hj
 ·rw[c4e] at hj |-;by_cases e:i=j
  ·grind
  ·simp[e] at hj;rw[h.down j k hj hk];rfl
theorem c4f (hfit:fit ops.toList ops.toList 0=true) (ho:ops[i]?=some o) {d:Tmp} (hd:o.dst=some d) : a3w d ops.toList 0=some i:=by
 have hone:=a9g hfit i o (Cm.2 ho);unfold a7l at hone;simp only[Ds] at hone;have h:=hone.1.1.1;rw[hd] at h;dsimp only at h;split at h
 all_goals simp_all
theorem b5v (hfit:fit ops.toList ops.toList 0=true) (ho:ops[i]?=some o) (v:AV) :
  (Fr.f (Gs ops g S res) ds).put o.dst v=.f (Gs ops g (S ||| 2 ^ i) (Dh res i v)) ds:=by
 have other:∀ t,o.dst≠some t->Gs ops g (S ||| 2 ^ i) (Dh res i v) t=Gs ops g S res t:=by
  intro t ht;unfold Gs;split
  ·rename_i j hj;obtain⟨_,oj,hoj,hdj⟩:=a9f hj
   (simp_all[Dh];grind)
  ·rfl
 cases hd:o.dst with
 | none =>
  show Fr.f (Gs ops g S res) ds=_;congr 1;grind
 | some d =>
  show Fr.f (a2o (Gs ops g S res) d v) ds=_;congr 1;funext t;unfold a2o;by_cases e:t=d
  ·subst e;rw[if_pos rfl];unfold Gs;rw[c4f hfit ho hd];grind[Dh]
  grind
theorem c4g {t:Tmp} (h:Operand.tmp t∈o.op.operands.toList) : t∈b3k o:=List.mem_filterMap.2 ⟨_,h,rfl⟩
theorem d2m (h:PI ops S res) (hi:S.testBit i=false) (ha:∀ j,Aw (ancs [] ops.toList) i j=true->S.testBit j=true)
  (hc:(b3k o).all (c4b (ancs [] ops.toList) ops.toList i)=true) : ∀ x∈o.op.operands.toList,(Fr.f (Gs ops g S res) ds).ev x=Cf ops (ancs [] ops.toList) (.f g ds) res i x:=by
 intro x hx
 cases x with
 | tmp t =>
  have hct:=Eb.1 hc t (c4g hx);show Gs ops g S res t=a3z ops (ancs [] ops.toList) (.f g ds) res i t;unfold c4b at hct;unfold Gs a3z;split at hct
  ·rename_i hw;rw[hw];rfl
  ·rename_i j hw;rw[hw];dsimp only
   cases hb:Aw (ancs [] ops.toList) i j with
   | true=>grind
   | false =>
    rw[hb,g4n] at hct;rw[hct];have:S.testBit j=false:=by
     cases hs:S.testBit j with
     | false=>rfl
     | true =>
      exfalso;rcases g3w _ _ ▸ hct with h1|h1
      ·rw[h.down j i hs h1] at hi;grind
      simp_all
    rw[this];rfl
 | const c=>rfl
 | global c=>rfl
 | func f=>rfl
theorem f1o (h:PI ops S res) (hi:S.testBit i=true)
  (hc:(b3k o).all (ahead (ancs [] ops.toList) ops.toList i)=true) : ∀ x∈o.op.operands.toList,(Fr.f (Gs ops g S res) ds).ev x=Cf ops (ancs [] ops.toList) (.f g ds) res i x:=by
 intro x hx
 cases x with
 | tmp t =>
  have hct:=Eb.1 hc t (c4g hx);show Gs ops g S res t=a3z ops (ancs [] ops.toList) (.f g ds) res i t;unfold ahead at hct;unfold Gs a3z;split at hct
  ·rename_i hw;rw[hw];rfl
  ·rename_i j hw;rw[hw];dsimp only;rw[hct,h.down i j hi hct]
 | const c=>rfl
 | global c=>rfl
 | func f=>rfl
theorem f1p (h:PI ops S res) (hi:S.testBit i=true) {k:Nat} (hk:S.testBit k=false) (v:AV) (fr:Fr) : Cf ops (ancs [] ops.toList) fr (Dh res k v) i=Cf ops (ancs [] ops.toList) fr res i:=by
 funext x
 cases x with
 | tmp t =>
  show a3z ops (ancs [] ops.toList) fr (Dh res k v) i t=a3z ops (ancs [] ops.toList) fr res i t;unfold a3z;split
  ·rfl
  ·rename_i j hw
   cases hb:Aw (ancs [] ops.toList) i j with
   | true =>
    dsimp only;unfold Dh;rw[if_neg];intro e;subst e;rw[h.down i j hi hb] at hk;grind
   | false=>rfl
 | const c=>rfl
 | global c=>rfl
 | func f=>rfl
theorem b5w {tab:List Nat} (h:Nat.beq ((tab.getD i 0) &&& S) (tab.getD i 0)=true) : ∀ j,Aw tab i j=true->S.testBit j=true:=by
 (simp_all[Aw];grind)
theorem b9g {tab:List Nat} {opl:List Oper} : ∀ {l:List Oper} {k:Nat},a7x P tab opl l k=true->∀ i o,l[i]?=some o->b5u P tab opl o (k+i)=true
 | [],_,_,i,o,h=>by grind
 | x :: l,k,h,i,o,ho=>by
  simp only[a7x,Ds] at h
  cases i with
  | zero=>grind
  | succ i =>
   have:=b9g h.2 i o (by grind);grind
theorem d2n {x:Option AV} {w:Bool} {A B yes no:Prop} (h:a2s x w A B) (h1:x=some (.lit (.bool w))->A->yes) (h2:B->no) : a2s x w yes no:=by
 (simp_all[a2s];grind)
theorem c4h (hfit:fit ops.toList ops.toList 0=true) (ho:ops[i]?=some o) {gd:Nat×Bool} (hg:o.guard=some gd) (hS:S.testBit gd.1=true) :
  a1b ops (.f (Gs ops g S res) ds) gd.1=res gd.1:=by
 have hone:=a9g hfit i o (Cm.2 ho);unfold a7l at hone;simp only[Ds] at hone;have h:=hone.2;rw[hg] at h;dsimp only at h;unfold a1b
 cases hj:ops[gd.1]? with
 | none =>
  grind
 | some oj =>
  have hj' : ops.toList[gd.1]?=some oj:=Cm.2 hj;rw[hj'] at h;dsimp only at h |-
  cases hd:oj.dst with
  | none=>grind
  | some d =>
   show Gs ops g S res d=res gd.1;unfold Gs;rw[c4f hfit hj hd];grind
end Go.Ai
end
section
namespace Go.Ai
variable {P:Program} {W:WF} {ops:Array Oper} {g:Nat→Option AV} {ds:List Dfr} {Q:Out→Prop} {S:Nat} {res:ResF} {H:Mem} {held:List Nat} {als:Als} {alsP:AlP} {i:Nat} {o:Oper} {s:Hs}
def Rq (P:Program) (ops:Array Oper) (g:Nat->Option AV) (ds:List Dfr) (H:Mem) (res:ResF) (i:Nat) : Prop :=
 ∃ o v,ops[i]?=some o/\res i=some v/\quiet P H (Cf ops (ancs [] ops.toList) (.f g ds) res i) o=some v
def Ran (ops:Array Oper) (res:ResF) (i:Nat) : Prop:=∃ o,ops[i]?=some o/\cls o.op=.read/\∀ gd,o.guard=some gd->res gd.1=some (.lit (.bool gd.2))
structure PS (P:Program) (ops:Array Oper) (g:Nat->Option AV) (ds:List Dfr) (s:Hs) (S:Nat) (res:ResF) (H:Mem) (held:List Nat) (als:Als) (alsP:AlP) : Prop where
 pi:PI ops S res
 hd:∀ i∈held,S.testBit i=true/\Ran ops res i/\(i∈s.di\/(i∈s.cl/\Rq P ops g ds H res i))
 al:∀ x∈als,(x.1,x.2.1,some x.2.2)∈alsP/\(x.1∈s.adi\/(x.1∈s.acl/\H.get x.2.1=some x.2.2))
theorem c4i {k:Nat} {v:AV} (h:res k=none) : GrF res (Dh res k v):=by
 intro j y hj
 (simp_all[Dh];grind)
theorem Ran.grow {res': ResF} (h:Ran ops res i) (hg:GrF res res') : Ran ops res' i:=by
 obtain⟨o,h1,h2,h3⟩:=h;exact⟨o,h1,h2,fun gd e=>hg _ _ (h3 gd e)⟩
theorem Rq.grow {k:Nat} {v:AV} (hp:PI ops S res) (hi:S.testBit i=true) (hk:S.testBit k=false) (h:Rq P ops g ds H res i) : Rq P ops g ds H (Dh res k v) i:=by
 obtain⟨o,y,h1,h2,h3⟩:=h;refine⟨o,y,h1,c4i (hp.un k hk) _ _ h2,?_⟩;grind[f1p]
theorem PS.step (h:PS P ops g ds s S res H held als alsP) (hi:S.testBit i=false) (ha:∀ j,Aw (ancs [] ops.toList) i j=true->S.testBit j=true) (v:AV) :
  PS P ops g ds s (S ||| 2 ^ i) (Dh res i v) H held als alsP :=
 ⟨h.pi.step hi ha v,fun j hj=>let ⟨a,b,c⟩:=h.hd j hj;⟨by grind,b.grow (c4i (h.pi.un i hi)),c.imp id fun⟨d,e⟩=>⟨d,e.grow h.pi a hi⟩⟩,h.al⟩
theorem PS.soil {H': Mem} {acl:List Nat} {cl:List Nat} (h:PS P ops g ds s S res H held als alsP) (p:Nat×Nat×Option Blk) : PS P ops g ds ⟨cl,s.cl++s.di,acl,s.acl++s.adi⟩ S res H' held als (p :: alsP) :=
 ⟨h.pi,fun j hj=>let ⟨a,b,c⟩:=h.hd j hj;⟨a,b,.inl (by grind)⟩,
  fun x hx=>let ⟨a,c⟩:=h.al x hx;⟨g2p _ a,.inl (by grind)⟩⟩
variable {KW:StW} {K:Hs→List It}
theorem a6w (hfit:fit ops.toList ops.toList 0=true) (hall:a7x P (ancs [] ops.toList) ops.toList ops.toList 0=true)
  (hK:∀ s S res H held als alsP,PS P ops g ds s S res H held als alsP->a1c (ancs [] ops.toList) ops.toList S (K s)=true->Bz P W ops Q (K s) (.f (Gs ops g S res) ds) H alsP->KW res H held als) :
  ∀ (L:List Nat) (s:Hs) (S:Nat) (res:ResF) (H:Mem) (held:List Nat) (als:Als) (alsP:AlP),(∀ i∈L,∃ o,ops[i]?=some o/\Cu o.op=false/\cls o.op≠.no) ->
   PS P ops g ds s S res H held als alsP->a1c (ancs [] ops.toList) ops.toList S (a7w ops.toList L s K)=true->Bz P W ops Q (a7w ops.toList L s K) (.f (Gs ops g S res) ds) H alsP ->
   b1o P ops (ancs [] ops.toList) (.f g ds) KW L res H held als
 | [],s,S,res,H,held,als,alsP,_,ps,ht,hp=>hK s S res H held als alsP ps ht hp
 | i :: L,s,S,res,H,held,als,alsP,hL,ps,ht,hp=>by
  obtain⟨o,ho,hch,hno⟩:=hL i (by simp);have hL' : ∀ j∈L,∃ o,ops[j]?=some o/\Cu o.op=false/\cls o.op≠.no:=fun j hj=>hL j (by grind);have hone:=b9g hall i o (Cm.2 ho);rw[g2n] at hone;unfold b5u at hone;simp only[Ds] at hone;obtain⟨⟨hcmp,hgd⟩,hcv⟩:=hone;have hnc:cls o.op≠.chain:=by grind[Cu]
  have step:∀ {k:Fr->Mem->Prop} {yes no:Prop},(∀ j,Aw (ancs [] ops.toList) i j=true->S.testBit j=true)->S.testBit i=false->a0i P W ops o (.f (Gs ops g S res) ds) H k Q ->
    ((∀ gd,o.guard=some gd->res gd.1=some (.lit (.bool gd.2)))->a2r W o (.f (Gs ops g S res) ds) k Q (opV P H (Cf ops (ancs [] ops.toList) (.f g ds) res i) o)->yes) ->
    (k (.f (Gs ops g (S ||| 2 ^ i) (Dh res i (.lit undef))) ds) H->no)->b1n (ancs [] ops.toList) res i o yes no:=by
   intro k yes no ha hi h h1 h2;have hev:=b9e (P:=P) (H:=H) (c4d hno) (d2m (g:=g) (ds:=ds) ps.pi hi ha hcmp);unfold a0i at h;unfold b1n;split at h
   all_goals grind[d2n,b5v,c4h]
  have quietCase:cls o.op≠.alloc->∀ {k:Fr->Mem->Prop},a2r W o (.f (Gs ops g S res) ds) k Q (opV P H (Cf ops (ancs [] ops.toList) (.f g ds) res i) o) ->
    ∃ v,quiet P H (Cf ops (ancs [] ops.toList) (.f g ds) res i) o=some v/\k (.f (Gs ops g (S ||| 2 ^ i) (Dh res i v)) ds) H:=by
   intro hna k h;rcases d2l (P:=P) (H:=H) (ev:=Cf ops (ancs [] ops.toList) (.f g ds) res i) hnc hno hna hcv with hb|⟨v,hv,hq⟩
   ·rw[hb] at h;exact h.elim
   ·rw[hv] at h;refine⟨v,hq,?_⟩;have h' : k ((Fr.f (Gs ops g S res) ds).put o.dst v) H:=h;grind[b5v]
  have ho' : ops.toList[i]?=some o:=Cm.2 ho;unfold b1o b8n;rw[ho];dsimp only;unfold a7w at ht hp;rw[ho'] at ht hp;dsimp only at ht hp
  cases hcl:cls o.op with
  | chain=>grind
  | no=>grind
  | alloc =>
   rw[hcl] at ht hp;simp only[a1c,Ds] at ht;obtain⟨⟨h1,h2⟩,ht⟩:=ht;have hi:S.testBit i=false:=by grind
   have ha:=b5w h2;unfold Bz at hp;rw[ho] at hp;dsimp only at hp |-;refine step ha hi hp ?_ ?_
   ·intro hgr h;have hvb:=f1k (P:=P) (H:=H) (ev:=Cf ops (ancs [] ops.toList) (.f g ds) res i) hcl
    cases hv:opV P H (Cf ops (ancs [] ops.toList) (.f g ds) res i) o with
    | val v H' =>
     rw[hv] at h;obtain⟨f,x,e1,e2,_⟩:=c2k (B:=0) hcl hv;have h' : Bz P W ops Q (a7w ops.toList L ⟨[],s.cl++s.di,[i],s.acl++s.adi⟩ K) ((Fr.f (Gs ops g S res) ds).put o.dst v) H' ((i,H.next,H'.get H.next) :: alsP):=h;rw[b5v hfit ho] at h';have hget:H'.get H.next=some x:=by grind[Mem.get_add_same]
     unfold c3b;dsimp only;rw[hget];refine⟨ps.pi.un i hi,?_⟩;refine a6w hfit hall hK L _ _ _ _ _ _ _ hL' ?_ ht h';have p1:=(ps.step hi ha v).soil (H':=H') (acl:=[i]) (cl:=[]) (i,H.next,H'.get H.next);refine⟨p1.pi,p1.hd,fun y hy=>?_⟩;rcases Dz.1 hy with rfl|hy
     ·grind
     ·exact p1.al y hy
    | bad=>rw[hv] at h;assumption
    | _=>rw[hv] at hvb;cases hvb
   ·intro h;refine⟨ps.pi.un i hi,?_⟩;exact a6w hfit hall hK L _ _ _ _ _ _ _ hL' ((ps.step hi ha _).soil _) ht h
  | read =>
   rw[hcl] at ht hp;simp only[a1c,Ds] at ht;obtain⟨⟨h1,h2⟩,ht⟩:=ht;have hi:S.testBit i=false:=by grind
   have ha:=b5w h2;unfold Bz at hp;rw[ho] at hp;dsimp only at hp |-;refine step ha hi hp ?_ ?_
   ·intro hgr h;obtain⟨v,hq,h'⟩:=quietCase (by grind) h;unfold a9k;rw[hq];refine⟨ps.pi.un i hi,?_⟩;refine a6w hfit hall hK L _ _ _ _ _ _ _ hL' ?_ ht h';have p1:=ps.step hi ha v;refine⟨p1.pi,fun j hj=>?_,p1.al⟩;rcases Dz.1 hj with rfl|hj
    ·refine⟨by grind,⟨o,ho,hcl,fun gd e=>c4i (ps.pi.un _ hi) _ _ (hgr gd e)⟩,.inr ⟨by simp,o,v,ho,if_pos rfl,?_⟩⟩;have:Cf ops (ancs [] ops.toList) (.f g ds) (Dh res j v) j=Cf ops (ancs [] ops.toList) (.f g ds) res j:=by
      funext x
      cases x with
      | tmp t =>
       show a3z ops (ancs [] ops.toList) (.f g ds) (Dh res j v) j t=a3z ops (ancs [] ops.toList) (.f g ds) res j t;unfold a3z;split
       ·rfl
       (simp_all[Dh];grind)
      | const c=>rfl
      | global c=>rfl
      | func f=>rfl
     grind
    ·obtain⟨a,b,c⟩:=p1.hd j hj;grind
   ·intro h;refine⟨ps.pi.un i hi,?_⟩;refine a6w hfit hall hK L _ _ _ _ _ _ _ hL' ?_ ht h;have p1:=ps.step hi ha (.lit undef);exact⟨p1.pi,fun j hj=>let ⟨a,b,c⟩:=p1.hd j hj;⟨a,b,c.imp id fun⟨d,e⟩=>⟨by grind,e⟩⟩,p1.al⟩
  | free =>
   rw[hcl] at ht hp;simp only[a1c,Ds] at ht;obtain⟨⟨h1,h2⟩,ht⟩:=ht;have hi:S.testBit i=false:=by grind
   have ha:=b5w h2;unfold Bz at hp;rw[ho] at hp;dsimp only at hp |-;refine step ha hi hp ?_ ?_
   ·intro hgr h;obtain⟨v,hq,h'⟩:=quietCase (by grind) h;unfold a9k;rw[hq];exact⟨ps.pi.un i hi,a6w hfit hall hK L _ _ _ _ _ _ _ hL' (ps.step hi ha v) ht h'⟩
   ·intro h;exact⟨ps.pi.un i hi,a6w hfit hall hK L _ _ _ _ _ _ _ hL' (ps.step hi ha _) ht h⟩
  | gen =>
   rw[hcl] at ht hp;simp only[a1c,Ds] at ht;obtain⟨⟨h1,h2⟩,ht⟩:=ht;have hi:S.testBit i=false:=by grind
   have ha:=b5w h2;unfold Bz at hp;rw[ho] at hp;dsimp only at hp |-;refine step ha hi hp ?_ ?_
   ·intro hgr h;obtain⟨v,hq,h'⟩:=quietCase (by grind) h;unfold a9k;rw[hq];exact⟨ps.pi.un i hi,a6w hfit hall hK L _ _ _ _ _ _ _ hL' (ps.step hi ha v) ht h'⟩
   ·intro h;exact⟨ps.pi.un i hi,a6w hfit hall hK L _ _ _ _ _ _ _ hL' (ps.step hi ha _) ht h⟩
end Go.Ai
end
section
namespace Go.Ai
variable {P:Program} {W:WF} {ops:Array Oper} {g:Nat→Option AV} {ds:List Dfr} {Q:Out→Prop} {S:Nat} {res:ResF} {H:Mem} {held:List Nat} {als:Als} {alsP:AlP} {i:Nat} {o:Oper} {s:Hs} {K:Hs→List It}
theorem c4j {tab:List Nat} {fr:Fr} : ∀ {held:List Nat},(∀ i∈held,∃ o v,ops[i]?=some o/\res i=some v/\quiet P H (Cf ops tab fr res i) o=some v)->a7s P ops tab fr res H held
 | [],_=>trivial
 | i :: l,h=>by
  obtain⟨o,v,h1,h2,h3⟩:=h i (by simp);refine⟨?_,c4j fun j hj=>h j (by simp[hj])⟩;rw[h1];exact⟨v,h2,h3⟩
theorem stays_of:∀ {als:Als},(∀ x∈als,H.get x.2.1=some x.2.2)->a7t H als
 | [],_=>trivial
 | (a,b,c) :: l,h=>⟨h (a,b,c) (by simp),stays_of fun y hy=>h y (by grind)⟩
theorem c4k {tab:List Nat} {c i:Nat} : ∀ {held:List Nat},i∈a4j tab c held->i∈held/\Aw tab c i=false
 | [],h=>by cases h
 | j :: held,h=>by
  unfold a4j at h;split at h
  ·obtain⟨a,b⟩:=c4k h;exact⟨by simp[a],b⟩
  ·rename_i hb;rcases Dz.1 h with rfl|h
   ·exact⟨by simp,hb⟩
   ·obtain⟨a,b⟩:=c4k h;exact⟨by simp[a],b⟩
theorem c4l {tab:List Nat} {c:Nat} : ∀ {als:Als} {x:Nat×Nat×Blk},x∈a3i tab c als->x∈als/\Aw tab c x.1=false
 | [],_,h=>by cases h
 | y :: als,x,h=>by
  unfold a3i at h;split at h
  ·obtain⟨a,b⟩:=c4l h;exact⟨by simp[a],b⟩
  ·rename_i hb;rcases Dz.1 h with rfl|h
   ·exact⟨by simp,hb⟩
   ·obtain⟨a,b⟩:=c4l h;exact⟨by simp[a],b⟩
theorem d2o {fr:Fr} : ∀ {hs:List Nat},a4q P W ops fr H hs->∀ i∈hs,∃ o,ops[i]?=some o/\a0i P W ops o fr H (fun fr' _=>a1d fr' o.dst=a1d fr o.dst) (fun _=>False)
 | j :: hs,h,i,hi=>by
  rcases Dz.1 hi with rfl|hi
  ·have h1:=h.1;split at h1
   ·rename_i o ho;exact⟨o,ho,h1⟩
   ·exact h1.elim
  ·exact d2o h.2 i hi
theorem d2p {as:List Nat} : ∀ {l:AlP},a7y H as l->∀ x∈l,x.1∈as->H.get x.2.1=x.2.2
 | (i,a,b) :: l,h,x,hx,hm=>by
  rcases Dz.1 hx with rfl|hx
  ·exact h.1 hm
  ·exact d2p h.2 x hx hm
theorem f1q (hfit:fit ops.toList ops.toList 0=true) (hall:a7x P (ancs [] ops.toList) ops.toList ops.toList 0=true) (hp:PI ops S res) (hi:S.testBit i=true) (hr:Ran ops res i)
  (hag:c4c (ancs [] ops.toList) ops.toList i=true) (ho:ops[i]?=some o) (h:a0i P W ops o (.f (Gs ops g S res) ds) H (fun fr' _=>a1d fr' o.dst=a1d (.f (Gs ops g S res) ds) o.dst) (fun _=>False)) :
  Rq P ops g ds H res i:=by
 obtain⟨o',ho',hcl,hg⟩:=hr;rw[ho] at ho';cases ho';have hone:=b9g hall i o (Cm.2 ho);rw[g2n] at hone;unfold b5u at hone;simp only[Ds] at hone;obtain⟨⟨_,hgd⟩,hcv⟩:=hone;unfold c4c at hag;rw[Cm.2 ho] at hag;simp only[Ds] at hag;obtain⟨hds,hah⟩:=hag;obtain⟨d,hd⟩:=Option.isSome_iff_exists.1 hds;have hno:cls o.op≠.no:=by grind
 have key:a2r W o (.f (Gs ops g S res) ds) (fun fr' _=>a1d fr' o.dst=a1d (.f (Gs ops g S res) ds) o.dst) (fun _=>False) (opV P H (Fr.f (Gs ops g S res) ds).ev o)->Rq P ops g ds H res i:=by
  intro h;rw[b9e (P:=P) (H:=H) (c4d hno) (f1o (g:=g) (ds:=ds) hp hi hah)] at h;rcases d2l (P:=P) (H:=H) (ev:=Cf ops (ancs [] ops.toList) (.f g ds) res i) (o:=o) (by grind) hno (by grind) hcv with hb|⟨v,hv,hq⟩
  ·rw[hb] at h;exact h.elim
  ·rw[hv] at h;have h' : a1d ((Fr.f (Gs ops g S res) ds).put o.dst v) o.dst=a1d (.f (Gs ops g S res) ds) o.dst:=h;rw[hd] at h';have h2:some v=Gs ops g S res d:=by
    rw[show a1d ((Fr.f (Gs ops g S res) ds).put (some d) v) (some d)=some v from if_pos rfl] at h';exact h'
   unfold Gs at h2;rw[c4f hfit ho hd] at h2;dsimp only at h2;rw[hi] at h2;exact⟨o,v,ho,h2.symm,hq⟩
 unfold a0i at h;split at h
 ·grind
 ·rename_i gd hgx;rw[hgx] at hgd;have hgd' : Aw (ancs [] ops.toList) i gd.1=true:=hgd;rw[c4h hfit ho hgx (hp.down _ _ hi hgd'),hg gd hgx] at h;exact key (h.1 rfl)
theorem d2q (hfit:fit ops.toList ops.toList 0=true) (hall:a7x P (ancs [] ops.toList) ops.toList ops.toList 0=true) (h:PS P ops g ds s S res H held als alsP)
  (ht:a1c (ancs [] ops.toList) ops.toList S (b5s s K)=true) (hp:Bz P W ops Q (b5s s K) (.f (Gs ops g S res) ds) H alsP) :
  a7s P ops (ancs [] ops.toList) (.f g ds) res H held/\a7t H als/\∃ s',s'.di=[]/\s'.adi=[]/\PS P ops g ds s' S res H held als alsP /\
   a1c (ancs [] ops.toList) ops.toList S (K s')=true/\Bz P W ops Q (K s') (.f (Gs ops g S res) ds) H alsP:=by
 have done:s.di=[]->s.adi=[]->a1c (ancs [] ops.toList) ops.toList S (K s)=true->Bz P W ops Q (K s) (.f (Gs ops g S res) ds) H alsP->a7s P ops (ancs [] ops.toList) (.f g ds) res H held/\a7t H als/\∃ s',s'.di=[]/\s'.adi=[]/\PS P ops g ds s' S res H held als alsP /\
   a1c (ancs [] ops.toList) ops.toList S (K s')=true/\Bz P W ops Q (K s') (.f (Gs ops g S res) ds) H alsP:=by
  intro e1 e2 ht hp;refine⟨c4j fun i hi=>?_,stays_of fun x hx=>?_,s,e1,e2,h,ht,hp⟩
  ·obtain⟨_,_,c⟩:=h.hd i hi;rcases c with c|⟨_,c⟩
   ·grind
   ·exact c
  ·obtain⟨_,c⟩:=h.al x hx;grind
 have go:a1c (ancs [] ops.toList) ops.toList S (.gate s.di s.adi :: K ⟨s.di++s.cl,[],s.adi++s.acl,[]⟩)=true ->
   Bz P W ops Q (.gate s.di s.adi :: K ⟨s.di++s.cl,[],s.adi++s.acl,[]⟩) (.f (Gs ops g S res) ds) H alsP->a7s P ops (ancs [] ops.toList) (.f g ds) res H held/\a7t H als/\∃ s',s'.di=[]/\s'.adi=[]/\PS P ops g ds s' S res H held als alsP /\
   a1c (ancs [] ops.toList) ops.toList S (K s')=true/\Bz P W ops Q (K s') (.f (Gs ops g S res) ds) H alsP:=by
  intro ht hp;simp only[a1c,Ds] at ht;obtain⟨hag,ht⟩:=ht;obtain⟨h1,h2,h3⟩:=hp;have hR:∀ i∈held,Rq P ops g ds H res i:=by
   intro i hi;obtain⟨a,b,c⟩:=h.hd i hi;rcases c with c|⟨_,c⟩
   ·obtain⟨o,ho,ho'⟩:=d2o h1 i c;exact f1q hfit hall h.pi a b (Eb.1 hag i c) ho ho'
   grind
  have hA:∀ x∈als,H.get x.2.1=some x.2.2:=by
   intro x hx;obtain⟨a,c⟩:=h.al x hx;rcases c with c|⟨_,c⟩
   ·exact d2p h2 _ a c
   grind
  refine⟨c4j hR,stays_of hA,_,rfl,rfl,⟨h.pi,fun i hi=>?_,fun x hx=>?_⟩,ht,h3⟩
  ·obtain⟨a,b,c⟩:=h.hd i hi;grind
  ·obtain⟨a,c⟩:=h.al x hx;grind
 grind[b5s]
def a9s (W:WF) : Prop:=∀ (f:FuncId) (args:List AV) (H:Mem) (K K' : Az->Prop),(∀ r,K r->K' r)->W f args H K->W f args H K'
theorem d2r (G:Nat) (P:Program) : a9s (WC G P):=fun _ _ _ _ _ hk h=>h.mono hk
theorem d2s {O:CallF} (h:a9s W) : a9s (orW O W):=by
 intro f args H K K' hk hw;unfold orW at hw |-;split
 ·rename_i e;rw[e] at hw;exact h _ _ _ _ _ hk hw
 grind
theorem f1r (hW:a9s W) (hfit:fit ops.toList ops.toList 0=true) (hall:a7x P (ancs [] ops.toList) ops.toList ops.toList 0=true) (hp:PI ops S res) (ho:ops[i]?=some o) (hc:cls o.op=.chain)
  (hi:S.testBit i=false) (ha:∀ j,Aw (ancs [] ops.toList) i j=true->S.testBit j=true) {k:Fr->Mem->Prop} {K' : ResF->Mem->Prop}
  (h:a0i P W ops o (.f (Gs ops g S res) ds) H k (a5o Q)) (hK:∀ v H',k (.f (Gs ops g (S ||| 2 ^ i) (Dh res i v)) ds) H'->K' (Dh res i v) H') :
  b5k P W ops (ancs [] ops.toList) (.f g ds) i res H K' Q:=by
 have hone:=b9g hall i o (Cm.2 ho);rw[g2n] at hone;unfold b5u at hone;simp only[Ds] at hone;obtain⟨⟨hcmp,hgd⟩,hcv⟩:=hone;have hno:cls o.op≠.no:=by grind
 have hev:=b9e (P:=P) (H:=H) (c4d hno) (d2m (g:=g) (ds:=ds) hp hi ha hcmp);have put:=fun v=>b5v (g:=g) (ds:=ds) (S:=S) (res:=res) hfit ho v;have act:a2r W o (.f (Gs ops g S res) ds) k (a5o Q) (opV P H (Cf ops (ancs [] ops.toList) (.f g ds) res i) o) ->
   b8o W (.f g ds) i res K' Q (opV P H (Cf ops (ancs [] ops.toList) (.f g ds) res i) o):=by
  intro h;have hac:=f1n (P:=P) (H:=H) (ev:=Cf ops (ancs [] ops.toList) (.f g ds) res i) hc
  cases hv:opV P H (Cf ops (ancs [] ops.toList) (.f g ds) res i) o with
  | val v H' =>
   rw[hv] at h;refine⟨hp.un i hi,hK v H' ?_⟩;rw[<- put];exact h
  | skip H' =>
   rw[hv] at h;refine⟨hp.un i hi,hK _ H' ?_⟩;rw[<- put];exact h
  | enter f args H' =>
   rw[hv] at h;refine hW _ _ _ _ _ ?_ h;intro r hr
   cases r with
   | ret v H2 =>
    refine⟨hp.un i hi,hK v H2 ?_⟩;grind
   | panic v H2=>exact hr
   | bad=>grind
  | bad=>rw[hv] at h;assumption
  | dfr _ _ _ _=>rw[hv] at hac;cases hac
  | recover=>rw[hv] at hac;cases hac
  | panic _ _=>rw[hv] at hac;cases hac
 unfold b5k;rw[ho];dsimp only;unfold a0i at h;unfold b1n;split at h
 ·grind
 ·rename_i gd hg;rw[hg] at hgd;dsimp only at hgd;rw[c4h hfit ho hg (ha _ hgd),put,hev] at h;exact⟨hgd,d2n h (fun _=>act) fun h=>⟨hp.un i hi,hK _ _ h⟩⟩
theorem f1s {S': Nat} (h:∀ j,j<ops.size->S.testBit j=S'.testBit j) : Gs ops g S res=Gs ops g S' res:=by
 funext t;unfold Gs;split
 ·rename_i j hj;obtain⟨_,o,ho,_⟩:=a9f hj;grind
 ·rfl
theorem d2t (hfit:fit ops.toList ops.toList 0=true) {KF:Fr->Prop} (hall:∀ j,j<ops.size->∃ v,res j=some v) : ∀ (l:List Oper) (k:Nat),ops.toList.drop k=l->k+l.length=ops.size ->
  KF (.f (Gs ops g (2 ^ ops.size-1) res) ds)->a7u res KF l k (.f (Gs ops g (2 ^ k-1) res) ds)
 | [],k,_,hl,h=>by
  have:k=ops.size:=by grind
  subst this;exact h
 | o :: l,k,hk,hl,h=>by
  have hlt:k<ops.size:=by grind
  obtain⟨v,hv⟩:=hall k hlt;have hko:ops.toList[k]?=some o:=by
   have:(ops.toList.drop k)[0]?=some o:=by grind
   grind
  unfold a7u;rw[hv];dsimp only;rw[b5v hfit (Cm.1 hko)];have e1:Dh res k v=res:=by
   funext j;unfold Dh;grind
  rw[e1,f1s (S':=2 ^ (k+1)-1) (fun j _=>by
   grind)]
  refine d2t hfit hall l (k+1) ?_ (by grind) h;have:=congrArg List.tail hk;simpa using this
theorem f1t (hW:a9s W) (hfit:fit ops.toList ops.toList 0=true) (hall:a7x P (ancs [] ops.toList) ops.toList ops.toList 0=true) (all:List Nat) :
  ∀ (cs:List Nat) (k:Nat) (s:Hs) (S:Nat) (res:ResF) (H:Mem) (held:List Nat) (als:Als) (alsP:AlP),(∀ c∈cs,∃ o,ops[c]?=some o/\Cu o.op=true) ->
   PS P ops g ds s S res H held als alsP->a1c (ancs [] ops.toList) ops.toList S (b3i (ancs [] ops.toList) all ops.toList k cs s)=true ->
   Bz P W ops (a5o Q) (b3i (ancs [] ops.toList) all ops.toList k cs s) (.f (Gs ops g S res) ds) H alsP ->
   b3g P W ops (ancs [] ops.toList) (.f g ds) all Q k cs res H held als:=by
 intro cs
 induction cs with
 | nil =>
  intro k s S res H held als alsP _ ps ht hp;rw[b8r];unfold b3i at ht hp;refine a6w hfit hall ?_ _ _ _ _ _ _ _ _ (fun j hj=>?_) ps ht hp
  ·intro s S res H held als alsP ps ht hp;obtain⟨h1,h2,s',_,_,ps',ht',hp'⟩:=d2q hfit hall ps ht hp;refine⟨h1,h2,?_⟩;have hS:S+1=2 ^ ops.toList.length:=Eh ht';have hS' : S=2 ^ ops.size-1:=by grind
   have hq:Q (.norm (.f (Gs ops g S res) ds) H):=hp';subst hS';have hz:Fr.f g ds=.f (Gs ops g (2 ^ 0-1) res) ds:=by
    congr 1;funext t;unfold Gs;grind
   show a7u res (fun fr=>Q (.norm fr H)) ops.toList 0 (.f g ds);rw[hz];refine d2t hfit (fun j hj=>ps'.pi.dn j ?_) ops.toList 0 rfl (by simp) hq;grind
  grind[a9j,a5k]
 | cons c cs ih =>
  intro k s S res H held als alsP hcs ps ht hp;rw[b8r];unfold b3i at ht hp;refine a6w hfit hall ?_ _ _ _ _ _ _ _ _ (fun j hj=>?_) ps ht hp
  ·intro s S res H held als alsP ps ht hp;obtain⟨h1,h2,s',e1,e2,ps',ht',hp'⟩:=d2q hfit hall ps ht hp;refine⟨h1,h2,?_⟩;simp only[a1c,Ds] at ht';obtain⟨⟨t1,t2⟩,ht'⟩:=ht';have hi:S.testBit c=false:=by grind
   have ha:=b5w t2;obtain⟨o,ho,hch⟩:=hcs c (by simp);have hcl:cls o.op=.chain:=by
    grind[Cu]
   unfold Bz at hp';rw[ho] at hp';dsimp only at hp';refine f1r hW hfit hall ps'.pi ho hcl hi ha hp' ?_;intro v H' hk;refine ih _ _ _ _ _ _ _ _ (fun c hc=>hcs c (by grind)) ?_ ht' hk;have p1:=ps'.step hi ha v;refine⟨p1.pi,fun j hj=>?_,fun x hx=>?_⟩
   ·have hm:j∈held/\Aw (ancs [] ops.toList) c j=false:=c4k hj;obtain⟨a,b,d⟩:=p1.hd j hm.1;grind
   ·have hm:x∈als/\Aw (ancs [] ops.toList) c x.1=false:=c4l hx;obtain⟨a,d⟩:=p1.al x hm.1;grind
  grind[a9j,a5k]
theorem d2u (hW:a9s W) (hok:b9d P ops.toList=true) (h:Bz P W ops (a5o Q) (b3j ops.toList) (.f g ds) H []) : b8p P W ops (.f g ds) H Q:=by
 unfold b9d at hok;simp only[Ds] at hok;obtain⟨⟨⟨h1,h2⟩,h3⟩,h4⟩:=hok;have hfit:fit ops.toList ops.toList 0=true:=by
  simp_all[b2w]
 have hz:Fr.f g ds=.f (Gs ops g 0 (fun _=>none)) ds:=by
  congr 1;grind[Gs]
 refine⟨h1,h2,?_⟩;unfold b3j at h h4;rw[hz] at h;refine f1t hW hfit h3 _ _ _ _ 0 _ _ _ _ [] (fun c hc=>?_) ⟨⟨fun _ _=>rfl,fun j hj=>?_,fun j k hj=>?_⟩,fun _ h=>(by cases h),fun _ h=>(by cases h)⟩ h4 h
 all_goals grind[mem_chainOf]
end Go.Ai
end
section
namespace Go.Ai
open Go.RowKit (Below)
def planAt:List (Nat×List It)->Nat->List It
 | [],_=>[]
 | (k,l) :: r,i=>if k=i then l else planAt r i
def a4r (P:Program) (plan:List (Nat×List It)) : Code->Bool
 | .region id ops true=>b9d P ops.toList && decide (b3j ops.toList=planAt plan id)
 | .seq a b=>a4r P plan a && a4r P plan b
 | .cond _ a b=>a4r P plan a && a4r P plan b
 | .block _ b=>a4r P plan b
 | .loop b=>a4r P plan b
 | _=>true
noncomputable def b3l (P:Program) (W:WF) (ops:Array Oper) (Q:Out->Prop) (l:List It) (fr:Fr) (H:Mem) : Prop:=match fr with
 | .f g ds=>Bz P W ops (a5o Q) l (.f g ds) H []
 | _=>False
noncomputable def Dc (P:Program) (W:WF) (L:LF) (plan:List (Nat×List It)) : Code->Fr->Mem->(Out->Prop)->Prop
 | .skip,fr,H,Q=>Q (.norm fr H)
 | .region _ ops false,fr,H,Q=>a4k P W ops Q ops.toList fr H
 | .region id ops true,fr,H,Q=>b3l P W ops Q (planAt plan id) fr H
 | .seq a b,fr,H,Q=>Dc P W L plan a fr H (a6p (fun fr H=>Dc P W L plan b fr H Q) Q)
 | .cond c a b,fr,H,Q=>a6q (fr.ev c) (Dc P W L plan a fr H Q) (Dc P W L plan b fr H Q)
 | .block id b,fr,H,Q=>Dc P W L plan b fr H (a9l id Q)
 | .loop b,fr,H,Q=>L b fr H Q
 | .exit id,fr,H,Q=>Q (.exit id fr H)
 | .label _,fr,H,Q=>Q (.norm fr H)
 | .ret,fr,H,Q=>Q (.ret fr H)
 | _,_,_,_=>False
variable {B G:Nat} {P:Program} {n n0:Nat} {ρ0 ρ:Rn} {w0 w:World} {fr:Fr} {H:Mem} {a:Act} {W:WF} {Q:Out→Prop} {plan:List (Nat×List It)}
theorem d2v (hW:WOK G P W) (hM:a9s W) (hG:G=P.globals.size) : ∀ (c:Code) (fr:Fr) (H:Mem) (Q:Out->Prop),Bg n c=true->a4r P plan c=true->Dc P W (LX G P n) plan c fr H Q->XW G P n c fr H Q:=by
 intro c
 induction c with
 | skip=>intro fr H Q _ _ h B n0 ρ0 w0 ρ a w s;exact wp_skip ⟨_,h,ρ,s⟩
 | region id ops draw =>
  intro fr H Q hd hc h B n0 ρ0 w0 ρ a w s
  cases draw with
  | false=>exact wp_region_list (c3c hW hG ops.toList fr H ρ a w (fun o ho=>Eb.1 hd o ho) s h)
  | true =>
   simp only[a4r,Ds,decide_eq_true_eq] at hc;have h' : b3l P W ops Q (planAt plan id) fr H:=h;rw[<- hc.2] at h'
   cases fr with
   | f g ds=>exact d1r hW hG s hd (d2u hM hc.1 h')
   | _=>exact h'.elim
 | seq x y ihx ihy =>
  intro fr H Q hd hc h B n0 ρ0 w0 ρ a w s;simp only[Bg,Ds] at hd;simp only[a4r,Ds] at hc;refine wp_seq (Code.wp_mono ?_ (ihx fr H _ hd.1 hc.1 h B n0 ρ0 w0 ρ a w s));rintro e a' w' ⟨out,hq,ho⟩
  cases out with
  | norm fr' H' =>
   cases e with
   | normal=>obtain⟨ρ',s'⟩:=ho;exact ihy fr' H' Q hd.2 hc.2 hq B n0 ρ0 w0 ρ' a' w' s'
   | _=>exact ho.elim
  | exit id fr' H'=>cases e<;>first|exact ho.elim|exact⟨_,hq,ho⟩
  | ret fr' H'=>cases e<;>first|exact ho.elim|exact⟨_,hq,ho⟩
  | panic v fr' H'=>cases e<;>first|exact ho.elim|exact⟨_,hq,ho⟩
  | bad=>exact hq.elim
 | cond cnd x y ihx ihy =>
  intro fr H Q hd hc h B n0 ρ0 w0 ρ a w s;simp only[Bg,Ds] at hd;simp only[a4r,Ds] at hc;have h' : a6q (fr.ev cnd) (Dc P W (LX G P n) plan x fr H Q) (Dc P W (LX G P n) plan y fr H Q):=h;unfold a6q at h';split at h'
  ·rename_i b hev;have:=s.ev _ _ hev
   cases b with
   | true=>exact wp_cond_true this (ihx fr H Q hd.1 hc.1 (h'.1 rfl) B n0 ρ0 w0 ρ a w s)
   | false=>exact wp_cond_false this (ihy fr H Q hd.2 hc.2 (h'.2 rfl) B n0 ρ0 w0 ρ a w s)
  grind
 | block id b ih =>
  intro fr H Q hd hc h B n0 ρ0 w0 ρ a w s;refine wp_block (Code.wp_mono ?_ (ih fr H _ hd hc h B n0 ρ0 w0 ρ a w s));rintro e a' w' ⟨out,hq,ho⟩
  cases out with
  | norm fr' H'=>cases e<;>first|exact ho.elim|exact⟨_,hq,ho⟩
  | exit id' fr' H' =>
   cases e with
   | exit id2 =>
    obtain⟨rfl,ρ',s'⟩:=ho;have hq' : if id2=id then Q (.norm fr' H') else Q (.exit id2 fr' H'):=hq;by_cases e:id2=id
    ·subst e;rw[if_pos rfl] at hq';simp only[Exit.inBlock,if_true];exact⟨_,hq',ρ',s'⟩
    ·rw[if_neg e] at hq';simp only[Exit.inBlock,e,if_false];exact⟨_,hq',rfl,ρ',s'⟩
   | _=>exact ho.elim
  | ret fr' H'=>cases e<;>first|exact ho.elim|exact⟨_,hq,ho⟩
  | panic v fr' H'=>cases e<;>first|exact ho.elim|exact⟨_,hq,ho⟩
  | bad=>exact hq.elim
 | loop b ih =>
  intro fr H Q hd hc h B n0 ρ0 w0 ρ a w s;exact LW.wp (h B n0 ρ0 w0 ρ a w s)
 | rangeFunc f ps x y ihx ihy=>intro fr H Q hd hc h;exact h.elim
 | exit id=>intro fr H Q hd hc h B n0 ρ0 w0 ρ a w s;exact wp_exit ⟨_,h,rfl,ρ,s⟩
 | scope b ih=>intro fr H Q hd hc h;exact h.elim
 | label l=>intro fr H Q hd hc h B n0 ρ0 w0 ρ a w s;exact wp_label ⟨_,h,ρ,s⟩
 | goto l=>intro fr H Q hd hc h;exact h.elim
 | ret=>intro fr H Q hd hc h B n0 ρ0 w0 ρ a w s;exact wp_ret ⟨_,h,ρ,s⟩
 | refuse why=>intro fr H Q hd hc h;exact h.elim
theorem LX.roundP {O:CallF} (hO:∀ B,Be B G P O) (hG:G=P.globals.size) (plan:List (Nat×List It)) {b:Code} (hd:(Bg n b && a4r P plan b)=true)
  (h:Dc P (orW O (WC G P)) (LX G P n) plan b fr H (a6p (fun fr H=>LX G P n b fr H Q) Q)) : LX G P n b fr H Q:=by
 rw[Ds] at hd;intro B n0 ρ0 w0 ρ a w s;refine LW.unroll (Code.wp_mono ?_ (d2v (d1i hO) (d2s (d2r G P)) hG b fr H _ hd.1 hd.2 h B n0 ρ0 w0 ρ a w s));rintro e a' w' ⟨out,hq,ho⟩
 cases out with
 | norm fr' H' =>
  cases e with
  | normal=>obtain⟨ρ',s'⟩:=ho;exact hq B n0 ρ0 w0 ρ' a' w' s'
  | _=>exact ho.elim
 | exit id fr' H'=>cases e<;>first|exact ho.elim|exact⟨_,hq,ho⟩
 | ret fr' H'=>cases e<;>first|exact ho.elim|exact⟨_,hq,ho⟩
 | panic v fr' H'=>cases e<;>first|exact ho.elim|exact⟨_,hq,ho⟩
 | bad=>exact hq.elim
theorem WC.enterP {f:FuncId} {fn:Func} {c:Code} {args:List AV} {K:Az->Prop} {O:CallF} (hO:∀ B,Be B G P O) (hG:G=P.globals.size) (plan:List (Nat×List It)) (hf:P.funcs[f]?=some fn) (hb:fn.body=some c)
  (hd:(Bg fn.ntmps c && a4r P plan c)=true) (hl:args.length<=fn.ntmps) (h:Dc P (orW O (WC G P)) (LX G P fn.ntmps) plan c (b5n args) H (b5m P O fn K)) : WC G P f args H K:=by
 rw[Ds] at hd;intro B ρ us w s hv;have s1:St B G fn.ntmps H.next ρ w ρ (b5n args) H { tmps:=us++Array.replicate (fn.ntmps-us.size) undef,defers:=[] } w:=⟨Ext.refl _ _ _ _,s,e4b hv hl,Dp _⟩;refine calls_of_wp_defers hf hb (Code.wp_mono ?_ (d2v (d1i hO) (d2s (d2r G P)) hG c _ H _ hd.1 hd.2 h B H.next ρ w ρ _ w s1));rintro e a' w' ⟨out,hq,ho⟩;have fin:∀ {fr' : Fr} {u:Mode} {H' : Mem} {ρ' : Rn} {m:FrameMode},(match a0s P O (fun _ _ _=>.bad) fn fr' fr'.defers u H' with|.bad=>False|r=>K r)->St B G fn.ntmps H.next ρ w ρ' fr' H' a' w'->MR ρ' u m ->
   Leaves P fn a'.tmps (fun e w'=>∃ r,K r/\b1j B G H.next ρ w r e w') a'.defers m w':=by
  intro fr' u H' ρ' m hm s' hmr;have key:∀ r,a0s P O (fun _ _ _=>.bad) fn fr' fr'.defers u H'=r->r≠.bad->K r->Leaves P fn a'.tmps (fun e w'=>∃ r,K r/\b1j B G H.next ρ w r e w') a'.defers m w':=by
   intro r hr hne hk;refine c3f (fun e w' hc=>⟨r,hk,hc⟩) ?_;exact b1k (hO B) (e4c B G P) hG hne _ _ u H' ρ' m w' s'.frel.dfr s' hmr hr
  grind
 cases out with
 | norm fr' H' =>
  cases e with
  | normal=>obtain⟨ρ',s'⟩:=ho;exact fin (u:=.returning) (m:=.returning) hq s' rfl
  | _=>exact ho.elim
 | ret fr' H' =>
  cases e with
  | ret=>obtain⟨ρ',s'⟩:=ho;exact fin (u:=.returning) (m:=.returning) hq s' rfl
  | _=>exact ho.elim
 | panic v fr' H' =>
  cases e with
  | panic chain=>obtain⟨ρ',x,rfl,hx,s'⟩:=ho;exact fin (u:=.panicking v) hq s' ⟨x,rfl,hx⟩
  | _=>exact ho.elim
 | exit id fr' H'=>exact hq.elim
 | bad=>exact hq.elim
end Go.Ai
end
section
namespace Go.Ai
variable {P:Program} {W:WF} {L:LF} {Q:Out→Prop} {fr:Fr} {H:Mem} {plan:List (Nat×List It)} {ops:Array Oper} {al:AlP}
variable {tk id i:Nat} {l:List Oper} {b:Code} {r:List It} {as:List Nat}
theorem f1u (_h0:tick=tk) {c:Code} {fr fr' : Fr} {H H' : Mem} (h1:fr=fr') (h2:H=H') : Dc P W L plan c fr H Q=Dc P W L plan c fr' H' Q:=by grind
theorem f1v (_h0:tick=tk) {l:List It} {fr fr' : Fr} {H H' : Mem} (h1:fr=fr') (h2:H=H') : Bz P W ops Q l fr H al=Bz P W ops Q l fr' H' al:=by grind
theorem f1w (_h0:tick=tk) {l:List Nat} {fr fr' : Fr} {H H' : Mem} (h1:fr=fr') (h2:H=H') : a4q P W ops fr H l=a4q P W ops fr' H' l:=by grind
theorem f1x (_h0:tick=tk) {l l' : List It} {fr fr' : Fr} {H H' : Mem} (h0:l=l') (h1:fr=fr') (h2:H=H') : b3l P W ops Q l fr H=b3l P W ops Q l' fr' H':=by grind
theorem f1y (_h0:tick=tk) {o o' : Out} (h:o=o') : a5o Q o=a5o Q o':=by rw[h]
def atW (l:List Oper) (i:Nat) (k:Oper->Prop) : Prop:=match l[i]? with|some o=>k o|none=>False
theorem f1z {o:Oper} {k:Oper->Prop} : atW (o :: l) 0 k=k o:=(rfl)
theorem f2a {o:Oper} {n:Nat} {k:Oper->Prop} : atW (o :: l) (n+1) k=atW l n k:=(rfl)
theorem f2b (_h0:tick=tk) {l:List Oper} {i:Nat} {k:Oper->Prop} : atW l i k=atW l i k:=rfl
attribute [congr] f1u f1v f1w f1x f1y f2b
theorem execP_skip:Dc P W L plan .skip fr H Q=Q (.norm fr H):=(rfl)
theorem f2c : Dc P W L plan (.region id l.toArray false) fr H Q=a4k P W l.toArray Q l fr H:=(rfl)
theorem f2d : Dc P W L plan (.region id ops true) fr H Q=b3l P W ops Q (planAt plan id) fr H:=(rfl)
theorem f2e {a:Code} : Dc P W L plan (.seq a b) fr H Q=Dc P W L plan a fr H (a6p (fun fr H=>Dc P W L plan b fr H Q) Q):=(rfl)
theorem f2f {x:Operand} {a:Code} : Dc P W L plan (.cond x a b) fr H Q=a6q (fr.ev x) (Dc P W L plan a fr H Q) (Dc P W L plan b fr H Q):=(rfl)
theorem f2g : Dc P W L plan (.block id b) fr H Q=Dc P W L plan b fr H (a9l id Q):=(rfl)
theorem f2h : Dc P W L plan (.loop b) fr H Q=L b fr H Q:=(rfl)
theorem f2i : Dc P W L plan (.exit id) fr H Q=Q (.exit id fr H):=(rfl)
theorem execP_ret:Dc P W L plan .ret fr H Q=Q (.ret fr H):=(rfl)
theorem f2j {g:Nat->Option AV} {ds:List Dfr} {l:List It} : b3l P W ops Q l (.f g ds) H=Bz P W ops (a5o Q) l (.f g ds) H []:=(rfl)
theorem clearQ_norm:a5o Q (.norm fr H)=Q (.norm fr H):=(rfl)
theorem planW_nil:Bz P W ops Q [] fr H al=Q (.norm fr H):=(rfl)
theorem f2k : Bz P W l.toArray Q (.run i :: r) fr H al=atW l i fun o=>a0i P W l.toArray o fr H (fun fr H=>Bz P W l.toArray Q r fr H al) Q:=by
 rw[Bz,List.getElem?_toArray];rfl
theorem f2l : Bz P W l.toArray Q (.mk i :: r) fr H al=atW l i fun o=>a0i P W l.toArray o fr H (fun fr H'=>Bz P W l.toArray Q r fr H' ((i,H.next,H'.get H.next) :: al)) Q:=by
 rw[Bz,List.getElem?_toArray];rfl
theorem f2m {hs:List Nat} : Bz P W ops Q (.gate hs as :: r) fr H al=(a4q P W ops fr H hs/\a7y H as al/\Bz P W ops Q r fr H al):=(rfl)
theorem againW_nil:a4q P W ops fr H []=True:=(rfl)
theorem f2n {hs:List Nat} : a4q P W l.toArray fr H (i :: hs)=((atW l i fun o=>a0i P W l.toArray o fr H (fun fr' _=>a1d fr' o.dst=a1d fr o.dst) fun _=>False)/\a4q P W l.toArray fr H hs):=by
 rw[a4q,List.getElem?_toArray];rfl
theorem f2o {d:Tmp} : a1d fr (some d)=fr.get d:=(rfl)
theorem f2p : a7y H as []=True:=(rfl)
theorem f2q {a:Nat} {b:Option Blk} {l:AlP} : a7y H as ((i,a,b) :: l)=((i∈as->H.get a=b)/\a7y H as l):=(rfl)
attribute [simp] execP_skip f2c f2d f2e f2f f2g f2h f2i execP_ret f2j clearQ_norm
 planW_nil f2k f2l f2m againW_nil f2n f2o f2p f2q f1z f2a
end Go.Ai
end
section
namespace Go.Ai
variable {P:Program} {W:WF} {L:LF} {Q:Out→Prop} {fr:Fr} {H:Mem}
section
variable {ev:Ev} {d:Option Tmp} {ty:TypeId} {p:String} {af:Array Edge} {g:Option (Nat×Bool)}
end
end Go.Ai
end
section
namespace Go.Ai
variable {B G:Nat} {P:Program} {ρ:Rn} {H:Mem} {w:World}
noncomputable def orR (x:Az) (y:Az) : Az:=Az.rec (motive:=fun _=>Az) (fun v H=>.ret v H) (fun v H=>.panic v H) y x
noncomputable def orC (O c:CallF) : CallF:=fun f a H=>orR (O f a H) (c f a H)
theorem f2r {O c:CallF} (hO:Be B G P O) (hc:Be B G P c) : Be B G P (orC O c):=by
 intro f args H hne ρ us w s hv;unfold orC at hne |-
 cases hr:O f args H with
 | bad=>rw[hr] at hne;exact hc f args H hne ρ us w s hv
 | ret v H'=>have:=hO f args H (by grind) ρ us w s hv;rw[hr] at this;exact this
 | panic v H'=>have:=hO f args H (by grind) ρ us w s hv;rw[hr] at this;exact this
noncomputable def Mem.fn (H:Mem) : Mem:=⟨.fn H.get,H.next⟩
theorem Sim.toFn (s:Sim B G ρ H w) : Sim B G ρ H.fn w:=⟨s.blk,s.inj,s.fresh,s.glob,s.names,s.base⟩
theorem Sim.ofFn (s:Sim B G ρ H.fn w) : Sim B G ρ H w:=⟨s.blk,s.inj,s.fresh,s.glob,s.names,s.base⟩
theorem WC.ofFn {f:FuncId} {args:List AV} {v:AV} (h:WC G P f args H.fn fun r=>r=.ret v H.fn) : WC G P f args H fun r=>r=.ret v H:=by
 intro B ρ us w s hv;refine(h B ρ us w s.toFn hv).mono ?_;rintro e w' ⟨r,rfl,hc⟩;refine⟨_,rfl,?_⟩
 cases e with
 | returned u =>
  obtain⟨ρ',h1,h2,h3,h4⟩:=hc;exact⟨ρ',h1,h2.ofFn,h3,Dp _⟩
 | panicked chain=>assumption
 | outgrown=>assumption
mutual
def a1e (n:Nat) : AV->Bool
 | .lit _=>true
 | .es=>true
 | .ptr a _=>Nat.blt a n
 | .sl a _ _ _=>Nat.blt a n
 | .slq a _ _ _=>Nat.blt a n
 | .map a=>Nat.blt a n
 | .func _ x y=>belowL n x && belowL n y
 | .iface _ v=>a1e n v
 | .agg l=>belowL n l
 | .tup l=>belowL n l
def belowL (n:Nat) : List AV->Bool
 | []=>true
 | v :: l=>a1e n v && belowL n l
end
def b3m (n:Nat) (ρ:Rn) : Rn:=fun a=>if a<n then ρ a else none
theorem b9h {n a:Nat} {ρ:Rn} (h:Nat.blt a n=true) : b3m n ρ a=ρ a:=if_pos (Dq h)
mutual
theorem c4m {n:Nat} {ρ:Rn} : ∀ {v:AV} {u:Value},a1e n v=true->VR ρ v u->VR (b3m n ρ) v u
 | .lit _,_,_,r=>r
 | .es,_,_,r=>r
 | .ptr a _,_,hb,⟨b,o,k,e,r⟩=>⟨b,o,k,(b9h (by simpa[a1e] using hb)).trans e,r⟩
 | .sl a _ _ _,_,hb,⟨b,o,k,e,r⟩=>⟨b,o,k,(b9h (by simpa[a1e] using hb)).trans e,r⟩
 | .slq a _ _ _,_,hb,⟨b,o,k,e,r⟩=>⟨b,o,k,(b9h (by simpa[a1e] using hb)).trans e,r⟩
 | .map a,_,hb,⟨b,o,k,e,r⟩=>⟨b,o,k,(b9h (by simpa[a1e] using hb)).trans e,r⟩
 | .func _ _ _,_,hb,⟨f',c',e,r,q⟩=>by
  simp only[a1e,Ds] at hb;exact⟨f',c',e,below_VRs hb.1 r,below_VRs hb.2 q⟩
 | .iface _ _,_,hb,⟨u',e,r⟩=>⟨u',e,c4m (by simpa[a1e] using hb) r⟩
 | .agg _,_,hb,⟨cs,e,r⟩=>⟨cs,e,below_VRs (by simpa[a1e] using hb) r⟩
 | .tup _,_,hb,⟨cs,e,r⟩=>⟨cs,e,below_VRs (by simpa[a1e] using hb) r⟩
theorem below_VRs {n:Nat} {ρ:Rn} : ∀ {l:List AV} {us:List Value},belowL n l=true->VRs ρ l us->VRs (b3m n ρ) l us
 | [],_,_,r=>r
 | _ :: _,_,hb,⟨u,us',e,r,q⟩=>by
  simp only[belowL,Ds] at hb;exact⟨u,us',e,c4m hb.1 r,below_VRs hb.2 q⟩
end
def b9i (n:Nat) : Option Blk->Bool
 | none=>true
 | some (.cells l own _)=>!own && belowL n l
 | _=>false
def d2w (v:AV) : Az->Bool
 | .ret u _=>eqAV u v
 | _=>false
theorem Sim.small {H0:Mem} (s:Sim B G ρ H w) (hG:G<=H0.next) (hst:∀ a,b9i H0.next (H0.get a)=true) (hsub:∀ a x,H0.get a=some x->H.get a=some x) (hlt:∀ a x,H0.get a=some x->a<H0.next) :
  Sim w.heap.size G (b3m H0.next ρ) H0 w:=by
 refine⟨fun a x ha=>?_,fun a a' x x' b o k o' k' ha _ _ hown=>?_,fun a ha=>if_neg (Nat.not_lt.2 ha),fun a x hlt' ha=>?_,hG,Dp _⟩
 ·have hr:b3m H0.next ρ a=ρ a:=if_pos (hlt a x ha);rcases s.blk a x (hsub a x ha) with hn|⟨b,o,k,h1,h2⟩
  ·grind
  ·refine .inr ⟨b,o,k,hr.trans h1,?_⟩;have hs:=hst a;rw[ha] at hs
   cases x with
   | cells l own z =>
    simp only[b9i,Ds,g4w] at hs;obtain⟨c,e,fz,h3,h4,h5⟩:=h2;refine⟨c,e,fz,h3,fun i v hi=>?_,fun hown=>by grind⟩;obtain⟨u,hu,hv⟩:=h4 i v hi;refine⟨u,hu,c4m ?_ hv⟩;have key:∀ (l:List AV) (i:Nat),belowL H0.next l=true->l[i]?=some v->a1e H0.next v=true:=by
     intro l
     induction l with
     | nil=>grind
     | cons y l ih =>
      (simp_all[belowL];grind)
    grind
   | map _ _=>cases hs
   | siter _ _=>cases hs
   | typ _ _ _=>cases hs
 ·have hs:=hst a;rw[ha] at hs
  cases x with
  | cells l own z =>
   simp only[b9i,Ds,g4w] at hs;have:own=true:=hown;grind
  | map _ _=>cases hs
  | siter _ _=>cases hs
  | typ _ _ _=>cases hs
 ·have hr:b3m H0.next ρ a=ρ a:=if_pos (hlt a x ha);exact hr.trans (s.glob a x hlt' (hsub a x ha))
theorem WC.local {H0:Mem} {O:CallF} {f:FuncId} {args:List AV} {v:AV} (hO:∀ B,Be B G P O) (hrun:d2w v (O f args H0)=true) (hv:plainV v=true) (hargs:belowL 0 args=true)
  (hG:G<=H0.next) (hst:∀ a,b9i H0.next (H0.get a)=true) (hsub:∀ a x,H0.get a=some x->H.get a=some x) (hlt:∀ a x,H0.get a=some x->a<H0.next) :
  WC G P f args H fun r=>r=.ret v H:=by
 intro B ρ us w s hva;have mono0:∀ (n:Nat),(∀ v,a1e 0 v=true->a1e n v=true)/\(∀ l,belowL 0 l=true->belowL n l=true):=by
  intro n;have hV:∀ v,a1e 0 v=true->a1e n v=true:=by
   intro v;refine AV.rec (motive_1:=fun v=>a1e 0 v=true->a1e n v=true) (motive_2:=fun l=>belowL 0 l=true->belowL n l=true) ?_ ?_ ?_ ?_ ?_ ?_ ?_ ?_ ?_ ?_ ?_ ?_ v
   all_goals intros
   all_goals simp_all[a1e,belowL]
  have hL:∀ l,belowL 0 l=true->belowL n l=true:=by
   intro l
   induction l with
   | nil=>intro _;rfl
   | cons x l ih =>
    simp_all[belowL]
  grind
 have s0:=s.small hG hst hsub hlt;have hrr:∃ u H1,O f args H0=.ret u H1/\u=v:=by
  cases hr:O f args H0 with
  | ret u H1=>rw[hr] at hrun;exact⟨u,H1,rfl,eqAV_sound _ _ hrun⟩
  | panic u H1=>rw[hr] at hrun;cases hrun
  | bad=>rw[hr] at hrun;cases hrun
 obtain⟨u,H1,hr,rfl⟩:=hrr;refine(hO _ f args H0 (by grind) _ us w s0 (below_VRs ((mono0 H0.next).2 args hargs) hva)).mono ?_;intro e w' hc;rw[hr] at hc;refine⟨_,rfl,?_⟩
 cases e with
 | returned x =>
  obtain⟨ρ',h1,h2,h3,h4⟩:=hc;have hb:=h1.below;have hb' : Go.RowKit.Below B w w':=⟨hb.os,hb.tape,hb.output,hb.size,fun a ha=>hb.block a (Et ha s.base)⟩;refine⟨ρ,⟨fun _ _=>rfl,h1.keeps,hb'⟩,?_,a6v hv h3,Dp _⟩;refine s.other hb.size fun a x b o k ha hra=>?_;exact hb.block b (s.at ha hra).lt
 | panicked chain=>assumption
 | outgrown=>assumption
end Go.Ai
end
section
namespace Go.Ai
variable {B G:Nat} {P:Program} {ρ ρ' : Rn} {H H' H2:Mem} {w w' : World}
end Go.Ai
end
section
namespace Go.Ai
open Go.RowKit (Below)
variable {B G:Nat} {P:Program} {n n0:Nat} {ρ0 ρ:Rn} {w0 w:World} {a:Act} {ops:Array Oper} {o:Oper} {callf:CallF} {fr:Fr} {g:Nat→Option AV} {ds:List Dfr} {H:Mem} {d:Tmp} {v:AV}
variable {k:Nat} {α:Type}
def und:Dg->Nat
 | .d0=>0|.d1=>1|.d2=>2|.d3=>3|.d4=>4|.d5=>5|.d6=>6|.d7=>7
 | .d8=>8|.d9=>9|.d10=>10|.d11=>11|.d12=>12|.d13=>13|.d14=>14|.d15=>15
theorem und_dig:∀ n,n<16->und (dig n)=n:=by decide
theorem b5x {m:Nat} (hm:m<16) (hk:k<16) (h:dig m=dig k) : m=k:=by
 have:=congrArg und h;grind[und_dig]
theorem f2s {j:Nat} (hj:j<256) (hk:k<256) (h0:d0 k=d0 j) (h1:d1 k=d1 j) : k=j:=by
 have e0:k % 16=j % 16:=b5x (Es _ (by omega)) (Es _ (by omega)) h0;have e1:k / 16 % 16=j / 16 % 16:=b5x (Es _ (by omega)) (Es _ (by omega)) h1;omega
theorem f2t {j:Nat} (hj:j<4096) (hk:k<4096) (h0:d0 k=d0 j) (h1:d1 k=d1 j) (h2:d2 k=d2 j) : k=j:=by
 have e0:k % 16=j % 16:=b5x (Es _ (by omega)) (Es _ (by omega)) h0;have e1:k / 16 % 16=j / 16 % 16:=b5x (Es _ (by omega)) (Es _ (by omega)) h1;have e2:k / 256 % 16=j / 256 % 16:=b5x (Es _ (by omega)) (Es _ (by omega)) h2;omega
theorem d2x (k:Nat) (x:α) : b0v k (.v k x)=some x:=by simp[b0v]
theorem f2u (t:T2 α) {k j:Nat} (x:Lf α) (hk:k<256) (hj:j<256) (hne:j≠k) : Cp (u2 t k x) j=Cp t j:=by
 unfold Cp u2;rcases Dg.em (d0 k) (d0 j) with h0|h0
 ·rw[h0,a2d];rcases Dg.em (d1 k) (d1 j) with h1|h1
  all_goals grind[f2s,a2e]
 grind[a2e]
theorem f2v (t:T3 α) {k j:Nat} (x:Lf α) (hk:k<4096) (hj:j<4096) (hne:j≠k) : a5a (u3 t k x) j=a5a t j:=by
 unfold a5a u3;rcases Dg.em (d0 k) (d0 j) with h0|h0
 ·rw[h0,a2d];rcases Dg.em (d1 k) (d1 j) with h1|h1
  ·rw[h1,a2d];rcases Dg.em (d2 k) (d2 j) with h2|h2
   all_goals grind[f2t,a2e]
  grind[a2e]
 grind[a2e]
noncomputable def a0u (fr:Fr) : Nat:=Fr.rec (motive:=fun _=>Nat) (fun _ _=>256) (fun _ _=>4096) (fun _ _=>0) fr
theorem d2y (fr:Fr) (d:Tmp) (v:AV) : a0u (fr.upd d v)=a0u fr:=by
 cases fr<;>simp[Fr.upd,Fr.set,fpS,fpG,fpF,b1d,b3a,a0u]
theorem d2z (fr:Fr) (d:Option Tmp) (v:AV) : a0u (fr.put d v)=a0u fr:=by
 cases d with
 | none=>rfl
 | some d=>exact d2y fr d v
theorem c4n (fr:Fr) (x:Dfr) : a0u (fr.defer x)=a0u fr:=by cases fr<;>rfl
theorem f2w (fr:Fr) (d:Tmp) (v:AV) : (fr.upd d v).get d=some v:=by
 cases fr with
 | s t ds=>simp[Fr.upd,Fr.set,fpS,b1d,Fr.get,fgS];grind[Cp,c1v,d2x]
 | g t ds=>simp[Fr.upd,Fr.set,fpG,b3a,Fr.get,fgG];grind[a5a,c8t,d2x]
 | f g ds=>exact if_pos rfl
theorem f2x (fr:Fr) {d k:Tmp} (v:AV) (hd:d<a0u fr) (hk:k<a0u fr) (h:k≠d) : (fr.upd d v).get k=fr.get k:=by
 cases fr with
 | s t ds=>simp[Fr.upd,Fr.set,fpS,b1d,Fr.get,fgS];exact f2u _ _ hd hk h
 | g t ds=>simp[Fr.upd,Fr.set,fpG,b3a,Fr.get,fgG];exact f2v _ _ hd hk h
 | f g ds=>exact if_neg h
structure FE (fr:Fr) (g:Nat->Option AV) (ds:List Dfr) : Prop where
 lo:∀ k,k<a0u fr->fr.get k=g k
 up:∀ k v,fr.get k=some v->g k=some v
 dfr:fr.defers=ds
theorem FE.refl (fr:Fr) : FE fr fr.get fr.defers:=⟨fun _ _=>rfl,fun _ _ h=>h,rfl⟩
theorem FE.upd (h:FE fr g ds) (hd:d<a0u fr) (v:AV) : FE (fr.upd d v) (a2o g d v) ds:=by
 refine⟨fun k hk=>?_,fun k y hy=>?_,(Fr.defers_upd fr d v).trans h.dfr⟩
 ·rw[d2y] at hk;unfold a2o;by_cases e:k=d
  ·subst e;rw[if_pos rfl];grind[f2w]
  ·rw[if_neg e,f2x fr v hd hk e];exact h.lo k hk
 ·unfold a2o;rcases Fr.get_upd hy with⟨rfl,rfl⟩|⟨hne,hy⟩
  ·grind
  ·rw[if_neg hne];exact h.up k y hy
def d3a (g:Nat->Option AV) (d:Option Tmp) (v:AV) : Nat->Option AV:=match d with|some d=>a2o g d v|none=>g
theorem d3b (g:Nat->Option AV) (ds:List Dfr) (d:Option Tmp) (v:AV) : (Fr.f g ds).put d v=.f (d3a g d v) ds:=by cases d<;>rfl
theorem FE.put (h:FE fr g ds) {d:Option Tmp} (hd:∀ t,d=some t->t<a0u fr) (v:AV) : FE (fr.put d v) (d3a g d v) ds:=by
 cases d with
 | none=>exact h
 | some d=>exact h.upd (hd d rfl) v
theorem FE.defer (h:FE fr g ds) (x:Dfr) : FE (fr.defer x) g (x :: ds) :=
 ⟨fun k hk=>by rw[c4n] at hk;rw[Fr.get_defer];exact h.lo k hk,fun k v hv=>by rw[Fr.get_defer] at hv;exact h.up k v hv,by rw[Fr.defers_defer,h.dfr]⟩
theorem St.toF (s:St B G n n0 ρ0 w0 ρ fr H a w) : St B G n n0 ρ0 w0 ρ (.f fr.get fr.defers) H a w:=⟨s.ext,s.sim,⟨s.frel.slot,s.frel.dfr,s.frel.size,s.frel.only⟩,s.le⟩
theorem St.ofF (h:FE fr g ds) (s:St B G n n0 ρ0 w0 ρ (.f g ds) H a w) : St B G n n0 ρ0 w0 ρ fr H a w :=
 ⟨s.ext,s.sim,⟨fun t v hv hn=>s.frel.slot t v (h.up t v hv) hn,by rw[h.dfr];exact s.frel.dfr,s.frel.size,fun t v hv=>s.frel.only t v (h.up t v hv)⟩,s.le⟩
def c4o (o:Oper) : Bool:=match o.op with|.select _ _=>false|_=>true
theorem f2y (h:c4o o=true) : ∀ cs b,o.op≠.select cs b:=by
 grind[c4o]
def a7z (m:Nat) (o:Oper) : Bool:=Db m o && (b3k o).all (fun t=>Nat.blt t m) && c4o o
theorem FE.op (h:FE fr g ds) (hr:a7z (a0u fr) o=true) : opV P H fr.ev o=opV P H (Fr.f g ds).ev o:=by
 unfold a7z at hr;simp only[Ds] at hr;refine b9e (f2y hr.2) fun x hx=>?_
 cases x with
 | tmp t =>
  have:=Eb.1 hr.1.2 t (c4g hx);exact h.lo t (Dq this)
 | const v=>rfl
 | global g=>rfl
 | func f=>rfl
theorem c4p {m:Nat} (hr:a7z m o=true) : ∀ t,o.dst=some t->t<m:=by
 intro t ht;simp_all[Db,a7z]
def wOf (callf:CallF) : WF:=fun f args H K=>match callf f args H with
 | .bad=>False
 | r=>K r
theorem f2z (hc:∀ B,Be B G P callf) : WOK G P (wOf callf):=by
 intro f args H K h;refine d1g (O:=callf) hc ?_;grind[wOf,orW]
theorem wOf_mono:a9s (wOf callf):=by
 intro f args H K K' hk h;grind[wOf]
theorem c4q {k:Fr->Mem->Out} {kk:Fr->Mem->Prop} {Q:Out->Prop} {r:Out} (he:FE fr g ds) (hr:a7z (a0u fr) o=true) (hall:ops.toList.all (a7z (a0u fr))=true) (h:a9a P callf ops o fr H k=r) (hne:r≠.bad)
  (hk:∀ fr1 g1 ds1 H1,FE fr1 g1 ds1->a0u fr1=a0u fr->k fr1 H1=r->kk (.f g1 ds1) H1)
  (hp:∀ v fr1 H1,FE fr1 g ds->r=.panic v fr1 H1->Q (.panic v (.f g ds) H1)) : a0i P (wOf callf) ops o (.f g ds) H kk Q:=by
 have hput:∀ (v:AV) (H1:Mem),(fr.putK o.dst v fun fr=>k fr H1)=r->kk ((Fr.f g ds).put o.dst v) H1:=by
  intro v H1 h1;rw[Fr.putK_eq] at h1;rw[d3b];exact hk _ _ _ _ (he.put (c4p hr) v) (d2z fr o.dst v) h1
 have haft:after callf o fr k (opV P H fr.ev o)=r->a2r (wOf callf) o (.f g ds) kk Q (opV P H (Fr.f g ds).ev o):=by
  rw[<- he.op hr];generalize opV P H fr.ev o=x;intro h1
  cases x with
  | val v H1=>exact hput v H1 h1
  | skip H1=>exact hput _ H1 h1
  | enter f args H1 =>
   have h2:(match callf f args H1 with|.ret v H=>fr.putK o.dst v fun fr=>k fr H|.panic v H=>.panic v fr H|.bad=>.bad)=r:=h1
   (simp_all[wOf];grind)
  | dfr fn cap args H1 =>
   have h2:((fr.defer (fn,cap,args)).putK o.dst (.lit undef) fun fr=>k fr H1)=r:=h1;rw[Fr.putK_eq] at h2;show kk ((Fr.f g ((fn,cap,args) :: ds)).put o.dst (.lit undef)) H1;rw[d3b];exact hk _ _ _ _ ((he.defer _).put (by rw[c4n];exact c4p hr) _) ((d2z _ _ _).trans (c4n _ _)) h2
  | panic v H1=>exact hp v fr H1 he h1.symm
  | _=>exact absurd h1.symm hne
 unfold a0i;unfold a9a at h
 cases hg:o.guard with
 | none=>rw[hg] at h;exact haft h
 | some gd =>
  rw[hg] at h;have h2:b4t P callf ops o fr H k gd=r:=h;unfold b4t at h2;have hs:a1b ops fr gd.1=a1b ops (.f g ds) gd.1:=by
   unfold a1b;split
   ·rename_i p hp';have hm:=Eb.1 hall p (g2l (Cm.2 hp'));split
    ·rename_i d hd;exact he.lo d (c4p hm d hd)
    ·rfl
   ·rfl
  show a2s (a1b ops (.f g ds) gd.1) gd.2 _ _;rw[<- hs];have hw:∀ x,a8z ops fr gd=some x->(x=true->(∃ b,a1b ops fr gd.1=some (.lit (.bool b))/\b=gd.2)) /\
    (x=false->(∃ b,a1b ops fr gd.1=some (.lit (.bool b))/\b = !gd.2)\/∃ y,a1b ops fr gd.1=some (.lit (.tuple y))):=by
   intro x hx;unfold a8z c1q at hx;unfold a1b;generalize gd.2=want at hx |-
   cases hp:ops[gd.1]? with
   | none=>grind
   | some p =>
    cases hd:p.dst with
    | none=>grind
    | some d =>
     simp only[hp,hd] at hx |-;revert hx;generalize fr.get d=z;intro hx;by_cases hb:∃ b,z=some (.lit (.bool b))
     ·obtain⟨b,rfl⟩:=hb;cases b<;>cases want<;>first
       | (grind)
       | grind
     grind
  split at h2
  ·rename_i hx;obtain⟨b,hb,rfl⟩:=(hw _ hx).1 rfl;rw[hb];exact⟨fun _=>haft h2,fun e=>by grind⟩
  ·rename_i hx;rcases (hw _ hx).2 rfl with⟨b,hb,e⟩|⟨y,hy⟩
   ·rw[hb];subst e;exact⟨fun e=>by grind,fun _=>hput _ _ h2⟩
   ·rw[hy];exact hput _ _ h2
  grind
end Go.Ai
end
section
namespace Go.Ai
open Go.RowKit (Below)
variable {B G:Nat} {P:Program} {n n0:Nat} {ρ0 ρ:Rn} {w0 w:World} {a:Act} {ops:Array Oper} {callf:CallF} {loopf:LoopF} {fr:Fr} {g:Nat→Option AV} {ds:List Dfr} {H:Mem}
inductive FI where
 | run (o:Oper)
 | mk (i:Nat) (o:Oper)
 | gate (hs as:List Nat)
 | no
def itF (ops:Array Oper) (it:It) : FI:=match it with
 | .run i=>match ops[i]? with|some o=>.run o|none=>.no
 | .mk i=>match ops[i]? with|some o=>.mk i o|none=>.no
 | .gate hs as=>.gate hs as
def eqU (x y:AV) : Bool:=match x,y with
 | .lit (.tuple a),.lit (.tuple b)=>Nat.beq a.size 0 && Nat.beq b.size 0
 | x,y=>eqAV x y
theorem f3a {x y:AV} (h:eqU x y=true) : x=y:=by
 unfold eqU at h;split at h
 ·simp_all
 grind[eqAV_sound]
noncomputable def b5y (P:Program) (callf:CallF) (ops:Array Oper) (fr:Fr) (H:Mem) : List Nat->Bool
 | []=>true
 | i :: l=>match ops[i]? with
  | some o=>match a9a P callf ops o fr H (fun fr' H'=>.norm fr' H') with
   | .norm fr' _=>match a1d fr' o.dst,a1d fr o.dst with
    | some x,some y=>match eqU x y with|true=>b5y P callf ops fr H l|false=>false
    | _,_=>false
   | _=>false
  | none=>false
def a3n (i:Nat) : List Nat->Bool
 | []=>false
 | j :: l=>match Nat.beq i j with|true=>true|false=>a3n i l
theorem b9j {i:Nat} : ∀ {l:List Nat},i∈l->a3n i l=true
 | j :: l,h=>by
  unfold a3n;split
  ·rfl
  ·rename_i hb;rcases Dz.1 h with rfl|h
   all_goals simp_all[b9j]
noncomputable def b3n (H:Mem) (as:List Nat) : AlP->Bool
 | []=>true
 | (i,a,b) :: l=>match a3n i as with
  | true=>match H.get a,b with
   | some x,some y=>match eqBlk x y with|true=>b3n H as l|false=>false
   | _,_=>false
  | false=>b3n H as l
abbrev FlF:=Program->CallF->Array Oper->Fr->Mem->AlP->Out
noncomputable def flN:FlF:=fun _ _ _ fr H _=>.norm fr H
noncomputable def d3c (o:Oper) : FlF->FlF:=fun ih P callf ops fr H als=>a9a P callf ops o fr H fun fr H=>ih P callf ops fr H als
noncomputable def d3d (i:Nat) (o:Oper) : FlF->FlF:=fun ih P callf ops fr H als=>a9a P callf ops o fr H fun fr H'=>ih P callf ops fr H' ((i,H.next,H'.get H.next) :: als)
noncomputable def d3e (hs as:List Nat) : FlF->FlF:=fun ih P callf ops fr H als=>match b5y P callf ops fr H hs,b3n H as als with
 | true,true=>ih P callf ops fr H als
 | _,_=>.bad
noncomputable def flNo:FlF->FlF:=fun _ _ _ _ _ _ _=>.bad
noncomputable def flC (it:It) (_:List It) (ih:FlF) : FlF:=fun P callf ops fr H als=>FI.rec (motive:=fun _=>FlF->FlF) d3c d3d d3e flNo (itF ops it) ih P callf ops fr H als
noncomputable def b5z (P:Program) (callf:CallF) (ops:Array Oper) (l:List It) (fr:Fr) (H:Mem) (als:AlP) : Out:=List.rec (motive:=fun _=>FlF) flN flC l P callf ops fr H als
def OE (r out:Out) : Prop:=match r,out with
 | .norm fr H,.norm fr' H'=>H'=H/\∃ g ds,fr'=.f g ds/\FE fr g ds
 | .panic v fr H,.panic v' fr' H'=>v'=v/\H'=H/\fr'=fr.clear
 | _,_=>False
theorem d3f (fr:Fr) : fr.clear=.s e2 fr.defers:=by cases fr<;>rfl
theorem d3g (he:FE fr g ds) (hall:ops.toList.all (a7z (a0u fr))=true) : ∀ {l:List Nat},b5y P callf ops fr H l=true->a4q P (wOf callf) ops (.f g ds) H l
 | [],_=>trivial
 | i :: l,h=>by
  unfold b5y at h;unfold a4q;split at h
  ·rename_i o ho;have hm:=Eb.1 hall o (g2l (Cm.2 ho));split at h
   ·rename_i fr2 H2 hr;split at h
    ·rename_i x y hx hy;split at h
     ·rename_i hxy;have hxy':=f3a hxy;subst hxy';refine⟨?_,d3g he hall h⟩
      try rw[ho]
      try dsimp only
      refine c4q he hm hall hr (by simp) (fun fr1 g1 ds1 H1 he1 _ h1=>?_) (fun v fr1 H1 _ h1=>by grind);cases h1;have key:∀ {fr:Fr} {g:Nat->Option AV} {ds:List Dfr},FE fr g ds->∀ {x},a1d fr o.dst=some x->a1d (.f g ds) o.dst=some x:=by
       intro fr g ds he x hx;unfold a1d at hx |-;split at hx
       ·exact he.up _ _ hx
       grind
      grind
     grind
    grind
   grind
  grind
theorem c4r {as:List Nat} : ∀ {als:AlP},b3n H as als=true->a7y H as als
 | [],_=>trivial
 | (i,a,b) :: l,h=>by
  unfold b3n at h;unfold a7y;split at h
  ·split at h
   ·rename_i x y hx;split at h
    ·rename_i he;exact⟨fun _=>hx.trans (congrArg some (c2n he)),c4r h⟩
    grind
   grind
  ·rename_i he;exact⟨fun hi=>(by rw[b9j hi] at he;cases he),c4r h⟩
theorem flat_W:∀ (l:List It) {fr:Fr} {g:Nat->Option AV} {ds:List Dfr} {H:Mem} {als:AlP} {r:Out},FE fr g ds->ops.toList.all (a7z (a0u fr))=true->b5z P callf ops l fr H als=r->r≠.bad ->
  Bz P (wOf callf) ops (a5o (OE r)) l (.f g ds) H als
 | [],fr,g,ds,H,als,r,he,hall,h,hne=>by
  have h' : Out.norm fr H=r:=h;subst h';exact⟨rfl,g,ds,rfl,he⟩
 | it :: l,fr,g,ds,H,als,r,he,hall,h,hne=>by
  have h' : FI.rec (motive:=fun _=>FlF->FlF) d3c d3d d3e flNo (itF ops it) (fun P callf ops fr H als=>b5z P callf ops l fr H als) P callf ops fr H als=r:=h;have hp:∀ v fr1 H1,FE fr1 g ds->r=.panic v fr1 H1->a5o (OE r) (.panic v (.f g ds) H1):=by
   rintro v fr1 H1 he1 rfl;refine⟨rfl,rfl,?_⟩;rw[d3f,d3f,he1.dfr];rfl
  cases it with
  | run i =>
   unfold Bz
   cases ho:ops[i]? with
   | none =>
    rw[show itF ops (.run i)=.no by grind[itF]] at h';exact absurd h'.symm hne
   | some o =>
    rw[show itF ops (.run i)=.run o by grind[itF]] at h';dsimp only;have hm:=Eb.1 hall o (g2l (Cm.2 ho));exact c4q he hm hall h' hne (fun fr1 g1 ds1 H1 he1 hr1 h1=>flat_W l he1 (by grind) h1 hne) hp
  | mk i =>
   unfold Bz
   cases ho:ops[i]? with
   | none =>
    rw[show itF ops (.mk i)=.no by grind[itF]] at h';exact absurd h'.symm hne
   | some o =>
    rw[show itF ops (.mk i)=.mk i o by grind[itF]] at h';dsimp only;have hm:=Eb.1 hall o (g2l (Cm.2 ho));exact c4q he hm hall h' hne (fun fr1 g1 ds1 H1 he1 hr1 h1=>flat_W l he1 (by grind) h1 hne) hp
  | gate hs as =>
   have h2:(match b5y P callf ops fr H hs,b3n H as als with|true,true=>b5z P callf ops l fr H als|_,_=>.bad)=r:=h';unfold Bz;split at h2
   ·rename_i h3 h4;exact⟨d3g he hall h3,c4r h4,flat_W l he hall h2 hne⟩
   ·exact absurd h2.symm hne
noncomputable def f3b (r:Out) : Out:=match r with
 | .panic v fr H=>.panic v fr.clear H
 | .norm fr H=>.norm fr H
 | _=>.bad
noncomputable def a9t (P:Program) (callf:CallF) (ops:Array Oper) (fr:Fr) (H:Mem) : Out:=match b9d P ops.toList,ops.toList.all (a7z (a0u fr)) with
 | true,true=>f3b (b5z P callf ops (b3j ops.toList) fr H [])
 | _,_=>.bad
theorem f3c {o:Oper} {a:Act} {next next': Act->World->Prop} {Q Q': Exit->Act->World->Prop} (hn:∀ a w,next a w->next' a w) (hq:∀ e a w,Q e a w->Q' e a w) {r:Result Next} (h:o.upon P a next Q r) : o.upon P a next' Q' r:=by
 have hl:LetsOut Q->LetsOut Q':=fun⟨a,w,h⟩=>⟨a,w,hq _ _ _ h⟩;unfold Oper.upon at h |-;split at h
 ·grind
 ·grind
 ·grind
 ·refine h.mono fun e w' he=>?_;grind
 ·exact h.mono fun v w' he=>hn _ _ he
 all_goals grind
theorem b9k {Q Q': Exit->Act->World->Prop} (hq:∀ e a w,Q e a w->Q' e a w) : ∀ (l:List Nat) (a:Act) (w:World),wpOps P ops Q l a w->wpOps P ops Q' l a w
 | [],a,w,h=>hq _ _ _ h
 | i :: l,a,w,h=>by
  unfold wpOps at h |-
  cases ho:ops[i]? with
  | none=>rw[ho] at h;exact b9k hq l a w h
  | some o =>
   rw[ho] at h;dsimp only at h |-;split at h
   ·rename_i hw;rw[if_pos hw];rcases h with h|⟨h,a',w',h2⟩
    ·exact .inl (f3c (b9k hq l) hq h)
    ·exact .inr ⟨h,a',w',hq _ _ _ h2⟩
   ·rename_i hw;rw[if_neg hw];exact b9k hq l _ _ h
theorem d3h (hc:∀ B,Be B G P callf) (hG:G=P.globals.size) {id:Nat} (s:St B G n n0 ρ0 w0 ρ fr H a w) (hd:Bg n (.region id ops true)=true) (hne:a9t P callf ops fr H≠.bad) (t:Nat) :
  wpOps P ops (a0h B G n n0 ρ0 w0 (a9t P callf ops fr H)) (Region.schedule (P.follows .mixedOrders) ops t) a { w with drawn:=w.drawn+1 }:=by
 unfold a9t at hne |-;split at hne
 ·rename_i hok hall;generalize hr:b5z P callf ops (b3j ops.toList) fr H []=r at hne |-;have hr0:r≠.bad:=fun e=>hne (by rw[e];rfl);have key:=d1q (f2z hc) (id:=id) hG s.toF hd (d2u wOf_mono hok (flat_W _ (FE.refl fr) hall hr hr0)) t;refine b9k ?_ _ _ _ key;rintro e a' w' ⟨out,hq,ho⟩
  cases r with
  | norm fr1 H1 =>
   cases out with
   | norm fr2 H2 =>
    obtain⟨rfl,g,ds,rfl,he⟩:=hq
    cases e with
    | normal=>obtain⟨ρ',s'⟩:=ho;exact⟨ρ',St.ofF he s'⟩
    | _=>exact ho.elim
   | _=>exact hq.elim
  | panic v fr1 H1 =>
   cases out with
   | panic v2 fr2 H2 =>
    obtain⟨rfl,rfl,rfl⟩:=hq;exact ho
   | _=>exact hq.elim
  | exit=>assumption
  | ret=>assumption
  | bad=>grind
 grind
theorem f3d (hc:∀ B,Be B G P callf) (hG:G=P.globals.size) {id:Nat} (s:St B G n n0 ρ0 w0 ρ fr H a w) (hd:Bg n (.region id ops true)=true) (hne:a9t P callf ops fr H≠.bad) :
  (Code.region id ops true).wp P (a0h B G n n0 ρ0 w0 (a9t P callf ops fr H)) a w:=by grind[id,d3h,wp_region_draw]
/- Codes. -/
noncomputable def f3e (_:Nat) (ops:Array Oper) (draw:Bool) : XF:=fun P callf _ fr H=>match draw with
 | false=>b2x P callf ops ops.toList fr H
 | true=>a9t P callf ops fr H
noncomputable def execCF:Code->XF:=Code.rec (motive:=fun _=>XF) xSkip f3e c8h c8i c8j c8k c8l c8m c8n c8o c8p xRet c8q
noncomputable def a0n (P:Program) (callf:CallF) (loopf:LoopF) (c:Code) (fr:Fr) (H:Mem) : Out:=execCF c P callf loopf fr H
def d3i (B G:Nat) (P:Program) (callf:CallF) (loopf:LoopF) (c:Code) : Prop :=
 ∀ (n n0:Nat) (ρ0:Rn) (w0:World) (ρ:Rn) (fr:Fr) (H:Mem) (a:Act) (w:World),Bg n c=true->St B G n n0 ρ0 w0 ρ fr H a w->a0n P callf loopf c fr H≠.bad ->
  c.wp P (a0h B G n n0 ρ0 w0 (a0n P callf loopf c fr H)) a w
theorem d3j {callf:CallF} {loopf:LoopF} {b:Code} (hl:a5l B G P loopf) (hb:d3i B G P callf loopf b) (n n0:Nat) (ρ0:Rn) (w0:World) (ρ:Rn) (fr:Fr) (H:Mem) (a:Act) (w:World)
  (hd:Bg n b=true) (s:St B G n n0 ρ0 w0 ρ fr H a w) (hne:a0n P callf loopf (.loop b) fr H≠.bad) : LW P b (a0h B G n n0 ρ0 w0 (a0n P callf loopf (.loop b) fr H)) a w:=by
 have he:a0n P callf loopf (.loop b) fr H=a9b (a0n P callf loopf b fr H) (loopf (.loop b)):=rfl;rw[he] at hne |-;have hr:a0n P callf loopf b fr H≠.bad:=fun h=>hne (by rw[h];rfl);refine LW.unroll (Code.wp_mono (b8h hne fun fr' H' ρ' a' w' hr' s' hk=>?_) (hb n n0 ρ0 w0 ρ fr H a w hd s hr));rw[hr'];exact hl b n n0 ρ0 w0 ρ' fr' H' a' w' hd s' hk
theorem d3k {callf:CallF} {loopf:LoopF} (hcs:∀ B,Be B G P callf) (hl:a5l B G P loopf) (hG:G=P.globals.size) : ∀ c:Code,d3i B G P callf loopf c:=by
 intro c;have hc:=hcs B
 induction c with
 | skip=>intro n n0 ρ0 w0 ρ fr H a w hd s hne;exact wp_skip ⟨ρ,s⟩
 | region id ops draw =>
  intro n n0 ρ0 w0 ρ fr H a w hd s hne
  cases draw with
  | false =>
   refine wp_region_list (c2m hc hG hne ops.toList fr H ρ a w ?_ s rfl);exact fun o ho=>Eb.1 hd o ho
  | true=>exact f3d hcs hG s hd hne
 | seq x y ihx ihy =>
  intro n n0 ρ0 w0 ρ fr H a w hd s hne;have he:a0n P callf loopf (.seq x y) fr H=a9b (a0n P callf loopf x fr H) (a0n P callf loopf y):=rfl;rw[he] at hne |-;simp only[Bg,Ds] at hd;have hr:a0n P callf loopf x fr H≠.bad:=fun h=>hne (by rw[h];rfl);refine wp_seq (Code.wp_mono (b8h hne fun fr' H' ρ' a' w' hr' s' hk=>?_) (ihx n n0 ρ0 w0 ρ fr H a w hd.1 s hr));rw[hr'];exact ihy n n0 ρ0 w0 ρ' fr' H' a' w' hd.2 s' hk
 | cond cnd x y ihx ihy =>
  intro n n0 ρ0 w0 ρ fr H a w hd s hne;have he:a0n P callf loopf (.cond cnd x y) fr H=b4u (fr.ev cnd) (a0n P callf loopf x) (a0n P callf loopf y) fr H:=rfl;rw[he] at hne |-;simp only[Bg,Ds] at hd;unfold b4u at hne |-;split at hne
  ·rename_i hev;have:=s.ev _ _ hev;exact wp_cond_true this (ihx n n0 ρ0 w0 ρ fr H a w hd.1 s hne)
  ·rename_i hev;have:=s.ev _ _ hev;exact wp_cond_false this (ihy n n0 ρ0 w0 ρ fr H a w hd.2 s hne)
  grind
 | block id b ih =>
  intro n n0 ρ0 w0 ρ fr H a w hd s hne;have he:a0n P callf loopf (.block id b) fr H=b4v id (a0n P callf loopf b fr H):=rfl;rw[he] at hne |-;have hr:a0n P callf loopf b fr H≠.bad:=fun h=>hne (by rw[h];rfl);refine wp_block (Code.wp_mono ?_ (ih n n0 ρ0 w0 ρ fr H a w hd s hr));intro e a' w' h;generalize a0n P callf loopf b fr H=r at h hne |-
  cases r with
  | norm fr' H'=>cases e<;>first|exact h.elim|exact h
  | exit id' fr' H' =>
   cases e with
   | exit id2 =>
    obtain⟨rfl,ρ',s'⟩:=h;unfold b4v;dsimp only;split
    ·rename_i hb;have:=Eh hb;subst this;simp only[Exit.inBlock,if_true];exact⟨ρ',s'⟩
    ·rename_i hb;have hne2:id2≠id:=by intro h0;simp_all
     simp only[Exit.inBlock,hne2,if_false];exact⟨rfl,ρ',s'⟩
   | _=>exact h.elim
  | ret fr' H'=>cases e<;>first|exact h.elim|exact h
  | panic v fr' H'=>cases e<;>first|exact h.elim|exact h
  | bad=>exact absurd rfl hne
 | loop b ih =>
  intro n n0 ρ0 w0 ρ fr H a w hd s hne;exact(d3j hl ih n n0 ρ0 w0 ρ fr H a w hd s hne).wp
 | rangeFunc f ps x y ihx ihy=>intro n n0 ρ0 w0 ρ fr H a w hd s hne;exact absurd rfl hne
 | exit id=>intro n n0 ρ0 w0 ρ fr H a w hd s hne;exact wp_exit ⟨rfl,ρ,s⟩
 | scope b ih=>intro n n0 ρ0 w0 ρ fr H a w hd s hne;exact absurd rfl hne
 | label l=>intro n n0 ρ0 w0 ρ fr H a w hd s hne;exact wp_label ⟨ρ,s⟩
 | goto l=>intro n n0 ρ0 w0 ρ fr H a w hd s hne;exact absurd rfl hne
 | ret=>intro n n0 ρ0 w0 ρ fr H a w hd s hne;exact wp_ret ⟨ρ,s⟩
 | refuse why=>intro n n0 ρ0 w0 ρ fr H a w hd s hne;exact absurd rfl hne
noncomputable def d3l (P:Program) (callf:CallF) (loopf:LoopF) (fn:Func) (c:Code) (args:List AV) (H:Mem) : Az :=
 match Bg fn.ntmps c,Nat.ble (len args) fn.ntmps with
 | true,true=>c8s P callf loopf fn (b4y args (Cv fn.ntmps) fun fr=>a0n P callf loopf c fr H)
 | _,_=>.bad
noncomputable def c4s (P:Program) (callf:CallF) (loopf:LoopF) (f:FuncId) (args:List AV) (H:Mem) : Az :=
 match P.funcs[f]? with
 | some fn=>match fn.body with
  | some c=>d3l P callf loopf fn c args H
  | none=>.bad
 | none=>.bad
theorem f3f {callf:CallF} {loopf:LoopF} (hcs:∀ B,Be B G P callf) (hl:a5l B G P loopf) (hG:G=P.globals.size) : Be B G P (c4s P callf loopf):=by
 have hc:=hcs B;intro f args H hne ρ us w hs hv;unfold c4s at hne |-;split at hne
 ·rename_i fn hfn;split at hne
  ·rename_i c hb;unfold d3l at hne |-;split at hne
   ·rename_i hdst hlen;rw[c2q] at hne |-;have hfe:=c2r (n:=fn.ntmps) hv (by simp_all[a0t]);have s1:St B G fn.ntmps H.next ρ w ρ (putArgs args (Cv fn.ntmps) 0) H { tmps:=us++Array.replicate (fn.ntmps-us.size) undef,defers:=[] } w:=⟨Ext.refl _ _ _ _,hs,hfe,Dp _⟩;have hr:a0n P callf loopf c (putArgs args (Cv fn.ntmps) 0) H≠.bad:=fun h0=>hne (by rw[h0];rfl);have key:=d3k hcs hl hG c fn.ntmps H.next ρ w ρ _ H _ w hdst s1 hr;refine calls_of_wp_defers hfn hb (Code.wp_mono ?_ key);intro e a' w' h;generalize a0n P callf loopf c (putArgs args (Cv fn.ntmps) 0) H=r at h hne |-
    cases r with
    | norm fr' H' =>
     cases e with
     | normal=>obtain⟨ρ',s'⟩:=h;exact b1k hc hl hG hne _ _ .returning H' ρ' .returning w' s'.frel.dfr s' rfl rfl
     | _=>exact h.elim
    | ret fr' H' =>
     cases e with
     | ret=>obtain⟨ρ',s'⟩:=h;exact b1k hc hl hG hne _ _ .returning H' ρ' .returning w' s'.frel.dfr s' rfl rfl
     | _=>exact h.elim
    | panic v fr' H' =>
     cases e with
     | panic chain=>obtain⟨ρ',x,rfl,hx,s'⟩:=h;exact b1k hc hl hG hne _ _ (.panicking v) H' ρ' _ w' s'.frel.dfr s' ⟨x,rfl,hx⟩ rfl
     | _=>exact h.elim
    | exit id fr' H'=>exact absurd rfl hne
    | bad=>exact absurd rfl hne
   grind
  grind
 grind
end Go.Ai
end
section
namespace Go.Ai
open Go.ChangeShapes Go.WideShapes Go.ChangeAt Go.RowKit
variable {H:Type} {enc:TypeId×Value→H} {P:Program}
theorem f3g {f:Func} {s:ChangeSpec} {apart fresh handsOn again:Bool} {W W': World} {args:Array Value} {v:Value} {ds gs:List (DataW H)} {before pa pv:List MemPlace}
  (hW:DataW.Whole enc P f.params.toList s.vars apart W args.toList ds gs before)
  (hres:∀ (b:Nat) (sp:Nat->Bool) (hd:Bool),DataW.TrodAll enc P W' b sp hd f.resultTypes.toList (v.resultList f.resultTypes.size) (s.fn H (ds++gs)).results [])
  (hargs:∀ sp:Nat->Bool,(∀ p∈before,sp p.block=true)->DataW.TrodAll enc P W' 0 sp true f.params.toList args.toList (s.fn H (ds++gs)).args pa)
  (hvars:∀ sp:Nat->Bool,(∀ p∈before,sp p.block=true)->DataW.TrodVars enc P W' sp s.vars (s.fn H (ds++gs)).vars pv)
  (hps:before=pa++pv) (hB:Below W.heap.size W W')
  (hok:∀ (j:Nat) (t:TypeId) (r:Value),f.resultTypes[j]?=some t->(v.resultList f.resultTypes.size)[j]?=some r->Value.okWide P W' .any 0 t r) :
  s.post enc P f apart fresh handsOn again W args v W':=by
 have hlt:∀ p∈before,p.block<W.heap.size:=fun p hp=>hW.lt p hp;have hold:∀ p∈before,(fun b=>decide (b<W.heap.size)) p.block=true:=fun p hp=>by grind
 refine⟨ds,gs,before,[],pa,pv,hW,hres _ _ _,hargs _ hold,hvars _ hold,World.keptBut_mono (fun p hp=>⟨hp,?_⟩) (hB.frame (·∈before)),fun _=>?_⟩
 ·grind
 ·obtain⟨_,_,_,_,_,hz,hn⟩:=hW;refine⟨hok,_,_,([]++pa)++pv,⟨[]++pa,pv,trodAll_append (hargs _ (fun _ _=>rfl)) (hres _ _ _),hvars _ (fun _ _=>rfl),rfl,?_,?_⟩,?_⟩
  ·intro b off hp;have hp' : MemPlace.cell b off∈before:=by grind
   rw[hB.frozen (p:=⟨b,off,none⟩) (hlt _ hp')];exact hz b off hp'
  all_goals grind
end Go.Ai
end
section
namespace Go.Ai
variable {P:Program} {H:Mem}
section
variable {ev:Ev} {d:Option Tmp} {ty:TypeId} {p:String} {af:Array Edge} {g:Option (Nat×Bool)}
theorem d3m {t:TypeId} {i:TypeInfo} (h:P.info? t=some i) : Ao P (typeInfo t)=some i:=by
 unfold typeInfo;show Ao P (match P.info? t with|some d=>pure d|none=>stuck "no such type")=_;rw[h];rfl
theorem f3h {t:TypeId} {a b:Bool} (ht:P.underlying t=some .bool) : Ao P (Op.equal t (.bool a) (.bool b))=some (a == b):=by
 unfold Op.equal;show Ao P (Op.equalIn (9999+1) t (.bool a) (.bool b))=_;unfold Op.equalIn;exact(Bs (m:=underlying t) (a4n ht)).trans rfl
theorem f3i {t rt:TypeId} {x y:Operand} {a b:Bool} (hx:ev x=some (.lit (.bool a))) (hy:ev y=some (.lit (.bool b))) (ht:P.underlying t=some .bool) :
  a2u P H ev ⟨d,.binOp .neq t x y rt,ty,p,af,g⟩ .neq t (some (.lit (.bool a))) (some (.lit (.bool b)))=.val (.lit (.bool (!(a == b)))) H:=by
 unfold a2u;dsimp only;rw[b1q (v:=.lit (.bool (!(a == b)))) rfl];refine a9o (r:=.bool (!(a == b))) rfl hx hy fun ρ h1 h2=>b1r h1 h2 rfl ?_;show Ao P (do pure (Value.bool (!(<- Op.equal t (.bool a) (.bool b)))))=_;exact(Bs (f3h ht)).trans rfl
attribute [simp] f3i
end
end Go.Ai
end
section
namespace Go.Ai
section
variable {G:Nat} {P:Program} {W:WF} {Q:Out→Prop} {fr:Fr} {H:Mem} {ev:Ev} {d:Option Tmp} {ty:TypeId} {p:String} {af:Array Edge} {g:Option (Nat×Bool)}
noncomputable def b6a (P:Program) (H:Mem) (ev:Ev) (o:Oper) (x y:Option AV) : R:=match x,y with
 | some (.lit (.int k a)),some (.lit (.int _ b))=>.val (.lit (.int k (if b > a then b else a))) H
 | _,_=>opV P H ev o
theorem f3j {x y:Operand} {s t:TypeId} : opV P H ev ⟨d,.call ⟨.builtin .max,#[x,y],#[s,t]⟩,ty,p,af,g⟩=b6a P H ev ⟨d,.call ⟨.builtin .max,#[x,y],#[s,t]⟩,ty,p,af,g⟩ (ev x) (ev y):=by
 unfold b6a;split
 ·rename_i k a k' b hx hy;have hg:Ba P ev ⟨d,.call ⟨.builtin .max,#[x,y],#[s,t]⟩,ty,p,af,g⟩=some (.lit (.int k (if b > a then b else a))):=by
   refine a9o (u:=.int k a) (u':=.int k' b) (by rfl) hx hy fun ρ h1 h2=>?_;rw[a7q (b:=.max) (c:=⟨.builtin .max,#[x,y],#[s,t]⟩) rfl rfl];have ea:(#[x,y] : Array Operand).map ρ=#[ρ x,ρ y]:=by simp
   have hm:Ao P (Builtin.max_ #[s,t] ty #[ρ x,ρ y])=some (.int k (if b > a then b else a)):=by
    rw[h1,h2];rfl
   show Ao P (builtin .max #[s,t] ty _ ((#[x,y] : Array Operand).map ρ))=_;rw[ea];show Ao P (do pure (Next.value (<- Builtin.max_ #[s,t] ty #[ρ x,ρ y])))=_;exact(Bs hm).trans rfl
  show Cd P H ev _ ⟨.builtin .max,#[x,y],#[s,t]⟩=_;unfold Cd;rw[show (#[x,y] : Array Operand).toList=[x,y] from rfl];simp_all[a3f]
 ·rfl
theorem f3k {tk:Nat} (_h0:tick=tk) {o:Oper} {x x' y y' : Option AV} {H H' : Mem} (h1:H=H') (h2:x=x') (h3:y=y') : b6a P H ev o x y=b6a P H' ev o x' y':=by grind
attribute [congr] f3k
theorem f3l {o:Oper} {k k': IntKind} {a b:Int} : b6a P H ev o (some (.lit (.int k a))) (some (.lit (.int k' b)))=.val (.lit (.int k (if b > a then b else a))) H:=(rfl)
noncomputable def b6b (P:Program) (H:Mem) (ev:Ev) (o:Oper) (x y:Option AV) : R:=match x,y with
 | some (.lit (.int k a)),some (.lit (.int _ b))=>.val (.lit (.int k (if b<a then b else a))) H
 | _,_=>opV P H ev o
theorem f3m {x y:Operand} {s t:TypeId} : opV P H ev ⟨d,.call ⟨.builtin .min,#[x,y],#[s,t]⟩,ty,p,af,g⟩=b6b P H ev ⟨d,.call ⟨.builtin .min,#[x,y],#[s,t]⟩,ty,p,af,g⟩ (ev x) (ev y):=by
 unfold b6b;split
 ·rename_i k a k' b hx hy;have hg:Ba P ev ⟨d,.call ⟨.builtin .min,#[x,y],#[s,t]⟩,ty,p,af,g⟩=some (.lit (.int k (if b<a then b else a))):=by
   refine a9o (u:=.int k a) (u':=.int k' b) (by rfl) hx hy fun ρ h1 h2=>?_;rw[a7q (b:=.min) (c:=⟨.builtin .min,#[x,y],#[s,t]⟩) rfl rfl];have ea:(#[x,y] : Array Operand).map ρ=#[ρ x,ρ y]:=by simp
   have hm:Ao P (Builtin.min_ #[s,t] ty #[ρ x,ρ y])=some (.int k (if b<a then b else a)):=by
    rw[h1,h2];rfl
   show Ao P (builtin .min #[s,t] ty _ ((#[x,y] : Array Operand).map ρ))=_;rw[ea];show Ao P (do pure (Next.value (<- Builtin.min_ #[s,t] ty #[ρ x,ρ y])))=_;exact(Bs hm).trans rfl
  show Cd P H ev _ ⟨.builtin .min,#[x,y],#[s,t]⟩=_;unfold Cd;rw[show (#[x,y] : Array Operand).toList=[x,y] from rfl];simp_all[a3f]
 ·rfl
theorem f3n {tk:Nat} (_h0:tick=tk) {o:Oper} {x x' y y' : Option AV} {H H' : Mem} (h1:H=H') (h2:x=x') (h3:y=y') : b6b P H ev o x y=b6b P H' ev o x' y':=by grind
attribute [congr] f3n
theorem f3o {o:Oper} {k k': IntKind} {a b:Int} : b6b P H ev o (some (.lit (.int k a))) (some (.lit (.int k' b)))=.val (.lit (.int k (if b<a then b else a))) H:=(rfl)
attribute [simp] f3m f3o
attribute [simp] f3j f3l
end
end Go.Ai
end
section
namespace Go.Ai
section
variable {P:Program} {H:Mem} {ev:Ev} {d:Option Tmp} {ty:TypeId} {p:String} {af:Array Edge} {g:Option (Nat×Bool)} {x y:Operand} {s t:TypeId} {size bytes:Nat}
theorem b6c {a n c:Nat} {l:List AV} {own:Bool} {z:Nat} (h:H.get a=some (.cells l own z)) (hl:l.length=n * size) : Cz H size n (.sl a 0 n c)=some l:=by
 rw [c3w h (by omega),g3p,Eo (by omega)]
theorem f3p {a n c:Nat} {l:List AV} {own:Bool} {z:Nat} (h:H.get a=some (.cells l own z)) (hl:n * size≤l.length) : Cz H size n (.slq a 0 n c)=some (l.take (n * size)):=by
 rw [d2d h (by omega),g3p]
variable {hp:apI P s t=some (size,bytes)} {hs:0 < size} {hb:bytes≤1048576}
theorem f3q {b c:Nat} {l:List AV} {own:Bool} {z:Nat} {hx:ev x=some (.nl)} {hy:ev y=some (.sl b 0 1 c)} (hp:apI P s t=some (size,bytes)) (hs:(decide (0 < size) && decide (bytes≤1048576))=true)
  (hg:H.get b=some (.cells l own z)) (hl:l.length=size) :
  ex2 P H ev ⟨d,.call ⟨.builtin .append,#[x,y],#[s,t]⟩,ty,p,af,g⟩ x y (some (.nl)) (some (.sl b 0 1 c)) hx hy=.val (.slq H.next 0 1 0) (H.add (.cells l true size)):=by
 simp only [Ds,decide_eq_true_eq] at hs;show opV P H ev _=_;rw [a3m hx hy hp,d2e (n:=0) rfl hs.1 (b6c hg (by omega)) (by omega) (by omega) hs.2]
theorem f3r {a b c off:Nat} {l l0:List AV} {own own0:Bool} {z z0:Nat} {hx:ev x=some (.sl a off 0 0)} {hy:ev y=some (.sl b 0 1 c)} (hp:apI P s t=some (size,bytes)) (hs:(decide (0 < size) && decide (bytes≤1048576))=true)
  (hg:H.get b=some (.cells l own z)) (hg0:H.get a=some (.cells l0 own0 z0)) (hl:l.length=size) (ho:off≤l0.length) :
  ex2 P H ev ⟨d,.call ⟨.builtin .append,#[x,y],#[s,t]⟩,ty,p,af,g⟩ x y (some (.sl a off 0 0)) (some (.sl b 0 1 c)) hx hy=.val (.slq H.next 0 1 0) (H.add (.cells l true size)):=by
 simp only [Ds,decide_eq_true_eq] at hs;show opV P H ev _=_;rw [a3m hx hy hp,b8z (n:=0) rfl hs.1 (b6c hg (by omega)) (by omega) hg0 (by omega) (by omega) (by omega) hs.2];simp
theorem f3s {a b c k:Nat} {l r:List AV} {own:Bool} {z:Nat} {hx:ev x=some (.slq a 0 k 0)} {hy:ev y=some (.sl b 0 1 c)} (hp:apI P s t=some (size,bytes)) (hs:(decide (0 < size) && decide (bytes≤1048576))=true)
  (hg:H.get b=some (.cells l own z)) (hg0:H.get a=some (.cells r true size)) (hl:l.length=size) (hr:r.length=k * size) (hk:k≤1000000) (h1:allOne l=true) :
  ex2 P H ev ⟨d,.call ⟨.builtin .append,#[x,y],#[s,t]⟩,ty,p,af,g⟩ x y (some (.slq a 0 k 0)) (some (.sl b 0 1 c)) hx hy=.val (.slq H.next 0 (k+1) 0) ((H.rm a).add (.cells (r++l) true size)):=by
 simp only [Ds,decide_eq_true_eq] at hs;show opV P H ev _=_;rw [a3m hx hy hp,d2f (n:=0) rfl hs.1 (b6c hg (by omega)) (by omega) hg0 hr (by omega) hs.2 h1];rfl
theorem f3t {a b c off n:Nat} {r l0:List AV} {own own0:Bool} {z z0:Nat} {hx:ev x=some (.sl a off 0 0)} {hy:ev y=some (.slq b 0 (n+1) c)} (hp:apI P s t=some (size,bytes)) (hs:(decide (0 < size) && decide (bytes≤1048576))=true)
  (hg:H.get b=some (.cells r own z)) (hg0:H.get a=some (.cells l0 own0 z0)) (hl:(n+1) * size≤r.length) (ho:off≤l0.length) (hn:n≤1000000) :
  ex2 P H ev ⟨d,.call ⟨.builtin .append,#[x,y],#[s,t]⟩,ty,p,af,g⟩ x y (some (.sl a off 0 0)) (some (.slq b 0 (n+1) c)) hx hy=.val (.slq H.next 0 (n+1) 0) (H.add (.cells (r.take ((n+1) * size)) true size)):=by
 simp only [Ds,decide_eq_true_eq] at hs;show opV P H ev _=_;rw [a3m hx hy hp,b8z (n:=n) rfl hs.1 (f3p hg hl) (by grind) hg0 (by omega) (by omega) (by omega) hs.2];simp
/- The same,by what the blocks hold. -/
noncomputable def apN (q:Option (Nat×Nat)) (gb:Option Blk) (H:Mem) (els:R) : R:=match q,gb with
 | some (size,bytes),some (.cells l _ _)=>if 0<size/\bytes<=1048576/\l.length=size then .val (.slq H.next 0 1 0) (H.add (.cells l true size)) else els
 | _,_=>els
noncomputable def apZ (q:Option (Nat×Nat)) (off:Nat) (ga gb:Option Blk) (H:Mem) (els:R) : R:=match q,ga,gb with
 | some (size,bytes),some (.cells l0 _ _),some (.cells l _ _)=>if 0<size/\bytes<=1048576/\l.length=size/\off<=l0.length then .val (.slq H.next 0 1 0) (H.add (.cells l true size)) else els
 | _,_,_=>els
noncomputable def apQ (q:Option (Nat×Nat)) (k a:Nat) (ga gb:Option Blk) (H:Mem) (els:R) : R:=match q,ga,gb with
 | some (size,bytes),some (.cells r true z),some (.cells l _ _)=>if z=size/\0<size/\bytes<=1048576/\l.length=size/\r.length=k*size/\k<=1000000/\allOne l=true then .val (.slq H.next 0 (k+1) 0) ((H.rm a).add (.cells (r++l) true size)) else els
 | _,_,_=>els
noncomputable def apM (q:Option (Nat×Nat)) (n off:Nat) (ga gb:Option Blk) (H:Mem) (els:R) : R:=match q,ga,gb with
 | some (size,bytes),some (.cells l0 _ _),some (.cells r _ _)=>if 0<size/\bytes<=1048576/\(n+1)*size<=r.length/\off<=l0.length/\n<=1000000 then .val (.slq H.next 0 (n+1) 0) (H.add (.cells (r.take ((n+1)*size)) true size)) else els
 | _,_,_=>els
theorem f3u {b c:Nat} {hx:ev x=some (.nl)} {hy:ev y=some (.sl b 0 1 c)} :
  ex2 P H ev ⟨d,.call ⟨.builtin .append,#[x,y],#[s,t]⟩,ty,p,af,g⟩ x y (some (.nl)) (some (.sl b 0 1 c)) hx hy=apN (apI P s t) (H.get b) H (opV P H ev ⟨d,.call ⟨.builtin .append,#[x,y],#[s,t]⟩,ty,p,af,g⟩):=by
 unfold apN;split
 ·rename_i size bytes l own z h1 h2;split
  ·grind [f3q]
  ·rfl
 ·rfl
theorem f3v {a b c off:Nat} {hx:ev x=some (.sl a off 0 0)} {hy:ev y=some (.sl b 0 1 c)} :
  ex2 P H ev ⟨d,.call ⟨.builtin .append,#[x,y],#[s,t]⟩,ty,p,af,g⟩ x y (some (.sl a off 0 0)) (some (.sl b 0 1 c)) hx hy=apZ (apI P s t) off (H.get a) (H.get b) H (opV P H ev ⟨d,.call ⟨.builtin .append,#[x,y],#[s,t]⟩,ty,p,af,g⟩):=by
 unfold apZ;split
 ·rename_i size bytes l0 o0 z0 l own z h1 h2 h3;split
  ·grind[f3r]
  ·rfl
 ·rfl
theorem f3w {a b c k:Nat} {hx:ev x=some (.slq a 0 k 0)} {hy:ev y=some (.sl b 0 1 c)} :
  ex2 P H ev ⟨d,.call ⟨.builtin .append,#[x,y],#[s,t]⟩,ty,p,af,g⟩ x y (some (.slq a 0 k 0)) (some (.sl b 0 1 c)) hx hy=apQ (apI P s t) k a (H.get a) (H.get b) H (opV P H ev ⟨d,.call ⟨.builtin .append,#[x,y],#[s,t]⟩,ty,p,af,g⟩):=by
 unfold apQ;split
 ·rename_i size bytes r z l own w h1 h2 h3;split
  ·rename_i h;obtain⟨rfl,e2,e3,e4,e5,e6,e7⟩:=h;grind[f3s]
  ·rfl
 ·rfl
theorem f3x {a b c off n:Nat} {hx:ev x=some (.sl a off 0 0)} {hy:ev y=some (.slq b 0 (n+1) c)} :
  ex2 P H ev ⟨d,.call ⟨.builtin .append,#[x,y],#[s,t]⟩,ty,p,af,g⟩ x y (some (.sl a off 0 0)) (some (.slq b 0 (n+1) c)) hx hy=apM (apI P s t) n off (H.get a) (H.get b) H (opV P H ev ⟨d,.call ⟨.builtin .append,#[x,y],#[s,t]⟩,ty,p,af,g⟩):=by
 unfold apM;split
 ·rename_i size bytes l0 o0 z0 r own w h1 h2 h3;split
  ·grind[f3t]
  ·rfl
 ·rfl
theorem f3y {tk:Nat} (_h0:tick=tk) {q q' : Option (Nat×Nat)} {gb gb' : Option Blk} {H:Mem} {els:R} (h1:q=q') (h2:gb=gb') : apN q gb H els=apN q' gb' H els:=by grind
theorem f3z {tk:Nat} (_h0:tick=tk) {q q' : Option (Nat×Nat)} {off:Nat} {ga ga' gb gb' : Option Blk} {H:Mem} {els:R} (h1:q=q') (h2:ga=ga') (h3:gb=gb') : apZ q off ga gb H els=apZ q' off ga' gb' H els:=by grind
theorem f4a {tk:Nat} (_h0:tick=tk) {q q' : Option (Nat×Nat)} {k a:Nat} {ga ga' gb gb' : Option Blk} {H:Mem} {els:R} (h1:q=q') (h2:ga=ga') (h3:gb=gb') : apQ q k a ga gb H els=apQ q' k a ga' gb' H els:=by grind
theorem f4b {tk:Nat} (_h0:tick=tk) {q q' : Option (Nat×Nat)} {n off:Nat} {ga ga' gb gb' : Option Blk} {H:Mem} {els:R} (h1:q=q') (h2:ga=ga') (h3:gb=gb') : apM q n off ga gb H els=apM q' n off ga' gb' H els:=by grind
attribute [congr] f3y f3z f4a f4b
variable {els:R} {z w:Nat} {l r l0:List AV} {own own0:Bool} {k a n off:Nat} {G:Nat→Option Blk}
theorem f4c (h1:0<size) (h2:bytes<=1048576) (h3:l.length=size) : apN (some (size,bytes)) (some (.cells l own z)) ⟨.fn G,n⟩ els=.val (.slq n 0 1 0) ⟨.fn (Aj G n (some (.cells l true size))),n+1⟩:=if_pos ⟨h1,h2,h3⟩
theorem f4d (h1:0<size) (h2:bytes<=1048576) (h3:l.length=size) (h4:off<=l0.length) : apZ (some (size,bytes)) off (some (.cells l0 own0 w)) (some (.cells l own z)) ⟨.fn G,n⟩ els=.val (.slq n 0 1 0) ⟨.fn (Aj G n (some (.cells l true size))),n+1⟩:=if_pos ⟨h1,h2,h3,h4⟩
theorem f4e (h1:0<size) (h2:bytes<=1048576) (h3:l.length=size) (h4:r.length=k*size) (h5:k<=1000000) (h6:allOne l=true) :
  apQ (some (size,bytes)) k a (some (.cells r true size)) (some (.cells l own w)) ⟨.fn G,n⟩ els=.val (.slq n 0 (k+1) 0) ⟨.fn (Aj (Aj G a none) n (some (.cells (r++l) true size))),n+1⟩:=if_pos ⟨rfl,h1,h2,h3,h4,h5,h6⟩
theorem f4f {m:Nat} (h1:0<size) (h2:bytes<=1048576) (h3:(m+1)*size<=r.length) (h4:off<=l0.length) (h5:m<=1000000) :
  apM (some (size,bytes)) m off (some (.cells l0 own0 w)) (some (.cells r own z)) ⟨.fn G,n⟩ els=.val (.slq n 0 (m+1) 0) ⟨.fn (Aj G n (some (.cells (r.take ((m+1)*size)) true size))),n+1⟩:=if_pos ⟨h1,h2,h3,h4,h5⟩
attribute [simp] f3u f3v f3w f3x f4c f4d f4e f4f
end
def rOf:R->Option AV
 | .val v _=>some v
 | _=>none
theorem f4g {P:Program} {g:Nat->Option AV} {ds:List Dfr} {H:Mem} {a:Tmp} {t:TypeId} : a6h P (.f g ds) H (.cell a t)=rOf (a2n P H t (g a)):=by
 show (match g a with|some p=>load P H t p|none=>none)=_;unfold a2n
 cases g a with
 | none=>rfl
 | some p =>
  dsimp only;cases load P H t p<;>rfl
theorem f4h {v:AV} {H:Mem} : rOf (.val v H)=some v:=(rfl)
attribute [simp] f4g f4h
theorem f4i {P:Program} {t:TypeId} {z:List AV} {size n:Nat} {g:Gb} (h:bsI P t=some (z,size)) :
  bsS P ⟨.fn g,n⟩ t 0 (some (z,size)) (some [])=.val (.sl n 0 0 0) ⟨.fn (Aj g n (some (.cells [] true 0))),n+1⟩:=by
 unfold bsS;dsimp only;rw[if_neg (by omega)];exact f0i h
attribute [simp] f4i
end Go.Ai
end
section
namespace Go.Ai
open Go.ChangeShapes Go.WideShapes Go.ChangeAt Go.RowKit
variable {B G:Nat} {P:Program} {ρ:Rn} {w:World}
end Go.Ai
end
section
namespace Go.Ai
structure b1t where
 n:Nat
 succ:Nat->List Nat
abbrev SetS:=Nat->Bool
def b1t.ok (G:b1t) : Prop:=∀ s,s<G.n->∀ t∈G.succ s,t<G.n
def leS (n:Nat) (X Y:SetS) : Prop:=∀ s,s<n->X s=true->Y s=true
def eqS (n:Nat) (X Y:SetS) : Prop:=∀ s,s<n->X s=Y s
theorem eqS.le {n:Nat} {X Y:SetS} (h:eqS n X Y) : leS n X Y:=fun s hs hx=>by rw[<- h s hs];grind
theorem eqS.symm {n:Nat} {X Y:SetS} (h:eqS n X Y) : eqS n Y X:=fun s hs=>(h s hs).symm
theorem eqS.trans {n:Nat} {X Y Z:SetS} (h:eqS n X Y) (h' : eqS n Y Z) : eqS n X Z:=fun s hs=>(h s hs).trans (h' s hs)
theorem leS.antisymm {n:Nat} {X Y:SetS} (h:leS n X Y) (h' : leS n Y X) : eqS n X Y:=fun s hs=>by
 cases hx:X s with
 | true=>exact(h s hs hx).symm
 | false =>
  cases hy:Y s with
  | false=>rfl
  | true=>rw[h' s hs hy] at hx;grind
def b1t.pre (G:b1t) (X:SetS) : SetS:=fun s=>(G.succ s).any X
def b1t.post (G:b1t) (X:SetS) : SetS:=fun s=>(G.succ s).all X
structure IsL (n:Nat) (F:SetS->SetS) (L:SetS) : Prop where
 fix:eqS n (F L) L
 least:∀ Z,leS n (F Z) Z->leS n L Z
theorem IsL.uniq {n:Nat} {F:SetS->SetS} {L M:SetS} (h:IsL n F L) (h' : IsL n F M) : eqS n L M:=(h.least M h'.fix.le).antisymm (h'.least L h.fix.le)
def cnt (X:SetS) : Nat->Nat
 | 0=>0
 | k+1=>cnt X k+(if X k then 1 else 0)
end Go.Ai
end
section
namespace Go.Ai
section
variable {P:Program} {H:Mem} {ev:Ev} {d:Option Tmp} {ty:TypeId} {p:String} {af:Array Edge} {g:Option (Nat×Bool)} {x y:Operand} {s t:TypeId} {size bytes:Nat}
noncomputable def apF (q:Option (Nat×Nat)) (k off:Nat) (ga gb:Option Blk) (H:Mem) (els:R) : R:=match q,ga,gb with
 | some (size,bytes),some (.cells l0 _ _),some (.cells l _ _)=>if 0<size/\bytes<=1048576/\l.length=size/\off+(k+1)*size<=l0.length/\k<=1000000 then .val (.slq H.next 0 (k+1+1) 0) (H.add (.cells ((l0.drop off).take ((k+1)*size)++l) true size)) else els
 | _,_,_=>els
theorem f4j {a b c off k:Nat} {hx:ev x=some (.sl a off (k+1) (k+1))} {hy:ev y=some (.sl b 0 1 c)} :
  ex2 P H ev ⟨d,.call ⟨.builtin .append,#[x,y],#[s,t]⟩,ty,p,af,g⟩ x y (some (.sl a off (k+1) (k+1))) (some (.sl b 0 1 c)) hx hy=apF (apI P s t) k off (H.get a) (H.get b) H (opV P H ev ⟨d,.call ⟨.builtin .append,#[x,y],#[s,t]⟩,ty,p,af,g⟩):=by
 unfold apF;split
 ·rename_i size bytes l0 o0 z0 l own z h1 h2 h3;split
  ·rename_i h;obtain⟨e1,e2,e3,e4,e5⟩:=h;show opV P H ev _=_;rw[a3m hx hy h1,b8z (n:=0) rfl e1 (b6c h3 (by omega)) (by omega) h2 e4 (by omega) (by omega) e2]
  ·rfl
 ·rfl
theorem f4k {tk:Nat} (_h0:tick=tk) {q q' : Option (Nat×Nat)} {k off:Nat} {ga ga' gb gb' : Option Blk} {H:Mem} {els:R} (h1:q=q') (h2:ga=ga') (h3:gb=gb') : apF q k off ga gb H els=apF q' k off ga' gb' H els:=by grind
attribute [congr] f4k
variable {els:R} {z w:Nat} {l l0:List AV} {own own0:Bool} {k n off:Nat} {G:Nat→Option Blk}
theorem f4l (h1:0<size) (h2:bytes<=1048576) (h3:l.length=size) (h4:off+(k+1)*size<=l0.length) (h5:k<=1000000) :
  apF (some (size,bytes)) k off (some (.cells l0 own0 w)) (some (.cells l own z)) ⟨.fn G,n⟩ els=.val (.slq n 0 (k+1+1) 0) ⟨.fn (Aj G n (some (.cells ((l0.drop off).take ((k+1)*size)++l) true size))),n+1⟩:=if_pos ⟨h1,h2,h3,h4,h5⟩
attribute [simp] f4j f4l
end
end Go.Ai
end
section
namespace Go.Ai
section
variable {P:Program} {W:WF} {Q:Out→Prop} {fr:Fr} {H:Mem} {ev:Ev} {d:Option Tmp} {ty:TypeId} {p:String} {af:Array Edge} {g:Option (Nat×Bool)}
theorem f4m {o:Oper} {x y z:Operand} {u u' u'' r:Value} (ho:o.op.operands=#[x,y,z]) (hx:ev x=some (.lit u)) (hy:ev y=some (.lit u')) (hz:ev z=some (.lit u''))
  (hr:∀ ρ:Operand->Value,ρ x=u->ρ y=u'->ρ z=u''->Ao P (execOp ρ o)=some (.value r)) : Ba P ev o=some (.lit r):=by
 simp_all[Ba,toLit]
end
end Go.Ai
end
section
namespace Go.Ai
section
variable {P:Program} {W:WF} {Q:Out→Prop} {fr:Fr} {H:Mem} {ev:Ev} {d:Option Tmp} {ty:TypeId} {p:String} {af:Array Edge} {g:Option (Nat×Bool)}
noncomputable def b3o (P:Program) (H:Mem) (ev:Ev) (o:Oper) (s t:TypeId) (ed:Option TypeDesc) (x:AV) (off n:Nat) (b:Option Blk) : R:=match ed,b with
 | some (.int .u8),some (.cells l _ _)=>if off+n<=l.length then (match bytesOf ((l.drop off).take n) with|some bs=>.val (.lit (.string ⟨bs.toArray⟩)) H|none=>a1l P H ev o s t (some x)) else a1l P H ev o s t (some x)
 | _,_=>a1l P H ev o s t (some x)
theorem f4n {s t:TypeId} {x:Operand} {e:TypeId} {a off n c:Nat} (hx:ev x=some (.sl a off n c)) (hs:P.underlying s=some (.slice e)) (ht:P.underlying t=some .string) :
  cvS P H ev ⟨d,.convert s t x,ty,p,af,g⟩ s t (some (.slice e)) (some .string) (some (.sl a off n c))=b3o P H ev ⟨d,.convert s t x,ty,p,af,g⟩ s t (P.underlying e) (.sl a off n c) off n (H.get a):=by
 show a1l P H ev _ s t (some (.sl a off n c))=_;unfold b3o;split
 ·rename_i l own z he hg;split
  ·rename_i hle;split
   ·rename_i bs hbs;unfold a1l;rw[a9q (x:=x) (by simp[Op.operands]) (fun v' h=>by rw[hx] at h;cases h;rfl)];dsimp only;unfold Go.Ai.convert;rw[hs,ht];dsimp only;rw[he];dsimp only[lenOf];have hf:Cz H 1 n (.sl a off n c)=some ((l.drop off).take n):=by
     have:=c3w (size:=1) (n:=n) (c:=c) hg (by rw[El];omega);grind
    grind
   ·rfl
  ·rfl
 ·rfl
theorem f4o {tk:Nat} (_h0:tick=tk) {o:Oper} {s t:TypeId} {ed ed' : Option TypeDesc} {x:AV} {off n:Nat} {b b' : Option Blk} (h1:ed=ed') (h2:b=b') : b3o P H ev o s t ed x off n b=b3o P H ev o s t ed' x off n b':=by grind
attribute [congr] f4o
noncomputable def b6d (H:Mem) (els:R) (x:Option (List UInt8)) : R:=match x with|some bs=>.val (.lit (.string ⟨bs.toArray⟩)) H|none=>els
theorem f4p {tk:Nat} (_h0:tick=tk) {H:Mem} {els:R} {x x' : Option (List UInt8)} (h:x=x') : b6d H els x=b6d H els x':=by rw[h]
attribute [congr] f4p
theorem f4q {els:R} {bs:List UInt8} : b6d H els (some bs)=.val (.lit (.string ⟨bs.toArray⟩)) H:=(rfl)
theorem f4r {o:Oper} {s t:TypeId} {x:AV} {off n:Nat} {l:List AV} {own:Bool} {z:Nat} (h1:off+n<=l.length) : b3o P H ev o s t (some (.int .u8)) x off n (some (.cells l own z))=b6d H (a1l P H ev o s t (some x)) (bytesOf ((l.drop off).take n)):=by
 simp_all[b6d,b3o]
def d3n (x:UInt8) (l:Option (List UInt8)) : Option (List UInt8):=match l with|some r=>some (x :: r)|none=>none
theorem d3o {n:Int} {l:List AV} : bytesOf (.lit (.int .u8 n) :: l)=d3n (UInt8.ofNat n.toNat) (bytesOf l):=by
 rfl
theorem d3p {x:UInt8} {r:List UInt8} : d3n x (some r)=some (x :: r):=(rfl)
attribute [simp] f4n f4r f4q d3o d3p
end
end Go.Ai
end
section
namespace Go.Ai
section
variable {P:Program} {H:Mem} {ev:Ev} {d:Option Tmp} {ty:TypeId} {p:String} {af:Array Edge} {g:Option (Nat×Bool)}
end
end Go.Ai
end
section
namespace Go.Ai
section
variable {P:Program} {W:WF} {Q:Out→Prop} {fr:Fr} {H:Mem} {ev:Ev} {d:Option Tmp} {ty:TypeId} {p:String} {af:Array Edge} {g:Option (Nat×Bool)}
end
end Go.Ai
end
section
namespace Go.Ai
set_option maxRecDepth 10000
theorem Ae {g:Gb} {a j:Nat} {x:Option Blk} (h:j≠a) : Aj g a x j=g j:=if_neg h
theorem Af {g:Gb} {a:Nat} {x:Option Blk} : Aj g a x a=x:=if_pos rfl
theorem ba_lawful:LawfulBEq ByteArray where
 eq_of_beq:=fun {a b} h=>by grind[c3x]
 rfl:=fun {a}=>by grind[c3x]
def Ag (g:Gb) (b:Nat) (sv:AV) (len:Nat) (cs:List AV) : Prop :=
 (len=0/\cs=[]/\(sv=.nl\/sv=.es))\/∃ a off,a<b/\((∃ c,sv=.sl a off len c)\/∃ c,sv=.slq a off len c)/\Row g a off cs
theorem Ag.mono {g g' : Gb} {b b' len:Nat} {sv:AV} {cs:List AV} (hb:b<=b') (h:∀ a,a<b->g' a=g a) : Ag g b sv len cs->Ag g' b' sv len cs :=
 fun hs=>hs.imp id fun⟨a,off,h1,h2,h3⟩=>⟨a,off,by omega,h2,h3.mono (h a h1)⟩
theorem a2v {g:Gb} {a n len c:Nat} {cs:List AV} {own:Bool} {z:Nat} (h:g a=some (.cells cs own z)) (ha:a < n) : Ag g n (.sl a 0 len c) len cs :=
 .inr ⟨a,0,ha,.inl ⟨c,rfl⟩,⟨cs,own,z,h,by simp [*]⟩⟩
inductive a0v where
 | mk (op:Nat) (a b:Int) (subs:List a0v)
def a0v.op:a0v->Nat
 | .mk op _ _ _=>op
mutual
def a9u (g:Gb) (b:Nat) : a0v->List AV->Prop
  | .mk op k q subs,cs=>op<256/\∃ sv,cs=[.lit (.int .u8 op),.li k,.li q,sv] /\
    ((subs=[]/\(sv=.nl\/sv=.es)) \/
     ∃ a off r,a<b/\((∃ c,sv=.sl a off subs.length c)\/(∃ c,sv=.slq a off subs.length c))/\Row g a off r/\repL g b subs r)
def repL (g:Gb) (b:Nat) : List a0v->List AV->Prop
 | [],cs=>cs=[]
 | x :: l,cs=>∃ c r,cs=c++r/\a9u g b x c/\repL g b l r
end
mutual
theorem a8a {g g' : Gb} {b b' : Nat} (hb:b<=b') (h:∀ a x,a<b->g a=some x->g' a=some x) : ∀ {x:a0v} {cs:List AV},a9u g b x cs->a9u g' b' x cs
 | .mk op k q subs,cs,⟨h0,sv,h1,h2⟩=>⟨h0,sv,h1,h2.imp id fun⟨a,off,r,h3,h4,⟨l,own,z,h5,h6⟩,h7⟩=>⟨a,off,r,by omega,h4,⟨l,own,z,h a _ h3 h5,h6⟩,repL_ext hb h h7⟩⟩
theorem repL_ext {g g' : Gb} {b b' : Nat} (hb:b<=b') (h:∀ a x,a<b->g a=some x->g' a=some x) : ∀ {l:List a0v} {cs:List AV},repL g b l cs->repL g' b' l cs
 | [],_,h0=>h0
 | _ :: _,_,⟨c,r,h1,h2,h3⟩=>⟨c,r,h1,a8a hb h h2,repL_ext hb h h3⟩
end
theorem d3q {g:Gb} {b:Nat} {x:a0v} {cs:List AV} (h:a9u g b x cs) : repL g b [x] cs:=⟨cs,[],by simp,h,rfl⟩
def a6x (g:Gb) (n n' : Nat) (x:a0v) (cs:List AV) : Prop:=∃ gk:Gb,(∀ a z,gk a=some z->g a=some z/\n<=a/\a<n')/\a9u gk n' x cs
theorem a6x.keep {g g' : Gb} {n0 n n' n2:Nat} {x:a0v} {cs:List AV} (h:a6x g n n' x cs) (h0:n0<=n) (h2:n'<=n2) (hg:∀ a,n<=a->a<n'->g' a=g a) : a6x g' n0 n2 x cs:=by
 obtain⟨gk,h1,h3⟩:=h
 refine⟨gk,fun a z hz=>?_,a8a h2 (fun a z _ hz=>hz) h3⟩
 grind
theorem a6x.rep {g:Gb} {n n' : Nat} {x:a0v} {cs:List AV} (h:a6x g n n' x cs) : a9u g n' x cs:=by
 obtain ⟨gk,h1,h3⟩:=h;exact a8a (Dp _) (fun a z _ hz=>(h1 a z hz).1) h3
def b9l (g:Gb) (n n' : Nat) (l:List a0v) (cs:List AV) : Prop:=∃ gk:Gb,(∀ a z,gk a=some z->g a=some z/\n<=a/\a<n')/\repL gk n' l cs
theorem b9l.one {g:Gb} {n n' : Nat} {x:a0v} {cs:List AV} (h:a6x g n n' x cs) : b9l g n n' [x] cs:=by
 obtain⟨gk,h1,h3⟩:=h
 exact⟨gk,h1,d3q h3⟩
theorem b9l.two {g:Gb} {n n' : Nat} {x y:a0v} {cs ds:List AV} (h:a6x g n n' x cs) (h' : a6x g n n' y ds) : b9l g n n' [x,y] (cs++ds):=by
 obtain ⟨gk,h1,h3⟩:=h;obtain ⟨gl,h4,h5⟩:=h';refine ⟨fun a=>if n≤a∧a < n' then g a else none,fun a z hz=>?_,cs,ds,rfl,a8a (Dp _) (fun a z _ hz=>?_) h3,d3q (a8a (Dp _) (fun a z _ hz=>?_) h5)⟩
 all_goals grind
def a8b (g:Gb) (n q n' : Nat) (x:a0v) (cs:List AV) : Prop:=∃ gk:Gb,(∀ a z,gk a=some z->g a=some z/\n<=a/\a<n'/\a≠q)/\a9u gk n' x cs
theorem a8b.rep {g:Gb} {n q n' : Nat} {x:a0v} {cs:List AV} (h:a8b g n q n' x cs) : a9u g n' x cs:=by
 obtain ⟨gk,h1,h3⟩:=h;exact a8a (Dp _) (fun a z _ hz=>(h1 a z hz).1) h3
theorem a8b.of {g g' : Gb} {n q n' n2:Nat} {x:a0v} {cs:List AV} (h:a6x g n n' x cs) (h1:n'<=q) (h2:n'<=n2) (hg:∀ a,n<=a->a<n'->g' a=g a) : a8b g' n q n2 x cs:=by
 obtain⟨gk,h3,h4⟩:=h
 refine⟨gk,fun a z hz=>?_,a8a h2 (fun a z _ hz=>hz) h4⟩
 grind
theorem a8b.fresh {g g' : Gb} {n0 n q n' n2:Nat} {x:a0v} {cs:List AV} (h:a8b g n q n' x cs) (h0:n0<=n) (h2:n'<=n2) (hg:∀ a,n<=a->a<n'->a≠q->g' a=g a) : a6x g' n0 n2 x cs:=by
 obtain⟨gk,h1,h3⟩:=h
 refine⟨gk,fun a z hz=>?_,a8a h2 (fun a z _ hz=>hz) h3⟩
 grind
theorem a8b.keep {g g' : Gb} {n q n' n2:Nat} {x:a0v} {cs:List AV} (h:a8b g n q n' x cs) (h2:n'<=n2) (hg:∀ a,n<=a->a<n'->a≠q->g' a=g a) : a8b g' n q n2 x cs:=by
 obtain⟨gk,h1,h3⟩:=h
 refine⟨gk,fun a z hz=>?_,a8a h2 (fun a z _ hz=>hz) h3⟩
 grind
end Go.Ai
end
section
namespace Go.Ai
set_option maxRecDepth 10000
inductive ParR where
 | ok (x:a0v) (k:Nat)
 | err (k:Nat)
section
variable (s:ByteArray)
end
end Go.Ai
end
section
namespace Go.Ai
structure Bc where
 inp:Int
 out:Int
 rows:Tq
def Bc.edge (M:Bc) (s:Nat) (i:Nat) : Int×Int:=((M.rows.getD s []).getD i (-1,-1))
def succL:List (Int×Int)->List Nat
 | []=>[]
 | e :: l=>if e.1<0 then succL l else e.1.toNat :: succL l
def Bc.gr (M:Bc) : b1t:=⟨M.rows.length,fun s=>succL (M.rows.getD s [])⟩
def b1u (n:Nat) (out:Int) (e:Int×Int) : Bool:=decide (e=(-1,-1)) || (decide (0<=e.1) && (decide (e.1<n) && (decide (0<=e.2) && decide (e.2<out))))
def Bc.ok (M:Bc) : Prop:=1<=M.inp/\M.inp<=16/\1<=M.out/\M.out<=16/\1<=M.rows.length/\M.rows.length<=64/\∀ r∈M.rows,(r.length:Int)=M.inp/\∀ e∈r,b1u M.rows.length M.out e=true
theorem eqS.refl (n:Nat) (X:SetS) : eqS n X X:=fun _ _=>rfl
end Go.Ai
end

