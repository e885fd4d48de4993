/- A small verified interpreter over names, its proofs, and what was proved with it. No condition. -/
import Derived.Lib.Builder
import Derived.Laws.Externs
import Derived.RangeFuncRecord
import Derived.RangeFuncIn
import Derived.TacticsIn
import Derived.Test.YtpimmmnkcgnjjaaGreatO05
import Derived.Test.YtpimmmnkcgnjjaaGreatO02
set_option linter.all false
set_option linter.deprecated false
section
namespace Go.Ai
open Go.RowKit (Below)
variable {B G:Nat} {P:Program} {n n0:Nat} {ρ0 ρ:Rn} {w0 w:World} {a:Act} {ops:Array Oper} {o:Oper} {callf:CallF} {fr:Fr} {g:Nat→Option AV} {ds:List Dfr} {H:Mem} {d:Tmp} {v:AV}
variable {k:Nat} {α:Type}
def und:Dg->Nat
 | .d0=>0|.d1=>1|.d2=>2|.d3=>3|.d4=>4|.d5=>5|.d6=>6|.d7=>7
 | .d8=>8|.d9=>9|.d10=>10|.d11=>11|.d12=>12|.d13=>13|.d14=>14|.d15=>15
theorem und_dig:∀ n,n<16->und (dig n)=n:=by decide
theorem b7a {m:Nat} (hm:m<16) (hk:k<16) (h:dig m=dig k) : m=k:=by
 have:=congrArg und h;grind[und_dig]
theorem f5f {j:Nat} (hj:j<256) (hk:k<256) (h0:d0 k=d0 j) (h1:d1 k=d1 j) : k=j:=by
 have e0:k % 16=j % 16:=b7a (Eo _ (by omega)) (Eo _ (by omega)) h0;have e1:k / 16 % 16=j / 16 % 16:=b7a (Eo _ (by omega)) (Eo _ (by omega)) h1;omega
theorem f5g {j:Nat} (hj:j<4096) (hk:k<4096) (h0:d0 k=d0 j) (h1:d1 k=d1 j) (h2:d2 k=d2 j) : k=j:=by
 have e0:k % 16=j % 16:=b7a (Eo _ (by omega)) (Eo _ (by omega)) h0;have e1:k / 16 % 16=j / 16 % 16:=b7a (Eo _ (by omega)) (Eo _ (by omega)) h1;have e2:k / 256 % 16=j / 256 % 16:=b7a (Eo _ (by omega)) (Eo _ (by omega)) h2;omega
theorem d3q (k:Nat) (x:α) : b1i k (.v k x)=some x:=by simp[b1i]
theorem f5h (t:T2 α) {k j:Nat} (x:Lf α) (hk:k<256) (hj:j<256) (hne:j≠k) : Ct (u2 t k x) j=Ct t j:=by
 unfold Ct u2;rcases Dg.em (d0 k) (d0 j) with h0|h0
 ·rw[h0,a2v];rcases Dg.em (d1 k) (d1 j) with h1|h1
  all_goals grind[f5f,a2w]
 grind[a2w]
theorem f5i (t:T3 α) {k j:Nat} (x:Lf α) (hk:k<4096) (hj:j<4096) (hne:j≠k) : a5o (u3 t k x) j=a5o t j:=by
 unfold a5o u3;rcases Dg.em (d0 k) (d0 j) with h0|h0
 ·rw[h0,a2v];rcases Dg.em (d1 k) (d1 j) with h1|h1
  ·rw[h1,a2v];rcases Dg.em (d2 k) (d2 j) with h2|h2
   all_goals grind[f5g,a2w]
  grind[a2w]
 grind[a2w]
noncomputable def a0x (fr:Fr) : Nat:=Fr.rec (motive:=fun _=>Nat) (fun _ _=>256) (fun _ _=>4096) (fun _ _=>0) fr
theorem d3r (fr:Fr) (d:Tmp) (v:AV) : a0x (fr.upd d v)=a0x fr:=by
 cases fr<;>simp[Fr.upd,Fr.set,fpS,fpG,fpF,b1p,b3k,a0x]
theorem d3s (fr:Fr) (d:Option Tmp) (v:AV) : a0x (fr.put d v)=a0x fr:=by
 cases d with
 | none=>rfl
 | some d=>exact d3r fr d v
theorem c5q (fr:Fr) (x:Dfr) : a0x (fr.defer x)=a0x fr:=by cases fr<;>rfl
theorem f5j (fr:Fr) (d:Tmp) (v:AV) : (fr.upd d v).get d=some v:=by
 cases fr with
 | s t ds=>simp[Fr.upd,Fr.set,fpS,b1p,Fr.get,fgS];grind[Ct,c2t,d3q]
 | g t ds=>simp[Fr.upd,Fr.set,fpG,b3k,Fr.get,fgG];grind[a5o,c8y,d3q]
 | f g ds=>exact if_pos rfl
theorem f5k (fr:Fr) {d k:Tmp} (v:AV) (hd:d<a0x fr) (hk:k<a0x fr) (h:k≠d) : (fr.upd d v).get k=fr.get k:=by
 cases fr with
 | s t ds=>simp[Fr.upd,Fr.set,fpS,b1p,Fr.get,fgS];exact f5h _ _ hd hk h
 | g t ds=>simp[Fr.upd,Fr.set,fpG,b3k,Fr.get,fgG];exact f5i _ _ hd hk h
 | f g ds=>exact if_neg h
structure FE (fr:Fr) (g:Nat->Option AV) (ds:List Dfr) : Prop where
 lo:∀ k,k<a0x fr->fr.get k=g k
 up:∀ k v,fr.get k=some v->g k=some v
 dfr:fr.defers=ds
theorem FE.refl (fr:Fr) : FE fr fr.get fr.defers:=⟨fun _ _=>rfl,fun _ _ h=>h,rfl⟩
theorem FE.upd (h:FE fr g ds) (hd:d<a0x fr) (v:AV) : FE (fr.upd d v) (a2u g d v) ds:=by
 refine⟨fun k hk=>?_,fun k y hy=>?_,(Fr.defers_upd fr d v).trans h.dfr⟩
 ·rw[d3r] at hk;unfold a2u;by_cases e:k=d
  ·subst e;rw[if_pos rfl];grind[f5j]
  ·rw[if_neg e,f5k fr v hd hk e];exact h.lo k hk
 ·unfold a2u;rcases Fr.get_upd hy with⟨rfl,rfl⟩|⟨hne,hy⟩
  ·grind
  ·rw[if_neg hne];exact h.up k y hy
def d3t (g:Nat->Option AV) (d:Option Tmp) (v:AV) : Nat->Option AV:=match d with|some d=>a2u g d v|none=>g
theorem d3u (g:Nat->Option AV) (ds:List Dfr) (d:Option Tmp) (v:AV) : (Fr.f g ds).put d v=.f (d3t g d v) ds:=by cases d<;>rfl
theorem FE.put (h:FE fr g ds) {d:Option Tmp} (hd:∀ t,d=some t->t<a0x fr) (v:AV) : FE (fr.put d v) (d3t g d v) ds:=by
 cases d with
 | none=>exact h
 | some d=>exact h.upd (hd d rfl) v
theorem FE.defer (h:FE fr g ds) (x:Dfr) : FE (fr.defer x) g (x :: ds) :=
 ⟨fun k hk=>by rw[c5q] at hk;rw[Fr.get_defer];exact h.lo k hk,fun k v hv=>by rw[Fr.get_defer] at hv;exact h.up k v hv,by rw[Fr.defers_defer,h.dfr]⟩
theorem St.toF (s:St B G n n0 ρ0 w0 ρ fr H a w) : St B G n n0 ρ0 w0 ρ (.f fr.get fr.defers) H a w:=⟨s.ext,s.sim,⟨s.frel.slot,s.frel.dfr,s.frel.size,s.frel.only⟩,s.le⟩
theorem St.ofF (h:FE fr g ds) (s:St B G n n0 ρ0 w0 ρ (.f g ds) H a w) : St B G n n0 ρ0 w0 ρ fr H a w :=
 ⟨s.ext,s.sim,⟨fun t v hv hn=>s.frel.slot t v (h.up t v hv) hn,by rw[h.dfr];exact s.frel.dfr,s.frel.size,fun t v hv=>s.frel.only t v (h.up t v hv)⟩,s.le⟩
def c5r (o:Oper) : Bool:=match o.op with|.select _ _=>false|_=>true
theorem f5l (h:c5r o=true) : ∀ cs b,o.op≠.select cs b:=by
 grind[c5r]
def a8n (m:Nat) (o:Oper) : Bool:=Cr m o && (b3u o).all (fun t=>Nat.blt t m) && c5r o
theorem FE.op (h:FE fr g ds) (hr:a8n (a0x fr) o=true) : opV P H fr.ev o=opV P H (Fr.f g ds).ev o:=by
 unfold a8n at hr;simp only[Dq] at hr;refine c0f (f5l hr.2) fun x hx=>?_
 cases x with
 | tmp t =>
  have:=Ec.1 hr.1.2 t (c5c hx);exact h.lo t (Dp this)
 | const v=>rfl
 | global g=>rfl
 | func f=>rfl
theorem c5s {m:Nat} (hr:a8n m o=true) : ∀ t,o.dst=some t->t<m:=by
 intro t ht;simp_all[Cr,a8n]
def wOf (callf:CallF) : WF:=fun f args H K=>match callf f args H with
 | .bad=>False
 | r=>K r
theorem f5m (hc:∀ B,Az B G P callf) : WOK G P (wOf callf):=by
 intro f args H K h;refine d1m (O:=callf) hc ?_;grind[wOf,orW]
theorem wOf_mono:a6b (wOf callf):=by
 intro f args H K K' hk h;grind[wOf]
theorem c5t {k:Fr->Mem->Out} {kk:Fr->Mem->Prop} {Q:Out->Prop} {r:Out} (he:FE fr g ds) (hr:a8n (a0x fr) o=true) (hall:ops.toList.all (a8n (a0x fr))=true) (h:a9k P callf ops o fr H k=r) (hne:r≠.bad)
  (hk:∀ fr1 g1 ds1 H1,FE fr1 g1 ds1->a0x fr1=a0x fr->k fr1 H1=r->kk (.f g1 ds1) H1)
  (hp:∀ v fr1 H1,FE fr1 g ds->r=.panic v fr1 H1->Q (.panic v (.f g ds) H1)) : a0f P (wOf callf) ops o (.f g ds) H kk Q:=by
 have hput:∀ (v:AV) (H1:Mem),(fr.putK o.dst v fun fr=>k fr H1)=r->kk ((Fr.f g ds).put o.dst v) H1:=by
  intro v H1 h1;rw[Fr.putK_eq] at h1;rw[d3u];exact hk _ _ _ _ (he.put (c5s hr) v) (d3s fr o.dst v) h1
 have haft:after callf o fr k (opV P H fr.ev o)=r->a3h (wOf callf) o (.f g ds) kk Q (opV P H (Fr.f g ds).ev o):=by
  rw[<- he.op hr];generalize opV P H fr.ev o=x;intro h1
  cases x with
  | val v H1=>exact hput v H1 h1
  | skip H1=>exact hput _ H1 h1
  | enter f args H1 =>
   have h2:(match callf f args H1 with|.ret v H=>fr.putK o.dst v fun fr=>k fr H|.panic v H=>.panic v fr H|.bad=>.bad)=r:=h1
   (simp_all[wOf];grind)
  | dfr fn cap args H1 =>
   have h2:((fr.defer (fn,cap,args)).putK o.dst (.lit undef) fun fr=>k fr H1)=r:=h1;rw[Fr.putK_eq] at h2;show kk ((Fr.f g ((fn,cap,args) :: ds)).put o.dst (.lit undef)) H1;rw[d3u];exact hk _ _ _ _ ((he.defer _).put (by rw[c5q];exact c5s hr) _) ((d3s _ _ _).trans (c5q _ _)) h2
  | panic v H1=>exact hp v fr H1 he h1.symm
  | _=>exact absurd h1.symm hne
 unfold a0f;unfold a9k at h
 cases hg:o.guard with
 | none=>rw[hg] at h;exact haft h
 | some gd =>
  rw[hg] at h;have h2:b5l P callf ops o fr H k gd=r:=h;unfold b5l at h2;have hs:a0w ops fr gd.1=a0w ops (.f g ds) gd.1:=by
   unfold a0w;split
   ·rename_i p hp';have hm:=Ec.1 hall p (En (Cs.2 hp'));split
    ·rename_i d hd;exact he.lo d (c5s hm d hd)
    ·rfl
   ·rfl
  show a2z (a0w ops (.f g ds) gd.1) gd.2 _ _;rw[<- hs];have hw:∀ x,a9j ops fr gd=some x->(x=true->(∃ b,a0w ops fr gd.1=some (.lit (.bool b))/\b=gd.2)) /\
    (x=false->(∃ b,a0w ops fr gd.1=some (.lit (.bool b))/\b = !gd.2)\/∃ y,a0w ops fr gd.1=some (.lit (.tuple y))):=by
   intro x hx;unfold a9j c2o at hx;unfold a0w;generalize gd.2=want at hx |-
   cases hp:ops[gd.1]? with
   | none=>grind
   | some p =>
    cases hd:p.dst with
    | none=>grind
    | some d =>
     simp only[hp,hd] at hx |-;revert hx;generalize fr.get d=z;intro hx;by_cases hb:∃ b,z=some (.lit (.bool b))
     ·obtain⟨b,rfl⟩:=hb;cases b<;>cases want<;>first
       | (grind)
       | grind
     grind
  split at h2
  ·rename_i hx;obtain⟨b,hb,rfl⟩:=(hw _ hx).1 rfl;rw[hb];exact⟨fun _=>haft h2,fun e=>by grind⟩
  ·rename_i hx;rcases (hw _ hx).2 rfl with⟨b,hb,e⟩|⟨y,hy⟩
   ·rw[hb];subst e;exact⟨fun e=>by grind,fun _=>hput _ _ h2⟩
   ·rw[hy];exact hput _ _ h2
  grind
end Go.Ai
end
section
namespace Go.Ai
open Go.RowKit (Below)
variable {B G:Nat} {P:Program} {n n0:Nat} {ρ0 ρ:Rn} {w0 w:World} {a:Act} {ops:Array Oper} {callf:CallF} {loopf:LoopF} {fr:Fr} {g:Nat→Option AV} {ds:List Dfr} {H:Mem}
inductive FI where
 | run (o:Oper)
 | mk (i:Nat) (o:Oper)
 | gate (hs as:List Nat)
 | no
def itF (ops:Array Oper) (it:It) : FI:=match it with
 | .run i=>match ops[i]? with|some o=>.run o|none=>.no
 | .mk i=>match ops[i]? with|some o=>.mk i o|none=>.no
 | .gate hs as=>.gate hs as
def eqU (x y:AV) : Bool:=match x,y with
 | .lit (.tuple a),.lit (.tuple b)=>Nat.beq a.size 0 && Nat.beq b.size 0
 | x,y=>eqAV x y
theorem f5n {x y:AV} (h:eqU x y=true) : x=y:=by
 unfold eqU at h;split at h
 ·simp_all
 grind[eqAV_sound]
noncomputable def b7b (P:Program) (callf:CallF) (ops:Array Oper) (fr:Fr) (H:Mem) : List Nat->Bool
 | []=>true
 | i :: l=>match ops[i]? with
  | some o=>match a9k P callf ops o fr H (fun fr' H'=>.norm fr' H') with
   | .norm fr' _=>match a1f fr' o.dst,a1f fr o.dst with
    | some x,some y=>match eqU x y with|true=>b7b P callf ops fr H l|false=>false
    | _,_=>false
   | _=>false
  | none=>false
def a3x (i:Nat) : List Nat->Bool
 | []=>false
 | j :: l=>match Nat.beq i j with|true=>true|false=>a3x i l
theorem c0q {i:Nat} : ∀ {l:List Nat},i∈l->a3x i l=true
 | j :: l,h=>by
  unfold a3x;split
  ·rfl
  ·rename_i hb;rcases Dv.1 h with rfl|h
   all_goals simp_all[c0q]
noncomputable def b4b (H:Mem) (as:List Nat) : AlP->Bool
 | []=>true
 | (i,a,b) :: l=>match a3x i as with
  | true=>match H.get a,b with
   | some x,some y=>match eqBlk x y with|true=>b4b H as l|false=>false
   | _,_=>false
  | false=>b4b H as l
abbrev FlF:=Program->CallF->Array Oper->Fr->Mem->AlP->Out
noncomputable def flN:FlF:=fun _ _ _ fr H _=>.norm fr H
noncomputable def d3v (o:Oper) : FlF->FlF:=fun ih P callf ops fr H als=>a9k P callf ops o fr H fun fr H=>ih P callf ops fr H als
noncomputable def d3w (i:Nat) (o:Oper) : FlF->FlF:=fun ih P callf ops fr H als=>a9k P callf ops o fr H fun fr H'=>ih P callf ops fr H' ((i,H.next,H'.get H.next) :: als)
noncomputable def d3x (hs as:List Nat) : FlF->FlF:=fun ih P callf ops fr H als=>match b7b P callf ops fr H hs,b4b H as als with
 | true,true=>ih P callf ops fr H als
 | _,_=>.bad
noncomputable def flNo:FlF->FlF:=fun _ _ _ _ _ _ _=>.bad
noncomputable def flC (it:It) (_:List It) (ih:FlF) : FlF:=fun P callf ops fr H als=>FI.rec (motive:=fun _=>FlF->FlF) d3v d3w d3x flNo (itF ops it) ih P callf ops fr H als
noncomputable def b7c (P:Program) (callf:CallF) (ops:Array Oper) (l:List It) (fr:Fr) (H:Mem) (als:AlP) : Out:=List.rec (motive:=fun _=>FlF) flN flC l P callf ops fr H als
def OE (r out:Out) : Prop:=match r,out with
 | .norm fr H,.norm fr' H'=>H'=H/\∃ g ds,fr'=.f g ds/\FE fr g ds
 | .panic v fr H,.panic v' fr' H'=>v'=v/\H'=H/\fr'=fr.clear
 | _,_=>False
theorem d3y (fr:Fr) : fr.clear=.s e2 fr.defers:=by cases fr<;>rfl
theorem d3z (he:FE fr g ds) (hall:ops.toList.all (a8n (a0x fr))=true) : ∀ {l:List Nat},b7b P callf ops fr H l=true->a5f P (wOf callf) ops (.f g ds) H l
 | [],_=>trivial
 | i :: l,h=>by
  unfold b7b at h;unfold a5f;split at h
  ·rename_i o ho;have hm:=Ec.1 hall o (En (Cs.2 ho));split at h
   ·rename_i fr2 H2 hr;split at h
    ·rename_i x y hx hy;split at h
     ·rename_i hxy;have hxy':=f5n hxy;subst hxy';refine⟨?_,d3z he hall h⟩
      try rw[ho]
      try dsimp only
      refine c5t he hm hall hr (by simp) (fun fr1 g1 ds1 H1 he1 _ h1=>?_) (fun v fr1 H1 _ h1=>by grind);cases h1;have key:∀ {fr:Fr} {g:Nat->Option AV} {ds:List Dfr},FE fr g ds->∀ {x},a1f fr o.dst=some x->a1f (.f g ds) o.dst=some x:=by
       intro fr g ds he x hx;unfold a1f at hx |-;split at hx
       ·exact he.up _ _ hx
       grind
      grind
     grind
    grind
   grind
  grind
theorem c5u {as:List Nat} : ∀ {als:AlP},b4b H as als=true->a8e H as als
 | [],_=>trivial
 | (i,a,b) :: l,h=>by
  unfold b4b at h;unfold a8e;split at h
  ·split at h
   ·rename_i x y hx;split at h
    ·rename_i he;exact⟨fun _=>hx.trans (congrArg some (c3k he)),c5u h⟩
    grind
   grind
  ·rename_i he;exact⟨fun hi=>(by rw[c0q hi] at he;cases he),c5u h⟩
theorem flat_W:∀ (l:List It) {fr:Fr} {g:Nat->Option AV} {ds:List Dfr} {H:Mem} {als:AlP} {r:Out},FE fr g ds->ops.toList.all (a8n (a0x fr))=true->b7c P callf ops l fr H als=r->r≠.bad ->
  Bx P (wOf callf) ops (a6a (OE r)) l (.f g ds) H als
 | [],fr,g,ds,H,als,r,he,hall,h,hne=>by
  have h' : Out.norm fr H=r:=h;subst h';exact⟨rfl,g,ds,rfl,he⟩
 | it :: l,fr,g,ds,H,als,r,he,hall,h,hne=>by
  have h' : FI.rec (motive:=fun _=>FlF->FlF) d3v d3w d3x flNo (itF ops it) (fun P callf ops fr H als=>b7c P callf ops l fr H als) P callf ops fr H als=r:=h;have hp:∀ v fr1 H1,FE fr1 g ds->r=.panic v fr1 H1->a6a (OE r) (.panic v (.f g ds) H1):=by
   rintro v fr1 H1 he1 rfl;refine⟨rfl,rfl,?_⟩;rw[d3y,d3y,he1.dfr];rfl
  cases it with
  | run i =>
   unfold Bx
   cases ho:ops[i]? with
   | none =>
    rw[show itF ops (.run i)=.no by grind[itF]] at h';exact absurd h'.symm hne
   | some o =>
    rw[show itF ops (.run i)=.run o by grind[itF]] at h';dsimp only;have hm:=Ec.1 hall o (En (Cs.2 ho));exact c5t he hm hall h' hne (fun fr1 g1 ds1 H1 he1 hr1 h1=>flat_W l he1 (by grind) h1 hne) hp
  | mk i =>
   unfold Bx
   cases ho:ops[i]? with
   | none =>
    rw[show itF ops (.mk i)=.no by grind[itF]] at h';exact absurd h'.symm hne
   | some o =>
    rw[show itF ops (.mk i)=.mk i o by grind[itF]] at h';dsimp only;have hm:=Ec.1 hall o (En (Cs.2 ho));exact c5t he hm hall h' hne (fun fr1 g1 ds1 H1 he1 hr1 h1=>flat_W l he1 (by grind) h1 hne) hp
  | gate hs as =>
   have h2:(match b7b P callf ops fr H hs,b4b H as als with|true,true=>b7c P callf ops l fr H als|_,_=>.bad)=r:=h';unfold Bx;split at h2
   ·rename_i h3 h4;exact⟨d3z he hall h3,c5u h4,flat_W l he hall h2 hne⟩
   ·exact absurd h2.symm hne
noncomputable def f5o (r:Out) : Out:=match r with
 | .panic v fr H=>.panic v fr.clear H
 | .norm fr H=>.norm fr H
 | _=>.bad
noncomputable def b0j (P:Program) (callf:CallF) (ops:Array Oper) (fr:Fr) (H:Mem) : Out:=match b6o P ops.toList,ops.toList.all (a8n (a0x fr)) with
 | true,true=>f5o (b7c P callf ops (b1y ops.toList) fr H [])
 | _,_=>.bad
theorem f5p {o:Oper} {a:Act} {next next': Act->World->Prop} {Q Q': Exit->Act->World->Prop} (hn:∀ a w,next a w->next' a w) (hq:∀ e a w,Q e a w->Q' e a w) {r:Result Next} (h:o.upon P a next Q r) : o.upon P a next' Q' r:=by
 have hl:LetsOut Q->LetsOut Q':=fun⟨a,w,h⟩=>⟨a,w,hq _ _ _ h⟩;unfold Oper.upon at h |-;split at h
 ·grind
 ·grind
 ·grind
 ·refine h.mono fun e w' he=>?_;grind
 ·exact h.mono fun v w' he=>hn _ _ he
 all_goals grind
theorem c0r {Q Q': Exit->Act->World->Prop} (hq:∀ e a w,Q e a w->Q' e a w) : ∀ (l:List Nat) (a:Act) (w:World),wpOps P ops Q l a w->wpOps P ops Q' l a w
 | [],a,w,h=>hq _ _ _ h
 | i :: l,a,w,h=>by
  unfold wpOps at h |-
  cases ho:ops[i]? with
  | none=>rw[ho] at h;exact c0r hq l a w h
  | some o =>
   rw[ho] at h;dsimp only at h |-;split at h
   ·rename_i hw;rw[if_pos hw];rcases h with h|⟨h,a',w',h2⟩
    ·exact .inl (f5p (c0r hq l) hq h)
    ·exact .inr ⟨h,a',w',hq _ _ _ h2⟩
   ·rename_i hw;rw[if_neg hw];exact c0r hq l _ _ h
theorem d4a (hc:∀ B,Az B G P callf) (hG:G=P.globals.size) {id:Nat} (s:St B G n n0 ρ0 w0 ρ fr H a w) (hd:Au n (.region id ops true)=true) (hne:b0j P callf ops fr H≠.bad) (t:Nat) :
  wpOps P ops (a0d B G n n0 ρ0 w0 (b0j P callf ops fr H)) (Region.schedule (P.follows .mixedOrders) ops t) a { w with drawn:=w.drawn+1 }:=by
 unfold b0j at hne |-;split at hne
 ·rename_i hok hall;generalize hr:b7c P callf ops (b1y ops.toList) fr H []=r at hne |-;have hr0:r≠.bad:=fun e=>hne (by rw[e];rfl);have key:=c4b (f5m hc) (id:=id) hG s.toF hd (c5i wOf_mono hok (flat_W _ (FE.refl fr) hall hr hr0)) t;refine c0r ?_ _ _ _ key;rintro e a' w' ⟨out,hq,ho⟩
  cases r with
  | norm fr1 H1 =>
   cases out with
   | norm fr2 H2 =>
    obtain⟨rfl,g,ds,rfl,he⟩:=hq
    cases e with
    | normal=>obtain⟨ρ',s'⟩:=ho;exact⟨ρ',St.ofF he s'⟩
    | _=>exact ho.elim
   | _=>exact hq.elim
  | panic v fr1 H1 =>
   cases out with
   | panic v2 fr2 H2 =>
    obtain⟨rfl,rfl,rfl⟩:=hq;exact ho
   | _=>exact hq.elim
  | exit=>assumption
  | ret=>assumption
  | bad=>grind
 grind
theorem f5q (hc:∀ B,Az B G P callf) (hG:G=P.globals.size) {id:Nat} (s:St B G n n0 ρ0 w0 ρ fr H a w) (hd:Au n (.region id ops true)=true) (hne:b0j P callf ops fr H≠.bad) :
  (Code.region id ops true).wp P (a0d B G n n0 ρ0 w0 (b0j P callf ops fr H)) a w:=by grind[id,d4a,wp_region_draw]
/- Codes. -/
noncomputable def f5r (_:Nat) (ops:Array Oper) (draw:Bool) : XF:=fun P callf _ fr H=>match draw with
 | false=>b3h P callf ops ops.toList fr H
 | true=>b0j P callf ops fr H
noncomputable def execCF:Code->XF:=Code.rec (motive:=fun _=>XF) xSkip f5r c8m c8n c8o c8p c8q c8r c8s c8t c8u xRet c8v
noncomputable def a0n (P:Program) (callf:CallF) (loopf:LoopF) (c:Code) (fr:Fr) (H:Mem) : Out:=execCF c P callf loopf fr H
def d4b (B G:Nat) (P:Program) (callf:CallF) (loopf:LoopF) (c:Code) : Prop :=
 ∀ (n n0:Nat) (ρ0:Rn) (w0:World) (ρ:Rn) (fr:Fr) (H:Mem) (a:Act) (w:World),Au n c=true->St B G n n0 ρ0 w0 ρ fr H a w->a0n P callf loopf c fr H≠.bad ->
  c.wp P (a0d B G n n0 ρ0 w0 (a0n P callf loopf c fr H)) a w
theorem d4c {callf:CallF} {loopf:LoopF} {b:Code} (hl:a5y B G P loopf) (hb:d4b B G P callf loopf b) (n n0:Nat) (ρ0:Rn) (w0:World) (ρ:Rn) (fr:Fr) (H:Mem) (a:Act) (w:World)
  (hd:Au n b=true) (s:St B G n n0 ρ0 w0 ρ fr H a w) (hne:a0n P callf loopf (.loop b) fr H≠.bad) : LW P b (a0d B G n n0 ρ0 w0 (a0n P callf loopf (.loop b) fr H)) a w:=by
 have he:a0n P callf loopf (.loop b) fr H=a9l (a0n P callf loopf b fr H) (loopf (.loop b)):=rfl;rw[he] at hne |-;have hr:a0n P callf loopf b fr H≠.bad:=fun h=>hne (by rw[h];rfl);refine LW.unroll (Code.wp_mono (b9l hne fun fr' H' ρ' a' w' hr' s' hk=>?_) (hb n n0 ρ0 w0 ρ fr H a w hd s hr));rw[hr'];exact hl b n n0 ρ0 w0 ρ' fr' H' a' w' hd s' hk
theorem d4d {callf:CallF} {loopf:LoopF} (hcs:∀ B,Az B G P callf) (hl:a5y B G P loopf) (hG:G=P.globals.size) : ∀ c:Code,d4b B G P callf loopf c:=by
 intro c;have hc:=hcs B
 induction c with
 | skip=>intro n n0 ρ0 w0 ρ fr H a w hd s hne;exact wp_skip ⟨ρ,s⟩
 | region id ops draw =>
  intro n n0 ρ0 w0 ρ fr H a w hd s hne
  cases draw with
  | false =>
   refine wp_region_list (c3j hc hG hne ops.toList fr H ρ a w ?_ s rfl);exact fun o ho=>Ec.1 hd o ho
  | true=>exact f5q hcs hG s hd hne
 | seq x y ihx ihy =>
  intro n n0 ρ0 w0 ρ fr H a w hd s hne;have he:a0n P callf loopf (.seq x y) fr H=a9l (a0n P callf loopf x fr H) (a0n P callf loopf y):=rfl;rw[he] at hne |-;simp only[Au,Dq] at hd;have hr:a0n P callf loopf x fr H≠.bad:=fun h=>hne (by rw[h];rfl);refine wp_seq (Code.wp_mono (b9l hne fun fr' H' ρ' a' w' hr' s' hk=>?_) (ihx n n0 ρ0 w0 ρ fr H a w hd.1 s hr));rw[hr'];exact ihy n n0 ρ0 w0 ρ' fr' H' a' w' hd.2 s' hk
 | cond cnd x y ihx ihy =>
  intro n n0 ρ0 w0 ρ fr H a w hd s hne;have he:a0n P callf loopf (.cond cnd x y) fr H=b5m (fr.ev cnd) (a0n P callf loopf x) (a0n P callf loopf y) fr H:=rfl;rw[he] at hne |-;simp only[Au,Dq] at hd;unfold b5m at hne |-;split at hne
  ·rename_i hev;have:=s.ev _ _ hev;exact wp_cond_true this (ihx n n0 ρ0 w0 ρ fr H a w hd.1 s hne)
  ·rename_i hev;have:=s.ev _ _ hev;exact wp_cond_false this (ihy n n0 ρ0 w0 ρ fr H a w hd.2 s hne)
  grind
 | block id b ih =>
  intro n n0 ρ0 w0 ρ fr H a w hd s hne;have he:a0n P callf loopf (.block id b) fr H=b5n id (a0n P callf loopf b fr H):=rfl;rw[he] at hne |-;have hr:a0n P callf loopf b fr H≠.bad:=fun h=>hne (by rw[h];rfl);refine wp_block (Code.wp_mono ?_ (ih n n0 ρ0 w0 ρ fr H a w hd s hr));intro e a' w' h;generalize a0n P callf loopf b fr H=r at h hne |-
  cases r with
  | norm fr' H'=>cases e<;>first|exact h.elim|exact h
  | exit id' fr' H' =>
   cases e with
   | exit id2 =>
    obtain⟨rfl,ρ',s'⟩:=h;unfold b5n;dsimp only;split
    ·rename_i hb;have:=Dz hb;subst this;simp only[Exit.inBlock,if_true];exact⟨ρ',s'⟩
    ·rename_i hb;have hne2:id2≠id:=by intro h0;simp_all
     simp only[Exit.inBlock,hne2,if_false];exact⟨rfl,ρ',s'⟩
   | _=>exact h.elim
  | ret fr' H'=>cases e<;>first|exact h.elim|exact h
  | panic v fr' H'=>cases e<;>first|exact h.elim|exact h
  | bad=>exact absurd rfl hne
 | loop b ih =>
  intro n n0 ρ0 w0 ρ fr H a w hd s hne;exact(d4c hl ih n n0 ρ0 w0 ρ fr H a w hd s hne).wp
 | rangeFunc f ps x y ihx ihy=>intro n n0 ρ0 w0 ρ fr H a w hd s hne;exact absurd rfl hne
 | exit id=>intro n n0 ρ0 w0 ρ fr H a w hd s hne;exact wp_exit ⟨rfl,ρ,s⟩
 | scope b ih=>intro n n0 ρ0 w0 ρ fr H a w hd s hne;exact absurd rfl hne
 | label l=>intro n n0 ρ0 w0 ρ fr H a w hd s hne;exact wp_label ⟨ρ,s⟩
 | goto l=>intro n n0 ρ0 w0 ρ fr H a w hd s hne;exact absurd rfl hne
 | ret=>intro n n0 ρ0 w0 ρ fr H a w hd s hne;exact wp_ret ⟨ρ,s⟩
 | refuse why=>intro n n0 ρ0 w0 ρ fr H a w hd s hne;exact absurd rfl hne
noncomputable def d4e (P:Program) (callf:CallF) (loopf:LoopF) (fn:Func) (c:Code) (args:List AV) (H:Mem) : Ar :=
 match Au fn.ntmps c,Nat.ble (len args) fn.ntmps with
 | true,true=>c8x P callf loopf fn (b5q args (Cz fn.ntmps) fun fr=>a0n P callf loopf c fr H)
 | _,_=>.bad
noncomputable def c5v (P:Program) (callf:CallF) (loopf:LoopF) (f:FuncId) (args:List AV) (H:Mem) : Ar :=
 match P.funcs[f]? with
 | some fn=>match fn.body with
  | some c=>d4e P callf loopf fn c args H
  | none=>.bad
 | none=>.bad
theorem f5s {callf:CallF} {loopf:LoopF} (hcs:∀ B,Az B G P callf) (hl:a5y B G P loopf) (hG:G=P.globals.size) : Az B G P (c5v P callf loopf):=by
 have hc:=hcs B;intro f args H hne ρ us w hs hv;unfold c5v at hne |-;split at hne
 ·rename_i fn hfn;split at hne
  ·rename_i c hb;unfold d4e at hne |-;split at hne
   ·rename_i hdst hlen;rw[c3n] at hne |-;have hfe:=c3o (n:=fn.ntmps) hv (by simp_all[a0b]);have s1:St B G fn.ntmps H.next ρ w ρ (putArgs args (Cz fn.ntmps) 0) H { tmps:=us++Array.replicate (fn.ntmps-us.size) undef,defers:=[] } w:=⟨Ext.refl _ _ _ _,hs,hfe,Dm _⟩;have hr:a0n P callf loopf c (putArgs args (Cz fn.ntmps) 0) H≠.bad:=fun h0=>hne (by rw[h0];rfl);have key:=d4d hcs hl hG c fn.ntmps H.next ρ w ρ _ H _ w hdst s1 hr;refine calls_of_wp_defers hfn hb (Code.wp_mono ?_ key);intro e a' w' h;generalize a0n P callf loopf c (putArgs args (Cz fn.ntmps) 0) H=r at h hne |-
    cases r with
    | norm fr' H' =>
     cases e with
     | normal=>obtain⟨ρ',s'⟩:=h;exact a9y hc hl hG hne _ _ .returning H' ρ' .returning w' s'.frel.dfr s' rfl rfl
     | _=>exact h.elim
    | ret fr' H' =>
     cases e with
     | ret=>obtain⟨ρ',s'⟩:=h;exact a9y hc hl hG hne _ _ .returning H' ρ' .returning w' s'.frel.dfr s' rfl rfl
     | _=>exact h.elim
    | panic v fr' H' =>
     cases e with
     | panic chain=>obtain⟨ρ',x,rfl,hx,s'⟩:=h;exact a9y hc hl hG hne _ _ (.panicking v) H' ρ' _ w' s'.frel.dfr s' ⟨x,rfl,hx⟩ rfl
     | _=>exact h.elim
    | exit id fr' H'=>exact absurd rfl hne
    | bad=>exact absurd rfl hne
   grind
  grind
 grind
end Go.Ai
end
section
namespace Go.Ai
open Go.RowKit (Below)
variable {ops:Array Oper} {w':World} {args:Array Value} {callf:CallF} {o:Oper} {Q:Exit→Act→World→Prop}
abbrev J:=Option Nat
def jcode:J->Code
 | none=>.ret
 | some id=>.exit id
def jexit:J->Exit
 | none=>.ret
 | some id=>.exit id
inductive a1x where
 | norm (fr:Fr) (ys:List Nat) (p:Option J) (H:Mem)
 | jump (j:J) (fr:Fr) (ys:List Nat) (p:Option J) (H:Mem)
 | bad
inductive YOut where
 | ok (b:Bool) (p:Option J) (H:Mem)
 | bad
inductive c0s where
 | ok (j:Option J) (H:Mem)
 | bad
inductive KE where
 | mv
 | yl (args:Array Operand)
 | no
def c5w (o:Oper) (ys:List Nat) : KE:=match o.op with
 | .move (.tmp t)=>(match a3x t ys with|true=>.mv|false=>.no)
 | .call c=>(match c.callee with
  | .value (.tmp t)=>(match a3x t ys with|true=>.yl c.args|false=>.no)
  | _=>.no)
 | _=>.no
def a4o (o:Oper) : Bool:=match o.op with|.defer _=>false|_=>true
def b7d (d:Nat) : List Nat->List Nat
 | []=>[]
 | t :: l=>match Nat.beq d t with|true=>b7d d l|false=>t :: b7d d l
def b2i (d:Option Tmp) (ys:List Nat) : List Nat:=match d with|none=>ys|some d=>b7d d ys
abbrev YF:=List AV->Mem->YOut
abbrev RF:=Operand->Array Tmp->Code->Code->Fr->Mem->c0s
abbrev KF:=Fr->List Nat->Option J->Mem->a1x
noncomputable def mvE (o:Oper) (fr:Fr) (ys:List Nat) (p:Option J) (H:Mem) (K:KF) : a1x:=match o.dst with
 | none=>.bad
 | some d=>match fr.get d with
  | none=>K fr (d :: ys) p H
  | some _=>.bad
noncomputable def ylE (yf:YF) (o:Oper) (args:Array Operand) (fr:Fr) (ys:List Nat) (p:Option J) (H:Mem) (K:KF) : a1x:=match p,Bq fr.ev args.toList with
 | none,some vs=>match yf vs H with
  | .ok b p' H'=>K (fr.put o.dst (.lit (.bool b))) (b2i o.dst ys) p' H'
  | .bad=>.bad
 | _,_=>.bad
noncomputable def afE (callf:CallF) (o:Oper) (fr:Fr) (ys:List Nat) (p:Option J) (K:KF) (r:R) : a1x:=match r with
 | .val v H'=>K (fr.put o.dst v) (b2i o.dst ys) p H'
 | .skip H'=>K (fr.put o.dst (.lit undef)) (b2i o.dst ys) p H'
 | .enter f args H'=>match callf f args H' with
  | .ret v H''=>K (fr.put o.dst v) (b2i o.dst ys) p H''
  | _=>.bad
 | _=>.bad
noncomputable def opE (P:Program) (callf:CallF) (yf:YF) (o:Oper) (fr:Fr) (ys:List Nat) (p:Option J) (H:Mem) (K:KF) : a1x:=match c5w o ys with
 | .mv=>mvE o fr ys p H K
 | .yl args=>ylE yf o args fr ys p H K
 | .no=>match a4o o with
  | true=>afE callf o fr ys p K (opV P H fr.ev o)
  | false=>.bad
noncomputable def c5x (ops:Array Oper) (o:Oper) (fr:Fr) : Option Bool:=match o.guard with
 | none=>some true
 | some g=>a9j ops fr g
noncomputable def b7e (P:Program) (callf:CallF) (yf:YF) (ops:Array Oper) : List Oper->KF
 | [],fr,ys,p,H=>.norm fr ys p H
 | o :: l,fr,ys,p,H=>match c5x ops o fr with
  | some true=>opE P callf yf o fr ys p H (b7e P callf yf ops l)
  | some false=>b7e P callf yf ops l (fr.put o.dst (.lit undef)) (b2i o.dst ys) p H
  | none=>.bad
def b0k (r:a1x) (k:KF) : a1x:=match r with
 | .norm fr ys p H=>k fr ys p H
 | r=>r
def c5y (id:Nat) (r:a1x) : a1x:=match r with
 | .jump (some id') fr ys p H=>(match Nat.beq id' id with|true=>.norm fr ys p H|false=>.jump (some id') fr ys p H)
 | r=>r
abbrev LFE:=Code->KF
noncomputable def c0t (P:Program) (callf:CallF) (ops:Array Oper) (fr:Fr) (ys:List Nat) (p:Option J) (H:Mem) : a1x:=match ys,ops.toList.all a4o with
 | [],true=>(match b0j P callf ops fr H with
  | .norm fr' H'=>(match fr'.defers with|[]=>.norm fr' [] p H'|_=>.bad)
  | _=>.bad)
 | _,_=>.bad
noncomputable def Cj (P:Program) (callf:CallF) (yf:YF) (rf:RF) (loopf:LFE) : Code->KF
 | .skip,fr,ys,p,H=>.norm fr ys p H
 | .region _ ops draw,fr,ys,p,H=>(match draw with|true=>c0t P callf ops fr ys p H|false=>b7e P callf yf ops ops.toList fr ys p H)
 | .seq a b,fr,ys,p,H=>b0k (Cj P callf yf rf loopf a fr ys p H) (Cj P callf yf rf loopf b)
 | .cond c a b,fr,ys,p,H=>(match fr.ev c with
  | some (.lit (.bool true))=>Cj P callf yf rf loopf a fr ys p H
  | some (.lit (.bool false))=>Cj P callf yf rf loopf b fr ys p H
  | _=>.bad)
 | .block id b,fr,ys,p,H=>c5y id (Cj P callf yf rf loopf b fr ys p H)
 | .loop b,fr,ys,p,H=>b0k (Cj P callf yf rf loopf b fr ys p H) (loopf b)
 | .rangeFunc g ps asg body,fr,ys,p,H=>(match ys with
  | []=>(match rf g ps asg body fr H with
   | .ok none H'=>.norm fr [] p H'
   | .ok (some j) H'=>.jump j fr [] p H'
   | .bad=>.bad)
  | _=>.bad)
 | .exit id,fr,ys,p,H=>.jump (some id) fr ys p H
 | .label _,fr,ys,p,H=>.norm fr ys p H
 | .ret,fr,ys,p,H=>.jump none fr ys p H
 | _,_,_,_,_=>.bad
noncomputable def a6c (P:Program) (callf:CallF) (yf:YF) (rf:RF) : Nat->LFE
 | 0=>fun _ _ _ _ _=>.bad
 | m+1=>fun b fr ys p H=>b0k (Cj P callf yf rf (a6c P callf yf rf m) b fr ys p H) (a6c P callf yf rf m b)
def FR (r:Option Nat) : Fence:={ Fence.wide with round:=r }
theorem c5z {r:Option Nat} {m:Nat} {P:Program} {f:FuncId} {w:World} {R:Ending->World->Prop} (h:Calls P f args w R) : CallsIn (FR r) m P f args w R:=(callsIn_wide (n:=m)).2 h
theorem d4f {r:Option Nat} {m:Nat} {P:Program} {f:FuncId} {w:World} {R:Ending->World->Prop} (h:CallsIn (FR r) m P f args w R) : Calls P f args w R:=(callsIn_wide (n:=m)).1 h
def Act.bare (a:Act) : Act:={ a with defers:=[] }
theorem f5t (a:Act) (d:Option Tmp) (v:Value) : Act.bare (a.put d v)=(Act.bare a).put d v:=by cases d<;>rfl
theorem f5u (a:Act) : (Act.bare a).eval=a.eval:=by funext x;cases x<;>rfl
def KX (x:Option Nat) (w w' : World) : Prop:=(∀ (k:Nat) (o:Obj),w.heap[k]?=some o->isMk o=true->x≠some k->w'.heap[k]?=some o)/\w.drawn<=w'.drawn
theorem KX.refl (x:Option Nat) (w:World) : KX x w w:=⟨fun _ _ h _ _=>h,Dm _⟩
theorem KX.trans {x:Option Nat} {a b c:World} (h:KX x a b) (k:KX x b c) : KX x a c:=⟨fun i o hi ho hx=>k.1 i o (h.1 i o hi ho hx) ho hx,Dw h.2 k.2⟩
theorem KD.kx {x:Option Nat} {w: World} (h:KD w w') : KX x w w':=⟨fun i o hi ho _=>h.1 i o hi ho,h.2⟩
theorem KX.kd {w: World} (h:KX none w w') : KD w w':=⟨fun i o hi ho=>h.1 i o hi ho (by simp),h.2⟩
theorem Sim.mark {B G:Nat} {ρ:Rn} {H:Mem} {w: World} {l:Nat} {ob:Obj} (s:Sim B G ρ H w) (hl:w.heap[l]?=some ob) (ho:isMk ob=true) (hw:∀ k,k≠l->w'.heap[k]?=w.heap[k]?) (hsz:w.heap.size<=w'.heap.size) : Sim B G ρ H w':=by
 refine s.other hsz fun a x b o k hx hr=>hw b fun e=>?_;subst e;rcases s.blk a x hx with h|⟨b',o',k',h,hb⟩
 ·grind
 ·rw[hr] at h;cases h
  cases x with
  | cells l own z=>obtain⟨c,e,fz,h1,_⟩:=hb;rw[hl] at h1;cases h1;cases ho
  | map es clock=>obtain⟨es',h1,_⟩:=hb;rw[hl] at h1;cases h1;cases ho
  | siter s pos=>have h1:=hb.1;rw[hl] at h1;cases h1;cases ho
  | typ T l ex=>obtain⟨_,_,c,h1,_⟩:=hb;rw[hl] at h1;cases h1;cases ho
abbrev Inv:=Rn->Option J->List Deferred->World->Prop
def a3y (I:Inv) : Prop:=∀ ρ ρ' p ds w w',I ρ p ds w->KD w w'->w.heap.size<=w'.heap.size->Sub ρ ρ'->I ρ' p ds w'
structure StE (B G n n0:Nat) (ρ0:Rn) (w0:World) (x:Option Nat) (l:Nat) (I:Inv) (ρ:Rn) (fr:Fr) (ys:List Nat) (p:Option J) (H:Mem) (a:Act) (w:World) : Prop where
 same:∀ a,a<n0->ρ a=ρ0 a
 keeps:KX x w0 w
 below:Below B w0 w
 sim:Sim B G ρ H w
 frel:a0v n ρ fr (Act.bare a)
 le:n0<=H.next
 inv:I ρ p a.defers w
 ysl:∀ t,t∈ys->t<n/\fr.get t=none/\a.tmps.getD t undef=.func (.yield l) #[] #[]
def a5h (B G n n0:Nat) (ρ0:Rn) (w0:World) (x:Option Nat) (l:Nat) (I:Inv) (out:a1x) : Exit->Act->World->Prop:=fun e a' w'=>match out with
 | .norm fr ys p H=>e=.normal/\∃ ρ',StE B G n n0 ρ0 w0 x l I ρ' fr ys p H a' w'
 | .jump j fr ys p H=>e=jexit j/\∃ ρ',StE B G n n0 ρ0 w0 x l I ρ' fr ys p H a' w'
 | .bad=>False
def YOK (B G:Nat) (P:Program) (r x:Option Nat) (l m:Nat) (I:Inv) (yf:YF) : Prop:=∀ vs H b p' H',yf vs H=.ok b p' H'->∀ (ρ:Rn) (us:Array Value) (ds:List Deferred) (w:World),Sim B G ρ H w->VRs ρ vs us.toList->I ρ none ds w ->
 ∃ f tm asg bd,(Instr.yield l us).run P w=.ok (.round l f tm asg bd) w /\
  RoundIn (FR r) m P l f tm asg bd w fun e w'=>e=.returned (.bool b)/\∃ ρ',(∀ a,a<H.next->ρ' a=ρ a)/\KX x w w'/\Below B w w'/\Sim B G ρ' H' w'/\H.next<=H'.next/\I ρ' p' ds w'
def d4g (j:Option J) (fr:Fr) (p:Option J) (H:Mem) : a1x:=match j with|none=>.norm fr [] p H|some j=>.jump j fr [] p H
def ROK (B G n n0:Nat) (P:Program) (r x:Option Nat) (l m:Nat) (I:Inv) (rf:RF) : Prop:=∀ g ps asg body fr H j H',rf g ps asg body fr H=.ok j H' ->
 ∀ (ρ0:Rn) (w0:World) (ρ:Rn) (p:Option J) (a:Act) (w:World),StE B G n n0 ρ0 w0 x l I ρ fr [] p H a w ->
  (Code.rangeFunc g ps asg body).wpIn (FR r) m P (a5h B G n n0 ρ0 w0 x l I (d4g j fr p H')) a w
variable {B G n n0 m l:Nat} {P:Program} {ρ0 ρ:Rn} {w0 w:World} {x r:Option Nat} {I:Inv} {fr:Fr} {ys:List Nat} {p:Option J} {H:Mem} {a:Act}
theorem StE.st (s:StE B G n n0 ρ0 w0 x l I ρ fr ys p H a w) : St B G n H.next ρ w ρ fr H (Act.bare a) w:=⟨Ext.refl _ _ _ _,s.sim,s.frel,Dm _⟩
theorem StE.ev (s:StE B G n n0 ρ0 w0 x l I ρ fr ys p H a w) : EvR ρ fr.ev a.eval:=by rw[<- f5u];exact s.st.ev
theorem c6a {d t:Nat} : ∀ {l:List Nat},t∈b7d d l->t∈l/\t≠d
 | y :: l,h=>by
  unfold b7d at h;split at h
  ·obtain⟨h1,h2⟩:=c6a h;exact⟨by simp[h1],h2⟩
  ·rename_i hb;rcases Dv.1 h with rfl|h
   ·refine⟨by simp,fun e=>?_⟩;simp_all
   ·obtain⟨h1,h2⟩:=c6a h;exact⟨by simp[h1],h2⟩
theorem f5v {d:Option Tmp} {v:AV} {u yv:Value} (h:∀ t,t∈ys->t<n/\fr.get t=none/\a.tmps.getD t undef=yv) :
  ∀ t,t∈b2i d ys->t<n/\(fr.put d v).get t=none/\(a.put d u).tmps.getD t undef=yv:=by
 intro t ht
 cases d with
 | none=>exact h t ht
 | some d =>
  obtain⟨h1,h2⟩:=c6a ht;obtain⟨h3,h4,h5⟩:=h t h1;refine⟨h3,?_,?_⟩
  ·cases hg:(fr.put (some d) v).get t with
   | none=>rfl
   | some y =>
    rcases Fr.get_upd hg with⟨rfl,_⟩|⟨_,hy⟩
    all_goals grind
  ·show (a.tmps.setIfInBounds d u).getD t undef=yv;simp_all[Ne.symm]
theorem StE.step {ρ' : Rn} {H' : Mem} {w' : World} {v:AV} {u:Value} {d:Option Tmp} {p' : Option J} (s:StE B G n n0 ρ0 w0 x l I ρ fr ys p H a w) (h1:∀ a,a<H.next->ρ' a=ρ a) (h2:KX x w w') (h3:Below B w w') (hs:Sim B G ρ' H' w')
  (hv:VR ρ' v u) (hn:H.next<=H'.next) (hd:∀ t,d=some t->t<n) (hI:I ρ' p' a.defers w') : StE B G n n0 ρ0 w0 x l I ρ' (fr.put d v) (b2i d ys) p' H' (a.put d u) w':=by
 have hsub:Sub ρ ρ':=by
  intro a x hx
  rw[h1 a ?_];· grind
  rcases Nat.lt_or_ge a H.next with k|k
  ·exact k
  ·rw[s.sim.fresh a k] at hx;grind
 refine⟨fun b hb=>(h1 b (Nat.lt_of_lt_of_le hb s.le)).trans (s.same b hb),s.keeps.trans h2,s.below.trans h3,hs,?_,Nat.le_trans s.le hn,by grind[b3o],f5v s.ysl⟩
 rw[f5t]
 exact(s.frel.mono hsub).put hd hv
theorem c6b {i:Nat} : ∀ {l:List Nat},a3x i l=true->i∈l
 | j :: l,h=>by
  unfold a3x at h;split at h
  ·rename_i hb;simp[Dz hb]
  ·simp[c6b h]
theorem f5w {yf:YF} {rest:List Oper} {K:KF} {out:a1x} (hc:Az B G P callf) (hG:G=P.globals.size) (hy:∀ m,YOK B G P r x l m I yf)
  (hI:a3y I) (hdst:Cr n o=true) (s:StE B G n n0 ρ0 w0 x l I ρ fr ys p H a w)
  (hk:∀ fr' ys' p' H' ρ' a' w',StE B G n n0 ρ0 w0 x l I ρ' fr' ys' p' H' a' w'->K fr' ys' p' H'=out->wpListIn (FR r) m P ops (a5h B G n n0 ρ0 w0 x l I out) rest a' w')
  (hout:opE P callf yf o fr ys p H K=out) (hne:out≠.bad) :
  o.wpIn (FR r) m P a w (wpListIn (FR r) m P ops (a5h B G n n0 ρ0 w0 x l I out) rest) (a5h B G n n0 ρ0 w0 x l I out):=by
 refine⟨fun _ _=>trivial,?_⟩;have hd:=a2x hdst;unfold opE at hout;split at hout
 ·
  rename_i hkd;unfold c5w at hkd;split at hkd
  ·rename_i t hop;split at hkd
   ·rename_i ht;obtain⟨h1,h2,h3⟩:=s.ysl t (c6b ht);have hrun:(o.semAt (FR r).round a.eval).run P w=.ok (.value (.func (.yield l) #[] #[])) w:=by
     rw[Oper.semAt_eq _ _ _ (by grind)];have:a.eval (.tmp t)=.func (.yield l) #[] #[]:=h3;simp_all[execOp]
    rw[hrun];show wpListIn _ _ _ _ _ _ (a.put o.dst _) w;unfold mvE at hout;split at hout
    ·grind
    ·rename_i d hdd;split at hout
     ·rename_i hg;refine hk fr (d :: ys) p H ρ _ w ⟨s.same,s.keeps,s.below,s.sim,?_,s.le,by rw[b3o];exact s.inv,?_⟩ hout
      ·rw[hdd];refine⟨fun j v hj hjn=>?_,s.frel.dfr,?_,s.frel.only⟩
       ·have hjd:j≠d:=fun e=>by grind
        have:=s.frel.slot j v hj hjn;show VR ρ v ((a.tmps.setIfInBounds d _).getD j undef);rw[Array.getD_eq_getD_getElem?,Array.getElem?_setIfInBounds_ne (Ne.symm hjd),<- Array.getD_eq_getD_getElem?];exact this
       ·show n<=(a.tmps.setIfInBounds d _).size;simp;exact s.frel.size
      ·intro j hj;rw[hdd];have hdn:=hd d hdd;have hsz:d<a.tmps.size:=Eh hdn s.frel.size;by_cases hjd:j=d
       ·subst hjd;refine⟨hdn,hg,?_⟩;show (a.tmps.setIfInBounds j _).getD j undef=_;simp_all
       ·have hj' : j∈ys:=by grind
        obtain⟨k1,k2,k3⟩:=s.ysl j hj';refine⟨k1,k2,?_⟩;show (a.tmps.setIfInBounds d _).getD j undef=_;simp_all[Ne.symm]
     grind
   grind
  all_goals grind
 ·
  rename_i args hkd;unfold c5w at hkd;split at hkd
  ·grind
  ·rename_i c hop;split at hkd
   ·rename_i t hcal;split at hkd
    ·rename_i ht;cases hkd;obtain⟨h1,h2,h3⟩:=s.ysl t (c6b ht);unfold ylE at hout;split at hout
     ·rename_i vs hvs;split at hout
      ·rename_i b p' H' hyf;have hva:VRs ρ vs (c.args.map a.eval).toList:=by simpa using evals_VRs s.ev hvs
       obtain⟨f,tm,asg,bd,hrun,hround⟩:=hy (m-1) vs H b p' H' hyf ρ (c.args.map a.eval) a.defers w s.sim hva s.inv;have hrun2:(o.semAt (FR r).round a.eval).run P w=.ok (.round l f tm asg bd) w:=by
        rw[Oper.semAt_eq _ _ _ (by grind)];have:a.eval (.tmp t)=.func (.yield l) #[] #[]:=h3;grind[invoke,Deferred.ofValue,resolve,execOp]
       rw[hrun2,Oper.uponIn_round];refine⟨fun h=>(by cases h),hround.mono fun e w' he=>?_⟩;obtain⟨rfl,ρ',g1,g2,g3,g4,g5,g6⟩:=he;exact hk _ _ _ _ _ _ _ (s.step (v:=.lit (.bool b)) (u:=.bool b) g1 g2 g3 g4 rfl g5 hd g6) hout
      grind
     grind
    grind
   grind
  grind
 ·rename_i hkd;split at hout
  ·rename_i hnd;have hop:∀ c,o.op≠.defer c:=by
    grind[a4o]
   rw[Oper.semAt_eq _ _ _ hop];have hrs:=a5v (o:=o) s.sim s.ev hG;unfold afE at hout
   cases hr:opV P H fr.ev o with
   | val v H' =>
    rw[hr] at hrs hout;obtain⟨ρ',u,w',h1,h2,h3,h4,h5⟩:=hrs;rw[h1];exact hk _ _ _ _ _ _ _ (s.step h2.same h2.keeps.kx h2.below h3 h4 h5 hd (hI _ _ _ _ _ _ s.inv h2.keeps h2.below.size (h2.sub s.sim))) hout
   | skip H' =>
    rw[hr] at hrs hout;obtain⟨ρ',w',h1,h2,h3,h5⟩:=hrs;rw[h1];exact hk _ _ _ _ _ _ _ (s.step h2.same h2.keeps.kx h2.below h3 (a4v _) h5 hd (hI _ _ _ _ _ _ s.inv h2.keeps h2.below.size (h2.sub s.sim))) hout
   | enter f args H' =>
    rw[hr] at hrs hout;obtain⟨us,h1,h2,rfl⟩:=hrs;rw[h1,Oper.uponIn_enter];refine⟨fun h=>(by cases h),?_⟩
    cases hcall:callf f args H' with
    | ret v H2 =>
     dsimp only at hout;rw[hcall] at hout;have:=hc f args H' (by grind) ρ us w s.sim h2;rw[hcall] at this;refine(c5z this).mono fun e w' he=>?_
     cases e with
     | returned u =>
      obtain⟨ρ',g1,g2,g3,g4⟩:=he;exact hk _ _ _ _ _ _ _ (s.step g1.same g1.keeps.kx g1.below g2 g3 g4 hd (hI _ _ _ _ _ _ s.inv g1.keeps g1.below.size (g1.sub s.sim))) hout
     | panicked chain=>exact he.elim
     | outgrown=>exact he.elim
    | panic v H2=>grind
    | bad=>grind
   | dfr fn cap args H'=>grind
   | recover=>grind
   | panic v H'=>grind
   | bad=>grind
  grind
theorem d4h {b:Bool} (s:StE B G n n0 ρ0 w0 x l I ρ fr ys p H a w) (h:c5x ops o fr=some b) : Region.wanted o (yielded ops a.tmps)=b:=by
 unfold c5x at h
 cases hg:o.guard with
 | none=>grind[Region.wanted]
 | some g=>rw[hg] at h;exact b9g (a:=Act.bare a) s.st hg h
theorem c6c {yf:YF} (hc:Az B G P callf) (hG:G=P.globals.size) (hy:∀ m,YOK B G P r x l m I yf) (hI:a3y I) {out:a1x} (hne:out≠.bad) :
  ∀ (li:List Oper) (fr:Fr) (ys:List Nat) (p:Option J) (H:Mem) (ρ:Rn) (a:Act) (w:World),(∀ o∈li,Cr n o=true)->StE B G n n0 ρ0 w0 x l I ρ fr ys p H a w->b7e P callf yf ops li fr ys p H=out ->
   wpListIn (FR r) m P ops (a5h B G n n0 ρ0 w0 x l I out) li a w
 | [],fr,ys,p,H,ρ,a,w,_,s,h=>by
  have h' : a1x.norm fr ys p H=out:=h;subst h';exact wpListIn_nil ⟨rfl,ρ,s⟩
 | o :: li,fr,ys,p,H,ρ,a,w,hd,s,h=>by
  have hdo:=hd o (by simp);unfold b7e at h;unfold wpListIn;split at h
  ·rename_i hw;rw[if_pos (d4h s hw)];exact f5w hc hG hy hI hdo s (fun fr' ys' p' H' ρ' a' w' s' hk=>c6c hc hG hy hI hne li fr' ys' p' H' ρ' a' w' (fun o ho=>hd o (by simp[ho])) s' hk) h hne
  ·rename_i hw;rw[if_neg (by grind[d4h])];exact⟨fun _ _=>trivial,c6c hc hG hy hI hne li _ _ _ _ ρ _ _ (fun o ho=>hd o (by grind)) (s.step (fun _ _=>rfl) (KX.refl _ _) (Below.refl _ _) s.sim (a4v _) (Dm _) (a2x hdo) s.inv) h⟩
  grind
def Act.df (a:Act) (x:List Deferred) : Act:={ a with defers:=x }
theorem b7f (a:Act) (x:List Deferred) (d:Option Tmp) (v:Value) : (Act.df a x).put d v=Act.df (a.put d v) x:=by cases d<;>rfl
theorem f5x (a:Act) (x:List Deferred) : (Act.df a x).eval=a.eval:=by rfl
theorem f5y {row:String} {w:World} {R:Value->World->Prop} (h:Rows P row args w R) : RowsIn (FR r) m P row args w R :=
 fun c cs _=>let ⟨v,w',hr,s⟩:=h c cs;⟨v,w',hr,stepsIn_wide.2 s⟩
theorem a8o (hnd:ops.toList.all a4o=true) (hQ:¬LetsOut Q) (D0:List Deferred) : ∀ (li:List Nat) (a:Act) (x:List Deferred) (w:World),a.defers=x++D0->wpOps P ops Q li (Act.df a x) w ->
  wpOpsIn (FR r) m P ops (fun e a' w'=>∃ y,a'.defers=y++D0/\Q e (Act.df a' y) w') li a w
 | [],a,x,w,ha,h=>⟨x,ha,h⟩
 | i :: li,a,x,w,ha,h=>by
  unfold wpOps at h;unfold wpOpsIn
  cases ho:ops[i]? with
  | none=>rw[ho] at h;exact a8o hnd hQ D0 li a x w ha h
  | some o =>
   rw[ho] at h;dsimp only at h |-;have hno:=Ec.1 hnd o (En (Cs.2 ho));have hop:∀ c,o.op≠.defer c:=by
    grind[a4o]
   have hdd:∀ d v,(a.put d v).defers=x++D0:=fun d v=>by grind[b3o]
   split at h
   ·rename_i hw;rw[if_pos (show Region.wanted o (yielded ops a.tmps)=true from hw)];rcases h with h|⟨_,h2⟩
    ·refine⟨fun _ _=>trivial,?_⟩;rw[Oper.semAt_eq _ _ _ hop];unfold Oper.wp at h;rw[f5x] at h;unfold Oper.upon at h;split at h
     ·rename_i hr;rw[hr];rw[b7f] at h;exact a8o hnd hQ D0 li _ x _ (hdd _ _) h
     ·rename_i hr;rw[hr];rw[b7f] at h;exact a8o hnd hQ D0 li _ x _ (hdd _ _) h
     ·rename_i d w' hr;rw[hr,Oper.uponIn_defer];refine a8o hnd hQ D0 li _ (d :: x) _ (by grind[b3o]) ?_;have e:Act.df (({ a with defers:=d :: a.defers } : Act).put o.dst undef) (d :: x)=({ Act.df a x with defers:=d :: (Act.df a x).defers } : Act).put o.dst undef:=by
       cases o.dst<;>rfl
      grind
     ·rename_i f args w' hr;rw[hr,Oper.uponIn_enter];refine⟨fun h=>(by cases h),(c5z h).mono fun e w2 he=>?_⟩
      cases e with
      | returned v=>dsimp only at he |-;rw[b7f] at he;exact a8o hnd hQ D0 li _ x _ (hdd _ _) he
      | panicked c=>exact⟨x,ha,he⟩
      | outgrown=>exact absurd he hQ
     ·rename_i row args w' hr;rw[hr,Oper.uponIn_row];refine⟨fun h=>(by cases h),(f5y h).mono fun v w2 he=>?_⟩;rw[b7f] at he;exact a8o hnd hQ D0 li _ x _ (hdd _ _) he
     ·rename_i v w' hr;rw[hr];exact⟨x,ha,h⟩
     grind
    grind
   ·rename_i hw;rw[if_neg (show ¬Region.wanted o (yielded ops a.tmps)=true from hw)];refine⟨fun _ _=>trivial,a8o hnd hQ D0 li _ x _ (hdd _ _) ?_⟩;grind[b7f]
theorem f5z {next next': Act->World->Prop} {Q': Exit->Act->World->Prop} (hn:∀ a w,next a w->next' a w) (hq:∀ e a w,Q e a w->Q' e a w) {F:Fence} {re:Result Next} (h:o.uponIn F m P a next Q re) : o.uponIn F m P a next' Q' re:=by
 have hl:LetsOut Q->LetsOut Q':=fun⟨a,w,h⟩=>⟨a,w,hq _ _ _ h⟩;unfold Oper.uponIn at h |-;split at h
 ·grind
 ·grind
 ·grind
 ·refine⟨h.1,h.2.mono fun e w' he=>?_⟩;grind
 ·exact⟨h.1,h.2.mono fun v w' he=>hn _ _ he⟩
 ·refine⟨h.1,h.2.mono fun e w' he=>?_⟩;grind
 all_goals grind
theorem b7g {F:Fence} {Q': Exit->Act->World->Prop} (hq:∀ e a w,Q e a w->Q' e a w) : ∀ (l:List Nat) (a:Act) (w:World),wpOpsIn F m P ops Q l a w->wpOpsIn F m P ops Q' l a w
 | [],a,w,h=>hq _ _ _ h
 | i :: l,a,w,h=>by
  unfold wpOpsIn at h |-
  cases ho:ops[i]? with
  | none=>rw[ho] at h;exact b7g hq l a w h
  | some o =>
   rw[ho] at h;dsimp only at h |-;split at h
   ·rename_i hw;rw[if_pos hw];exact⟨h.1,f5z (b7g hq l) hq h.2⟩
   ·rename_i hw;rw[if_neg hw];exact⟨h.1,b7g hq l _ _ h.2⟩
theorem f6a {id:Nat} (hcs:∀ B,Az B G P callf) (hG:G=P.globals.size) (hI:a3y I) (hd:Au n (.region id ops true)=true)
  (s:StE B G n n0 ρ0 w0 x l I ρ fr ys p H a w) (hne:c0t P callf ops fr ys p H≠.bad) : (Code.region id ops true).wpIn (FR r) m P (a5h B G n n0 ρ0 w0 x l I (c0t P callf ops fr ys p H)) a w:=by
 unfold c0t at hne |-;split at hne
 ·rename_i hnd;split at hne
  ·rename_i fr' H' hr;split at hne
   case h_2=>grind
   rename_i hfd;refine wpIn_region_draw fun t=>?_;have hq:¬LetsOut (a0d B G n H.next ρ w (b0j P callf ops fr H)):=by
    rintro⟨a',w',h⟩;rw[hr] at h;assumption
   have key:=a8o (r:=r) (m:=m) hnd hq a.defers _ a [] _ rfl (d4a (id:=id) hcs hG s.st hd (by grind) t);refine b7g ?_ _ _ _ key;rintro e a' w' ⟨y,hy,h⟩;rw[hr] at h
   cases e with
   | normal =>
    obtain⟨ρ',s'⟩:=h;have hy0:y=[]:=by
     have h1:DR ρ' fr'.defers y:=s'.frel.dfr;rw[hfd] at h1;exact h1
    subst hy0;refine⟨rfl,ρ',fun b hb=>(s'.ext.same b (Eh hb s.le)).trans (s.same b hb),s.keeps.trans s'.ext.keeps.kx,s.below.trans s'.ext.below,s'.sim,s'.frel,Dw s.le s'.le,?_,by simp⟩;have hy' : a'.defers=a.defers:=by grind
    rw[hy'];exact hI _ _ _ _ _ _ s.inv s'.ext.keeps s'.ext.below.size (s'.ext.sub s.sim)
   | _=>exact h.elim
  grind
 grind
end Go.Ai
end
section
namespace Go.Ai
open Go.RowKit (Below)
variable {B G n n0 m l:Nat} {P:Program} {ρ0 ρ:Rn} {w0 w:World} {x r:Option Nat} {I:Inv} {fr:Fr} {ys:List Nat} {p:Option J} {H:Mem} {a:Act}
variable {callf:CallF} {yf:YF} {rf:RF}
def LWR (r:Option Nat) (P:Program) (c:Code) (Q:Exit->Act->World->Prop) (a:Act) (w:World) : Prop :=
 ∀ (b:Frame) (k:List Item) (cs:List Frame),b.roundOf=r->∃ e a' w',Q e a' w'/\ArrivesIn (Machine.fenced P (FR r)) P (lone (b.atR a (.code c :: .inLoop c :: k)) cs w) b k cs e a' w'
theorem d4i (n:Nat) : (FR r).room n:=fun _ h=>by cases h
theorem d4j {b:Frame} {k:List Item} {cs:List Frame} (hr:b.roundOf=r) (ha:(b.atR a k).about P w=none) : (lone (b.atR a k) cs w).fenced P (FR r):=fenced_calm (n:=0) (F:=FR r) trivial (d4i _) ha
theorem LWR.wp {c:Code} {Q:Exit->Act->World->Prop} (h:LWR r P c Q a w) : (Code.loop c).wpIn (FR r) m P Q a w :=
 fun b k cs hro _ _=>let ⟨e,a',w',q,s⟩:=h b k cs hro;⟨e,a',w',q,.of_steps (.one (d4j hro rfl) stepR_loop) s⟩
theorem LWR.unroll {c:Code} {Q:Exit->Act->World->Prop} (h:c.wpIn (FR r) m P (Exit.then (LWR r P c Q) Q) a w) : LWR r P c Q a w:=by
 intro b k cs hro;obtain⟨e,a₁,w₁,hq,harr⟩:=h b (.inLoop c :: k) cs hro trivial (d4i _)
 cases e with
 | normal =>
  obtain⟨e₂,a₂,w₂,hq₂,harr₂⟩:=hq b k cs hro;exact⟨e₂,a₂,w₂,hq₂,.of_steps (StepsIn.trans harr (.one (d4j hro rfl) stepR_inLoop)) harr₂⟩
 | exit id=>exact⟨_,a₁,w₁,hq,.pass (x:=.inLoop c) rfl (fun _ _=>.inl (by simp)) harr⟩
 | goto l=>exact⟨_,a₁,w₁,hq,.pass (x:=.inLoop c) rfl (fun _ _=>.inl (by simp)) harr⟩
 | ret=>exact⟨_,a₁,w₁,hq,.pass (x:=.inLoop c) rfl (fun _ _=>.inl (by simp)) harr⟩
 | panic ch=>exact⟨_,a₁,w₁,hq,.pass (x:=.inLoop c) rfl (fun _ _=>.inl (by simp)) harr⟩
 | outgrown=>exact⟨_,a₁,w₁,hq,.pass (x:=.inLoop c) rfl (fun _ _=>.inl (by simp)) harr⟩
def d4k (B G n n0:Nat) (P:Program) (r x:Option Nat) (l m:Nat) (I:Inv) (ex:KF) (c:Code) : Prop :=
 ∀ (ρ0:Rn) (w0:World) (ρ:Rn) (fr:Fr) (ys:List Nat) (p:Option J) (H:Mem) (a:Act) (w:World),Au n c=true->StE B G n n0 ρ0 w0 x l I ρ fr ys p H a w->ex fr ys p H≠.bad ->
  c.wpIn (FR r) m P (a5h B G n n0 ρ0 w0 x l I (ex fr ys p H)) a w
def c6d (B G n n0:Nat) (P:Program) (r x:Option Nat) (l:Nat) (I:Inv) (loopf:LFE) : Prop :=
 ∀ (b:Code) (ρ0:Rn) (w0:World) (ρ:Rn) (fr:Fr) (ys:List Nat) (p:Option J) (H:Mem) (a:Act) (w:World),Au n b=true->StE B G n n0 ρ0 w0 x l I ρ fr ys p H a w->loopf b fr ys p H≠.bad ->
  LWR r P b (a5h B G n n0 ρ0 w0 x l I (loopf b fr ys p H)) a w
theorem d4l {o:a1x} {k:KF} {K:Act->World->Prop} (hne:b0k o k≠.bad)
  (hk:∀ fr' ys' p' H' ρ' a' w',o=.norm fr' ys' p' H'->StE B G n n0 ρ0 w0 x l I ρ' fr' ys' p' H' a' w'->k fr' ys' p' H'≠.bad->K a' w') :
  ∀ e a' w',a5h B G n n0 ρ0 w0 x l I o e a' w'->Exit.then K (a5h B G n n0 ρ0 w0 x l I (b0k o k)) e a' w':=by
 intro e a' w' h
 cases o with
 | norm fr' ys' p' H'=>obtain⟨rfl,ρ',s'⟩:=h;exact hk _ _ _ _ ρ' a' w' rfl s' hne
 | jump j fr' ys' p' H' =>
  have h0:=h;obtain⟨rfl,ρ',s'⟩:=h0;cases j<;>exact h
 | bad=>exact absurd rfl hne
theorem d4m {loopf:LFE} {b:Code} (hl:c6d B G n n0 P r x l I loopf) (hb:d4k B G n n0 P r x l m I (Cj P callf yf rf loopf b) b) (ρ0:Rn) (w0:World) (ρ:Rn) (fr:Fr) (ys:List Nat) (p:Option J) (H:Mem) (a:Act) (w:World)
  (hd:Au n b=true) (s:StE B G n n0 ρ0 w0 x l I ρ fr ys p H a w) (hne:b0k (Cj P callf yf rf loopf b fr ys p H) (loopf b)≠.bad) :
  LWR r P b (a5h B G n n0 ρ0 w0 x l I (b0k (Cj P callf yf rf loopf b fr ys p H) (loopf b))) a w:=by
 have hr:Cj P callf yf rf loopf b fr ys p H≠.bad:=fun h=>hne (by rw[h];rfl);refine LWR.unroll (m:=m) (Code.wpIn_mono (d4l hne fun fr' ys' p' H' ρ' a' w' hr' s' hk=>?_) (hb ρ0 w0 ρ fr ys p H a w hd s hr));rw[hr'];exact hl b ρ0 w0 ρ' fr' ys' p' H' a' w' hd s' hk
theorem b4c {loopf:LFE} (hcs:∀ B,Az B G P callf) (hG:G=P.globals.size) (hy:∀ m,YOK B G P r x l m I yf) (hI:a3y I)
  (hrf:ROK B G n n0 P r x l m I rf) (hl:c6d B G n n0 P r x l I loopf) : ∀ c:Code,d4k B G n n0 P r x l m I (Cj P callf yf rf loopf c) c:=by
 intro c
 induction c with
 | skip=>intro ρ0 w0 ρ fr ys p H a w hd s hne;exact wpIn_skip ⟨rfl,ρ,s⟩
 | region id ops draw =>
  intro ρ0 w0 ρ fr ys p H a w hd s hne
  cases draw with
  | false =>
   refine wpIn_region_list (c6c (hcs B) hG hy hI hne ops.toList fr ys p H ρ a w ?_ s rfl);exact fun o ho=>Ec.1 hd o ho
  | true=>exact f6a hcs hG hI hd s hne
 | seq c1 c2 ih1 ih2 =>
  intro ρ0 w0 ρ fr ys p H a w hd s hne;have he:Cj P callf yf rf loopf (.seq c1 c2) fr ys p H=b0k (Cj P callf yf rf loopf c1 fr ys p H) (Cj P callf yf rf loopf c2):=rfl;rw[he] at hne |-;simp only[Au,Dq] at hd;have hr:Cj P callf yf rf loopf c1 fr ys p H≠.bad:=fun h=>hne (by rw[h];rfl);refine wpIn_seq (Code.wpIn_mono (d4l hne fun fr' ys' p' H' ρ' a' w' hr' s' hk=>?_) (ih1 ρ0 w0 ρ fr ys p H a w hd.1 s hr));rw[hr'];exact ih2 ρ0 w0 ρ' fr' ys' p' H' a' w' hd.2 s' hk
 | cond cnd c1 c2 ih1 ih2 =>
  intro ρ0 w0 ρ fr ys p H a w hd s hne;simp only[Au,Dq] at hd
  have he:Cj P callf yf rf loopf (.cond cnd c1 c2) fr ys p H=(match fr.ev cnd with
   | some (.lit (.bool true))=>Cj P callf yf rf loopf c1 fr ys p H
   | some (.lit (.bool false))=>Cj P callf yf rf loopf c2 fr ys p H
   | _=>.bad):=rfl
  rw[he] at hne |-;split at hne
  ·rename_i hev;exact wpIn_cond_true (s.ev _ _ hev) (ih1 ρ0 w0 ρ fr ys p H a w hd.1 s hne)
  ·rename_i hev;exact wpIn_cond_false (s.ev _ _ hev) (ih2 ρ0 w0 ρ fr ys p H a w hd.2 s hne)
  grind
 | block id b ih =>
  intro ρ0 w0 ρ fr ys p H a w hd s hne;have he:Cj P callf yf rf loopf (.block id b) fr ys p H=c5y id (Cj P callf yf rf loopf b fr ys p H):=rfl;rw[he] at hne |-;have hr:Cj P callf yf rf loopf b fr ys p H≠.bad:=fun h=>hne (by rw[h];rfl);refine wpIn_block (Code.wpIn_mono ?_ (ih ρ0 w0 ρ fr ys p H a w hd s hr));intro e a' w' h;generalize Cj P callf yf rf loopf b fr ys p H=o at h hne |-
  cases o with
  | norm fr' ys' p' H'=>obtain⟨rfl,h'⟩:=h;exact⟨rfl,h'⟩
  | jump j fr' ys' p' H' =>
   obtain⟨rfl,ρ',s'⟩:=h
   cases j with
   | none=>exact⟨rfl,ρ',s'⟩
   | some id2 =>
    unfold c5y;dsimp only[jexit];split
    ·rename_i hb;have:=Dz hb;subst this;simp only[Exit.inBlock,if_true];exact⟨rfl,ρ',s'⟩
    ·rename_i hb;have hne2:id2≠id:=by intro h0;simp_all
     simp only[Exit.inBlock,hne2,if_false];exact⟨rfl,ρ',s'⟩
  | bad=>exact absurd rfl hne
 | loop b ih =>
  intro ρ0 w0 ρ fr ys p H a w hd s hne;exact(d4m hl ih ρ0 w0 ρ fr ys p H a w hd s hne).wp
 | rangeFunc g ps c1 c2 ih1 ih2 =>
  intro ρ0 w0 ρ fr ys p H a w hd s hne
  cases ys with
  | cons y ys=>exact absurd rfl hne
  | nil =>
   have he:Cj P callf yf rf loopf (.rangeFunc g ps c1 c2) fr [] p H=(match rf g ps c1 c2 fr H with
    | .ok none H'=>.norm fr [] p H'
    | .ok (some j) H'=>.jump j fr [] p H'
    | .bad=>.bad):=rfl
   rw[he] at hne |-;split at hne
   ·rename_i H' hrr;exact hrf _ _ _ _ _ _ _ _ hrr ρ0 w0 ρ p a w s
   ·rename_i j H' hrr;exact hrf _ _ _ _ _ _ _ _ hrr ρ0 w0 ρ p a w s
   grind
 | exit id=>intro ρ0 w0 ρ fr ys p H a w hd s hne;exact wpIn_exit ⟨rfl,ρ,s⟩
 | scope b ih=>intro ρ0 w0 ρ fr ys p H a w hd s hne;exact absurd rfl hne
 | label l=>intro ρ0 w0 ρ fr ys p H a w hd s hne;exact wpIn_label ⟨rfl,ρ,s⟩
 | goto l=>intro ρ0 w0 ρ fr ys p H a w hd s hne;exact absurd rfl hne
 | ret=>intro ρ0 w0 ρ fr ys p H a w hd s hne;exact wpIn_ret ⟨rfl,ρ,s⟩
 | refuse why=>intro ρ0 w0 ρ fr ys p H a w hd s hne;exact absurd rfl hne
theorem b2j (hcs:∀ B,Az B G P callf) (hG:G=P.globals.size) (hy:∀ m,YOK B G P r x l m I yf) (hI:a3y I)
  (hrf:∀ m,ROK B G n n0 P r x l m I rf) : ∀ k,c6d B G n n0 P r x l I (a6c P callf yf rf k)
 | 0=>fun b ρ0 w0 ρ fr ys p H a w hd s hne=>absurd rfl hne
 | k+1=>fun b ρ0 w0 ρ fr ys p H a w hd s hne=>d4m (m:=0) (b2j hcs hG hy hI hrf k) (b4c hcs hG hy hI (hrf 0) (b2j hcs hG hy hI hrf k) b) ρ0 w0 ρ fr ys p H a w hd s hne
end Go.Ai
end
section
namespace Go.Ai
open Go.RowKit (Below)
variable {B G n n0 m l:Nat} {P:Program} {ρ0 ρ:Rn} {w0 w:World} {x r:Option Nat} {I:Inv} {fr fr0:Fr} {ys:List Nat} {p:Option J} {H:Mem} {a:Act} {callf:CallF} {fid D:Nat} {tm:Array Value} {ps:Array Tmp} {asg body:Code} {fuel:Nat}
theorem b2k {o:Obj} (hB:B<=l) : Below B w (w.putObj l o):=⟨rfl,rfl,rfl,by simp,fun k hk=>World.putObj_heap_other (by omega)⟩
theorem c0u {o:Obj} : KX (some l) w (w.putObj l o):=⟨fun k ob hk ho hx=>by
 grind[World.putObj_heap_other],Dm _⟩
theorem b2l {o ob:Obj} (s:Sim B G ρ H w) (hl:w.heap[l]?=some ob) (ho:isMk ob=true) : Sim B G ρ H (w.putObj l o) :=
 s.mark hl ho (fun k hk=>World.putObj_heap_other hk) (by simp)
noncomputable def yBad:YF:=fun _ _=>.bad
noncomputable def rBad:RF:=fun _ _ _ _ _ _=>.bad
theorem b0l (m:Nat) : YOK B G P r x l m I yBad:=fun _ _ _ _ _ h=>by cases h
theorem b0m (m:Nat) : ROK B G n n0 P r x l m I rBad:=fun _ _ _ _ _ _ _ _ h=>by cases h
noncomputable def putPs:List Tmp->List AV->Fr->Fr
 | t :: ts,v :: vs,fr=>putPs ts vs (fr.upd t v)
 | _,_,fr=>fr
theorem putPs_ok:∀ {ps:List Tmp} {vs:List AV} {us:List Value} {fr:Fr} {tm:Array Value},(∀ t∈ps,t<n)->VRs ρ vs us->a0v n ρ fr { tmps:=tm,defers:=[] } ->
  a0v n ρ (putPs ps vs fr) { tmps:=(ps.zip us).foldl (fun tmps (t,a)=>tmps.setIfInBounds t a) tm,defers:=[] }
 | [],vs,us,fr,tm,_,_,h=>by assumption
 | t :: ts,[],us,fr,tm,_,hv,h=>by cases hv;assumption
 | t :: ts,v :: vs,us,fr,tm,ht,hv,h=>by
  obtain⟨u,us',rfl,h1,h2⟩:=hv;have:=a0v.put (d:=some t) h (fun j hj=>by simp_all) h1;exact putPs_ok (ps:=ts) (vs:=vs) (us:=us') (fr:=fr.upd t v) (tm:=tm.setIfInBounds t u) (fun j hj=>ht j (by grind)) h2 this
def a0y (fid:FuncId) (tm:Array Value) (ps:Array Tmp) (asg body:Code) (D:Nat) (st:LoopState) (pd:Option Code) : Loop:={ state:=st,pending:=pd,fn:=fid,tmps:=tm,params:=ps,assign:=asg,body:=body,defers:=D }
def IR (fid:FuncId) (tm:Array Value) (ps:Array Tmp) (asg body:Code) (D l:Nat) (st:LoopState) : Inv:=fun _ _ ds w=>ds=[]/\w.heap[l]?=some (.loop (a0y fid tm ps asg body D st none))
def a6d (p:Option J) : LoopState:=match p with|none=>.ready|some _=>.done
def II (n:Nat) (fr0:Fr) (fid:FuncId) (tm:Array Value) (ps:Array Tmp) (asg body:Code) (D l:Nat) : Inv:=fun ρ p ds w=>ds=[]/\a0v n ρ fr0 { tmps:=tm,defers:=[] }/\w.heap[l]?=some (.loop (a0y fid tm ps asg body D (a6d p) (p.map jcode)))
theorem b0n {st:LoopState} : a3y (IR fid tm ps asg body D l st):=fun _ _ _ _ _ _ h hk _ _=>⟨h.1,hk.1 _ _ h.2 rfl⟩
theorem II_ok:a3y (II n fr0 fid tm ps asg body D l):=fun _ _ _ _ _ _ h hk _ hs=>⟨h.1,h.2.1.mono hs,hk.1 _ _ h.2.2 rfl⟩
noncomputable def yfR (P:Program) (callf:CallF) (fuel:Nat) (ps:Array Tmp) (asg body:Code) (fr0:Fr) : YF:=fun vs H=>match Nat.beq vs.length ps.size with
 | true=>(match Cj P callf yBad rBad (a6c P callf yBad rBad fuel) asg (putPs ps.toList vs fr0) [] none H with
  | .norm fr1 ys1 p1 H1=>(match Cj P callf yBad rBad (a6c P callf yBad rBad fuel) body fr1 ys1 p1 H1 with
   | .norm _ _ _ H2=>.ok true none H2
   | .jump j _ _ _ H2=>.ok false (some j) H2
   | .bad=>.bad)
  | _=>.bad)
 | false=>.bad
theorem c0v {ρ' : Rn} (s:Sim B G ρ H w) (h:∀ a,a<H.next->ρ' a=ρ a) : Sub ρ ρ':=by
 intro a y hy
 rw[h a ?_];· grind
 rcases Nat.lt_or_ge a H.next with k|k
 ·exact k
 ·rw[s.fresh a k] at hy;grind
theorem d4n (hcs:∀ B,Az B G P callf) (hG:G=P.globals.size) (hB:B<=l) (hps:∀ t∈ps.toList,t<n) (hda:Au n asg=true) (hdb:Au n body=true) (m:Nat) :
  YOK B G P none (some l) l m (II n fr0 fid tm ps asg body D l) (yfR P callf fuel ps asg body fr0):=by
 intro vs H b p' H' hyf ρ us ds w hs hv hI;obtain⟨rfl,hfr,hl⟩:=hI;unfold yfR at hyf;split at hyf
 ·rename_i hlen;have hlen':=Dz hlen;have hsz:us.size=ps.size:=by have:=hv.length;grind
  refine⟨fid,_,asg,body,run_yield hl hsz,roundIn_of_wpIn trivial ?_⟩;generalize htm:((a0y fid tm ps asg body D (a6d none) (Option.map jcode none)).params.zip us).foldl (fun tmps (t,a)=>tmps.setIfInBounds t a) (a0y fid tm ps asg body D (a6d none) (Option.map jcode none)).tmps=tm1;have hfr1:a0v n ρ (putPs ps.toList vs fr0) { tmps:=tm1,defers:=[] }:=by
   have:=putPs_ok hps hv hfr;rw[<- htm];show a0v n ρ (putPs ps.toList vs fr0) { tmps:=(ps.zip us).foldl (fun tmps (t,a)=>tmps.setIfInBounds t a) tm,defers:=[] };grind[Array.toList_zip]
  have s0:StE B G n H.next ρ w none 0 (IR fid tm ps asg body D l .ready) ρ (putPs ps.toList vs fr0) [] none H { tmps:=tm1,defers:=[] } w :=
   ⟨fun _ _=>rfl,KX.refl _ _,Below.refl _ _,hs,hfr1,Dm _,⟨rfl,hl⟩,by simp⟩
  split at hyf
  ·rename_i fr1 ys1 p1 H1 he1;have key:asg.wpIn (FR (some l)) m P _ _ _:=b4c (r:=some l) (m:=m) hcs hG b0l b0n (b0m m) (b2j hcs hG b0l b0n b0m fuel) asg ρ w ρ _ [] none H _ w hda s0 (by grind);rw[he1] at key;refine Code.wpIn_mono ?_ key;rintro e a1 w1 ⟨rfl,ρ1,s1⟩;obtain⟨hds1,hl1⟩:=s1.inv;refine⟨_,run_beginRound hl1 rfl,?_⟩;have hl2:(w1.putObj l (.loop { a0y fid tm ps asg body D .ready none with state:=.busy })).heap[l]?=some (.loop (a0y fid tm ps asg body D .busy none)):=World.putObj_heap_same (g3x.1 hl1).1;generalize hw2:w1.putObj l (.loop { a0y fid tm ps asg body D .ready none with state:=.busy })=w2 at hl2 |-;have s2:StE B G n H1.next ρ1 w2 none 0 (IR fid tm ps asg body D l .busy) ρ1 fr1 ys1 p1 H1 a1 w2 :=
    ⟨fun _ _=>rfl,KX.refl _ _,Below.refl _ _,by rw[<- hw2];exact b2l s1.sim hl1 rfl,s1.frel,Dm _,⟨hds1,hl2⟩,s1.ysl⟩
   have fin:∀ {H2:Mem} {ρ2:Rn} {fr2:Fr} {ys2:List Nat} {q:Option J} {a2:Act} {w3:World} (j:Option J),StE B G n H1.next ρ1 w2 none 0 (IR fid tm ps asg body D l .busy) ρ2 fr2 ys2 q H2 a2 w3 ->
     ∃ v w4,(Instr.endRound l (j.map jcode)).run P w3=.ok v w4/\(Ending.returned v=.returned (.bool j.isNone)/\∃ ρ',(∀ a,a<H.next->ρ' a=ρ a)/\KX (some l) w w4/\Below B w w4/\Sim B G ρ' H2 w4/\H.next<=H2.next/\II n fr0 fid tm ps asg body D l ρ' j [] w4):=by
    intro H2 ρ2 fr2 ys2 q a2 w3 j s3;obtain⟨_,hl3⟩:=s3.inv;have hne:((j.map jcode).isNone)=j.isNone:=by grind
    refine⟨_,_,run_endRound _ hl3,by grind,ρ2,fun b hb=>?_,?_,?_,b2l s3.sim hl3 rfl,Dw s1.le s3.le,rfl,?_,?_⟩
    ·exact(s3.same b (Eh hb s1.le)).trans (s1.same b hb)
    ·have k1:KX (some l) w w1:=⟨fun k o hk ho hx=>s1.keeps.1 k o hk ho (by simp),s1.keeps.2⟩;have k2:KX (some l) w1 w2:=by grind[c0u]
     have k3:KX (some l) w2 w3:=⟨fun k o hk ho hx=>s3.keeps.1 k o hk ho (by simp),s3.keeps.2⟩;exact((k1.trans k2).trans k3).trans c0u
    ·have k2:Below B w1 w2:=by grind[b2k]
     exact((s1.below.trans k2).trans s3.below).trans (b2k hB)
    ·exact hfr.mono (c0v hs fun b hb=>(s3.same b (Eh hb s1.le)).trans (s1.same b hb))
    ·rw[World.putObj_heap_same (g3x.1 hl3).1];cases j<;>rfl
   split at hyf
   ·rename_i fr2 ys2 p2 H2 he2;cases hyf;have key2:body.wpIn (FR (some l)) m P _ _ _:=b4c (r:=some l) (m:=m) hcs hG b0l b0n (b0m m) (b2j hcs hG b0l b0n b0m fuel) body ρ1 w2 ρ1 _ _ _ H1 _ w2 hdb s2 (by grind);rw[he2] at key2;refine Code.wpIn_mono ?_ key2;rintro e a2 w3 ⟨rfl,ρ2,s3⟩;exact fin none s3
   ·rename_i j fr2 ys2 p2 H2 he2;cases hyf;have key2:body.wpIn (FR (some l)) m P _ _ _:=b4c (r:=some l) (m:=m) hcs hG b0l b0n (b0m m) (b2j hcs hG b0l b0n b0m fuel) body ρ1 w2 ρ1 _ _ _ H1 _ w2 hdb s2 (by grind);rw[he2] at key2;refine Code.wpIn_mono ?_ key2;rintro e a2 w3 ⟨rfl,ρ2,s3⟩
    cases j with
    | none=>exact fin (some none) s3
    | some id=>exact fin (some (some id)) s3
   grind
  grind
 grind
end Go.Ai
end
section
namespace Go.Ai
open Go.RowKit (Below)
variable {B G n n0 m l l1 lo:Nat} {P:Program} {ρ0 ρ:Rn} {w0 w:World} {x r:Option Nat} {I:Inv} {fr fr0:Fr} {ys:List Nat} {p:Option J} {H:Mem} {a:Act} {callf:CallF} {fid D:Nat} {tm:Array Value} {ps:Array Tmp} {asg body:Code} {fuel:Nat}
noncomputable def f6b (P:Program) (it:Func) (r:a1x) : c0s:=match r with
 | .norm fr _ p H=>(match a2f P it fr H with|some _=>.ok p H|none=>.bad)
 | .jump none fr _ p H=>(match a2f P it fr H with|some _=>.ok p H|none=>.bad)
 | _=>.bad
noncomputable def itE (P:Program) (callf:CallF) (fuel:Nat) (yf:YF) (f:FuncId) (cap:List AV) (H:Mem) : c0s:=match P.funcs[f]? with
 | some it=>(match it.body,Aq P f with
  | some c,true=>(match Au it.ntmps c,Nat.ble (len cap+1) it.ntmps with
   | true,true=>f6b P it (Cj P callf yf rBad (a6c P callf yf rBad fuel) c (putArgs cap (Cz it.ntmps) 1) [0] none H)
   | _,_=>.bad)
  | _,_=>.bad)
 | none=>.bad
noncomputable def rfR (P:Program) (callf:CallF) (fuel n:Nat) : RF:=fun g ps asg body fr H=>match ps.toList.all (fun t=>Nat.blt t n),Au n asg && Au n body,fr.ev g with
 | true,true,some (.func (.func f) [] cap)=>itE P callf fuel (yfR P callf fuel ps asg body fr) f cap H
 | _,_,_=>.bad
def MKs (lo:Nat) : List Deferred->World->Prop
 | [],_=>True
 | d :: ds,w=>∃ D,d.target=.collected D/\lo<=D/\w.heap[D]?=some (.deferred (some []))/\(∀ d'∈ds,d'.target≠.collected D)/\MKs lo ds w
theorem MKs.keep {w w': World} (hk:∀ D:Nat,w.heap[D]?=some (Obj.deferred (some []))->w'.heap[D]?=some (Obj.deferred (some []))) : ∀ {ds:List Deferred},MKs lo ds w->MKs lo ds w'
 | [],_=>trivial
 | _ :: _,⟨D,h1,h2,h3,h4,h5⟩=>⟨D,h1,h2,hk D h3,h4,MKs.keep hk h5⟩
theorem MKs.keepBut {w w': World} {E:Nat} (hk:∀ D,D≠E->w'.heap[D]?=w.heap[D]?) : ∀ {ds:List Deferred},(∀ d'∈ds,d'.target≠.collected E)->MKs lo ds w->MKs lo ds w'
 | [],_,_=>trivial
 | d :: _,hE,⟨D,h1,h2,h3,h4,h5⟩=>⟨D,h1,h2,by grind,h4,MKs.keepBut hk (fun d' h=>hE d' (by grind)) h5⟩
theorem MKs.lt {w:World} : ∀ {ds:List Deferred},MKs lo ds w->∀ d'∈ds,d'.target≠.collected w.heap.size
 | d :: ds,⟨D,h1,h2,h3,h4,h5⟩,d',hd=>by
  rcases Dv.1 hd with rfl|hd
  ·rw[h1];intro e;cases e;have:=(g3x.1 h3).1;omega
  ·exact MKs.lt h5 d' hd
def Iv0 (lo:Nat) : Inv:=fun _ p ds w=>p=none/\lo<=w.heap.size/\MKs lo ds w
theorem IO_ok:a3y (Iv0 lo):=fun _ _ _ _ _ _ h hk hz _=>⟨h.1,Dw h.2.1 hz,h.2.2.keep fun D hD=>hk.1 D _ hD rfl⟩
theorem f6c {cap:List AV} {cs:Array Value} {yv:Value} (hv:VRs ρ cap cs.toList) (hle:cap.length+1<=n) :
  a0v n ρ (putArgs cap (Cz n) 1) { tmps:=#[yv]++cs++Array.replicate (n-(#[yv]++cs).size) undef,defers:=[] } /\
  (∀ t,t∈[0]->t<n/\(putArgs cap (Cz n) 1).get t=none/\(#[yv]++cs++Array.replicate (n-(#[yv]++cs).size) undef).getD t undef=yv):=by
 have hsz:cs.size=cap.length:=by have:=hv.length;grind
 have hget:∀ t v,(putArgs cap (Cz n) 1).get t=some v->1<=t/\cap[t-1]?=some v:=by
  intro t v h;rcases putArgs_get _ _ _ _ _ h with h1|h1
  all_goals grind[c9b]
 refine⟨⟨?_,?_,by grind,?_⟩,?_⟩
 ·intro t v h _;obtain⟨h1,h2⟩:=hget t v h;obtain⟨u,hu,hvu⟩:=hv.get (t-1) h2
  (simp_all;grind)
 ·rw[putArgs_defers,c9c];rfl
 ·grind
 ·intro t ht;have:t=0:=by grind
  subst this;refine⟨by omega,?_,?_⟩
  ·cases hg:(putArgs cap (Cz n) 1).get 0 with
   | none=>rfl
   | some v=>grind
  simp[Array.getElem?_append_left]
theorem d4o (hcs:∀ B,Az B G P callf) (hG:G=P.globals.size) (m:Nat) : ROK B G n n0 P none none l1 m (Iv0 lo) (rfR P callf fuel n):=by
 intro g ps asg body fr H j H' hrf ρ0 w0 ρ p a w s;unfold rfR at hrf;split at hrf
 ·rename_i f cap hps hds hev;simp only[Dq] at hds;have hps' : ∀ t∈ps.toList,t<n:=fun t ht=>Dp (Ec.1 hps t ht);obtain⟨f',c',hu,h1,h2⟩:=s.ev _ _ hev;have hf' : f'=#[]:=by grind[VRs]
  subst hf';unfold itE at hrf;split at hrf
  ·rename_i it hit;split at hrf
   ·rename_i c hbd hbody;split at hrf
    ·rename_i hdst hlen;have hlen' : cap.length+1<=it.ntmps:=by simp_all[a0b]
     refine wpIn_rangeFunc fun fn _=>?_;have hen:=run_enterLoop_outer (P:=P) (w:=w) fn a.tmps ps asg body;have hal:=World.alloc_heap_new (w.alloc (.deferred (some []))) (.loop { state:=.ready,pending:=none,fn:=fn,tmps:=a.tmps,params:=ps,assign:=asg,body:=body,defers:=w.heap.size });rw[World.size_alloc] at hal;generalize hl0:w.heap.size+1=l at hen hal;generalize hw1:(w.alloc (.deferred (some []))).alloc (.loop { state:=.ready,pending:=none,fn:=fn,tmps:=a.tmps,params:=ps,assign:=asg,body:=body,defers:=w.heap.size })=w1 at hen hal;refine⟨l,_,w1,{ target:=.fn (.func f) c',args:=#[.func (.yield l) #[] #[]] },w1,f,#[.func (.yield l) #[] #[]]++c',w1,hen,?_,fun _ _=>trivial,?_,fun h=>(by cases h),?_⟩
     ·have hcst:∀ v:Value,a.eval (.const v)=v:=fun _=>rfl;simp_all[Deferred.ofValue,resolve]
     ·exact b9d hbody _ _
     ·
      have hsz1:w1.heap.size=w.heap.size+2:=by rw[<- hw1];simp
      have hdrw:w.drawn<=w1.drawn:=by rw[<- hw1];simp
      have hold:∀ k,k<w.heap.size->w1.heap[k]?=w.heap[k]?:=by
       grind[Below.heap_alloc]
      have hD:w1.heap[w.heap.size]?=some (.deferred (some [])):=by
       grind[World.alloc_heap_new,Below.heap_alloc]
      have hl:w1.heap[l]?=some (.loop (a0y fn a.tmps ps asg body w.heap.size .ready none)):=hal;have hbw:Below B w w1:=by
       rw[<- hw1];exact((Below.refl B w).alloc s.sim.base _).alloc (by simp;have:=s.sim.base;omega) _
      have hsim1:Sim B G ρ H w1:=s.sim.other (by omega) fun a x b o k hx hr=>hold b (by
       rcases s.sim.blk a x hx with h|⟨b',o',k',h,hb⟩
       ·grind
       ·rw[hr] at h;cases h;exact hb.lt)
      obtain⟨hf1,hf2⟩:=f6c (yv:=.func (.yield l) #[] #[]) h2 hlen';have hB:B<=l:=by have:=s.sim.base;omega
      have s1:StE B G it.ntmps H.next ρ w1 (some l) l (II n fr fn a.tmps ps asg body w.heap.size l) ρ (putArgs cap (Cz it.ntmps) 1) [0] none H { tmps:=#[Value.func (.yield l) #[] #[]]++c'++Array.replicate (it.ntmps-(#[Value.func (.yield l) #[] #[]]++c').size) undef,defers:=[] } w1 :=
       ⟨fun _ _=>rfl,KX.refl _ _,Below.refl _ _,hsim1,hf1,Dm _,⟨rfl,s.frel,hl⟩,hf2⟩
      have hne:Cj P callf (yfR P callf fuel ps asg body fr) rBad (a6c P callf (yfR P callf fuel ps asg body fr) rBad fuel) c (putArgs cap (Cz it.ntmps) 1) [0] none H≠.bad:=fun e=>by rw[e] at hrf;cases hrf
      have key:=b4c (r:=none) (x:=some l) (l:=l) (m:=m-1) (I:=II n fr fn a.tmps ps asg body w.heap.size l) hcs hG (d4n hcs hG hB hps' hds.1 hds.2) II_ok (b0m _) (b2j hcs hG (d4n hcs hG hB hps' hds.1 hds.2) II_ok b0m fuel) c ρ w1 ρ _ [0] none H _ w1 hdst s1 hne;have fin:∀ {fr2:Fr} {ys2:List Nat} {p2:Option J} {H2:Mem} {ρ2:Rn} {a2:Act} {w3:World},StE B G it.ntmps H.next ρ w1 (some l) l (II n fr fn a.tmps ps asg body w.heap.size l) ρ2 fr2 ys2 p2 H2 a2 w3 ->
        (match a2f P it fr2 H2 with|some _=>c0s.ok p2 H2|none=>.bad)=.ok j H'->a2.defers=[]/\∃ v,(results it a2.tmps).run P w3=.ok v w3 /\
         rangePost (FR none) m P l (a5h B G n n0 ρ0 w0 none l1 (Iv0 lo) (d4g j fr p H')) { a with defers:=[{ target:=.collected w.heap.size,args:=#[] }]++a.defers } (.returned v) w3:=by
       intro fr2 ys2 p2 H2 ρ2 a2 w3 s3 hres;split at hres
       ·rename_i v hv;cases hres;obtain⟨hd3,hfr3,hl3⟩:=s3.inv;obtain⟨u,hu1,hu2⟩:=a9x s3.st hG hv;refine⟨hd3,u,hu1,_,_,run_endLoop hl3 (by cases j<;>simp[a0y,a6d]),?_⟩;have hkd:KD w (w3.putObj l (.loop { a0y fn a.tmps ps asg body w.heap.size (a6d j) (j.map jcode) with state:=.exhausted })):=by
         refine⟨fun k o hk ho=>?_,Dw hdrw s3.keeps.2⟩;have hlt:=(g3x.1 hk).1;rw[World.putObj_heap_other (by omega)];exact s3.keeps.1 k o (by grind) ho (by grind)
        have hsame:∀ a,a<H.next->ρ2 a=ρ a:=s3.same;have s4:StE B G n n0 ρ0 w0 none l1 (Iv0 lo) ρ2 fr [] p H' { a with defers:=[{ target:=.collected w.heap.size,args:=#[] }]++a.defers } (w3.putObj l (.loop { a0y fn a.tmps ps asg body w.heap.size (a6d j) (j.map jcode) with state:=.exhausted })):=by
         refine⟨fun b hb=>(hsame b (Eh hb s.le)).trans (s.same b hb),s.keeps.trans hkd.kx,((s.below.trans hbw).trans s3.below).trans (b2k hB),b2l s3.sim hl3 rfl,s.frel.mono (c0v s.sim hsame),Dw s.le s3.le,?_,by simp⟩;obtain⟨i1,i2,i3⟩:=s.inv;have hz3:=s3.below.size;refine⟨i1,by simp;omega,w.heap.size,rfl,i2,?_,i3.lt,i3.keep fun D hD=>hkd.1 D _ hD rfl⟩;rw[World.putObj_heap_other (by omega)];exact s3.keeps.1 _ _ hD rfl (by grind)
        cases j with
        | none=>exact⟨rfl,ρ2,s4⟩
        | some j =>
         cases j with
         | none=>exact wpIn_ret ⟨rfl,ρ2,s4⟩
         | some id=>exact wpIn_exit ⟨rfl,ρ2,s4⟩
       grind
      refine callsIn_of_wp hit hbd trivial (Code.wpIn_mono ?_ key);intro e a2 w3 h;generalize Cj P callf (yfR P callf fuel ps asg body fr) rBad (a6c P callf (yfR P callf fuel ps asg body fr) rBad fuel) c (putArgs cap (Cz it.ntmps) 1) [0] none H=o at h hrf
      cases o with
      | norm fr2 ys2 p2 H2=>obtain⟨rfl,ρ2,s3⟩:=h;exact fin s3 hrf
      | jump jj fr2 ys2 p2 H2 =>
       cases jj with
       | none=>obtain⟨rfl,ρ2,s3⟩:=h;exact fin s3 hrf
       | some id=>cases hrf
      | bad=>cases hrf
    grind
   grind
  grind
 grind
end Go.Ai
end
section
namespace Go.Ai
open Go.RowKit (Below)
variable {B G n n0 m l l1 lo:Nat} {P:Program} {ρ0 ρ:Rn} {w0 w wb:World} {x r:Option Nat} {I:Inv} {fr fr0:Fr} {ys:List Nat} {p:Option J} {H:Mem} {a:Act} {callf:CallF} {fuel:Nat}
theorem c6e {fn:Func} {tmps:Array Value} {R:Ending->World->Prop} (hB:B<=lo) (hlo:wb.heap.size<=lo)
  (hR:∀ w',Sim B G ρ H w'->KD wb w'->Below B wb w'->∃ v,(results fn tmps).run P w'=.ok v w'/\R (.returned v) w') :
  ∀ (ds:List Deferred) (w:World),MKs lo ds w->Sim B G ρ H w->KD wb w->Below B wb w->LeavesInM (FR none) m P fn tmps R ds .returning w
 | [],w,_,h1,h2,h3=>hR w h1 h2 h3
 | d :: ds,w,⟨D,k1,k2,k3,k4,k5⟩,h1,h2,h3=>by
  refine⟨by simp,.inl ⟨D,_,k1,run_takeDeferred k3,c6e hB hlo hR ds _ (k5.keepBut (fun E hE=>World.putObj_heap_other hE) k4) (b2l h1 k3 rfl) ?_ (h3.trans (b2k (Dw hB k2)))⟩⟩;refine⟨fun k o hk ho=>?_,h2.2⟩;have:=(g3x.1 hk).1;rw[World.putObj_heap_other (by omega)];exact h2.1 k o hk ho
noncomputable def endE (P:Program) (fn:Func) (r:a1x) : Ar:=match r with
 | .norm fr _ _ H=>(match a2f P fn fr H with|some v=>.ret v H|none=>.bad)
 | .jump none fr _ _ H=>(match a2f P fn fr H with|some v=>.ret v H|none=>.bad)
 | _=>.bad
noncomputable def d4p (P:Program) (callf:CallF) (fuel:Nat) (fn:Func) (c:Code) (args:List AV) (H:Mem) : Ar:=match Au fn.ntmps c,Nat.ble (len args) fn.ntmps with
 | true,true=>endE P fn (b5q args (Cz fn.ntmps) fun fr=>Cj P callf yBad (rfR P callf fuel fn.ntmps) (a6c P callf yBad (rfR P callf fuel fn.ntmps) fuel) c fr [] none H)
 | _,_=>.bad
noncomputable def c6f (P:Program) (callf:CallF) (fuel:Nat) (f:FuncId) (args:List AV) (H:Mem) : Ar:=match P.funcs[f]? with
 | some fn=>(match fn.body with
  | some c=>d4p P callf fuel fn c args H
  | none=>.bad)
 | none=>.bad
theorem f6d (hcs:∀ B,Az B G P callf) (hG:G=P.globals.size) : Az B G P (c6f P callf fuel):=by
 intro f args H hne ρ us w hs hv;unfold c6f at hne |-;split at hne
 ·rename_i fn hfn;split at hne
  ·rename_i c hb;unfold d4p at hne |-;split at hne
   ·rename_i hdst hlen;rw[c3n] at hne |-;have hfe:=c3o (n:=fn.ntmps) hv (by simp_all[a0b]);have s1:StE B G fn.ntmps H.next ρ w none 0 (Iv0 w.heap.size) ρ (putArgs args (Cz fn.ntmps) 0) [] none H { tmps:=us++Array.replicate (fn.ntmps-us.size) undef,defers:=[] } w :=
     ⟨fun _ _=>rfl,KX.refl _ _,Below.refl _ _,hs,hfe,Dm _,⟨rfl,Dm _,trivial⟩,by simp⟩
    have hr:Cj P callf yBad (rfR P callf fuel fn.ntmps) (a6c P callf yBad (rfR P callf fuel fn.ntmps) fuel) c (putArgs args (Cz fn.ntmps) 0) [] none H≠.bad:=fun h0=>hne (by rw[h0];rfl);have key:=b4c (r:=none) (x:=none) (l:=0) (m:=0) (I:=Iv0 w.heap.size) hcs hG b0l IO_ok (d4o hcs hG 0) (b2j hcs hG b0l IO_ok (d4o hcs hG) fuel) c ρ w ρ _ [] none H _ w hdst s1 hr;refine d4f (r:=none) (m:=0) (callsIn_of_wp_marks hfn hb trivial (Code.wpIn_mono ?_ key));intro e a' w' h;generalize Cj P callf yBad (rfR P callf fuel fn.ntmps) (a6c P callf yBad (rfR P callf fuel fn.ntmps) fuel) c (putArgs args (Cz fn.ntmps) 0) [] none H=o at h hne |-;have fin:∀ {fr2:Fr} {ys2:List Nat} {p2:Option J} {H2:Mem} {ρ2:Rn},StE B G fn.ntmps H.next ρ w none 0 (Iv0 w.heap.size) ρ2 fr2 ys2 p2 H2 a' w' ->
      (match a2f P fn fr2 H2 with|some v=>Ar.ret v H2|none=>.bad)≠.bad->LeavesInM (FR none) 0 P fn a'.tmps (a6r B G H.next ρ w (match a2f P fn fr2 H2 with|some v=>Ar.ret v H2|none=>.bad)) a'.defers .returning w':=by
     intro fr2 ys2 p2 H2 ρ2 s2 hn;split at hn
     ·rename_i v hv2;obtain⟨_,_,i3⟩:=s2.inv;refine c6e (wb:=w) (lo:=w.heap.size) (ρ:=ρ2) (H:=H2) hs.base (Dm _) (fun w4 g1 g2 g3=>?_) a'.defers w' i3 s2.sim s2.keeps.kd s2.below;obtain⟨u,hu1,hu2⟩:=a9x (⟨Ext.refl _ _ _ _,g1,s2.frel,Dm _⟩ : St B G fn.ntmps H2.next ρ2 w4 ρ2 fr2 H2 (Act.bare a') w4) hG hv2;exact⟨u,hu1,ρ2,⟨s2.same,g2,g3⟩,g1,hu2,s2.le⟩
     grind
    cases o with
    | norm fr2 ys2 p2 H2=>obtain⟨rfl,ρ2,s2⟩:=h;exact fin s2 hne
    | jump jj fr2 ys2 p2 H2 =>
     cases jj with
     | none=>obtain⟨rfl,ρ2,s2⟩:=h;exact fin s2 hne
     | some id=>exact absurd rfl hne
    | bad=>exact absurd rfl hne
   grind
  grind
 grind
def hasRange:Code->Bool
 | .seq a b=>hasRange a || hasRange b
 | .cond _ a b=>hasRange a || hasRange b
 | .block _ b=>hasRange b
 | .loop b=>hasRange b
 | .scope b=>hasRange b
 | .rangeFunc _ _ _ _=>true
 | _=>false
noncomputable def c6g (P:Program) (use:FuncId->Code->Bool) (callf:CallF) (loopf:LoopF) (fuel:Nat) (f:FuncId) (args:List AV) (H:Mem) : Ar:=match P.funcs[f]? with
 | some fn=>(match fn.body with
  | some c=>(match use f c with
   | true=>c6f P callf fuel f args H
   | false=>c5v P callf loopf f args H)
  | none=>.bad)
 | none=>.bad
theorem f6e {use:FuncId->Code->Bool} {callf:CallF} {loopf:LoopF} (hcs:∀ B,Az B G P callf) (hl:a5y B G P loopf) (hG:G=P.globals.size) : Az B G P (c6g P use callf loopf fuel):=by
 intro f args H hne;unfold c6g at hne |-;split at hne
 ·split at hne
  ·split at hne
   ·exact f6d hcs hG f args H hne
   ·exact f5s hcs hl hG f args H hne
  grind
 grind
noncomputable def c6h (P:Program) (use:FuncId->Code->Bool) (O:CallF) (n:Nat) : CallF×LoopF :=
 Nat.rec (motive:=fun _=>CallF×LoopF) (fun _ _ _=>.bad,fun _ _ _=>.bad) (fun k ih=>(orC O (c6g P use ih.1 ih.2 k),a0n P ih.1 ih.2)) n
noncomputable def a7c (P:Program) (O:CallF) (n:Nat) : CallF:=(c6h P (fun _ c=>hasRange c) O n).1
theorem d4q {use:FuncId->Code->Bool} {O:CallF} (hO:∀ B,Az B G P O) (hG:G=P.globals.size) : ∀ n,(∀ B,Az B G P (c6h P use O n).1)/\∀ B,a5y B G P (c6h P use O n).2
 | 0=>⟨fun B f args H hne=>absurd rfl hne,fun B b n n0 ρ0 w0 ρ fr H a w hd s hne=>absurd rfl hne⟩
 | m+1=>by
  obtain⟨hc,hl⟩:=d4q hO hG m;refine⟨fun B=>f2t (hO B) (f6e hc (hl B) hG),fun B b n n0 ρ0 w0 ρ fr H a w hd s hne=>?_⟩;exact d4c (hl B) (d4d hc (hl B) hG b) n n0 ρ0 w0 ρ fr H a w hd s hne
theorem a8p {O:CallF} (hO:∀ B,Az B G P O) (hG:G=P.globals.size) (fuel:Nat) : ∀ B,Az B G P (a7c P O fuel):=(d4q hO hG fuel).1
end Go.Ai
end
section
namespace Go.Ai
open Go.RowKit (Below)
abbrev QR:=Option J->Out->Prop
abbrev YW:=List AV->Mem->(Bool->Option J->Mem->Prop)->Prop
abbrev RWF:=Operand->Array Tmp->Code->Code->Fr->Mem->QR->Prop
abbrev LFR:=Code->Option J->Fr->Mem->QR->Prop
def b7h (v:Option AV) : Option Nat:=match v with
 | some (.lit (.func (.yield l) a c))=>if a=#[]/\c=#[] then some l else none
 | _=>none
def b7i (o:Oper) : Option (Tmp×Array Operand):=match o.op with
 | .call c=>(match c.callee with|.value (.tmp t)=>some (t,c.args)|_=>none)
 | _=>none
def onL {α:Type} (x:Option α) (K:α->Prop) : Prop:=match x with|some v=>K v|none=>False
noncomputable def b0o (W:WF) (o:Oper) (fr:Fr) (k:Fr->Mem->Prop) : R->Prop
 | .val v H=>k (fr.put o.dst v) H
 | .skip H=>k (fr.put o.dst (.lit undef)) H
 | .enter f args H=>W f args H fun r=>match r with
  | .ret v H=>k (fr.put o.dst v) H
  | _=>False
 | _=>False
noncomputable def b0p (P:Program) (W:WF) (ops:Array Oper) (o:Oper) (fr:Fr) (H:Mem) (k:Fr->Mem->Prop) : Prop:=match o.guard with
 | none=>b0o W o fr k (opV P H fr.ev o)
 | some g=>a2z (a0w ops fr g.1) g.2 (b0o W o fr k (opV P H fr.ev o)) (k (fr.put o.dst (.lit undef)) H)
noncomputable def b2m (P:Program) (W:WF) (Y:YW) (l:Nat) (ops:Array Oper) (o:Oper) (args:Array Operand) (p:Option J) (fr:Fr) (H:Mem) (k:Option J->Fr->Mem->Prop) : Option Nat->Prop
 | none=>b0p P W ops o fr H (k p)
 | some l'=>l'=l/\o.guard=none/\p=none/\onL (Bq fr.ev args.toList) fun vs=>Y vs H fun b p' H'=>k p' (fr.put o.dst (.lit (.bool b))) H'
noncomputable def b0q (P:Program) (W:WF) (Y:YW) (l:Nat) (ops:Array Oper) (o:Oper) (p:Option J) (fr:Fr) (H:Mem) (k:Option J->Fr->Mem->Prop) : Prop:=match b7i o with
 | some (t,args)=>b2m P W Y l ops o args p fr H k (b7h (fr.get t))
 | none=>b0p P W ops o fr H (k p)
noncomputable def a5i (P:Program) (W:WF) (Y:YW) (l:Nat) (ops:Array Oper) (Q:QR) : List Oper->Option J->Fr->Mem->Prop
 | [],p,fr,H=>Q p (.norm fr H)
 | o :: li,p,fr,H=>b0q P W Y l ops o p fr H (a5i P W Y l ops Q li)
def a5j (Q:Out->Prop) : Out->Prop
 | .norm fr H=>fr.defers=[]/\Q (.norm fr H)
 | _=>False
noncomputable def Cg (P:Program) (W:WF) (Y:YW) (R:RWF) (L:LFR) (l:Nat) (yr:List Nat) (plan:List (Nat×List It)) : Code->Option J->Fr->Mem->QR->Prop
 | .skip,p,fr,H,Q=>Q p (.norm fr H)
 | .region id ops false,p,fr,H,Q=>(if id∈yr then a5i P W Y l ops Q ops.toList p fr H else a3i P W ops (a5j (Q p)) ops.toList fr H)
 | .region id ops true,p,fr,H,Q=>a8f P W ops (a5j (Q p)) (planAt plan id) fr H
 | .seq a b,p,fr,H,Q=>Cg P W Y R L l yr plan a p fr H fun p=>a3t (fun fr H=>Cg P W Y R L l yr plan b p fr H Q) (Q p)
 | .cond c a b,p,fr,H,Q=>a3u (fr.ev c) (Cg P W Y R L l yr plan a p fr H Q) (Cg P W Y R L l yr plan b p fr H Q)
 | .block id b,p,fr,H,Q=>Cg P W Y R L l yr plan b p fr H fun p=>a6u id (Q p)
 | .loop b,p,fr,H,Q=>L b p fr H Q
 | .rangeFunc g ps a b,p,fr,H,Q=>p=none/\R g ps a b fr H Q
 | .exit id,p,fr,H,Q=>Q p (.exit id fr H)
 | .label _,p,fr,H,Q=>Q p (.norm fr H)
 | .ret,p,fr,H,Q=>Q p (.ret fr H)
 | _,_,_,_,_=>False
def a0o (P:Program) (plan:List (Nat×List It)) : Code->Bool
 | .region id ops true=>ops.toList.all a4o && (b6o P ops.toList && decide (b1y ops.toList=planAt plan id))
 | .region _ ops false=>ops.toList.all a4o
 | .seq a b=>a0o P plan a && a0o P plan b
 | .cond _ a b=>a0o P plan a && a0o P plan b
 | .block _ b=>a0o P plan b
 | .loop b=>a0o P plan b
 | _=>true
variable {B G n n0 m l:Nat} {P:Program} {ρ0 ρ:Rn} {w0 w:World} {x r:Option Nat} {I:Inv} {fr:Fr} {p:Option J} {H:Mem} {a:Act} {W:WF} {Y:YW} {R:RWF} {plan:List (Nat×List It)} {yr:List Nat}
def OutR (B G n n0:Nat) (ρ0:Rn) (w0:World) (x:Option Nat) (l:Nat) (I:Inv) (p:Option J) : Out->Exit->Act->World->Prop:=fun out e a' w'=>match out with
 | .norm fr H=>e=.normal/\∃ ρ',StE B G n n0 ρ0 w0 x l I ρ' fr [] p H a' w'
 | .exit id fr H=>e=.exit id/\∃ ρ',StE B G n n0 ρ0 w0 x l I ρ' fr [] p H a' w'
 | .ret fr H=>e=.ret/\∃ ρ',StE B G n n0 ρ0 w0 x l I ρ' fr [] p H a' w'
 | _=>False
def a8q (B G n n0:Nat) (ρ0:Rn) (w0:World) (x:Option Nat) (l:Nat) (I:Inv) (Q:QR) : Exit->Act->World->Prop:=fun e a' w'=>∃ p out,Q p out/\OutR B G n n0 ρ0 w0 x l I p out e a' w'
def b4d (B G:Nat) (P:Program) (r x:Option Nat) (l:Nat) (I:Inv) (Y:YW) : Prop:=∀ vs H K,Y vs H K->∀ (m:Nat) (ρ:Rn) (us:Array Value) (ds:List Deferred) (w:World),Sim B G ρ H w->VRs ρ vs us.toList->I ρ none ds w ->
 ∃ f tm asg bd,(Instr.yield l us).run P w=.ok (.round l f tm asg bd) w /\
  RoundIn (FR r) m P l f tm asg bd w fun e w'=>∃ b p' H',K b p' H'/\e=.returned (.bool b)/\∃ ρ',(∀ a,a<H.next->ρ' a=ρ a)/\KX x w w'/\Below B w w'/\Sim B G ρ' H' w'/\H.next<=H'.next/\I ρ' p' ds w'
def c0w (B G n n0:Nat) (P:Program) (r x:Option Nat) (l:Nat) (I:Inv) (R:RWF) : Prop:=∀ g ps asg body fr H Q,R g ps asg body fr H Q ->
 ∀ (m:Nat) (ρ0:Rn) (w0:World) (ρ:Rn) (a:Act) (w:World),StE B G n n0 ρ0 w0 x l I ρ fr [] none H a w ->
  (Code.rangeFunc g ps asg body).wpIn (FR r) m P (a8q B G n n0 ρ0 w0 x l I Q) a w
def LXR (G:Nat) (P:Program) (n l:Nat) (Y:YW) (R:RWF) : LFR:=fun b p fr H Q =>
 ∀ (B n0:Nat) (r x:Option Nat) (I:Inv),a3y I->b4d B G P r x l I Y->c0w B G n n0 P r x l I R ->
  ∀ (ρ0:Rn) (w0:World) (ρ:Rn) (a:Act) (w:World),StE B G n n0 ρ0 w0 x l I ρ fr [] p H a w->LWR r P b (a8q B G n n0 ρ0 w0 x l I Q) a w
theorem StE.step0 {ρ': Rn} {H': Mem} {w': World} {v:AV} {u:Value} {d:Option Tmp} {p': Option J} (s:StE B G n n0 ρ0 w0 x l I ρ fr [] p H a w) (h1:∀ a,a<H.next->ρ' a=ρ a) (h2:KX x w w') (h3:Below B w w') (hs:Sim B G ρ' H' w')
  (hv:VR ρ' v u) (hn:H.next<=H'.next) (hd:∀ t,d=some t->t<n) (hI:I ρ' p' a.defers w') : StE B G n n0 ρ0 w0 x l I ρ' (fr.put d v) [] p' H' (a.put d u) w':=by
 have:=s.step h1 h2 h3 hs hv hn hd hI;cases d<;>exact this
theorem d4r (hW:WOK G P W) (hI:a3y I) {ops:Array Oper} {o:Oper} {rest:List Oper} {k:Fr->Mem->Prop} {Qx:Exit->Act->World->Prop} (hG:G=P.globals.size) (hdst:Cr n o=true) (hnd:a4o o=true)
  (s:StE B G n n0 ρ0 w0 x l I ρ fr [] p H a w)
  (hk:∀ (fr' : Fr) (H' : Mem) (ρ' : Rn) (a' : Act) (w' : World),StE B G n n0 ρ0 w0 x l I ρ' fr' [] p H' a' w'->k fr' H'->wpListIn (FR r) m P ops Qx rest a' w')
  (h:b0o W o fr k (opV P H fr.ev o)) :
  o.wpIn (FR r) m P a w (wpListIn (FR r) m P ops Qx rest) Qx:=by
 have hrs:=a5v (o:=o) s.sim s.ev hG;have hd:=a2x hdst;have hop:∀ c,o.op≠.defer c:=by
  grind[a4o]
 refine⟨fun _ _=>trivial,?_⟩;rw[Oper.semAt_eq _ _ _ hop]
 cases hr:opV P H fr.ev o with
 | val v H' =>
  rw[hr] at hrs h;obtain⟨ρ',u,w',h1,h2,h3,h4,h5⟩:=hrs;rw[h1];exact hk _ _ _ _ _ (s.step0 h2.same h2.keeps.kx h2.below h3 h4 h5 hd (hI _ _ _ _ _ _ s.inv h2.keeps h2.below.size (h2.sub s.sim))) h
 | skip H' =>
  rw[hr] at hrs h;obtain⟨ρ',w',h1,h2,h3,h5⟩:=hrs;rw[h1];exact hk _ _ _ _ _ (s.step0 h2.same h2.keeps.kx h2.below h3 (a4v _) h5 hd (hI _ _ _ _ _ _ s.inv h2.keeps h2.below.size (h2.sub s.sim))) h
 | enter f args H' =>
  rw[hr] at hrs h;obtain⟨us,h1,h2,rfl⟩:=hrs;rw[h1,Oper.uponIn_enter];refine⟨fun h=>(by cases h),(c5z (hW _ _ _ _ h B ρ us w s.sim h2)).mono fun e w' ⟨q,hkr,hc⟩=>?_⟩
  cases q with
  | bad=>grind
  | ret v H2 =>
   cases e with
   | returned u =>
    obtain⟨ρ',g1,g2,g3,g4⟩:=hc;exact hk _ _ _ _ _ (s.step0 g1.same g1.keeps.kx g1.below g2 g3 g4 hd (hI _ _ _ _ _ _ s.inv g1.keeps g1.below.size (g1.sub s.sim))) hkr
   | panicked chain=>exact hc.elim
   | outgrown=>exact hc.elim
  | panic v H2=>grind
 | dfr fn cap args H'=>rw[hr] at h;exact h.elim
 | recover=>rw[hr] at h;exact h.elim
 | panic v H'=>rw[hr] at h;exact h.elim
 | bad=>rw[hr] at h;exact h.elim
theorem d4s (hW:WOK G P W) (hI:a3y I) {ops:Array Oper} {o:Oper} {rest:List Oper} {k:Fr->Mem->Prop} {Qx:Exit->Act->World->Prop} (hG:G=P.globals.size) (hdst:Cr n o=true) (hnd:a4o o=true)
  (s:StE B G n n0 ρ0 w0 x l I ρ fr [] p H a w)
  (hk:∀ (fr' : Fr) (H' : Mem) (ρ' : Rn) (a' : Act) (w' : World),StE B G n n0 ρ0 w0 x l I ρ' fr' [] p H' a' w'->k fr' H'->wpListIn (FR r) m P ops Qx rest a' w')
  (h:b0p P W ops o fr H k) : wpListIn (FR r) m P ops Qx (o :: rest) a w:=by
 unfold b0p at h;unfold wpListIn
 cases hg:o.guard with
 | none =>
  rw[hg] at h;rw[if_pos (by grind[Region.wanted])];grind[d4r]
 | some g =>
  rw[hg] at h;rcases d1n (a:=Act.bare a) s.st hg h with⟨hw,hy⟩|⟨hw,hn⟩
  ·rw[if_pos (show Region.wanted o (yielded ops a.tmps)=true from hw)];grind[d4r]
  ·rw[if_neg (show ¬Region.wanted o (yielded ops a.tmps)=true from by rw[show Region.wanted o (yielded ops a.tmps)=false from hw];simp)];exact⟨fun _ _=>trivial,hk _ _ _ _ _ (s.step0 (fun _ _=>rfl) (KX.refl _ _) (Below.refl _ _) s.sim (a4v _) (Dm _) (a2x hdst) s.inv) hn⟩
theorem d4t (hW:WOK G P W) (hI:a3y I) (hY:b4d B G P r x l I Y) {ops:Array Oper} {Q:QR} (hG:G=P.globals.size) : ∀ (li:List Oper) (p:Option J) (fr:Fr) (H:Mem) (ρ:Rn) (a:Act) (w:World),
  (∀ o∈li,Cr n o=true)->(∀ o∈li,a4o o=true)->StE B G n n0 ρ0 w0 x l I ρ fr [] p H a w->a5i P W Y l ops Q li p fr H->wpListIn (FR r) m P ops (a8q B G n n0 ρ0 w0 x l I Q) li a w
 | [],p,fr,H,ρ,a,w,_,_,s,h=>wpListIn_nil ⟨p,_,h,rfl,ρ,s⟩
 | o :: li,p,fr,H,ρ,a,w,hd,hnd,s,h=>by
  have hdo:=hd o (by simp);have hno:=hnd o (by simp);have hk:∀ (p' : Option J) (fr' : Fr) (H' : Mem) (ρ' : Rn) (a' : Act) (w' : World),StE B G n n0 ρ0 w0 x l I ρ' fr' [] p' H' a' w'->a5i P W Y l ops Q li p' fr' H'->wpListIn (FR r) m P ops (a8q B G n n0 ρ0 w0 x l I Q) li a' w' :=
   fun p' fr' H' ρ' a' w' s' hk=>d4t hW hI hY hG li p' fr' H' ρ' a' w' (fun o ho=>hd o (by grind)) (fun o ho=>hnd o (by grind)) s' hk
  have h' : b0q P W Y l ops o p fr H (a5i P W Y l ops Q li):=h;unfold b0q at h';split at h'
  ·rename_i t args htc;unfold b2m at h';split at h'
   ·grind[d4s]
   ·rename_i l' hyl;obtain⟨rfl,hgd,rfl,h3⟩:=h';unfold onL at h3;split at h3
    ·rename_i vs hvs;unfold wpListIn;rw[if_pos (by grind[Region.wanted])];refine⟨fun _ _=>trivial,?_⟩;unfold b7i at htc;split at htc
     ·rename_i c hop;split at htc
      ·rename_i t' hcal;cases htc;have hva:VRs ρ vs (c.args.map a.eval).toList:=by simpa using evals_VRs s.ev hvs
       obtain⟨f,tm,asg,bd,hrun,hround⟩:=hY vs H _ h3 (m-1) ρ (c.args.map a.eval) a.defers w s.sim hva s.inv;have hslot:a.eval (.tmp t)=.func (.yield l') #[] #[]:=by
        unfold b7h at hyl;split at hyl
        ·rename_i l2 aa cc hg;split at hyl
         ·rename_i hac;obtain⟨rfl,rfl⟩:=hac;cases hyl;have:=s.ev (.tmp t) _ (show fr.ev (.tmp t)=some _ from by assumption);exact this
         grind
        grind
       have hrun2:(o.semAt (FR r).round a.eval).run P w=.ok (.round l' f tm asg bd) w:=by
        grind[Oper.semAt_eq,invoke,Deferred.ofValue,resolve,execOp]
       rw[hrun2,Oper.uponIn_round];refine⟨fun h=>(by cases h),hround.mono fun e w' he=>?_⟩;obtain⟨b,p',H',hK,rfl,ρ',g1,g2,g3,g4,g5,g6⟩:=he;exact hk _ _ _ _ _ _ (s.step0 (v:=.lit (.bool b)) (u:=.bool b) g1 g2 g3 g4 rfl g5 (a2x hdo) g6) hK
      grind
     grind
    grind
  grind[d4s]
theorem d4u {ops:Array Oper} {Q:QR} (hI:a3y I) (hnd:ops.toList.all a4o=true) (s:StE B G n n0 ρ0 w0 x l I ρ fr [] p H a w) {li:List Nat} {w1:World}
  (h:wpOps P ops (a2h B G n H.next ρ w (a5j (Q p))) li (Act.bare a) w1) : wpOpsIn (FR r) m P ops (a8q B G n n0 ρ0 w0 x l I Q) li a w1:=by
 have hq:¬LetsOut (a2h B G n H.next ρ w (a5j (Q p))):=by
  rintro⟨a',w',out,h1,h2⟩;cases out<;>first|exact h1.elim|assumption
 have key:=a8o (r:=r) (m:=m) hnd hq a.defers li a [] w1 rfl h;refine b7g ?_ _ _ _ key;rintro e a' w' ⟨y,hy,out,h1,h2⟩
 cases out with
 | norm fr' H' =>
  obtain⟨hfd,hQ⟩:=h1
  cases e with
  | normal =>
   obtain⟨ρ',s'⟩:=h2;have hy0:y=[]:=by
    have h1:DR ρ' fr'.defers y:=s'.frel.dfr;rw[hfd] at h1;exact h1
   subst hy0;refine⟨p,_,hQ,rfl,ρ',fun b hb=>(s'.ext.same b (Eh hb s.le)).trans (s.same b hb),s.keeps.trans s'.ext.keeps.kx,s.below.trans s'.ext.below,s'.sim,s'.frel,Dw s.le s'.le,?_,by simp⟩;have hy' : a'.defers=a.defers:=by grind
   rw[hy'];exact hI _ _ _ _ _ _ s.inv s'.ext.keeps s'.ext.below.size (s'.ext.sub s.sim)
  | _=>exact h2.elim
 | _=>exact h1.elim
theorem d4v {Q:QR} {K:Act->World->Prop} {k:Fr->Mem->QR->Prop} {b:Option J->Fr->Mem->Prop}
  (hk:∀ p' fr' H' ρ' a' w',StE B G n n0 ρ0 w0 x l I ρ' fr' [] p' H' a' w'->b p' fr' H'->K a' w') :
  ∀ e a' w',a8q B G n n0 ρ0 w0 x l I (fun p=>a3t (b p) (Q p)) e a' w'->Exit.then K (a8q B G n n0 ρ0 w0 x l I Q) e a' w':=by
 rintro e a' w' ⟨p',out,h1,h2⟩
 cases out with
 | norm fr' H'=>obtain⟨rfl,ρ',s'⟩:=h2;exact hk _ _ _ _ _ _ s' h1
 | exit id fr' H'=>obtain⟨rfl,ρ',s'⟩:=h2;exact⟨p',_,h1,rfl,ρ',s'⟩
 | ret fr' H'=>obtain⟨rfl,ρ',s'⟩:=h2;exact⟨p',_,h1,rfl,ρ',s'⟩
 | panic v fr' H'=>exact h2.elim
 | bad=>exact h1.elim
theorem b7j (hW:WOK G P W) (hM:a6b W) (hG:G=P.globals.size) (hI:a3y I) (hY:b4d B G P r x l I Y) (hR:c0w B G n n0 P r x l I R) (m:Nat) : ∀ (c:Code) (p:Option J) (fr:Fr) (H:Mem) (Q:QR) (ρ0:Rn) (w0:World) (ρ:Rn) (a:Act) (w:World),
  Au n c=true->a0o P plan c=true->Cg P W Y R (LXR G P n l Y R) l yr plan c p fr H Q->StE B G n n0 ρ0 w0 x l I ρ fr [] p H a w->c.wpIn (FR r) m P (a8q B G n n0 ρ0 w0 x l I Q) a w:=by
 intro c
 induction c with
 | skip=>intro p fr H Q ρ0 w0 ρ a w _ _ h s;exact wpIn_skip ⟨p,_,h,rfl,ρ,s⟩
 | region id ops draw =>
  intro p fr H Q ρ0 w0 ρ a w hd hc h s
  cases draw with
  | false =>
   have h' : if id∈yr then a5i P W Y l ops Q ops.toList p fr H else a3i P W ops (a5j (Q p)) ops.toList fr H:=h;have hnd:ops.toList.all a4o=true:=hc;split at h'
   ·exact wpIn_region_list (d4t hW hI hY hG ops.toList p fr H ρ a w (fun o ho=>Ec.1 hd o ho) (fun o ho=>Ec.1 hnd o ho) s h')
   ·refine wpIn_region (d4u hI hnd s ?_);rw[List.range_eq_range',<- Array.length_toList,wpOps_eq_wpList ops.toList 0 (by simp)];exact b9t hW hG ops.toList fr H ρ (Act.bare a) w (fun o ho=>Ec.1 hd o ho) s.st h'
  | true =>
   have h' : a8f P W ops (a5j (Q p)) (planAt plan id) fr H:=h;simp only[a0o,Dq,decide_eq_true_eq] at hc;obtain⟨hnd,hf,hpl⟩:=hc;rw[<- hpl] at h'
   cases fr with
   | f g ds=>exact wpIn_region_draw fun t=>d4u hI hnd s (c4b (id:=id) hW hG s.st hd (c5i hM hf h') t)
   | _=>exact h'.elim
 | seq c1 c2 ih1 ih2 =>
  intro p fr H Q ρ0 w0 ρ a w hd hc h s;simp only[Au,Dq] at hd;simp only[a0o,Dq] at hc;exact wpIn_seq (Code.wpIn_mono (d4v (k:=fun _ _ _=>True) fun p' fr' H' ρ' a' w' s' hb=>ih2 p' fr' H' Q ρ0 w0 ρ' a' w' hd.2 hc.2 hb s') (ih1 p fr H _ ρ0 w0 ρ a w hd.1 hc.1 h s))
 | cond cnd c1 c2 ih1 ih2 =>
  intro p fr H Q ρ0 w0 ρ a w hd hc h s;simp only[Au,Dq] at hd;simp only[a0o,Dq] at hc;have h' : a3u (fr.ev cnd) (Cg P W Y R (LXR G P n l Y R) l yr plan c1 p fr H Q) (Cg P W Y R (LXR G P n l Y R) l yr plan c2 p fr H Q):=h;unfold a3u at h';split at h'
  ·rename_i b hev;have:=s.ev _ _ hev
   cases b with
   | true=>exact wpIn_cond_true this (ih1 p fr H Q ρ0 w0 ρ a w hd.1 hc.1 (h'.1 rfl) s)
   | false=>exact wpIn_cond_false this (ih2 p fr H Q ρ0 w0 ρ a w hd.2 hc.2 (h'.2 rfl) s)
  grind
 | block id b ih =>
  intro p fr H Q ρ0 w0 ρ a w hd hc h s;refine wpIn_block (Code.wpIn_mono ?_ (ih p fr H _ ρ0 w0 ρ a w hd hc h s));rintro e a' w' ⟨p',out,hq,ho⟩
  cases out with
  | norm fr' H'=>obtain⟨rfl,h'⟩:=ho;exact⟨p',_,hq,rfl,h'⟩
  | ret fr' H'=>obtain⟨rfl,h'⟩:=ho;exact⟨p',_,hq,rfl,h'⟩
  | exit id2 fr' H' =>
   obtain⟨rfl,h'⟩:=ho;have hq' : if id2=id then Q p' (.norm fr' H') else Q p' (.exit id2 fr' H'):=hq;by_cases e:id2=id
   ·subst e;rw[if_pos rfl] at hq';simp only[Exit.inBlock,if_true];exact⟨p',_,hq',rfl,h'⟩
   ·rw[if_neg e] at hq';simp only[Exit.inBlock,e,if_false];exact⟨p',_,hq',rfl,h'⟩
  | panic v fr' H'=>exact ho.elim
  | bad=>exact hq.elim
 | loop b ih =>
  intro p fr H Q ρ0 w0 ρ a w hd hc h s;exact(h B n0 r x I hI hY hR ρ0 w0 ρ a w s).wp
 | rangeFunc g ps c1 c2 ih1 ih2 =>
  intro p fr H Q ρ0 w0 ρ a w hd hc h s;obtain⟨rfl,h2⟩ : p=none/\R g ps c1 c2 fr H Q:=h;exact hR _ _ _ _ _ _ _ h2 m ρ0 w0 ρ a w s
 | exit id=>intro p fr H Q ρ0 w0 ρ a w hd hc h s;exact wpIn_exit ⟨p,_,h,rfl,ρ,s⟩
 | scope b ih=>intro p fr H Q ρ0 w0 ρ a w hd hc h;exact h.elim
 | label lb=>intro p fr H Q ρ0 w0 ρ a w hd hc h s;exact wpIn_label ⟨p,_,h,rfl,ρ,s⟩
 | goto lb=>intro p fr H Q ρ0 w0 ρ a w hd hc h;exact h.elim
 | ret=>intro p fr H Q ρ0 w0 ρ a w hd hc h s;exact wpIn_ret ⟨p,_,h,rfl,ρ,s⟩
 | refuse why=>intro p fr H Q ρ0 w0 ρ a w hd hc h;exact h.elim
theorem LXR.round {O:CallF} (hO:∀ B,Az B G P O) (hG:G=P.globals.size) (yr:List Nat) (plan:List (Nat×List It)) {b:Code} {Q:QR} (hd:(Au n b && a0o P plan b)=true)
  (h:Cg P (orW O (WC G P)) Y R (LXR G P n l Y R) l yr plan b p fr H fun p=>a3t (fun fr H=>LXR G P n l Y R b p fr H Q) (Q p)) : LXR G P n l Y R b p fr H Q:=by
 rw[Dq] at hd;intro B n0 r x I hI hY hR ρ0 w0 ρ a w s;exact LWR.unroll (m:=0) (Code.wpIn_mono (d4v (k:=fun _ _ _=>True) fun p' fr' H' ρ' a' w' s' hb=>hb B n0 r x I hI hY hR ρ0 w0 ρ' a' w' s') (b7j (b9u hO) (c0j (c0i G P)) hG hI hY hR 0 b p fr H _ ρ0 w0 ρ a w hd.1 hd.2 h s))
theorem LXR.ind {b:Code} {ds:List Dfr} {Q:QR} (J:Nat->(Nat->Option AV)->Mem->Prop) {m0:Nat} {g0:Nat->Option AV} {H0:Mem} (h0:J m0 g0 H0)
  (hs:∀ m g H,J m g H->Aa (∀ m' g' H',m' < m->J m' g' H'->LXR G P n l Y R b p (.f g' ds) H' Q)->LXR G P n l Y R b p (.f g ds) H Q) : LXR G P n l Y R b p (.f g0 ds) H0 Q:=by
 have:∀ m g H,J m g H->LXR G P n l Y R b p (.f g ds) H Q:=by
  intro m
  induction m using Nat.strongRecOn with
  | _ m ih=>exact fun g H hi=>hs m g H hi ⟨fun m' g' H' hlt hi'=>ih m' hlt g' H' hi'⟩
 grind
end Go.Ai
end

