/- A small verified interpreter over names, its proofs, and what was proved with it. No condition. -/
import Derived.Test.YtpimmmnkcgnjjaaGreatO04
set_option linter.all false
set_option linter.deprecated false
section
namespace Go.Ai
class Spl (P:Prop) (A B:outParam Prop):Prop where
 of:A→B→P
instance {p x y:Prop}:Spl (b6e p x y) (p→x) (¬p→y):=⟨Ab⟩
instance {b:Bool} {x y:Prop}:Spl (a2i b x y) (b=true→x) (b=false→y):=⟨Ac⟩
theorem spl {P A B:Prop} [h:Spl P A B] (a:A) (b:B):P:=h.of a b
end Go.Ai
end
section
namespace Go.Ai
variable {P:Program} {W:WF} {ops:Array Oper} {g:Nat→Option AV} {ds:List Dfr} {Q:Out→Prop} {S:Nat} {res:ResF} {H:Mem} {held:List Nat} {als:Als} {alsP:AlP} {i:Nat} {o:Oper} {s:Hs} {K:Hs→List It}
theorem c5f {tab:List Nat} {fr:Fr} : ∀ {held:List Nat},(∀ i∈held,∃ o v,ops[i]?=some o/\res i=some v/\quiet P H (Ci ops tab fr res i) o=some v)->a7w P ops tab fr res H held
 | [],_=>trivial
 | i :: l,h=>by
  obtain⟨o,v,h1,h2,h3⟩:=h i (by simp);refine⟨?_,c5f fun j hj=>h j (by simp[hj])⟩;rw[h1];exact⟨v,h2,h3⟩
theorem stays_of:∀ {als:Als},(∀ x∈als,H.get x.2.1=some x.2.2)->a7x H als
 | [],_=>trivial
 | (a,b,c) :: l,h=>⟨h (a,b,c) (by simp),stays_of fun y hy=>h y (by grind)⟩
theorem c5g {tab:List Nat} {c i:Nat} : ∀ {held:List Nat},i∈a4u tab c held->i∈held/\Aw tab c i=false
 | [],h=>by cases h
 | j :: held,h=>by
  unfold a4u at h;split at h
  ·obtain⟨a,b⟩:=c5g h;exact⟨by simp[a],b⟩
  ·rename_i hb;rcases Dv.1 h with rfl|h
   ·exact⟨by simp,hb⟩
   ·obtain⟨a,b⟩:=c5g h;exact⟨by simp[a],b⟩
theorem c5h {tab:List Nat} {c:Nat} : ∀ {als:Als} {x:Nat×Nat×Blk},x∈a3q tab c als->x∈als/\Aw tab c x.1=false
 | [],_,h=>by cases h
 | y :: als,x,h=>by
  unfold a3q at h;split at h
  ·obtain⟨a,b⟩:=c5h h;exact⟨by simp[a],b⟩
  ·rename_i hb;rcases Dv.1 h with rfl|h
   ·exact⟨by simp,hb⟩
   ·obtain⟨a,b⟩:=c5h h;exact⟨by simp[a],b⟩
theorem d2w {fr:Fr} : ∀ {hs:List Nat},a5f P W ops fr H hs->∀ i∈hs,∃ o,ops[i]?=some o/\a0f P W ops o fr H (fun fr' _=>a1f fr' o.dst=a1f fr o.dst) (fun _=>False)
 | j :: hs,h,i,hi=>by
  rcases Dv.1 hi with rfl|hi
  ·have h1:=h.1;split at h1
   ·rename_i o ho;exact⟨o,ho,h1⟩
   ·exact h1.elim
  ·exact d2w h.2 i hi
theorem d2x {as:List Nat} : ∀ {l:AlP},a8e H as l->∀ x∈l,x.1∈as->H.get x.2.1=x.2.2
 | (i,a,b) :: l,h,x,hx,hm=>by
  rcases Dv.1 hx with rfl|hx
  ·exact h.1 hm
  ·exact d2x h.2 x hx hm
theorem f1q (hfit:fit ops.toList ops.toList 0=true) (hall:a8d P (ancs [] ops.toList) ops.toList ops.toList 0=true) (hp:PI ops S res) (hi:S.testBit i=true) (hr:Ran ops res i)
  (hag:c4y (ancs [] ops.toList) ops.toList i=true) (ho:ops[i]?=some o) (h:a0f P W ops o (.f (Gs ops g S res) ds) H (fun fr' _=>a1f fr' o.dst=a1f (.f (Gs ops g S res) ds) o.dst) (fun _=>False)) :
  Rq P ops g ds H res i:=by
 obtain⟨o',ho',hcl,hg⟩:=hr;rw[ho] at ho';cases ho';have hone:=c0h hall i o (Cs.2 ho);rw[g4w] at hone;unfold b6n at hone;simp only[Dq] at hone;obtain⟨⟨_,hgd⟩,hcv⟩:=hone;unfold c4y at hag;rw[Cs.2 ho] at hag;simp only[Dq] at hag;obtain⟨hds,hah⟩:=hag;obtain⟨d,hd⟩:=Option.isSome_iff_exists.1 hds;have hno:cls o.op≠.no:=by grind
 have key:a3h W o (.f (Gs ops g S res) ds) (fun fr' _=>a1f fr' o.dst=a1f (.f (Gs ops g S res) ds) o.dst) (fun _=>False) (opV P H (Fr.f (Gs ops g S res) ds).ev o)->Rq P ops g ds H res i:=by
  intro h;rw[c0f (P:=P) (H:=H) (c4z hno) (f1o (g:=g) (ds:=ds) hp hi hah)] at h;rcases d2t (P:=P) (H:=H) (ev:=Ci ops (ancs [] ops.toList) (.f g ds) res i) (o:=o) (by grind) hno (by grind) hcv with hb|⟨v,hv,hq⟩
  ·rw[hb] at h;exact h.elim
  ·rw[hv] at h;have h' : a1f ((Fr.f (Gs ops g S res) ds).put o.dst v) o.dst=a1f (.f (Gs ops g S res) ds) o.dst:=h;rw[hd] at h';have h2:some v=Gs ops g S res d:=by
    rw[show a1f ((Fr.f (Gs ops g S res) ds).put (some d) v) (some d)=some v from if_pos rfl] at h';exact h'
   unfold Gs at h2;rw[c5b hfit ho hd] at h2;dsimp only at h2;rw[hi] at h2;exact⟨o,v,ho,h2.symm,hq⟩
 unfold a0f at h;split at h
 ·grind
 ·rename_i gd hgx;rw[hgx] at hgd;have hgd' : Aw (ancs [] ops.toList) i gd.1=true:=hgd;rw[c5d hfit ho hgx (hp.down _ _ hi hgd'),hg gd hgx] at h;exact key (h.1 rfl)
theorem d2y (hfit:fit ops.toList ops.toList 0=true) (hall:a8d P (ancs [] ops.toList) ops.toList ops.toList 0=true) (h:PS P ops g ds s S res H held als alsP)
  (ht:a1e (ancs [] ops.toList) ops.toList S (b6l s K)=true) (hp:Bx P W ops Q (b6l s K) (.f (Gs ops g S res) ds) H alsP) :
  a7w P ops (ancs [] ops.toList) (.f g ds) res H held/\a7x H als/\∃ s',s'.di=[]/\s'.adi=[]/\PS P ops g ds s' S res H held als alsP /\
   a1e (ancs [] ops.toList) ops.toList S (K s')=true/\Bx P W ops Q (K s') (.f (Gs ops g S res) ds) H alsP:=by
 have done:s.di=[]->s.adi=[]->a1e (ancs [] ops.toList) ops.toList S (K s)=true->Bx P W ops Q (K s) (.f (Gs ops g S res) ds) H alsP->a7w P ops (ancs [] ops.toList) (.f g ds) res H held/\a7x H als/\∃ s',s'.di=[]/\s'.adi=[]/\PS P ops g ds s' S res H held als alsP /\
   a1e (ancs [] ops.toList) ops.toList S (K s')=true/\Bx P W ops Q (K s') (.f (Gs ops g S res) ds) H alsP:=by
  intro e1 e2 ht hp;refine⟨c5f fun i hi=>?_,stays_of fun x hx=>?_,s,e1,e2,h,ht,hp⟩
  ·obtain⟨_,_,c⟩:=h.hd i hi;rcases c with c|⟨_,c⟩
   ·grind
   ·exact c
  ·obtain⟨_,c⟩:=h.al x hx;grind
 have go:a1e (ancs [] ops.toList) ops.toList S (.gate s.di s.adi :: K ⟨s.di++s.cl,[],s.adi++s.acl,[]⟩)=true ->
   Bx P W ops Q (.gate s.di s.adi :: K ⟨s.di++s.cl,[],s.adi++s.acl,[]⟩) (.f (Gs ops g S res) ds) H alsP->a7w P ops (ancs [] ops.toList) (.f g ds) res H held/\a7x H als/\∃ s',s'.di=[]/\s'.adi=[]/\PS P ops g ds s' S res H held als alsP /\
   a1e (ancs [] ops.toList) ops.toList S (K s')=true/\Bx P W ops Q (K s') (.f (Gs ops g S res) ds) H alsP:=by
  intro ht hp;simp only[a1e,Dq] at ht;obtain⟨hag,ht⟩:=ht;obtain⟨h1,h2,h3⟩:=hp;have hR:∀ i∈held,Rq P ops g ds H res i:=by
   intro i hi;obtain⟨a,b,c⟩:=h.hd i hi;rcases c with c|⟨_,c⟩
   ·obtain⟨o,ho,ho'⟩:=d2w h1 i c;exact f1q hfit hall h.pi a b (Ec.1 hag i c) ho ho'
   grind
  have hA:∀ x∈als,H.get x.2.1=some x.2.2:=by
   intro x hx;obtain⟨a,c⟩:=h.al x hx;rcases c with c|⟨_,c⟩
   ·exact d2x h2 _ a c
   grind
  refine⟨c5f hR,stays_of hA,_,rfl,rfl,⟨h.pi,fun i hi=>?_,fun x hx=>?_⟩,ht,h3⟩
  ·obtain⟨a,b,c⟩:=h.hd i hi;grind
  ·obtain⟨a,c⟩:=h.al x hx;grind
 grind[b6l]
def a6b (W:WF) : Prop:=∀ (f:FuncId) (args:List AV) (H:Mem) (K K' : Ar->Prop),(∀ r,K r->K' r)->W f args H K->W f args H K'
theorem c0i (G:Nat) (P:Program) : a6b (WC G P):=fun _ _ _ _ _ hk h=>h.mono hk
theorem c0j {O:CallF} (h:a6b W) : a6b (orW O W):=by
 intro f args H K K' hk hw;unfold orW at hw |-;split
 ·rename_i e;rw[e] at hw;exact h _ _ _ _ _ hk hw
 grind
theorem f1r (hW:a6b W) (hfit:fit ops.toList ops.toList 0=true) (hall:a8d P (ancs [] ops.toList) ops.toList ops.toList 0=true) (hp:PI ops S res) (ho:ops[i]?=some o) (hc:cls o.op=.chain)
  (hi:S.testBit i=false) (ha:∀ j,Aw (ancs [] ops.toList) i j=true->S.testBit j=true) {k:Fr->Mem->Prop} {K' : ResF->Mem->Prop}
  (h:a0f P W ops o (.f (Gs ops g S res) ds) H k (a6a Q)) (hK:∀ v H',k (.f (Gs ops g (S ||| 2 ^ i) (Dj res i v)) ds) H'->K' (Dj res i v) H') :
  b6c P W ops (ancs [] ops.toList) (.f g ds) i res H K' Q:=by
 have hone:=c0h hall i o (Cs.2 ho);rw[g4w] at hone;unfold b6n at hone;simp only[Dq] at hone;obtain⟨⟨hcmp,hgd⟩,hcv⟩:=hone;have hno:cls o.op≠.no:=by grind
 have hev:=c0f (P:=P) (H:=H) (c4z hno) (d2u (g:=g) (ds:=ds) hp hi ha hcmp);have put:=fun v=>b6p (g:=g) (ds:=ds) (S:=S) (res:=res) hfit ho v;have act:a3h W o (.f (Gs ops g S res) ds) k (a6a Q) (opV P H (Ci ops (ancs [] ops.toList) (.f g ds) res i) o) ->
   b9r W (.f g ds) i res K' Q (opV P H (Ci ops (ancs [] ops.toList) (.f g ds) res i) o):=by
  intro h;have hac:=f1n (P:=P) (H:=H) (ev:=Ci ops (ancs [] ops.toList) (.f g ds) res i) hc
  cases hv:opV P H (Ci ops (ancs [] ops.toList) (.f g ds) res i) o with
  | val v H' =>
   rw[hv] at h;refine⟨hp.un i hi,hK v H' ?_⟩;rw[<- put];exact h
  | skip H' =>
   rw[hv] at h;refine⟨hp.un i hi,hK _ H' ?_⟩;rw[<- put];exact h
  | enter f args H' =>
   rw[hv] at h;refine hW _ _ _ _ _ ?_ h;intro r hr
   cases r with
   | ret v H2 =>
    refine⟨hp.un i hi,hK v H2 ?_⟩;grind
   | panic v H2=>exact hr
   | bad=>grind
  | bad=>rw[hv] at h;assumption
  | dfr _ _ _ _=>rw[hv] at hac;cases hac
  | recover=>rw[hv] at hac;cases hac
  | panic _ _=>rw[hv] at hac;cases hac
 unfold b6c;rw[ho];dsimp only;unfold a0f at h;unfold b1v;split at h
 ·grind
 ·rename_i gd hg;rw[hg] at hgd;dsimp only at hgd;rw[c5d hfit ho hg (ha _ hgd),put,hev] at h;exact⟨hgd,d2v h (fun _=>act) fun h=>⟨hp.un i hi,hK _ _ h⟩⟩
theorem f1s {S': Nat} (h:∀ j,j<ops.size->S.testBit j=S'.testBit j) : Gs ops g S res=Gs ops g S' res:=by
 funext t;unfold Gs;split
 ·rename_i j hj;obtain⟨_,o,ho,_⟩:=a9s hj;grind
 ·rfl
theorem d2z (hfit:fit ops.toList ops.toList 0=true) {KF:Fr->Prop} (hall:∀ j,j<ops.size->∃ v,res j=some v) : ∀ (l:List Oper) (k:Nat),ops.toList.drop k=l->k+l.length=ops.size ->
  KF (.f (Gs ops g (2 ^ ops.size-1) res) ds)->a7y res KF l k (.f (Gs ops g (2 ^ k-1) res) ds)
 | [],k,_,hl,h=>by
  have:k=ops.size:=by grind
  subst this;exact h
 | o :: l,k,hk,hl,h=>by
  have hlt:k<ops.size:=by grind
  obtain⟨v,hv⟩:=hall k hlt;have hko:ops.toList[k]?=some o:=by
   have:(ops.toList.drop k)[0]?=some o:=by grind
   grind
  unfold a7y;rw[hv];dsimp only;rw[b6p hfit (Cs.1 hko)];have e1:Dj res k v=res:=by
   funext j;unfold Dj;grind
  rw[e1,f1s (S':=2 ^ (k+1)-1) (fun j _=>by
   grind)]
  refine d2z hfit hall l (k+1) ?_ (by grind) h;have:=congrArg List.tail hk;simpa using this
theorem f1t (hW:a6b W) (hfit:fit ops.toList ops.toList 0=true) (hall:a8d P (ancs [] ops.toList) ops.toList ops.toList 0=true) (all:List Nat) :
  ∀ (cs:List Nat) (k:Nat) (s:Hs) (S:Nat) (res:ResF) (H:Mem) (held:List Nat) (als:Als) (alsP:AlP),(∀ c∈cs,∃ o,ops[c]?=some o/\Cy o.op=true) ->
   PS P ops g ds s S res H held als alsP->a1e (ancs [] ops.toList) ops.toList S (b3t (ancs [] ops.toList) all ops.toList k cs s)=true ->
   Bx P W ops (a6a Q) (b3t (ancs [] ops.toList) all ops.toList k cs s) (.f (Gs ops g S res) ds) H alsP ->
   b3p P W ops (ancs [] ops.toList) (.f g ds) all Q k cs res H held als:=by
 intro cs
 induction cs with
 | nil =>
  intro k s S res H held als alsP _ ps ht hp;rw[b9w];unfold b3t at ht hp;refine a6z hfit hall ?_ _ _ _ _ _ _ _ _ (fun j hj=>?_) ps ht hp
  ·intro s S res H held als alsP ps ht hp;obtain⟨h1,h2,s',_,_,ps',ht',hp'⟩:=d2y hfit hall ps ht hp;refine⟨h1,h2,?_⟩;have hS:S+1=2 ^ ops.toList.length:=Dz ht';have hS' : S=2 ^ ops.size-1:=by grind
   have hq:Q (.norm (.f (Gs ops g S res) ds) H):=hp';subst hS';have hz:Fr.f g ds=.f (Gs ops g (2 ^ 0-1) res) ds:=by
    congr 1;funext t;unfold Gs;grind
   show a7y res (fun fr=>Q (.norm fr H)) ops.toList 0 (.f g ds);rw[hz];refine d2z hfit (fun j hj=>ps'.pi.dn j ?_) ops.toList 0 rfl (by simp) hq;grind
  grind[a9w,a5x]
 | cons c cs ih =>
  intro k s S res H held als alsP hcs ps ht hp;rw[b9w];unfold b3t at ht hp;refine a6z hfit hall ?_ _ _ _ _ _ _ _ _ (fun j hj=>?_) ps ht hp
  ·intro s S res H held als alsP ps ht hp;obtain⟨h1,h2,s',e1,e2,ps',ht',hp'⟩:=d2y hfit hall ps ht hp;refine⟨h1,h2,?_⟩;simp only[a1e,Dq] at ht';obtain⟨⟨t1,t2⟩,ht'⟩:=ht';have hi:S.testBit c=false:=by grind
   have ha:=b6q t2;obtain⟨o,ho,hch⟩:=hcs c (by simp);have hcl:cls o.op=.chain:=by
    grind[Cy]
   unfold Bx at hp';rw[ho] at hp';dsimp only at hp';refine f1r hW hfit hall ps'.pi ho hcl hi ha hp' ?_;intro v H' hk;refine ih _ _ _ _ _ _ _ _ (fun c hc=>hcs c (by grind)) ?_ ht' hk;have p1:=ps'.step hi ha v;refine⟨p1.pi,fun j hj=>?_,fun x hx=>?_⟩
   ·have hm:j∈held/\Aw (ancs [] ops.toList) c j=false:=c5g hj;obtain⟨a,b,d⟩:=p1.hd j hm.1;grind
   ·have hm:x∈als/\Aw (ancs [] ops.toList) c x.1=false:=c5h hx;obtain⟨a,d⟩:=p1.al x hm.1;grind
  grind[a9w,a5x]
theorem c5i (hW:a6b W) (hok:b6o P ops.toList=true) (h:Bx P W ops (a6a Q) (b1y ops.toList) (.f g ds) H []) : b9s P W ops (.f g ds) H Q:=by
 unfold b6o at hok;simp only[Dq] at hok;obtain⟨⟨⟨h1,h2⟩,h3⟩,h4⟩:=hok;have hfit:fit ops.toList ops.toList 0=true:=by
  simp_all[b3g]
 have hz:Fr.f g ds=.f (Gs ops g 0 (fun _=>none)) ds:=by
  congr 1;grind[Gs]
 refine⟨h1,h2,?_⟩;unfold b1y at h h4;rw[hz] at h;refine f1t hW hfit h3 _ _ _ _ 0 _ _ _ _ [] (fun c hc=>?_) ⟨⟨fun _ _=>rfl,fun j hj=>?_,fun j k hj=>?_⟩,fun _ h=>(by cases h),fun _ h=>(by cases h)⟩ h4 h
 all_goals grind[mem_chainOf]
end Go.Ai
end
section
namespace Go.Ai
open Go.RowKit (Below)
def planAt:List (Nat×List It)->Nat->List It
 | [],_=>[]
 | (k,l) :: r,i=>if k=i then l else planAt r i
def a5g (P:Program) (plan:List (Nat×List It)) : Code->Bool
 | .region id ops true=>b6o P ops.toList && decide (b1y ops.toList=planAt plan id)
 | .seq a b=>a5g P plan a && a5g P plan b
 | .cond _ a b=>a5g P plan a && a5g P plan b
 | .block _ b=>a5g P plan b
 | .loop b=>a5g P plan b
 | _=>true
noncomputable def a8f (P:Program) (W:WF) (ops:Array Oper) (Q:Out->Prop) (l:List It) (fr:Fr) (H:Mem) : Prop:=match fr with
 | .f g ds=>Bx P W ops (a6a Q) l (.f g ds) H []
 | _=>False
noncomputable def Df (P:Program) (W:WF) (L:LF) (plan:List (Nat×List It)) : Code->Fr->Mem->(Out->Prop)->Prop
 | .skip,fr,H,Q=>Q (.norm fr H)
 | .region _ ops false,fr,H,Q=>a3i P W ops Q ops.toList fr H
 | .region id ops true,fr,H,Q=>a8f P W ops Q (planAt plan id) fr H
 | .seq a b,fr,H,Q=>Df P W L plan a fr H (a3t (fun fr H=>Df P W L plan b fr H Q) Q)
 | .cond c a b,fr,H,Q=>a3u (fr.ev c) (Df P W L plan a fr H Q) (Df P W L plan b fr H Q)
 | .block id b,fr,H,Q=>Df P W L plan b fr H (a6u id Q)
 | .loop b,fr,H,Q=>L b fr H Q
 | .exit id,fr,H,Q=>Q (.exit id fr H)
 | .label _,fr,H,Q=>Q (.norm fr H)
 | .ret,fr,H,Q=>Q (.ret fr H)
 | _,_,_,_=>False
variable {B G:Nat} {P:Program} {n n0:Nat} {ρ0 ρ:Rn} {w0 w:World} {fr:Fr} {H:Mem} {a:Act} {W:WF} {Q:Out→Prop} {plan:List (Nat×List It)}
theorem d3a (hW:WOK G P W) (hM:a6b W) (hG:G=P.globals.size) : ∀ (c:Code) (fr:Fr) (H:Mem) (Q:Out->Prop),Au n c=true->a5g P plan c=true->Df P W (LX G P n) plan c fr H Q->XW G P n c fr H Q:=by
 intro c
 induction c with
 | skip=>intro fr H Q _ _ h B n0 ρ0 w0 ρ a w s;exact wp_skip ⟨_,h,ρ,s⟩
 | region id ops draw =>
  intro fr H Q hd hc h B n0 ρ0 w0 ρ a w s
  cases draw with
  | false=>exact wp_region_list (b9t hW hG ops.toList fr H ρ a w (fun o ho=>Ec.1 hd o ho) s h)
  | true =>
   simp only[a5g,Dq,decide_eq_true_eq] at hc;have h' : a8f P W ops Q (planAt plan id) fr H:=h;rw[<- hc.2] at h'
   cases fr with
   | f g ds=>exact d1w hW hG s hd (c5i hM hc.1 h')
   | _=>exact h'.elim
 | seq x y ihx ihy =>
  intro fr H Q hd hc h B n0 ρ0 w0 ρ a w s;simp only[Au,Dq] at hd;simp only[a5g,Dq] at hc;refine wp_seq (Code.wp_mono ?_ (ihx fr H _ hd.1 hc.1 h B n0 ρ0 w0 ρ a w s));rintro e a' w' ⟨out,hq,ho⟩
  cases out with
  | norm fr' H' =>
   cases e with
   | normal=>obtain⟨ρ',s'⟩:=ho;exact ihy fr' H' Q hd.2 hc.2 hq B n0 ρ0 w0 ρ' a' w' s'
   | _=>exact ho.elim
  | exit id fr' H'=>cases e<;>first|exact ho.elim|exact⟨_,hq,ho⟩
  | ret fr' H'=>cases e<;>first|exact ho.elim|exact⟨_,hq,ho⟩
  | panic v fr' H'=>cases e<;>first|exact ho.elim|exact⟨_,hq,ho⟩
  | bad=>exact hq.elim
 | cond cnd x y ihx ihy =>
  intro fr H Q hd hc h B n0 ρ0 w0 ρ a w s;simp only[Au,Dq] at hd;simp only[a5g,Dq] at hc;have h' : a3u (fr.ev cnd) (Df P W (LX G P n) plan x fr H Q) (Df P W (LX G P n) plan y fr H Q):=h;unfold a3u at h';split at h'
  ·rename_i b hev;have:=s.ev _ _ hev
   cases b with
   | true=>exact wp_cond_true this (ihx fr H Q hd.1 hc.1 (h'.1 rfl) B n0 ρ0 w0 ρ a w s)
   | false=>exact wp_cond_false this (ihy fr H Q hd.2 hc.2 (h'.2 rfl) B n0 ρ0 w0 ρ a w s)
  grind
 | block id b ih =>
  intro fr H Q hd hc h B n0 ρ0 w0 ρ a w s;refine wp_block (Code.wp_mono ?_ (ih fr H _ hd hc h B n0 ρ0 w0 ρ a w s));rintro e a' w' ⟨out,hq,ho⟩
  cases out with
  | norm fr' H'=>cases e<;>first|exact ho.elim|exact⟨_,hq,ho⟩
  | exit id' fr' H' =>
   cases e with
   | exit id2 =>
    obtain⟨rfl,ρ',s'⟩:=ho;have hq' : if id2=id then Q (.norm fr' H') else Q (.exit id2 fr' H'):=hq;by_cases e:id2=id
    ·subst e;rw[if_pos rfl] at hq';simp only[Exit.inBlock,if_true];exact⟨_,hq',ρ',s'⟩
    ·rw[if_neg e] at hq';simp only[Exit.inBlock,e,if_false];exact⟨_,hq',rfl,ρ',s'⟩
   | _=>exact ho.elim
  | ret fr' H'=>cases e<;>first|exact ho.elim|exact⟨_,hq,ho⟩
  | panic v fr' H'=>cases e<;>first|exact ho.elim|exact⟨_,hq,ho⟩
  | bad=>exact hq.elim
 | loop b ih =>
  intro fr H Q hd hc h B n0 ρ0 w0 ρ a w s;exact LW.wp (h B n0 ρ0 w0 ρ a w s)
 | rangeFunc f ps x y ihx ihy=>intro fr H Q hd hc h;exact h.elim
 | exit id=>intro fr H Q hd hc h B n0 ρ0 w0 ρ a w s;exact wp_exit ⟨_,h,rfl,ρ,s⟩
 | scope b ih=>intro fr H Q hd hc h;exact h.elim
 | label l=>intro fr H Q hd hc h B n0 ρ0 w0 ρ a w s;exact wp_label ⟨_,h,ρ,s⟩
 | goto l=>intro fr H Q hd hc h;exact h.elim
 | ret=>intro fr H Q hd hc h B n0 ρ0 w0 ρ a w s;exact wp_ret ⟨_,h,ρ,s⟩
 | refuse why=>intro fr H Q hd hc h;exact h.elim
theorem LX.roundP {O:CallF} (hO:∀ B,Az B G P O) (hG:G=P.globals.size) (plan:List (Nat×List It)) {b:Code} (hd:(Au n b && a5g P plan b)=true)
  (h:Df P (orW O (WC G P)) (LX G P n) plan b fr H (a3t (fun fr H=>LX G P n b fr H Q) Q)) : LX G P n b fr H Q:=by
 rw[Dq] at hd;intro B n0 ρ0 w0 ρ a w s;refine LW.unroll (Code.wp_mono ?_ (d3a (b9u hO) (c0j (c0i G P)) hG b fr H _ hd.1 hd.2 h B n0 ρ0 w0 ρ a w s));rintro e a' w' ⟨out,hq,ho⟩
 cases out with
 | norm fr' H' =>
  cases e with
  | normal=>obtain⟨ρ',s'⟩:=ho;exact hq B n0 ρ0 w0 ρ' a' w' s'
  | _=>exact ho.elim
 | exit id fr' H'=>cases e<;>first|exact ho.elim|exact⟨_,hq,ho⟩
 | ret fr' H'=>cases e<;>first|exact ho.elim|exact⟨_,hq,ho⟩
 | panic v fr' H'=>cases e<;>first|exact ho.elim|exact⟨_,hq,ho⟩
 | bad=>exact hq.elim
theorem WC.enterP {f:FuncId} {fn:Func} {c:Code} {args:List AV} {K:Ar->Prop} {O:CallF} (hO:∀ B,Az B G P O) (hG:G=P.globals.size) (plan:List (Nat×List It)) (hf:P.funcs[f]?=some fn) (hb:fn.body=some c)
  (hd:(Au fn.ntmps c && a5g P plan c)=true) (hl:args.length<=fn.ntmps) (h:Df P (orW O (WC G P)) (LX G P fn.ntmps) plan c (a4w args) H (a4l P O fn K)) : WC G P f args H K:=by
 rw[Dq] at hd;intro B ρ us w s hv;have s1:St B G fn.ntmps H.next ρ w ρ (a4w args) H { tmps:=us++Array.replicate (fn.ntmps-us.size) undef,defers:=[] } w:=⟨Ext.refl _ _ _ _,s,b9x hv hl,Dm _⟩;refine calls_of_wp_defers hf hb (Code.wp_mono ?_ (d3a (b9u hO) (c0j (c0i G P)) hG c _ H _ hd.1 hd.2 h B H.next ρ w ρ _ w s1));rintro e a' w' ⟨out,hq,ho⟩;have fin:∀ {fr' : Fr} {u:Mode} {H' : Mem} {ρ' : Rn} {m:FrameMode},(match De P O (fun _ _ _=>.bad) fn fr' fr'.defers u H' with|.bad=>False|r=>K r)->St B G fn.ntmps H.next ρ w ρ' fr' H' a' w'->MR ρ' u m ->
   Leaves P fn a'.tmps (fun e w'=>∃ r,K r/\a6r B G H.next ρ w r e w') a'.defers m w':=by
  intro fr' u H' ρ' m hm s' hmr;have key:∀ r,De P O (fun _ _ _=>.bad) fn fr' fr'.defers u H'=r->r≠.bad->K r->Leaves P fn a'.tmps (fun e w'=>∃ r,K r/\a6r B G H.next ρ w r e w') a'.defers m w':=by
   intro r hr hne hk;refine b9y (fun e w' hc=>⟨r,hk,hc⟩) ?_;exact a9y (hO B) (d1y B G P) hG hne _ _ u H' ρ' m w' s'.frel.dfr s' hmr hr
  grind
 cases out with
 | norm fr' H' =>
  cases e with
  | normal=>obtain⟨ρ',s'⟩:=ho;exact fin (u:=.returning) (m:=.returning) hq s' rfl
  | _=>exact ho.elim
 | ret fr' H' =>
  cases e with
  | ret=>obtain⟨ρ',s'⟩:=ho;exact fin (u:=.returning) (m:=.returning) hq s' rfl
  | _=>exact ho.elim
 | panic v fr' H' =>
  cases e with
  | panic chain=>obtain⟨ρ',x,rfl,hx,s'⟩:=ho;exact fin (u:=.panicking v) hq s' ⟨x,rfl,hx⟩
  | _=>exact ho.elim
 | exit id fr' H'=>exact hq.elim
 | bad=>exact hq.elim
end Go.Ai
end
section
namespace Go.Ai
variable {P:Program} {W:WF} {L:LF} {Q:Out→Prop} {fr:Fr} {H:Mem} {plan:List (Nat×List It)} {ops:Array Oper} {al:AlP}
variable {tk id i:Nat} {l:List Oper} {b:Code} {r:List It} {as:List Nat}
theorem f1u (_h0:tick=tk) {c:Code} {fr fr' : Fr} {H H' : Mem} (h1:fr=fr') (h2:H=H') : Df P W L plan c fr H Q=Df P W L plan c fr' H' Q:=by grind
theorem f1v (_h0:tick=tk) {l:List It} {fr fr' : Fr} {H H' : Mem} (h1:fr=fr') (h2:H=H') : Bx P W ops Q l fr H al=Bx P W ops Q l fr' H' al:=by grind
theorem f1w (_h0:tick=tk) {l:List Nat} {fr fr' : Fr} {H H' : Mem} (h1:fr=fr') (h2:H=H') : a5f P W ops fr H l=a5f P W ops fr' H' l:=by grind
theorem f1x (_h0:tick=tk) {l l' : List It} {fr fr' : Fr} {H H' : Mem} (h0:l=l') (h1:fr=fr') (h2:H=H') : a8f P W ops Q l fr H=a8f P W ops Q l' fr' H':=by grind
theorem f1y (_h0:tick=tk) {o o' : Out} (h:o=o') : a6a Q o=a6a Q o':=by rw[h]
def atW (l:List Oper) (i:Nat) (k:Oper->Prop) : Prop:=match l[i]? with|some o=>k o|none=>False
theorem f1z {o:Oper} {k:Oper->Prop} : atW (o :: l) 0 k=k o:=(rfl)
theorem f2a {o:Oper} {n:Nat} {k:Oper->Prop} : atW (o :: l) (n+1) k=atW l n k:=(rfl)
theorem f2b (_h0:tick=tk) {l:List Oper} {i:Nat} {k:Oper->Prop} : atW l i k=atW l i k:=rfl
attribute [congr] f1u f1v f1w f1x f1y f2b
theorem execP_skip:Df P W L plan .skip fr H Q=Q (.norm fr H):=(rfl)
theorem f2c : Df P W L plan (.region id l.toArray false) fr H Q=a3i P W l.toArray Q l fr H:=(rfl)
theorem f2d : Df P W L plan (.region id ops true) fr H Q=a8f P W ops Q (planAt plan id) fr H:=(rfl)
theorem f2e {a:Code} : Df P W L plan (.seq a b) fr H Q=Df P W L plan a fr H (a3t (fun fr H=>Df P W L plan b fr H Q) Q):=(rfl)
theorem f2f {x:Operand} {a:Code} : Df P W L plan (.cond x a b) fr H Q=a3u (fr.ev x) (Df P W L plan a fr H Q) (Df P W L plan b fr H Q):=(rfl)
theorem f2g : Df P W L plan (.block id b) fr H Q=Df P W L plan b fr H (a6u id Q):=(rfl)
theorem f2h : Df P W L plan (.loop b) fr H Q=L b fr H Q:=(rfl)
theorem f2i : Df P W L plan (.exit id) fr H Q=Q (.exit id fr H):=(rfl)
theorem execP_ret:Df P W L plan .ret fr H Q=Q (.ret fr H):=(rfl)
theorem f2j {g:Nat->Option AV} {ds:List Dfr} {l:List It} : a8f P W ops Q l (.f g ds) H=Bx P W ops (a6a Q) l (.f g ds) H []:=(rfl)
theorem clearQ_norm:a6a Q (.norm fr H)=Q (.norm fr H):=(rfl)
theorem planW_nil:Bx P W ops Q [] fr H al=Q (.norm fr H):=(rfl)
theorem f2k : Bx P W l.toArray Q (.run i :: r) fr H al=atW l i fun o=>a0f P W l.toArray o fr H (fun fr H=>Bx P W l.toArray Q r fr H al) Q:=by
 rw[Bx,List.getElem?_toArray];rfl
theorem f2l : Bx P W l.toArray Q (.mk i :: r) fr H al=atW l i fun o=>a0f P W l.toArray o fr H (fun fr H'=>Bx P W l.toArray Q r fr H' ((i,H.next,H'.get H.next) :: al)) Q:=by
 rw[Bx,List.getElem?_toArray];rfl
theorem f2m {hs:List Nat} : Bx P W ops Q (.gate hs as :: r) fr H al=(a5f P W ops fr H hs/\a8e H as al/\Bx P W ops Q r fr H al):=(rfl)
theorem againW_nil:a5f P W ops fr H []=True:=(rfl)
theorem f2n {hs:List Nat} : a5f P W l.toArray fr H (i :: hs)=((atW l i fun o=>a0f P W l.toArray o fr H (fun fr' _=>a1f fr' o.dst=a1f fr o.dst) fun _=>False)/\a5f P W l.toArray fr H hs):=by
 rw[a5f,List.getElem?_toArray];rfl
theorem f2o {d:Tmp} : a1f fr (some d)=fr.get d:=(rfl)
theorem f2p : a8e H as []=True:=(rfl)
theorem f2q {a:Nat} {b:Option Blk} {l:AlP} : a8e H as ((i,a,b) :: l)=((i∈as->H.get a=b)/\a8e H as l):=(rfl)
attribute [simp] execP_skip f2c f2d f2e f2f f2g f2h f2i execP_ret f2j clearQ_norm
 planW_nil f2k f2l f2m againW_nil f2n f2o f2p f2q f1z f2a
end Go.Ai
end
section
namespace Go.Ai
variable {P:Program} {W:WF} {L:LF} {Q:Out→Prop} {fr:Fr} {H:Mem}
section
variable {ev:Ev} {d:Option Tmp} {ty:TypeId} {p:String} {af:Array Edge} {g:Option (Nat×Bool)}
end
end Go.Ai
end
section
namespace Go.Ai
variable {P:Program} {H:Mem}
section
variable {ev:Ev} {d:Option Tmp} {ty:TypeId} {p:String} {af:Array Edge} {g:Option (Nat×Bool)}
variable {t:TypeId} {a b:Bool}
theorem d3b {i:TypeInfo} (h:P.info? t=some i) : Ao P (typeInfo t)=some i:=by
 unfold typeInfo;show Ao P (match P.info? t with|some d=>pure d|none=>stuck "no such type")=_;rw[h];rfl
theorem d3c (ht:P.underlying t=some .bool) : Ao P (Op.equal t (.bool a) (.bool b))=some (a == b):=by
 unfold Op.equal;show Ao P (Op.equalIn (9999+1) t (.bool a) (.bool b))=_;unfold Op.equalIn;exact(Bt (m:=underlying t) (a5b ht)).trans rfl
theorem f2r {rt:TypeId} {x y:Operand} (hx:ev x=some (.lit (.bool a))) (hy:ev y=some (.lit (.bool b))) (ht:P.underlying t=some .bool) :
  a2j P H ev ⟨d,.binOp .eql t x y rt,ty,p,af,g⟩ .eql t (some (.lit (.bool a))) (some (.lit (.bool b)))=.val (.lit (.bool (a == b))) H:=by
 unfold a2j;dsimp only;rw[b0e (v:=.lit (.bool (a == b))) rfl];refine b0d (r:=.bool (a == b)) rfl hx hy fun ρ h1 h2=>b0f h1 h2 rfl ?_;show Ao P (do pure (Value.bool (<- Op.equal t (.bool a) (.bool b))))=_;exact(Bt (d3c ht)).trans rfl
theorem f2s {rt:TypeId} {x y:Operand} (hx:ev x=some (.lit (.bool a))) (hy:ev y=some (.lit (.bool b))) (ht:P.underlying t=some .bool) :
  a2j P H ev ⟨d,.binOp .neq t x y rt,ty,p,af,g⟩ .neq t (some (.lit (.bool a))) (some (.lit (.bool b)))=.val (.lit (.bool (!(a == b)))) H:=by
 unfold a2j;dsimp only;rw[b0e (v:=.lit (.bool (!(a == b)))) rfl];refine b0d (r:=.bool (!(a == b))) rfl hx hy fun ρ h1 h2=>b0f h1 h2 rfl ?_;show Ao P (do pure (Value.bool (!(<- Op.equal t (.bool a) (.bool b)))))=_;exact(Bt (d3c ht)).trans rfl
attribute [simp] f2r f2s
end
end Go.Ai
end
section
namespace Go.Ai
structure b1z where
 n:Nat
 succ:Nat->List Nat
abbrev SetS:=Nat->Bool
def b1z.ok (G:b1z) : Prop:=∀ s,s<G.n->∀ t∈G.succ s,t<G.n
def leS (n:Nat) (X Y:SetS) : Prop:=∀ s,s<n->X s=true->Y s=true
def eqS (n:Nat) (X Y:SetS) : Prop:=∀ s,s<n->X s=Y s
theorem eqS.le {n:Nat} {X Y:SetS} (h:eqS n X Y) : leS n X Y:=fun s hs hx=>by rw[<- h s hs];grind
theorem eqS.symm {n:Nat} {X Y:SetS} (h:eqS n X Y) : eqS n Y X:=fun s hs=>(h s hs).symm
theorem eqS.trans {n:Nat} {X Y Z:SetS} (h:eqS n X Y) (h' : eqS n Y Z) : eqS n X Z:=fun s hs=>(h s hs).trans (h' s hs)
def b1z.pre (G:b1z) (X:SetS) : SetS:=fun s=>(G.succ s).any X
def b1z.post (G:b1z) (X:SetS) : SetS:=fun s=>(G.succ s).all X
def cnt (X:SetS) : Nat->Nat
 | 0=>0
 | k+1=>cnt X k+(if X k then 1 else 0)
end Go.Ai
end
section
namespace Go.Ai
variable {B G:Nat} {P:Program} {ρ:Rn} {H:Mem} {w:World}
noncomputable def orR (x:Ar) (y:Ar) : Ar:=Ar.rec (motive:=fun _=>Ar) (fun v H=>.ret v H) (fun v H=>.panic v H) y x
noncomputable def orC (O c:CallF) : CallF:=fun f a H=>orR (O f a H) (c f a H)
theorem f2t {O c:CallF} (hO:Az B G P O) (hc:Az B G P c) : Az B G P (orC O c):=by
 intro f args H hne ρ us w s hv;unfold orC at hne |-
 cases hr:O f args H with
 | bad=>rw[hr] at hne;exact hc f args H hne ρ us w s hv
 | ret v H'=>have:=hO f args H (by grind) ρ us w s hv;rw[hr] at this;exact this
 | panic v H'=>have:=hO f args H (by grind) ρ us w s hv;rw[hr] at this;exact this
noncomputable def Mem.fn (H:Mem) : Mem:=⟨.fn H.get,H.next⟩
theorem Sim.toFn (s:Sim B G ρ H w) : Sim B G ρ H.fn w:=⟨s.blk,s.inj,s.fresh,s.glob,s.names,s.base⟩
mutual
def a1g (n:Nat) : AV->Bool
 | .lit _=>true
 | .es=>true
 | .ptr a _=>Nat.blt a n
 | .sl a _ _ _=>Nat.blt a n
 | .slq a _ _ _=>Nat.blt a n
 | .map a=>Nat.blt a n
 | .func _ x y=>belowL n x && belowL n y
 | .iface _ v=>a1g n v
 | .agg l=>belowL n l
 | .tup l=>belowL n l
def belowL (n:Nat) : List AV->Bool
 | []=>true
 | v :: l=>a1g n v && belowL n l
end
def b3v (n:Nat) (ρ:Rn) : Rn:=fun a=>if a<n then ρ a else none
theorem c0k {n a:Nat} {ρ:Rn} (h:Nat.blt a n=true) : b3v n ρ a=ρ a:=if_pos (Dp h)
mutual
theorem c5j {n:Nat} {ρ:Rn} : ∀ {v:AV} {u:Value},a1g n v=true->VR ρ v u->VR (b3v n ρ) v u
 | .lit _,_,_,r=>r
 | .es,_,_,r=>r
 | .ptr a _,_,hb,⟨b,o,k,e,r⟩=>⟨b,o,k,(c0k (by simpa[a1g] using hb)).trans e,r⟩
 | .sl a _ _ _,_,hb,⟨b,o,k,e,r⟩=>⟨b,o,k,(c0k (by simpa[a1g] using hb)).trans e,r⟩
 | .slq a _ _ _,_,hb,⟨b,o,k,e,r⟩=>⟨b,o,k,(c0k (by simpa[a1g] using hb)).trans e,r⟩
 | .map a,_,hb,⟨b,o,k,e,r⟩=>⟨b,o,k,(c0k (by simpa[a1g] using hb)).trans e,r⟩
 | .func _ _ _,_,hb,⟨f',c',e,r,q⟩=>by
  simp only[a1g,Dq] at hb;exact⟨f',c',e,below_VRs hb.1 r,below_VRs hb.2 q⟩
 | .iface _ _,_,hb,⟨u',e,r⟩=>⟨u',e,c5j (by simpa[a1g] using hb) r⟩
 | .agg _,_,hb,⟨cs,e,r⟩=>⟨cs,e,below_VRs (by simpa[a1g] using hb) r⟩
 | .tup _,_,hb,⟨cs,e,r⟩=>⟨cs,e,below_VRs (by simpa[a1g] using hb) r⟩
theorem below_VRs {n:Nat} {ρ:Rn} : ∀ {l:List AV} {us:List Value},belowL n l=true->VRs ρ l us->VRs (b3v n ρ) l us
 | [],_,_,r=>r
 | _ :: _,_,hb,⟨u,us',e,r,q⟩=>by
  simp only[belowL,Dq] at hb;exact⟨u,us',e,c5j hb.1 r,below_VRs hb.2 q⟩
end
def c0l (n:Nat) : Option Blk->Bool
 | none=>true
 | some (.cells l own _)=>!own && belowL n l
 | _=>false
def d3d (v:AV) : Ar->Bool
 | .ret u _=>eqAV u v
 | _=>false
theorem Sim.small {H0:Mem} (s:Sim B G ρ H w) (hG:G<=H0.next) (hst:∀ a,c0l H0.next (H0.get a)=true) (hsub:∀ a x,H0.get a=some x->H.get a=some x) (hlt:∀ a x,H0.get a=some x->a<H0.next) :
  Sim w.heap.size G (b3v H0.next ρ) H0 w:=by
 refine⟨fun a x ha=>?_,fun a a' x x' b o k o' k' ha _ _ hown=>?_,fun a ha=>if_neg (Nat.not_lt.2 ha),fun a x hlt' ha=>?_,hG,Dm _⟩
 ·have hr:b3v H0.next ρ a=ρ a:=if_pos (hlt a x ha);rcases s.blk a x (hsub a x ha) with hn|⟨b,o,k,h1,h2⟩
  ·grind
  ·refine .inr ⟨b,o,k,hr.trans h1,?_⟩;have hs:=hst a;rw[ha] at hs
   cases x with
   | cells l own z =>
    simp only[c0l,Dq,Bool.not_eq_true'] at hs;obtain⟨c,e,fz,h3,h4,h5⟩:=h2;refine⟨c,e,fz,h3,fun i v hi=>?_,fun hown=>by grind⟩;obtain⟨u,hu,hv⟩:=h4 i v hi;refine⟨u,hu,c5j ?_ hv⟩;have key:∀ (l:List AV) (i:Nat),belowL H0.next l=true->l[i]?=some v->a1g H0.next v=true:=by
     intro l
     induction l with
     | nil=>grind
     | cons y l ih =>
      (simp_all[belowL];grind)
    grind
   | map _ _=>cases hs
   | siter _ _=>cases hs
   | typ _ _ _=>cases hs
 ·have hs:=hst a;rw[ha] at hs
  cases x with
  | cells l own z =>
   simp only[c0l,Dq,Bool.not_eq_true'] at hs;have:own=true:=hown;grind
  | map _ _=>cases hs
  | siter _ _=>cases hs
  | typ _ _ _=>cases hs
 ·have hr:b3v H0.next ρ a=ρ a:=if_pos (hlt a x ha);exact hr.trans (s.glob a x hlt' (hsub a x ha))
theorem WC.local {H0:Mem} {O:CallF} {f:FuncId} {args:List AV} {v:AV} (hO:∀ B,Az B G P O) (hrun:d3d v (O f args H0)=true) (hv:plainV v=true) (hargs:belowL 0 args=true)
  (hG:G<=H0.next) (hst:∀ a,c0l H0.next (H0.get a)=true) (hsub:∀ a x,H0.get a=some x->H.get a=some x) (hlt:∀ a x,H0.get a=some x->a<H0.next) :
  WC G P f args H fun r=>r=.ret v H:=by
 intro B ρ us w s hva;have mono0:∀ (n:Nat),(∀ v,a1g 0 v=true->a1g n v=true)/\(∀ l,belowL 0 l=true->belowL n l=true):=by
  intro n;have hV:∀ v,a1g 0 v=true->a1g n v=true:=by
   intro v;refine AV.rec (motive_1:=fun v=>a1g 0 v=true->a1g n v=true) (motive_2:=fun l=>belowL 0 l=true->belowL n l=true) ?_ ?_ ?_ ?_ ?_ ?_ ?_ ?_ ?_ ?_ ?_ ?_ v
   all_goals intros
   all_goals simp_all[a1g,belowL]
  have hL:∀ l,belowL 0 l=true->belowL n l=true:=by
   intro l
   induction l with
   | nil=>intro _;rfl
   | cons x l ih =>
    simp_all[belowL]
  grind
 have s0:=s.small hG hst hsub hlt;have hrr:∃ u H1,O f args H0=.ret u H1/\u=v:=by
  cases hr:O f args H0 with
  | ret u H1=>rw[hr] at hrun;exact⟨u,H1,rfl,eqAV_sound _ _ hrun⟩
  | panic u H1=>rw[hr] at hrun;cases hrun
  | bad=>rw[hr] at hrun;cases hrun
 obtain⟨u,H1,hr,rfl⟩:=hrr;refine(hO _ f args H0 (by grind) _ us w s0 (below_VRs ((mono0 H0.next).2 args hargs) hva)).mono ?_;intro e w' hc;rw[hr] at hc;refine⟨_,rfl,?_⟩
 cases e with
 | returned x =>
  obtain⟨ρ',h1,h2,h3,h4⟩:=hc;have hb:=h1.below;have hb' : Go.RowKit.Below B w w':=⟨hb.os,hb.tape,hb.output,hb.size,fun a ha=>hb.block a (Eh ha s.base)⟩;refine⟨ρ,⟨fun _ _=>rfl,h1.keeps,hb'⟩,?_,a6y hv h3,Dm _⟩;refine s.other hb.size fun a x b o k ha hra=>?_;exact hb.block b (s.at ha hra).lt
 | panicked chain=>assumption
 | outgrown=>assumption
end Go.Ai
end
section
namespace Go.Ai
variable {B G:Nat} {P:Program} {ρ ρ' : Rn} {H H' H2:Mem} {w w' : World}
end Go.Ai
end
section
namespace Go.Ai
section
variable {G:Nat} {P:Program} {W:WF} {Q:Out→Prop} {fr:Fr} {H:Mem} {ev:Ev} {d:Option Tmp} {ty:TypeId} {p:String} {af:Array Edge} {g:Option (Nat×Bool)}
noncomputable def b6r (P:Program) (H:Mem) (ev:Ev) (o:Oper) (x y:Option AV) : R:=match x,y with
 | some (.lit (.int k a)),some (.lit (.int _ b))=>.val (.lit (.int k (if b > a then b else a))) H
 | _,_=>opV P H ev o
theorem f2u {x y:Operand} {s t:TypeId} : opV P H ev ⟨d,.call ⟨.builtin .max,#[x,y],#[s,t]⟩,ty,p,af,g⟩=b6r P H ev ⟨d,.call ⟨.builtin .max,#[x,y],#[s,t]⟩,ty,p,af,g⟩ (ev x) (ev y):=by
 unfold b6r;split
 ·rename_i k a k' b hx hy;have hg:Ba P ev ⟨d,.call ⟨.builtin .max,#[x,y],#[s,t]⟩,ty,p,af,g⟩=some (.lit (.int k (if b > a then b else a))):=by
   refine b0d (u:=.int k a) (u':=.int k' b) (by rfl) hx hy fun ρ h1 h2=>?_;rw[a7u (b:=.max) (c:=⟨.builtin .max,#[x,y],#[s,t]⟩) rfl rfl];have ea:(#[x,y] : Array Operand).map ρ=#[ρ x,ρ y]:=by simp
   have hm:Ao P (Builtin.max_ #[s,t] ty #[ρ x,ρ y])=some (.int k (if b > a then b else a)):=by
    rw[h1,h2];rfl
   show Ao P (builtin .max #[s,t] ty _ ((#[x,y] : Array Operand).map ρ))=_;rw[ea];show Ao P (do pure (Next.value (<- Builtin.max_ #[s,t] ty #[ρ x,ρ y])))=_;exact(Bt hm).trans rfl
  show Cb P H ev _ ⟨.builtin .max,#[x,y],#[s,t]⟩=_;unfold Cb;rw[show (#[x,y] : Array Operand).toList=[x,y] from rfl];simp_all[a3d]
 ·rfl
theorem f2v {tk:Nat} (_h0:tick=tk) {o:Oper} {x x' y y' : Option AV} {H H' : Mem} (h1:H=H') (h2:x=x') (h3:y=y') : b6r P H ev o x y=b6r P H' ev o x' y':=by grind
attribute [congr] f2v
theorem f2w {o:Oper} {k k': IntKind} {a b:Int} : b6r P H ev o (some (.lit (.int k a))) (some (.lit (.int k' b)))=.val (.lit (.int k (if b > a then b else a))) H:=(rfl)
attribute [simp] f2u f2w
end
end Go.Ai
end
section
namespace Go.Ai
section
variable {P:Program} {H:Mem} {ev:Ev} {d:Option Tmp} {ty:TypeId} {p:String} {af:Array Edge} {g:Option (Nat×Bool)} {x y:Operand} {s t:TypeId} {size bytes:Nat}
variable {c b tk:Nat} {hy:ev y=some (.sl b 0 1 c)}
theorem c0m {a n:Nat} {l:List AV} {own:Bool} {z:Nat} (h:H.get a=some (.cells l own z)) (hl:l.length=n*size) : Cx H size n (.sl a 0 n c)=some l:=by
 rw[c4u h (by omega),g5l,Ee (by omega)]
variable {hp:apI P s t=some (size,bytes)} {hs:0 < size} {hb:bytes≤1048576}
theorem f2x {l:List AV} {own:Bool} {z:Nat} {hx:ev x=some (.nl)} (hp:apI P s t=some (size,bytes)) (hs:(decide (0<size) && decide (bytes<=1048576))=true)
  (hg:H.get b=some (.cells l own z)) (hl:l.length=size) :
  ex2 P H ev ⟨d,.call ⟨.builtin .append,#[x,y],#[s,t]⟩,ty,p,af,g⟩ x y (some (.nl)) (some (.sl b 0 1 c)) hx hy=.val (.slq H.next 0 1 0) (H.add (.cells l true size)):=by
 simp only[Dq,decide_eq_true_eq] at hs;show opV P H ev _=_;rw[a5c hx hy hp,d2l (n:=0) rfl hs.1 (c0m hg (by omega)) (by omega) (by omega) hs.2]
theorem f2y {a off:Nat} {l l0:List AV} {own own0:Bool} {z z0:Nat} {hx:ev x=some (.sl a off 0 0)} (hp:apI P s t=some (size,bytes)) (hs:(decide (0<size) && decide (bytes<=1048576))=true)
  (hg:H.get b=some (.cells l own z)) (hg0:H.get a=some (.cells l0 own0 z0)) (hl:l.length=size) (ho:off<=l0.length) :
  ex2 P H ev ⟨d,.call ⟨.builtin .append,#[x,y],#[s,t]⟩,ty,p,af,g⟩ x y (some (.sl a off 0 0)) (some (.sl b 0 1 c)) hx hy=.val (.slq H.next 0 1 0) (H.add (.cells l true size)):=by
 simp only[Dq,decide_eq_true_eq] at hs;show opV P H ev _=_;rw[a5c hx hy hp,d2m (n:=0) rfl hs.1 (c0m hg (by omega)) (by omega) hg0 (by omega) (by omega) (by omega) hs.2];simp
theorem f2z {a k:Nat} {l r:List AV} {own:Bool} {z:Nat} {hx:ev x=some (.slq a 0 k 0)} (hp:apI P s t=some (size,bytes)) (hs:(decide (0<size) && decide (bytes<=1048576))=true)
  (hg:H.get b=some (.cells l own z)) (hg0:H.get a=some (.cells r true size)) (hl:l.length=size) (hr:r.length=k*size) (hk:k<=1000000) (h1:allOne l=true) :
  ex2 P H ev ⟨d,.call ⟨.builtin .append,#[x,y],#[s,t]⟩,ty,p,af,g⟩ x y (some (.slq a 0 k 0)) (some (.sl b 0 1 c)) hx hy=.val (.slq H.next 0 (k+1) 0) ((H.rm a).add (.cells (r++l) true size)):=by
 simp only[Dq,decide_eq_true_eq] at hs;show opV P H ev _=_;rw[a5c hx hy hp,d2n (n:=0) rfl hs.1 (c0m hg (by omega)) (by omega) hg0 hr (by omega) hs.2 h1];rfl
/- The same,by what the blocks hold. -/
noncomputable def apN (q:Option (Nat×Nat)) (gb:Option Blk) (H:Mem) (els:R) : R:=match q,gb with
 | some (size,bytes),some (.cells l _ _)=>if 0<size/\bytes<=1048576/\l.length=size then .val (.slq H.next 0 1 0) (H.add (.cells l true size)) else els
 | _,_=>els
noncomputable def apZ (q:Option (Nat×Nat)) (off:Nat) (ga gb:Option Blk) (H:Mem) (els:R) : R:=match q,ga,gb with
 | some (size,bytes),some (.cells l0 _ _),some (.cells l _ _)=>if 0<size/\bytes<=1048576/\l.length=size/\off<=l0.length then .val (.slq H.next 0 1 0) (H.add (.cells l true size)) else els
 | _,_,_=>els
noncomputable def apQ (q:Option (Nat×Nat)) (k a:Nat) (ga gb:Option Blk) (H:Mem) (els:R) : R:=match q,ga,gb with
 | some (size,bytes),some (.cells r true z),some (.cells l _ _)=>if z=size/\0<size/\bytes<=1048576/\l.length=size/\r.length=k*size/\k<=1000000/\allOne l=true then .val (.slq H.next 0 (k+1) 0) ((H.rm a).add (.cells (r++l) true size)) else els
 | _,_,_=>els
theorem f3a {hx:ev x=some (.nl)} :
  ex2 P H ev ⟨d,.call ⟨.builtin .append,#[x,y],#[s,t]⟩,ty,p,af,g⟩ x y (some (.nl)) (some (.sl b 0 1 c)) hx hy=apN (apI P s t) (H.get b) H (opV P H ev ⟨d,.call ⟨.builtin .append,#[x,y],#[s,t]⟩,ty,p,af,g⟩):=by
 unfold apN;split
 ·rename_i size bytes l own z h1 h2;split
  ·grind[f2x]
  ·rfl
 ·rfl
theorem f3b {a off:Nat} {hx:ev x=some (.sl a off 0 0)} :
  ex2 P H ev ⟨d,.call ⟨.builtin .append,#[x,y],#[s,t]⟩,ty,p,af,g⟩ x y (some (.sl a off 0 0)) (some (.sl b 0 1 c)) hx hy=apZ (apI P s t) off (H.get a) (H.get b) H (opV P H ev ⟨d,.call ⟨.builtin .append,#[x,y],#[s,t]⟩,ty,p,af,g⟩):=by
 unfold apZ;split
 ·rename_i size bytes l0 o0 z0 l own z h1 h2 h3;split
  ·grind[f2y]
  ·rfl
 ·rfl
theorem f3c {a k:Nat} {hx:ev x=some (.slq a 0 k 0)} :
  ex2 P H ev ⟨d,.call ⟨.builtin .append,#[x,y],#[s,t]⟩,ty,p,af,g⟩ x y (some (.slq a 0 k 0)) (some (.sl b 0 1 c)) hx hy=apQ (apI P s t) k a (H.get a) (H.get b) H (opV P H ev ⟨d,.call ⟨.builtin .append,#[x,y],#[s,t]⟩,ty,p,af,g⟩):=by
 unfold apQ;split
 ·rename_i size bytes r z l own w h1 h2 h3;split
  ·rename_i h;obtain⟨rfl,e2,e3,e4,e5,e6,e7⟩:=h;grind[f2z]
  ·rfl
 ·rfl
theorem f3d (_h0:tick=tk) {q q' : Option (Nat×Nat)} {gb gb' : Option Blk} {H:Mem} {els:R} (h1:q=q') (h2:gb=gb') : apN q gb H els=apN q' gb' H els:=by grind
theorem f3e (_h0:tick=tk) {q q' : Option (Nat×Nat)} {off:Nat} {ga ga' gb gb' : Option Blk} {H:Mem} {els:R} (h1:q=q') (h2:ga=ga') (h3:gb=gb') : apZ q off ga gb H els=apZ q' off ga' gb' H els:=by grind
theorem f3f (_h0:tick=tk) {q q' : Option (Nat×Nat)} {k a:Nat} {ga ga' gb gb' : Option Blk} {H:Mem} {els:R} (h1:q=q') (h2:ga=ga') (h3:gb=gb') : apQ q k a ga gb H els=apQ q' k a ga' gb' H els:=by grind
attribute [congr] f3d f3e f3f
variable {els:R} {z w:Nat} {l r l0:List AV} {own own0:Bool} {k a n off:Nat} {G:Nat→Option Blk}
theorem f3g (h1:0<size) (h2:bytes<=1048576) (h3:l.length=size) : apN (some (size,bytes)) (some (.cells l own z)) ⟨.fn G,n⟩ els=.val (.slq n 0 1 0) ⟨.fn (Ap G n (some (.cells l true size))),n+1⟩:=if_pos ⟨h1,h2,h3⟩
theorem f3h (h1:0<size) (h2:bytes<=1048576) (h3:l.length=size) (h4:off<=l0.length) : apZ (some (size,bytes)) off (some (.cells l0 own0 w)) (some (.cells l own z)) ⟨.fn G,n⟩ els=.val (.slq n 0 1 0) ⟨.fn (Ap G n (some (.cells l true size))),n+1⟩:=if_pos ⟨h1,h2,h3,h4⟩
theorem f3i (h1:0<size) (h2:bytes<=1048576) (h3:l.length=size) (h4:r.length=k*size) (h5:k<=1000000) (h6:allOne l=true) :
  apQ (some (size,bytes)) k a (some (.cells r true size)) (some (.cells l own w)) ⟨.fn G,n⟩ els=.val (.slq n 0 (k+1) 0) ⟨.fn (Ap (Ap G a none) n (some (.cells (r++l) true size))),n+1⟩:=if_pos ⟨rfl,h1,h2,h3,h4,h5,h6⟩
attribute [simp] f3a f3b f3c f3g f3h f3i
end
def rOf:R->Option AV
 | .val v _=>some v
 | _=>none
theorem f3j {P:Program} {g:Nat->Option AV} {ds:List Dfr} {H:Mem} {a:Tmp} {t:TypeId} : a6o P (.f g ds) H (.cell a t)=rOf (a3f P H t (g a)):=by
 show (match g a with|some p=>load P H t p|none=>none)=_;unfold a3f
 cases g a with
 | none=>rfl
 | some p =>
  dsimp only;cases load P H t p<;>rfl
theorem f3k {v:AV} {H:Mem} : rOf (.val v H)=some v:=(rfl)
attribute [simp] f3j f3k
theorem f3l {P:Program} {t:TypeId} {z:List AV} {size n:Nat} {g:Gb} (h:bsI P t=some (z,size)) :
  bsS P ⟨.fn g,n⟩ t 0 (some (z,size)) (some [])=.val (.sl n 0 0 0) ⟨.fn (Ap g n (some (.cells [] true 0))),n+1⟩:=by
 unfold bsS;dsimp only;rw[if_neg (by omega)];exact f0f h
attribute [simp] f3l
end Go.Ai
end
section
namespace Go.Ai
section
variable {P:Program} {H:Mem} {ev:Ev} {d:Option Tmp} {ty:TypeId} {p:String} {af:Array Edge} {g:Option (Nat×Bool)} {x y:Operand} {s t:TypeId} {size bytes:Nat}
variable {els:R} {z w:Nat} {l l0:List AV} {own own0:Bool} {k n off:Nat} {G:Nat→Option Blk}
end
end Go.Ai
end
section
namespace Go.Ai
section
variable {P:Program} {W:WF} {Q:Out→Prop} {fr:Fr} {H:Mem} {ev:Ev} {d:Option Tmp} {ty:TypeId} {p:String} {af:Array Edge} {g:Option (Nat×Bool)}
theorem f3m {o:Oper} {x y z:Operand} {u u' u'' r:Value} (ho:o.op.operands=#[x,y,z]) (hx:ev x=some (.lit u)) (hy:ev y=some (.lit u')) (hz:ev z=some (.lit u''))
  (hr:∀ ρ:Operand->Value,ρ x=u->ρ y=u'->ρ z=u''->Ao P (execOp ρ o)=some (.value r)) : Ba P ev o=some (.lit r):=by
 simp_all[Ba,toLit]
end
end Go.Ai
end
section
namespace Go.Ai
section
variable {P:Program} {W:WF} {Q:Out→Prop} {fr:Fr} {H:Mem} {ev:Ev} {d:Option Tmp} {ty:TypeId} {p:String} {af:Array Edge} {g:Option (Nat×Bool)}
noncomputable def b3w (P:Program) (H:Mem) (ev:Ev) (o:Oper) (s t:TypeId) (ed:Option TypeDesc) (x:AV) (off n:Nat) (b:Option Blk) : R:=match ed,b with
 | some (.int .u8),some (.cells l _ _)=>if off+n<=l.length then (match bytesOf ((l.drop off).take n) with|some bs=>.val (.lit (.string ⟨bs.toArray⟩)) H|none=>a1p P H ev o s t (some x)) else a1p P H ev o s t (some x)
 | _,_=>a1p P H ev o s t (some x)
theorem f3n {s t:TypeId} {x:Operand} {e:TypeId} {a off n c:Nat} (hx:ev x=some (.sl a off n c)) (hs:P.underlying s=some (.slice e)) (ht:P.underlying t=some .string) :
  cvS P H ev ⟨d,.convert s t x,ty,p,af,g⟩ s t (some (.slice e)) (some .string) (some (.sl a off n c))=b3w P H ev ⟨d,.convert s t x,ty,p,af,g⟩ s t (P.underlying e) (.sl a off n c) off n (H.get a):=by
 show a1p P H ev _ s t (some (.sl a off n c))=_;unfold b3w;split
 ·rename_i l own z he hg;split
  ·rename_i hle;split
   ·rename_i bs hbs;unfold a1p;rw[a8a (x:=x) (by simp[Op.operands]) (fun v' h=>by rw[hx] at h;cases h;rfl)];dsimp only;unfold Go.Ai.convert;rw[hs,ht];dsimp only;rw[he];dsimp only[lenOf];have hf:Cx H 1 n (.sl a off n c)=some ((l.drop off).take n):=by
     have:=c4u (size:=1) (n:=n) (c:=c) hg (by rw[Ea];omega);grind
    grind
   ·rfl
  ·rfl
 ·rfl
theorem f3o {tk:Nat} (_h0:tick=tk) {o:Oper} {s t:TypeId} {ed ed' : Option TypeDesc} {x:AV} {off n:Nat} {b b' : Option Blk} (h1:ed=ed') (h2:b=b') : b3w P H ev o s t ed x off n b=b3w P H ev o s t ed' x off n b':=by grind
attribute [congr] f3o
noncomputable def b6s (H:Mem) (els:R) (x:Option (List UInt8)) : R:=match x with|some bs=>.val (.lit (.string ⟨bs.toArray⟩)) H|none=>els
theorem f3p {tk:Nat} (_h0:tick=tk) {H:Mem} {els:R} {x x' : Option (List UInt8)} (h:x=x') : b6s H els x=b6s H els x':=by rw[h]
attribute [congr] f3p
theorem f3q {els:R} {bs:List UInt8} : b6s H els (some bs)=.val (.lit (.string ⟨bs.toArray⟩)) H:=(rfl)
theorem f3r {o:Oper} {s t:TypeId} {x:AV} {off n:Nat} {l:List AV} {own:Bool} {z:Nat} (h1:off+n<=l.length) : b3w P H ev o s t (some (.int .u8)) x off n (some (.cells l own z))=b6s H (a1p P H ev o s t (some x)) (bytesOf ((l.drop off).take n)):=by
 simp_all[b6s,b3w]
def d3e (x:UInt8) (l:Option (List UInt8)) : Option (List UInt8):=match l with|some r=>some (x :: r)|none=>none
theorem d3f {n:Int} {l:List AV} : bytesOf (.lit (.int .u8 n) :: l)=d3e (UInt8.ofNat n.toNat) (bytesOf l):=by
 rfl
theorem d3g {x:UInt8} {r:List UInt8} : d3e x (some r)=some (x :: r):=(rfl)
attribute [simp] f3n f3r f3q d3f d3g
end
end Go.Ai
end
section
namespace Go.Ai
section
variable {P:Program} {H:Mem} {ev:Ev} {d:Option Tmp} {ty:TypeId} {p:String} {af:Array Edge} {g:Option (Nat×Bool)}
end
end Go.Ai
end
section
namespace Go.Ai
section
variable {P:Program} {W:WF} {Q:Out→Prop} {fr:Fr} {H:Mem} {ev:Ev} {d:Option Tmp} {ty:TypeId} {p:String} {af:Array Edge} {g:Option (Nat×Bool)}
end
end Go.Ai
end
section
namespace Go.Ai
set_option maxRecDepth 10000
theorem Ae {g:Gb} {a j:Nat} {x:Option Blk} (h:j≠a) : Ap g a x j=g j:=if_neg h
theorem Ag {g:Gb} {a:Nat} {x:Option Blk} : Ap g a x a=x:=if_pos rfl
theorem ba_lawful:LawfulBEq ByteArray where
 eq_of_beq:=fun {a b} h=>by grind[c4v]
 rfl:=fun {a}=>by grind[c4v]
def Af (g:Gb) (b:Nat) (sv:AV) (len:Nat) (cs:List AV) : Prop :=
 (len=0/\cs=[]/\(sv=.nl\/sv=.es))\/∃ a off,a<b/\((∃ c,sv=.sl a off len c)\/∃ c,sv=.slq a off len c)/\Row g a off cs
theorem Af.mono {g g' : Gb} {b b' len:Nat} {sv:AV} {cs:List AV} (hb:b<=b') (h:∀ a,a<b->g' a=g a) : Af g b sv len cs->Af g' b' sv len cs :=
 fun hs=>hs.imp id fun⟨a,off,h1,h2,h3⟩=>⟨a,off,by omega,h2,h3.mono (h a h1)⟩
theorem b3x {g:Gb} {a n len c:Nat} {cs:List AV} {own:Bool} {z:Nat} (h:g a=some (.cells cs own z)) (ha:a < n) : Af g n (.sl a 0 len c) len cs :=
 .inr ⟨a,0,ha,.inl ⟨c,rfl⟩,⟨cs,own,z,h,by simp [*]⟩⟩
inductive a1h where
 | mk (op:Nat) (a b:Int) (subs:List a1h)
def a1h.op:a1h->Nat
 | .mk op _ _ _=>op
mutual
def b0h (g:Gb) (b:Nat) : a1h->List AV->Prop
  | .mk op k q subs,cs=>op<256/\∃ sv,cs=[.lit (.int .u8 op),.li k,.li q,sv] /\
    ((subs=[]/\(sv=.nl\/sv=.es)) \/
     ∃ a off r,a<b/\((∃ c,sv=.sl a off subs.length c)\/(∃ c,sv=.slq a off subs.length c))/\Row g a off r/\repL g b subs r)
def repL (g:Gb) (b:Nat) : List a1h->List AV->Prop
 | [],cs=>cs=[]
 | x :: l,cs=>∃ c r,cs=c++r/\b0h g b x c/\repL g b l r
end
mutual
theorem b0i {g g' : Gb} {b b' : Nat} (hb:b<=b') (h:∀ a x,a<b->g a=some x->g' a=some x) : ∀ {x:a1h} {cs:List AV},b0h g b x cs->b0h g' b' x cs
 | .mk op k q subs,cs,⟨h0,sv,h1,h2⟩=>⟨h0,sv,h1,h2.imp id fun⟨a,off,r,h3,h4,⟨l,own,z,h5,h6⟩,h7⟩=>⟨a,off,r,by omega,h4,⟨l,own,z,h a _ h3 h5,h6⟩,repL_ext hb h h7⟩⟩
theorem repL_ext {g g' : Gb} {b b' : Nat} (hb:b<=b') (h:∀ a x,a<b->g a=some x->g' a=some x) : ∀ {l:List a1h} {cs:List AV},repL g b l cs->repL g' b' l cs
 | [],_,h0=>h0
 | _ :: _,_,⟨c,r,h1,h2,h3⟩=>⟨c,r,h1,b0i hb h h2,repL_ext hb h h3⟩
end
theorem d3h {g:Gb} {b:Nat} {x:a1h} {cs:List AV} (h:b0h g b x cs) : repL g b [x] cs:=⟨cs,[],by simp,h,rfl⟩
def a8g (g:Gb) (n n' : Nat) (x:a1h) (cs:List AV) : Prop:=∃ gk:Gb,(∀ a z,gk a=some z->g a=some z/\n<=a/\a<n')/\b0h gk n' x cs
theorem a8g.keep {g g' : Gb} {n0 n n' n2:Nat} {x:a1h} {cs:List AV} (h:a8g g n n' x cs) (h0:n0<=n) (h2:n'<=n2) (hg:∀ a,n<=a->a<n'->g' a=g a) : a8g g' n0 n2 x cs:=by
 obtain⟨gk,h1,h3⟩:=h
 refine⟨gk,fun a z hz=>?_,b0i h2 (fun a z _ hz=>hz) h3⟩
 grind
theorem a8g.rep {g:Gb} {n n' : Nat} {x:a1h} {cs:List AV} (h:a8g g n n' x cs) : b0h g n' x cs:=by
 obtain ⟨gk,h1,h3⟩:=h;exact b0i (Dm _) (fun a z _ hz=>(h1 a z hz).1) h3
def c0n (g:Gb) (n n' : Nat) (l:List a1h) (cs:List AV) : Prop:=∃ gk:Gb,(∀ a z,gk a=some z->g a=some z/\n<=a/\a<n')/\repL gk n' l cs
theorem c0n.one {g:Gb} {n n' : Nat} {x:a1h} {cs:List AV} (h:a8g g n n' x cs) : c0n g n n' [x] cs:=by
 obtain⟨gk,h1,h3⟩:=h
 exact⟨gk,h1,d3h h3⟩
theorem c0n.two {g:Gb} {n n' : Nat} {x y:a1h} {cs ds:List AV} (h:a8g g n n' x cs) (h' : a8g g n n' y ds) : c0n g n n' [x,y] (cs++ds):=by
 obtain ⟨gk,h1,h3⟩:=h;obtain ⟨gl,h4,h5⟩:=h';refine ⟨fun a=>if n≤a∧a < n' then g a else none,fun a z hz=>?_,cs,ds,rfl,b0i (Dm _) (fun a z _ hz=>?_) h3,d3h (b0i (Dm _) (fun a z _ hz=>?_) h5)⟩
 all_goals grind
def b2a (g:Gb) (n q n' : Nat) (x:a1h) (cs:List AV) : Prop:=∃ gk:Gb,(∀ a z,gk a=some z->g a=some z/\n<=a/\a<n'/\a≠q)/\b0h gk n' x cs
theorem b2a.rep {g:Gb} {n q n' : Nat} {x:a1h} {cs:List AV} (h:b2a g n q n' x cs) : b0h g n' x cs:=by
 obtain ⟨gk,h1,h3⟩:=h;exact b0i (Dm _) (fun a z _ hz=>(h1 a z hz).1) h3
theorem b2a.fresh {g g' : Gb} {n0 n q n' n2:Nat} {x:a1h} {cs:List AV} (h:b2a g n q n' x cs) (h0:n0<=n) (h2:n'<=n2) (hg:∀ a,n<=a->a<n'->a≠q->g' a=g a) : a8g g' n0 n2 x cs:=by
 obtain⟨gk,h1,h3⟩:=h
 refine⟨gk,fun a z hz=>?_,b0i h2 (fun a z _ hz=>hz) h3⟩
 grind
theorem b2a.keep {g g' : Gb} {n q n' n2:Nat} {x:a1h} {cs:List AV} (h:b2a g n q n' x cs) (h2:n'<=n2) (hg:∀ a,n<=a->a<n'->a≠q->g' a=g a) : b2a g' n q n2 x cs:=by
 obtain⟨gk,h1,h3⟩:=h
 refine⟨gk,fun a z hz=>?_,b0i h2 (fun a z _ hz=>hz) h3⟩
 grind
end Go.Ai
end
section
namespace Go.Ai
set_option maxRecDepth 10000
inductive ParR where
 | ok (x:a1h) (k:Nat)
 | err (k:Nat)
section
variable (s:ByteArray)
end
end Go.Ai
end
section
namespace Go.Ai
structure Bg where
 inp:Int
 out:Int
 rows:Tq
def Bg.edge (M:Bg) (s:Nat) (i:Nat) : Int×Int:=((M.rows.getD s []).getD i (-1,-1))
def succL:List (Int×Int)->List Nat
 | []=>[]
 | e :: l=>if e.1<0 then succL l else e.1.toNat :: succL l
def Bg.gr (M:Bg) : b1z:=⟨M.rows.length,fun s=>succL (M.rows.getD s [])⟩
def b2b (n:Nat) (out:Int) (e:Int×Int) : Bool:=decide (e=(-1,-1)) || (decide (0<=e.1) && (decide (e.1<n) && (decide (0<=e.2) && decide (e.2<out))))
def Bg.ok (M:Bg) : Prop:=1<=M.inp/\M.inp<=16/\1<=M.out/\M.out<=16/\1<=M.rows.length/\M.rows.length<=64/\∀ r∈M.rows,(r.length:Int)=M.inp/\∀ e∈r,b2b M.rows.length M.out e=true
theorem eqS.refl (n:Nat) (X:SetS) : eqS n X X:=fun _ _=>rfl
end Go.Ai
end
section
namespace Go.Ai
set_option maxRecDepth 10000
variable {g g':Gb} {cs:List AV} {b n' b' B sz:Nat} {sv:AV} {M:Bg}
theorem Row.ext {a off:Nat} (hr:Row g a off cs) (h:∀ x,g a=some x->g' a=some x) : Row g' a off cs :=
 let ⟨l,own,z,h1,h2,h3⟩:=hr;⟨l,own,z,h _ h1,h2,h3⟩
theorem Af.ext {len:Nat} (hb:b<=b') (h:∀ a x,a<b->g a=some x->g' a=some x) : Af g b sv len cs->Af g' b' sv len cs :=
 fun hs=>hs.imp id fun⟨a,off,h1,h2,h3⟩=>⟨a,off,by omega,h2,h3.ext fun x hx=>h a x h1 hx⟩
theorem Af.one {len:Nat} : Af g b sv len cs->oneC sv=true:=by
 rintro (⟨_,_,rfl|rfl⟩|⟨a,off,_,⟨c,rfl⟩|⟨c,rfl⟩,_⟩)<;>rfl
def a8h (g:Gb) (b:Nat) (sv:AV) (len:Nat) (cs:List AV) : Prop :=
 (len=0/\(sv=.nl\/sv=.es))\/∃ a off c,a<b/\sv=.sl a off len c/\Row g a off cs
theorem a8h.mono {len:Nat} (hb:b<=b') (h:∀ a,a<b->g' a=g a) : a8h g b sv len cs->a8h g' b' sv len cs :=
 fun hs=>hs.imp id fun⟨a,off,c,h1,h2,h3⟩=>⟨a,off,c,by omega,h2,h3.mono (h a h1)⟩
theorem a8h.one {len:Nat} : a8h g b sv len cs->oneC sv=true:=by
 rintro (⟨_,rfl|rfl⟩|⟨a,off,c,_,rfl,_⟩)<;>rfl
def Bz (r:List (Int×Int)) : List AV:=r.flatMap fun e=>[.li e.1,.li e.2]
theorem rowC_len:∀ (r:List (Int×Int)),(Bz r).length=r.length*2
 | []=>rfl
 | e :: r=>by
  have:=rowC_len r;unfold Bz at this |-;rw[g5e,Dr,this,Ej];simp;omega
theorem b2c (r:List (Int×Int)) (e:Int×Int) : Bz (r++[e])=Bz r++[.li e.1,.li e.2]:=by
 grind[Bz]
theorem rowC_at:∀ (r:List (Int×Int)) (k:Nat) (h:k<r.length),((Bz r).drop (k*2)).take 2=[.lit (.int .i64 r[k].1),.lit (.int .i64 r[k].2)]
 | e :: r,0,_=>rfl
 | e :: r,k+1,h=>by
  have:=rowC_at r k (by grind);have e1:Bz (e :: r)=[.li e.1,.li e.2]++Bz r:=rfl;grind
def RowsE (g:Gb) (b:Nat) : Tq->List AV->Prop
 | [],cs=>cs=[]
 | r :: l,cs=>∃ c t,cs=c :: t/\Af g b c r.length (Bz r)/\RowsE g b l t
theorem RowsE.ext (hb:b<=b') (h:∀ a x,a<b->g a=some x->g' a=some x) : ∀ {l:Tq} {cs:List AV},RowsE g b l cs->RowsE g' b' l cs
 | [],_,h0=>h0
 | _ :: _,_,⟨c,t,h1,h2,h3⟩=>⟨c,t,h1,h2.ext hb h,h3.ext hb h⟩
theorem RowsE.len : ∀ {l:Tq} {cs:List AV},RowsE g b l cs->cs.length=l.length
 | [],cs,h=>by have h' : cs=[]:=h;grind
 | r :: l,cs,⟨c,t,h1,h2,h3⟩=>by rw[h1,Ej,Ej,h3.len]
theorem RowsE.at : ∀ {l:Tq} {cs:List AV},RowsE g b l cs->∀ (k:Nat) (h:k<l.length) (h' : k<cs.length),Af g b cs[k] l[k].length (Bz l[k])
 | r :: l,cs,⟨c,t,h1,h2,h3⟩,0,h,h'=>by grind
 | r :: l,cs,⟨c,t,h1,h2,h3⟩,k+1,h,h'=>by subst h1;exact h3.at k (by grind) (by grind)
theorem RowsE.snoc {r:List (Int×Int)} {c:AV} (hr:Af g b c r.length (Bz r)) : ∀ {l:Tq} {cs:List AV},RowsE g b l cs->RowsE g b (l++[r]) (cs++[c])
 | [],cs,h=>by have h' : cs=[]:=h;subst h';exact⟨c,[],rfl,hr,rfl⟩
 | _ :: _,_,⟨d,t,h1,h2,h3⟩=>⟨d,t++[c],by grind,h2,h3.snoc hr⟩
def a3k (g:Gb) (b:Nat) (M:Bg) (cs:List AV) : Prop :=
 ∃ sv svs,cs=[.li M.inp,.li M.out,sv]/\RowsE g b M.rows svs/\Af g b sv M.rows.length svs
theorem a3k.ext (hb:b<=b') (h:∀ a x,a<b->g a=some x->g' a=some x) {M:Bg} {cs:List AV} : a3k g b M cs->a3k g' b' M cs :=
 fun⟨sv,svs,h1,h2,h3⟩=>⟨sv,svs,h1,h2.ext hb h,h3.ext hb h⟩
theorem a3k.mono (hb:b<=b') (h:∀ a,a<b->g' a=g a) {M:Bg} {cs:List AV} (hr:a3k g b M cs) : a3k g' b' M cs:=hr.ext hb fun a x ha hx=>(h a ha).trans hx
theorem a3k.one (h:a3k g b M cs) : ∃ sv,cs=[.li M.inp,.li M.out,sv]/\oneC sv=true :=
 let ⟨sv,_,h1,_,h3⟩:=h;⟨sv,h1,h3.one⟩
def b3y (g:Gb) (n n' : Nat) (M:Bg) (cs:List AV) : Prop:=∃ gk:Gb,(∀ a z,gk a=some z->g a=some z/\n<=a/\a<n')/\a3k gk n' M cs
theorem b3y.keep {n0 n n2:Nat} (h:b3y g n n' M cs) (h0:n0<=n) (h2:n'<=n2) (hg:∀ a,n<=a->a<n'->g' a=g a) : b3y g' n0 n2 M cs:=by
 obtain⟨gk,h1,h3⟩:=h;refine⟨gk,fun a z hz=>?_,h3.ext h2 fun a z _ hz=>hz⟩;grind
theorem b3y.rep {n: Nat} (h:b3y g n n' M cs) : a3k g n' M cs :=
 let ⟨_,h1,h3⟩:=h;h3.ext (Dm _) fun a z _ hz=>(h1 a z hz).1
def Bc (g:Gb) (lo n' B:Nat) (sv:AV) (len sz:Nat) (cs:List AV) : Prop :=
 (len=0/\cs=[]/\sv=.nl)\/(0<len/\sv=.slq B 0 len 0/\lo<=B/\B<n'/\g B=some (.cells cs true sz)/\cs.length=len*sz)
theorem Bc.keep {lo n2 len:Nat} (h:Bc g lo n' B sv len sz cs) (hn:n'<=n2) (hg:lo<=B->B<n'->g' B=g B) : Bc g' lo n2 B sv len sz cs :=
 h.imp id fun⟨h0,h1,h2,h3,h4,h5⟩=>⟨h0,h1,h2,by omega,(hg h2 h3).trans h4,h5⟩
theorem Bc.mk {lo len:Nat} (h:g B=some (.cells cs true sz)) (h1:lo<=B) (h2:B<n') (h3:cs.length=(len+1)*sz) : Bc g lo n' B (.slq B 0 (len+1) 0) (len+1) sz cs :=
 .inr ⟨by omega,rfl,h1,h2,h,h3⟩
theorem Bc.one {lo len:Nat} : Bc g lo n' B sv len sz cs->oneC sv=true:=by
 rintro (⟨_,_,rfl⟩|⟨_,rfl,_⟩)<;>rfl
theorem Bc.slice {g:Gb} {lo n' B len sz:Nat} {sv:AV} {cs:List AV} (h:Bc g lo n' B sv len sz cs) : Af (fun a=>if a=B/\lo<=B/\B<n' then g a else none) n' sv len cs:=by
 rcases h with⟨h1,h2,h3⟩|⟨h0,h1,h2,h3,h4,h5⟩
 ·exact .inl ⟨h1,h2,.inl h3⟩
 ·exact .inr ⟨B,0,h3,.inr ⟨0,h1⟩,cs,true,sz,(if_pos ⟨rfl,h2,h3⟩).trans h4,by simp,by simp⟩
def b2d (part:Bool) (n O v:Nat) : Int×Int:=if part=true/\v % 4=3 then (-1,-1) else (((v / 4 % n:Nat) : Int),((v / 4 / n % O:Nat) : Int))
def a8i (part:Bool) (es:List Nat) (n I O s:Nat) : List (Int×Int):=(List.range I).map fun i=>b2d part n O (es.getD (s*I+i) 0)
def Ce (st inp out:Nat) (part:Bool) (es:List Nat) : Bg :=
 ⟨1+((inp % 3:Nat) : Int),1+((out % 3:Nat) : Int),(List.range (1+st % 6)).map (a8i part es (1+st % 6) (1+inp % 3) (1+out % 3))⟩
theorem c5k (st inp out:Nat) (part:Bool) (es:List Nat) : (Ce st inp out part es).ok:=by
 have h1:=Eo inp (show 0<3 by omega);have h2:=Eo out (show 0<3 by omega);have h3:=Eo st (show 0<6 by omega);refine⟨?_,?_,?_,?_,?_,?_,?_⟩
 ·show (1:Int)<=1+((inp % 3:Nat) : Int);omega
 ·show 1+((inp % 3:Nat) : Int)<=16;omega
 ·show (1:Int)<=1+((out % 3:Nat) : Int);omega
 ·show 1+((out % 3:Nat) : Int)<=16;omega
 ·show 1<=((List.range (1+st % 6)).map _).length;simp
 ·show ((List.range (1+st % 6)).map _).length<=64;grind
 ·intro r hr;have hr' : r∈(List.range (1+st % 6)).map (a8i part es (1+st % 6) (1+inp % 3) (1+out % 3)):=hr;obtain⟨s,hs,rfl⟩:=Eg.1 hr';refine⟨?_,fun e he=>?_⟩
  ·show ((((List.range (1+inp % 3)).map _).length:Nat) : Int)=1+((inp % 3:Nat) : Int);grind
  ·obtain⟨i,hi,rfl⟩:=Eg.1 he;have hl:(Ce st inp out part es).rows.length=1+st % 6:=by show ((List.range (1+st % 6)).map _).length=_;simp
   rw[hl];show b2b (1+st % 6) (1+((out % 3:Nat) : Int)) _=true;generalize es.getD (s*(1+inp % 3)+i) 0=v;unfold b2d;split
   ·rfl
   ·have e1:=Eo (v / 4) (show 0<1+st % 6 by omega);have e2:=Eo (v / 4 / (1+st % 6)) (show 0<1+out % 3 by omega)
    (simp_all[b2b];grind)
end Go.Ai
end
section
namespace Go.Ai
def wdC (w:Wd) : List AV:=w.map fun i=>.li i
theorem Bl (w:Wd) : (wdC w).length=w.length:=by simp[wdC]
theorem a7a (w:Wd) (k:Nat) (h:k<w.length) : (wdC w)[k]?=some (.lit (.int .i64 w[k])):=by grind[wdC]
theorem wdC_one:∀ (w:Wd),allOne (wdC w)=true
 | []=>rfl
 | i :: w=>wdC_one w
def Aj (g:Gb) (n:Nat) (w:Wd) (sv:AV) : Prop:=Af g n sv w.length (wdC w)
theorem Am {P:Program} {g:Gb} {b len:Nat} {sv:AV} {cs:List AV} (h:Af g b sv len cs) : ∀ {H:Mem} {ev:Ev} {o:Oper} {c:Call} {e:TypeId},a5a P H ev o c (some (.slice e)) (some [sv])=.val (.li len) H:=by
 intro H ev o c e;rcases h with⟨rfl,_,rfl|rfl⟩|⟨a,off,_,⟨c',rfl⟩|⟨c',rfl⟩,_⟩<;>rfl
theorem Af.ia {P:Program} {g:Gb} {b len:Nat} {sv:AV} {cs:List AV} (h:Af g b sv len cs) {k:Nat} (hk:k<len) (sz:Nat) :
  ∃ a off,a<b/\Row g a off cs/\∀ {H:Mem} {ev:Ev} {o:Oper} {t:TypeId},iaS P H ev o t (some (none,sz)) (some sv) (some (.li (k:Int)))=.val (.ptr a (off+k*sz)) H:=by
 rcases h with⟨h1,_⟩|⟨a,off,ha,⟨c,rfl⟩|⟨c,rfl⟩,hrow⟩
 all_goals grind[d2i,c4o]
def RowsW (g:Gb) (n:Nat) (l:Wq) (svs:List AV) : Prop:=svs.length=l.length/\∀ (k:Nat) (h:k<l.length),∃ sv,svs[k]?=some sv/\Aj g n l[k] sv
theorem RowsW.ext {g g': Gb} {b b': Nat} {l:Wq} {svs:List AV} (h:RowsW g b l svs) (hb:b<=b') (hg:∀ a x,a<b->g a=some x->g' a=some x) : RowsW g' b' l svs :=
 ⟨h.1,fun k hk=>let ⟨sv,h1,h2⟩:=h.2 k hk;⟨sv,h1,Af.ext hb hg h2⟩⟩
def longM:Wq->Nat
 | []=>0
 | w :: l=>max w.length (longM l)
theorem longM_snoc:∀ (l:Wq) (w:Wd),longM (l++[w])=max (longM l) w.length
 | [],w=>by simp[longM]
 | x :: l,w=>by simp only[g6i,longM,longM_snoc l w,Nat.max_assoc]
theorem le_longM:∀ {l:Wq} {w:Wd},w∈l->w.length<=longM l
 | x :: l,w,h=>by
  unfold longM;rcases Dv.1 h with rfl|h
  ·omega
  ·have:=le_longM h;omega
theorem b6t {l:Wq} {m:Nat} (h:∀ w∈l,w.length<=m) : longM l<=m:=by
 induction l with
 | nil=>exact Dt _
 | cons x l ih =>
  grind[longM]
end Go.Ai
end
section
namespace Go.Ai
open Go.RowKit (Below)
variable {B G:Nat} {P:Program} {n n0:Nat} {ρ0 ρ:Rn} {w0 w:World} {fr:Fr} {H:Mem} {a:Act} {W:WF}
end Go.Ai
end
section
namespace Go.Ai
section
variable {P:Program} {W:WF} {Q:Out→Prop} {fr:Fr} {H:Mem} {ev:Ev} {d:Option Tmp} {ty:TypeId} {p:String} {af:Array Edge} {g:Option (Nat×Bool)}
end
end Go.Ai
end
section
namespace Go.Ai
section
variable {P:Program} {H:Mem} {ev:Ev} {d:Option Tmp} {ty:TypeId} {p:String} {af:Array Edge} {g:Option (Nat×Bool)}
noncomputable def mkI (P:Program) (t:TypeId) : Option AV:=match a3c P t with
 | some (e,size,bytes)=>if size=1/\bytes<=1048576 then (match Cl P e with|some [v]=>some v|_=>none) else none
 | none=>none
noncomputable def a8j (P:Program) (H:Mem) (t:TypeId) (q:Option AV) (x y:Option AV) : R:=match q,x,y with
 | some v,some (.li a),some (.li b)=>if a=b/\0<=a/\a<=1048576 then .val (.sl H.next 0 a.toNat a.toNat) (H.add (.cells (List.replicate a.toNat v) true 0)) else a2r P H t x y
 | _,_,_=>a2r P H t x y
theorem c5l (v:AV) : ∀ n,rep [v] n=List.replicate n v
 | 0=>rfl
 | n+1=>by rw[c4r,c5l v n];rfl
theorem f3s {t:TypeId} {v:AV} (h:mkI P t=some v) : ∃ e bytes,a3c P t=some (e,1,bytes)/\bytes<=1048576/\Cl P e=some [v]:=by
 unfold mkI at h;grind
theorem f3t {t:TypeId} {l c:Operand} : opV P H ev ⟨d,.makeSlice t l c,ty,p,af,g⟩=a8j P H t (mkI P t) (ev l) (ev c):=by
 show a2r P H t (ev l) (ev c)=_;unfold a8j;split
 ·rename_i v a b hq hx hy;split
  ·rename_i h;obtain⟨rfl,h0,h1⟩:=h;obtain⟨e,bytes,h2,h3,h4⟩:=f3s hq;rw[hx,hy];unfold a2r;rw[h2];simp only[Option.bind_some,a6x h0];have hc:(Nat.ble a.toNat a.toNat && Nat.ble a.toNat 1048576 && Nat.ble bytes 1048576)=true:=by
    simp_all
   rw[hc];by_cases hz:a.toNat=0
   ·have e1:a1o P e (a.toNat*1)=some []:=by unfold a1o;simp[*]
    rw[e1];dsimp only;rw[hz];simp[a0j,Mem.newK_eq]
   grind[Mem.newK_eq,a0j,c5l,Nat.eq_of_beq_eq_true,a1o]
  rfl
 ·rfl
theorem f3u {tk:Nat} (_h0:tick=tk) {t:TypeId} {q q' : Option AV} {x x' y y' : Option AV} {H H' : Mem} (h0:q=q') (h1:H=H') (h2:x=x') (h3:y=y') : a8j P H t q x y=a8j P H' t q' x' y':=by grind
attribute [congr] f3u
theorem f3v {t:TypeId} {v:AV} {a:Int} (h0:0<=a) (h1:a<=1048576) : a8j P H t (some v) (some (.li a)) (some (.li a))=.val (.sl H.next 0 a.toNat a.toNat) (H.add (.cells (List.replicate a.toNat v) true 0)):=if_pos ⟨rfl,h0,h1⟩
attribute [simp] f3t f3v
end
section
variable {H:Mem}
end
end Go.Ai
end
section
namespace Go.Ai
section
variable {P:Program} {H:Mem} {ev:Ev} {d:Option Tmp} {ty:TypeId} {p:String} {af:Array Edge} {g:Option (Nat×Bool)}
noncomputable def b3z (P:Program) (H:Mem) (ev:Ev) (o:Oper) (q:Option TypeDesc) (x:Option AV) : R:=match x,q with
 | some (.sl _ _ _ n),some (.slice _)=>.val (.li n) H
 | some (.lit (.slice none _ n)),some (.slice _)=>.val (.li n) H
 | _,_=>opV P H ev o
theorem f3w {x:Operand} {t:TypeId} : opV P H ev ⟨d,.call ⟨.builtin .cap,#[x],#[t]⟩,ty,p,af,g⟩=b3z P H ev ⟨d,.call ⟨.builtin .cap,#[x],#[t]⟩,ty,p,af,g⟩ (P.underlying t) (ev x):=by
 unfold b3z;split
 ·rename_i a off n k e hx hq;show Cb P H ev ⟨d,.call ⟨.builtin .cap,#[x],#[t]⟩,ty,p,af,g⟩ ⟨.builtin .cap,#[x],#[t]⟩=_;have e1:Bq ev [x]=some [.sl a off n k]:=by simp_all
  have hg:Ba P ev ⟨d,.call ⟨.builtin .cap,#[x],#[t]⟩,ty,p,af,g⟩=none:=by
   unfold Ba;have h1:(Op.operands (.call ⟨.builtin .cap,#[x],#[t]⟩)).toList=[x]:=by rfl
   dsimp only;rw[h1];have l1:toLit (.sl a off n k)=none:=rfl;grind
  unfold Cb;rw[show (#[x] : Array Operand).toList=[x] from rfl,e1];dsimp only;unfold a3d a9h;dsimp only;rw[hg];have e2:((⟨.builtin .cap,#[x],#[t]⟩ : Call).argTypes[0]?).bind P.underlying=P.underlying t:=rfl;dsimp only;rw[e2,hq];rfl
 ·rename_i m n e hx hq;show Cb P H ev ⟨d,.call ⟨.builtin .cap,#[x],#[t]⟩,ty,p,af,g⟩ ⟨.builtin .cap,#[x],#[t]⟩=_;have e1:Bq ev [x]=some [.lit (.slice none m n)]:=by simp_all
  have hg:Ba P ev ⟨d,.call ⟨.builtin .cap,#[x],#[t]⟩,ty,p,af,g⟩=some (.li n):=by
   refine c0a (u:=.slice none m n) (r:=.int .i64 n) (by rfl) hx fun ρ hρ=>?_;rw[a7u (b:=.cap) (c:=⟨.builtin .cap,#[x],#[t]⟩) rfl rfl];have ea:(#[x] : Array Operand).map ρ=#[ρ x]:=by simp
   rw[ea];have hcap:Ao P (Builtin.cap_ #[t] ty #[ρ x])=some (goInt n):=by
    rw[hρ];refine(Bt (m:=underlying t) (a:=TypeDesc.slice e) (a5b hq)).trans ?_;rfl
   show Ao P (do pure (Next.value (<- Builtin.cap_ #[t] ty #[ρ x])))=_;exact(Bt hcap).trans rfl
  unfold Cb;rw[show (#[x] : Array Operand).toList=[x] from rfl,e1];simp_all[a9h,a3d]
 ·rfl
theorem f3x {tk:Nat} (_h0:tick=tk) {o:Oper} {q q' : Option TypeDesc} {x x' : Option AV} {H H' : Mem} (h1:H=H') (h2:q=q') (h3:x=x') : b3z P H ev o q x=b3z P H' ev o q' x':=by grind
attribute [congr] f3x
theorem d3i {o:Oper} {e:TypeId} {a off n k:Nat} : b3z P H ev o (some (.slice e)) (some (.sl a off n k))=.val (.li k) H:=(rfl)
theorem d3j {o:Oper} {e:TypeId} {n k:Nat} : b3z P H ev o (some (.slice e)) (some (.lit (.slice none n k)))=.val (.li k) H:=(rfl)
attribute [simp] f3w d3i d3j
end
end Go.Ai
end
section
namespace Go.Ai
variable {P:Program} {H:Mem}
section
variable {ev:Ev} {d:Option Tmp} {ty:TypeId} {p:String} {af:Array Edge} {g:Option (Nat×Bool)}
end
end Go.Ai
end
section
namespace Go.Ai
section
variable {P:Program} {H:Mem} {ev:Ev} {d:Option Tmp} {ty:TypeId} {p:String} {af:Array Edge} {g:Option (Nat×Bool)}
variable {t:TypeId} {x hi mx:Operand}
theorem f3y : opV P H ev ⟨d,.slice t x none (some hi) (some mx),ty,p,af,g⟩=ex3 P H ev ⟨d,.slice t x none (some hi) (some mx),ty,p,af,g⟩ x hi mx (ev x) (ev hi) (ev mx) rfl rfl rfl:=(rfl)
theorem f3z {i:Int} {n:Nat} {k:IntKind} (h1:i=n) : a0t none (some (.lit (.int k i))) (some (.lit (.int k i))) n n=some (0,n,n):=by
 unfold a0t a7j;simp_all[a6x,g4h,b5c]
theorem f4a {t:TypeId} {x hi mx:Operand} {a off n c:Nat} {k:IntKind} {i:Int} {hx:ev x=some (.slq a off n c)} {hh:ev hi=some (.lit (.int k i))} {hm:ev mx=some (.lit (.int k i))} (he:(Cd P t).map (·.1)=some none) (h1:i=n) (h2:0<n) :
  ex3 P H ev ⟨d,.slice t x none (some hi) (some mx),ty,p,af,g⟩ x hi mx (some (.slq a off n c)) (some (.lit (.int k i))) (some (.lit (.int k i))) hx hh hm=.val (.sl a off n n) H:=by
 show opV P H ev _=_;show a0k P H ev _ t (ev x) none (some hi) (some mx)=_;unfold a0k;rw[a8a (x:=x) (by simp[Op.operands]) (fun v' h=>by rw[hx] at h;cases h;rfl),hx];obtain⟨q,hq,hq2⟩:=Option.map_eq_some_iff.1 he;obtain⟨q1,q2⟩:=q;dsimp only at hq2;subst hq2;obtain⟨e,i',h3,h4,h5⟩:=a8b hq;dsimp only;unfold a4f a2s;dsimp only;rw[hh,hm];dsimp only;rw[b1x h3 h4];grind[a7l,f3z,a7k,Nat.eq_of_beq_eq_true,ofOpt,a1s]
theorem f4b {hx:ev x=some (.nl)} {hh:ev hi=some (.li 0)} {hm:ev mx=some (.li 0)} (he:(Cd P t).map (·.1)=some none) :
  ex3 P H ev ⟨d,.slice t x none (some hi) (some mx),ty,p,af,g⟩ x hi mx (some (.nl)) (some (.li 0)) (some (.li 0)) hx hh hm=.val (.nl) H:=by
 show opV P H ev _=_;show a0k P H ev _ t (ev x) none (some hi) (some mx)=_;unfold a0k;rw[f3m (r:=.slice none 0 0) (x:=x) (y:=hi) (z:=mx) (by rfl) hx hh hm fun ρ e1 e2 e3=>?_];show Ao P (do pure (Next.value (<- Instr.sliceAt t (ρ x) none (some (ρ hi)) (some (ρ mx)))))=_;rw[e1,e2,e3];obtain⟨q,hq,hq2⟩:=g3v.1 he;obtain⟨q1,q2⟩:=q;dsimp only at hq2;subst hq2;obtain⟨e,i,ht,hi',h5⟩:=a8b hq;have key:Ao P (Instr.slice t (.slice none 0 0) none (some (.int .i64 0)) (some (.int .i64 0)))=some (.slice none 0 0):=by
  unfold Instr.slice;refine(Bt (m:=underlying t) (a:=TypeDesc.slice e) (a5b ht)).trans ?_;dsimp only;refine(Bt (a:=(0,0,0)) ?_).trans ?_
  ·rfl
  ·refine(Bt (m:=sizeOf e) (a:=i.size) ?_).trans ?_
   ·exact(Bt (d3b hi')).trans rfl
   ·rfl
 have key2:Ao P (Instr.sliceAt t (.slice none 0 0) none (some (.int .i64 0)) (some (.int .i64 0)))=some (.slice none 0 0):=by
  grind[Instr.sliceAt,a5b,Bt]
 rw[Bt key2];rfl
attribute [simp] f3y f4a f4b
end
end Go.Ai
end
section
namespace Go.Ai
section
variable {P:Program} {H:Mem} {ev:Ev} {d:Option Tmp} {ty:TypeId} {p:String} {af:Array Edge} {g:Option (Nat×Bool)} {x y:Operand} {s t:TypeId} {size bytes:Nat}
end
end Go.Ai
end
section
namespace Go.Ai
section
variable {P:Program} {H:Mem} {ev:Ev} {d:Option Tmp} {ty:TypeId} {p:String} {af:Array Edge} {g:Option (Nat×Bool)} {x y:Operand} {s t:TypeId} {size bytes:Nat}
open Classical in
noncomputable def apV (q:Option (Nat×Nat)) (sz off len:Nat) (cs:List AV) (ga gb blk:Option Blk) (H:Mem) (els:R) : R:=match q,ga with
 | some (size,bytes),some (.cells l0 _ _)=>if gb=blk/\size=sz/\0<size/\bytes<=1048576/\off<=l0.length then .val (.slq H.next 0 len 0) (H.add (.cells cs true size)) else els
 | _,_=>els
theorem f4c {tk:Nat} (_h0:tick=tk) {q q' : Option (Nat×Nat)} {sz off len:Nat} {cs:List AV} {ga ga' gb gb' blk:Option Blk} {H:Mem} {els:R} (h1:q=q') (h2:ga=ga') (h3:gb=gb') : apV q sz off len cs ga gb blk H els=apV q' sz off len cs ga' gb' blk H els:=by grind
attribute [congr] f4c
theorem f4d {l0 cs:List AV} {own:Bool} {z len off n:Nat} {G:Gb} {els:R} {b:Option Blk} (h1:0<size) (h2:bytes<=1048576) (h3:off<=l0.length) : apV (some (size,bytes)) size off len cs (some (.cells l0 own z)) b b ⟨.fn G,n⟩ els=.val (.slq n 0 len 0) ⟨.fn (Ap G n (some (.cells cs true size))),n+1⟩:=if_pos ⟨rfl,rfl,h1,h2,h3⟩
attribute [simp] f4d
theorem b4a {a off n c size:Nat} {cs:List AV} {l:List AV} {own:Bool} {z:Nat} {v:AV} (hv:v=.sl a off n c\/v=.slq a off n c) (h:H.get a=some (.cells l own z)) (hc:(l.drop off).take (cs.length)=cs) (hl:off+cs.length<=l.length) (hn:cs.length=n*size) : Cx H size n v=some cs:=by
 rcases hv with rfl|rfl
 all_goals grind[c4u,f0s]
end
section
variable {H:Mem}
theorem f4e {l:List AV} {z:Nat} {ag:Bool} {a off:Nat} {v:AV} (h:off<l.length) (h1:oneC v=true) :
  stS (some (ag,1)) (some (.cells l true z)) H a off [v]=.skip (H.upd a (.cells (l.set off v) true z)):=by
 refine(d2h (size:=1) rfl (by simp[h1]) h).trans ?_;simp_all[List.set_eq_take_append_cons_drop]
end
theorem Af.ap0 {P:Program} {g:Gb} {b len sz:Nat} {sv:AV} {cs:List AV} (h:Af g b sv len cs) (hl:0<len) (hlm:len<=1000000) (hcs:cs.length=len*sz) :
  ∃ a2 blk,a2<b/\g a2=some blk/\∀ {H:Mem} {ev:Ev} {d:Option Tmp} {ty:TypeId} {p:String} {af:Array Edge} {gd:Option (Nat×Bool)} {x y:Operand} {s t:TypeId} {a off:Nat} {hx:ev x=some (.sl a off 0 0)} {hy:ev y=some sv},
   ex2 P H ev ⟨d,.call ⟨.builtin .append,#[x,y],#[s,t]⟩,ty,p,af,gd⟩ x y (some (.sl a off 0 0)) (some sv) hx hy=apV (apI P s t) sz off len cs (H.get a) (H.get a2) (some blk) H (opV P H ev ⟨d,.call ⟨.builtin .append,#[x,y],#[s,t]⟩,ty,p,af,gd⟩):=by
 rcases h with⟨h1,_⟩|⟨a2,o2,ha2,hsv,l,own,z,hg,hle,hcut⟩
 ·omega
 ·refine⟨a2,_,ha2,hg,?_⟩;intro H ev d ty p af gd x y s t a off hx hy;unfold apV;split
  ·rename_i size bytes l0 ow zz h1 h2;split
   ·rename_i h;obtain⟨hH,rfl,h4,h5,h6⟩:=h;obtain⟨k,rfl⟩ : ∃ k,len=k+1:=⟨len-1,by omega⟩;show opV P H ev _=_;have hv:∃ c,sv=.sl a2 o2 (k+1) c\/sv=.slq a2 o2 (k+1) c:=by
     grind
    obtain⟨c,hv⟩:=hv;have hn:lenOf sv=some (k+1):=by rcases hv with rfl|rfl<;>rfl
    rw[a5c hx hy h1,d2m (n:=k) hn h4 (b4a hv hH hcut hle hcs) hcs h2 (by omega) (by omega) (by omega) h5];simp
   ·rfl
  ·rfl
theorem Af.ap00 {P:Program} {g:Gb} {b:Nat} {sv:AV} {cs:List AV} (h:Af g b sv 0 cs) :
  ∀ {H:Mem} {ev:Ev} {d:Option Tmp} {ty:TypeId} {p:String} {af:Array Edge} {gd:Option (Nat×Bool)} {x y:Operand} {s t:TypeId} {a off:Nat} {hx:ev x=some (.sl a off 0 0)} {hy:ev y=some sv},(apI P s t).isSome=true ->
   ex2 P H ev ⟨d,.call ⟨.builtin .append,#[x,y],#[s,t]⟩,ty,p,af,gd⟩ x y (some (.sl a off 0 0)) (some sv) hx hy=.val (.sl a off 0 0) H:=by
 intro H ev d ty p af gd x y s t a off hx hy hp;have hn:lenOf sv=some 0:=by
  rcases h with⟨_,_,rfl|rfl⟩|⟨a,off,_,⟨c,rfl⟩|⟨c,rfl⟩,_⟩<;>rfl
 cases hq:apI P s t with
 | none=>grind
 | some q =>
  obtain⟨q1,q2⟩:=q;show opV P H ev _=_;rw[a5c hx hy hq];unfold a2d;rw[hn];rfl
end Go.Ai
end
section
namespace Go.Ai
def Br (l:List AV) (off:Nat) (new:List AV) : List AV:=l.take off++new++l.drop (off+new.length)
theorem a8k {l new:List AV} {off:Nat} (h:off+new.length<=l.length) : (Br l off new).length=l.length:=by
 grind[Br]
theorem b2e {l new:List AV} {off:Nat} (h:off+new.length<=l.length) : (Br l off new).take (off+new.length)=l.take off++new:=by
 grind[Br,List.length_take,List.length_append]
section
variable {P:Program} {H:Mem} {ev:Ev} {d:Option Tmp} {ty:TypeId} {p:String} {af:Array Edge} {g:Option (Nat×Bool)} {x y:Operand} {s t:TypeId} {size bytes:Nat}
variable {k off a c:Nat}
theorem d3k {t e:TypeId} {size bytes:Nat} {z:List AV} {a b:Int} (he:a3c P t=some (e,size,bytes)) (hs:0<size) (hb:bytes<=1048576) (hz:Cl P e=some z) (h0:0<=a) (h1:a<=b) (h2:b<=1048576) :
  a2r P H t (some (.li a)) (some (.li b))=.val (.sl H.next 0 a.toNat b.toNat) (H.add (.cells (rep z b.toNat) true 0)):=by
 unfold a2r
 rw[he]
 simp only[Option.bind_some,a6x h0,a6x (show (0:Int)<=b by omega)]
 have hc:(Nat.ble a.toNat b.toNat && Nat.ble b.toNat 1048576 && Nat.ble bytes 1048576)=true:=by
  grind[Nat.ble_eq_true_of_le]
 rw[hc]
 by_cases h:b.toNat=0
 ·have e1:a1o P e (b.toNat*size)=some []:=by unfold a1o;simp[*]
  grind[a0j,rep,Mem.newK_eq]
 grind[Mem.newK_eq,a0j,Nat.mul_eq_zero,Nat.eq_of_beq_eq_true,a1o]
theorem d3l {n k off a c:Nat} {x:AV} {new l:List AV} {z:Nat} (hn:lenOf x=some (n+1)) (hs:0<size) (hf:Cx H size (n+1) x=some new) (hl:new.length=(n+1)*size)
  (hg:H.get a=some (.cells l true z)) (hc:k+(n+1)<=c) (hle:off+k*size+new.length<=l.length) (h4:allOne new=true) :
  a2d H size bytes (.sl a off k c) x=some (.sl a off (k+(n+1)) c,H.upd a (.cells (Br l (off+k*size) new) true z)):=by
 unfold a2d;rw[hn];show (match Nat.beq size 0,Cx H size (n+1) x with|false,some new=>a1c H size bytes (n+1) (.sl a off k c) new|_,_=>none)=_;have hb:Nat.beq size 0=false:=by
  grind[Nat.eq_of_beq_eq_true]
 rw[hb,hf];dsimp only;unfold a1c;rw[a0b,hl,Nat.beq_refl];dsimp only;unfold b5d;rw[Nat.ble_eq_true_of_le hc];dsimp only;rw[hg];dsimp only;unfold a7m;rw[h4];dsimp only;rw[a9n,if_pos hle,Mem.setK_eq];rfl
noncomputable def apR (q:Option (Nat×Nat)) (k c off a:Nat) (ga gb:Option Blk) (H:Mem) (els:R) : R:=match q,ga,gb with
 | some (size,bytes),some (.cells r true z),some (.cells l _ _)=>if 0<size/\l.length=size/\off+k*size+size<=r.length/\k<c/\allOne l=true then .val (.sl a off (k+1) c) (H.upd a (.cells (Br r (off+k*size) l) true z)) else els
 | _,_,_=>els
theorem f4f {b c':Nat} {hx:ev x=some (.sl a off k c)} {hy:ev y=some (.sl b 0 1 c')} (hkc:k<c) :
  ex2 P H ev ⟨d,.call ⟨.builtin .append,#[x,y],#[s,t]⟩,ty,p,af,g⟩ x y (some (.sl a off k c)) (some (.sl b 0 1 c')) hx hy=apR (apI P s t) k c off a (H.get a) (H.get b) H (opV P H ev ⟨d,.call ⟨.builtin .append,#[x,y],#[s,t]⟩,ty,p,af,g⟩):=by
 unfold apR;split
 ·rename_i size bytes r z l own w h1 h2 h3;split
  ·rename_i h;obtain⟨h4,h5,h6,h7,h8⟩:=h;show opV P H ev _=_;rw[a5c hx hy h1,d3l (n:=0) rfl h4 (c0m h3 (by omega)) (by omega) h2 (by omega) (by omega) h8]
  ·rfl
 ·rfl
theorem f4g {tk:Nat} (_h0:tick=tk) {q q' : Option (Nat×Nat)} {k c off a:Nat} {ga ga' gb gb' : Option Blk} {H:Mem} {els:R} (h1:q=q') (h2:ga=ga') (h3:gb=gb') : apR q k c off a ga gb H els=apR q' k c off a ga' gb' H els:=by grind
attribute [congr] f4g
theorem f4h {r l:List AV} {own:Bool} {z w n:Nat} {G:Gb} {els:R} (h1:0<size) (h2:l.length=size) (h3:off+k*size+size<=r.length) (h4:k<c) (h5:allOne l=true) :
  apR (some (size,bytes)) k c off a (some (.cells r true z)) (some (.cells l own w)) ⟨.fn G,n⟩ els=.val (.sl a off (k+1) c) ⟨.fn (Ap G a (some (.cells (Br r (off+k*size) l) true z))),n⟩:=if_pos ⟨h1,h2,h3,h4,h5⟩
attribute [simp] f4f f4h
end
section
variable {P:Program} {H:Mem} {ev:Ev} {d:Option Tmp} {ty:TypeId} {p:String} {af:Array Edge} {g:Option (Nat×Bool)}
theorem f4i {t:TypeId} {x hi mx:Operand} {a off c:Nat} {k:IntKind} {hx:ev x=some (.sl a off 0 c)} {hh:ev hi=some (.lit (.int k 0))} {hm:ev mx=some (.lit (.int k 0))} (he:(Cd P t).map (·.1)=some none) :
  ex3 P H ev ⟨d,.slice t x none (some hi) (some mx),ty,p,af,g⟩ x hi mx (some (.sl a off 0 c)) (some (.lit (.int k 0))) (some (.lit (.int k 0))) hx hh hm=.val (.sl a off 0 0) H:=by
 show opV P H ev _=_;show a0k P H ev _ t (ev x) none (some hi) (some mx)=_;unfold a0k;rw[a8a (x:=x) (by simp[Op.operands]) (fun v' h=>by rw[hx] at h;cases h;rfl),hx];obtain⟨q,hq,hq2⟩:=g3v.1 he;obtain⟨q1,q2⟩:=q;dsimp only at hq2;subst hq2;obtain⟨e,i',h3,h4,h5⟩:=a8b hq;dsimp only;unfold a4f a2s;dsimp only;rw[hh,hm];dsimp only;rw[b1x h3 h4];rfl
attribute [simp] f4i
end
section
variable {P:Program} {H:Mem} {ev:Ev} {d:Option Tmp} {ty:TypeId} {p:String} {af:Array Edge} {g:Option (Nat×Bool)}
variable {t rt:TypeId} {x y:Operand}
def b2f (P:Program) (t:TypeId) : Bool:=match P.underlying t with|some (.slice _)=>true|_=>false
theorem f4j (h:b2f P t=true) : ∃ e,P.underlying t=some (.slice e):=by
 grind[b2f]
theorem c5m {v:AV} (hx:ev x=some v) (hv:(∃ a o n c,v=.sl a o n c)\/(∃ a o n c,v=.slq a o n c)\/v=.es) (ht:b2f P t=true) :
  a2j P H ev ⟨d,.binOp .eql t x y rt,ty,p,af,g⟩ .eql t (some v) (some (.nl))=.val (.lit (.bool false)) H:=by
 obtain⟨e,ht⟩:=f4j ht;have hg:Ba P ev ⟨d,.binOp .eql t x y rt,ty,p,af,g⟩=none :=
  a8a (x:=x) (by simp[Op.operands]) fun v' h=>by rw[hx] at h;cases h;rcases hv with⟨a,o,n,c,rfl⟩|⟨a,o,n,c,rfl⟩|rfl<;>rfl
 have hb:a2j P H ev ⟨d,.binOp .eql t x y rt,ty,p,af,g⟩ .eql t (some v) (some (.nl))=Bo P H ev ⟨d,.binOp .eql t x y rt,ty,p,af,g⟩ .eql t (some v) (some (.nl)):=by
  rcases hv with⟨a,o,n,c,rfl⟩|⟨a,o,n,c,rfl⟩|rfl<;>rfl
 rw[hb];unfold Bo;have hf:b5h .eql (some v) (some (.nl))=none:=by
  rcases hv with⟨a,o,n,c,rfl⟩|⟨a,o,n,c,rfl⟩|rfl<;>rfl
 rw[hf,hg];dsimp only;unfold b3f;rw[ht];rcases hv with⟨a,o,n,c,rfl⟩|⟨a,o,n,c,rfl⟩|rfl<;>rfl
theorem f4k {a o n c:Nat} (hx:ev x=some (.sl a o n c)) (ht:b2f P t=true) :
  a2j P H ev ⟨d,.binOp .eql t x y rt,ty,p,af,g⟩ .eql t (some (.sl a o n c)) (some (.nl))=.val (.lit (.bool false)) H:=c5m hx (.inl ⟨a,o,n,c,rfl⟩) ht
theorem f4l {a o n c:Nat} (hx:ev x=some (.slq a o n c)) (ht:b2f P t=true) :
  a2j P H ev ⟨d,.binOp .eql t x y rt,ty,p,af,g⟩ .eql t (some (.slq a o n c)) (some (.nl))=.val (.lit (.bool false)) H:=c5m hx (.inr (.inl ⟨a,o,n,c,rfl⟩)) ht
theorem f4m (hx:ev x=some .es) (ht:b2f P t=true) :
  a2j P H ev ⟨d,.binOp .eql t x y rt,ty,p,af,g⟩ .eql t (some .es) (some (.nl))=.val (.lit (.bool false)) H:=c5m hx (.inr (.inr rfl)) ht
attribute [simp] f4k f4l f4m
end
theorem a8l (z:List AV) : ∀ n,(rep z n).length=n*z.length
 | 0=>by simp
 | n+1=>by rw[c4r,Dr,a8l z n,g5o];omega
end Go.Ai
end
section
namespace Go.Ai
section
variable {P:Program} {H:Mem} {ev:Ev} {d:Option Tmp} {ty:TypeId} {p:String} {af:Array Edge} {g:Option (Nat×Bool)}
theorem d3m {t:TypeId} {x hi:Operand} {hx:ev x=some (.nl)} {hh:ev hi=some (.li 0)} (he:(Cd P t).map (·.1)=some none) :
  ex2 P H ev ⟨d,.slice t x none (some hi) none,ty,p,af,g⟩ x hi (some (.nl)) (some (.li 0)) hx hh=.val (.nl) H:=by
 show opV P H ev _=_;show a0k P H ev _ t (ev x) none (some hi) none=_;unfold a0k;rw[b0d (r:=.slice none 0 0) (x:=x) (y:=hi) (by rfl) hx hh fun ρ e1 e2=>?_];show Ao P (do pure (Next.value (<- Instr.sliceAt t (ρ x) none (some (ρ hi)) none)))=_;rw[e1,e2];obtain⟨q,hq,hq2⟩:=g3v.1 he;obtain⟨q1,q2⟩:=q;dsimp only at hq2;subst hq2;obtain⟨e,i,ht,hi',h5⟩:=a8b hq;have key:Ao P (Instr.slice t (.slice none 0 0) none (some (.int .i64 0)) none)=some (.slice none 0 0):=by
  unfold Instr.slice;refine(Bt (m:=underlying t) (a:=TypeDesc.slice e) (a5b ht)).trans ?_;dsimp only;refine(Bt (a:=(0,0,0)) ?_).trans ?_
  ·rfl
  ·refine(Bt (m:=sizeOf e) (a:=i.size) ?_).trans ?_
   ·exact(Bt (d3b hi')).trans rfl
   ·rfl
 have key2:Ao P (Instr.sliceAt t (.slice none 0 0) none (some (.int .i64 0)) none)=some (.slice none 0 0):=by
  grind[Instr.sliceAt,a5b,Bt]
 rw[Bt key2];rfl
theorem c5n {t:TypeId} {x hi:Operand} {v r:AV} {k:IntKind} {i:Int} {hx:ev x=some v} {hh:ev hi=some (.lit (.int k i))} (hl:toLit v=none) (he:(Cd P t).map (·.1)=some none) (hr:∀ size,a7l size none (some (.lit (.int k i))) none v=some r) :
  ex2 P H ev ⟨d,.slice t x none (some hi) none,ty,p,af,g⟩ x hi (some v) (some (.lit (.int k i))) hx hh=.val r H:=by
 show opV P H ev _=_;show a0k P H ev _ t (ev x) none (some hi) none=_;unfold a0k;rw[a8a (x:=x) (by simp[Op.operands]) (fun v' h=>by grind),hx];obtain⟨q,hq,hq2⟩:=g3v.1 he;obtain⟨q1,q2⟩:=q;dsimp only at hq2;subst hq2;obtain⟨e,i',h3,h4,h5⟩:=a8b hq;simp_all[a2s,a4f,b1x]
end
section
variable {H:Mem}
attribute [simp] f4e
variable {g:Gb} {a:Nat}
theorem f4n {l new:List AV} {off j:Nat} (h:off+new.length<=l.length) (h2:j<off\/off+new.length<=j) : (Br l off new)[j]?=l[j]?:=by
 unfold Br;rcases h2 with h2|h2
 ·grind
 ·rw[Em (by grind),Dr,Du,g4a (by omega),g5x,show off+new.length+(j-(off+new.length))=j by omega]
end
def a1v (c:Nat) (g:Gb) : Gb:=fun a=>if a=c then none else g a
theorem a3l {c a:Nat} {g:Gb} (h:a≠c) : a1v c g a=g a:=if_neg h
theorem a8m {c a:Nat} {g:Gb} {x:Blk} (h:a1v c g a=some x) : g a=some x:=by
 grind[a1v]
def Bm (sv:AV) : Prop:=∀ a o n c,sv=.sl a o n c->n<=c
theorem Row.takes {g:Gb} {a off:Nat} {cs:List AV} (h:Row g a off cs) (m:Nat) : Row g a off (cs.take m):=by
 obtain⟨l,own,z,h1,h2,h3⟩:=h
 refine⟨l,own,z,h1,?_,?_⟩
 all_goals grind
theorem Af.cutP {P:Program} {g:Gb} {b len:Nat} {sv:AV} {cs:List AV} (h:Af g b sv len cs) (hc:Bm sv) {t:TypeId} (he:(Cd P t).map (·.1)=some none) {k sz:Nat} (hk:k≤len) :
  ∃ sv',(∀ {H:Mem} {ev:Ev} {d:Option Tmp} {ty:TypeId} {p:String} {af:Array Edge} {gd:Option (Nat×Bool)} {x hi:Operand} {hx:ev x=some sv} {hh:ev hi=some (.li (k:Int))},
   ex2 P H ev ⟨d,.slice t x none (some hi) none,ty,p,af,gd⟩ x hi (some sv) (some (.li (k:Int))) hx hh=.val sv' H)∧Af g b sv' k (cs.take (k * sz))∧Bm sv':=by
 rcases h with ⟨h1,h2,rfl | rfl⟩ | ⟨a,off,ha,⟨c,rfl⟩ | ⟨c,rfl⟩,hrow⟩
 ·obtain rfl:k=0:=by omega
  refine ⟨.nl,?_,.inl ⟨rfl,by simp,.inl rfl⟩,fun _ _ _ _ e=>by cases e⟩;grind [d3m]
 ·obtain rfl:k=0:=by omega
  refine ⟨.es,?_,.inl ⟨rfl,by simp,.inr rfl⟩,fun _ _ _ _ e=>by cases e⟩;intro H ev d ty p af gd x hi hx hh;exact c5n (hx:=hx) (hh:=hh) rfl he fun size=>rfl
 ·have hcc:=hc _ _ _ _ rfl;by_cases h0:c=0
  ·obtain rfl:k=0:=by omega
   subst h0;refine ⟨.sl a off 0 0,?_,.inr ⟨a,off,ha,.inl ⟨0,rfl⟩,hrow.takes _⟩,fun _ _ _ _ e=>by grind⟩;intro H ev d ty p af gd x hi hx hh;refine c5n (hx:=hx) (hh:=hh) rfl he fun size=>?_;rfl
  ·refine ⟨.sl a off k c,?_,.inr ⟨a,off,ha,.inl ⟨c,rfl⟩,hrow.takes _⟩,fun _ _ _ _ e=>by grind⟩;grind [c4s]
 ·by_cases h0:len=0
  ·obtain rfl:k=0:=by omega
   subst h0;refine ⟨.es,?_,.inl ⟨rfl,by simp,.inr rfl⟩,fun _ _ _ _ e=>by cases e⟩;intro H ev d ty p af gd x hi hx hh;refine c5n (hx:=hx) (hh:=hh) rfl he fun size=>?_;rfl
  ·refine ⟨.slq a off k c,?_,.inr ⟨a,off,ha,.inr ⟨c,rfl⟩,hrow.takes _⟩,fun _ _ _ _ e=>by cases e⟩;grind [c4t]
end Go.Ai
end
section
namespace Go.Ai
variable {a b:Wd}
def a1w (O:Int) (next:Nat) (e:Int×Int) : Option Nat :=
 if e.1 = -1/\(e.2 = -1\/e.2 = -2) then some next
 else if e.1=(next:Int)/\0<=e.2/\e.2<O then some (next+1) else none
def goE (O:Int) : List (Int×Int)->Nat->Option Nat
 | [],next=>some next
 | e :: l,next=>match a1w O next e with
  | none=>none
  | some nx=>goE O l nx
def goT (I O:Int) : Tq->Nat->Nat->Option Nat
 | [],_,next=>some next
 | r :: l,n,next=>if (r.length:Int)=I/\n<next then
   (match goE O r next with
    | none=>none
    | some nx=>goT I O l (n+1) nx)
   else none
def a7b (I O:Int) (T:Tq) : Int :=
 if I > 16\/O > 16\/T.length > 65537 then 3 else if I<1\/O<1\/T.length<1 then 1 else if goT I O T 0 1=some T.length then 0 else 1
def okE (len:Nat) (O:Int) (e:Int×Int) : Bool :=
 decide (1<=e.1/\e.1<len/\0<=e.2/\e.2<O) || decide (e.1 = -1/\(e.2 = -1\/e.2 = -2))
structure WSt where
 out:Wq
 seen:List Bool
 many:Nat
def lexC:Wd->Wd->Int
 | x :: a,y :: b=>if x<y then -1 else if y<x then 1 else lexC a b
 | _,_=>0
def Bh (a b:Wd) : Int:=if a.length<b.length then -1 else if b.length<a.length then 1 else lexC a b
def LL:Wd->Wd->Prop
 | x :: a,y :: b=>x<y\/x=y/\LL a b
 | _,_=>False
def SL (a b:Wd) : Prop:=a.length<b.length\/a.length=b.length/\LL a b
theorem lexC_LL:∀ {a b:Wd},lexC a b<0↔LL a b
 | [],[]=>by simp[lexC,LL]
 | [],_ :: _=>by simp[lexC,LL]
 | _ :: _,[]=>by simp[lexC,LL]
 | x :: a,y :: b=>by
  unfold lexC LL
  by_cases h1:x<y
  ·grind
  ·rw[if_neg h1]
   by_cases h2:y<x
   all_goals (simp_all[lexC_LL,if_neg];grind)
theorem a3w : Bh a b<0↔SL a b:=by
 unfold Bh SL;by_cases h1:a.length<b.length
 ·grind
 ·rw[if_neg h1];by_cases h2:b.length<a.length
  all_goals (simp_all[lexC_LL,if_neg];grind)
theorem LL.irrefl:∀ {a:Wd},¬ LL a a
 | [],h=>h
 | x :: a,h=>by
  rcases h with h|⟨-,h⟩
  ·omega
  ·exact LL.irrefl h
theorem LL.trans:∀ {a b c:Wd},LL a b->LL b c->LL a c
 | [],_,_,h,_=>by assumption
 | _ :: _,[],_,h,_=>h.elim
 | _ :: _,_ :: _,[],_,h=>h.elim
 | x :: a,y :: b,z :: c,h1,h2=>by
  rcases h1 with h1|⟨h1,h1'⟩
  ·rcases h2 with h2|⟨h2,-⟩
   ·exact .inl (by omega)
   ·exact .inl (by omega)
  ·rcases h2 with h2|⟨h2,h2'⟩
   ·exact .inl (by omega)
   ·exact .inr ⟨by omega,h1'.trans h2'⟩
theorem SL.irrefl : ¬ SL a a:=by
 rintro (h|⟨-,h⟩)
 all_goals grind[LL.irrefl]
theorem SL.trans {c:Wd} (h1:SL a b) (h2:SL b c) : SL a c:=by
 rcases h1 with h1|⟨h1,h1'⟩
 ·rcases h2 with h2|⟨h2,-⟩
  ·exact .inl (by omega)
  ·exact .inl (by omega)
 ·rcases h2 with h2|⟨h2,h2'⟩
  ·exact .inl (by omega)
  ·exact .inr ⟨by omega,h1'.trans h2'⟩
theorem SL.le (h:SL a b) : a.length<=b.length:=by
 rcases h with h|⟨h,-⟩<;>omega
theorem LL.app:∀ {a b:Wd},LL a b->∀ i j,LL (a++[i]) (b++[j])
 | [],b,h,_,_=>by cases b<;>exact h.elim
 | _ :: _,[],h,_,_=>h.elim
 | x :: a,y :: b,h,i,j=>by
  rcases h with h|⟨h,h'⟩
  ·exact .inl h
  ·exact .inr ⟨h,h'.app i j⟩
theorem LL.last:∀ (a:Wd) {i j:Int},i<j->LL (a++[i]) (a++[j])
 | [],_,_,h=>.inl h
 | _ :: a,_,_,h=>.inr ⟨rfl,LL.last a h⟩
theorem SL.app (h:SL a b) (i j:Int) : SL (a++[i]) (b++[j]):=by
 rcases h with h|⟨h,h'⟩
 ·exact .inl (by grind)
 ·exact .inr ⟨by grind,h'.app i j⟩
theorem SL.last (a:Wd) {i j:Int} (h:i<j) : SL (a++[i]) (a++[j]):=.inr ⟨by simp,LL.last a h⟩
theorem SL.nil (a:Wd) (i:Int) : SL [] (a++[i]):=.inl (by simp)
end Go.Ai
end
section
namespace Go.Ai
section
variable {P:Program} {H:Mem} {ev:Ev} {d:Option Tmp} {ty:TypeId} {p:String} {af:Array Edge} {g:Option (Nat×Bool)} {x y:Operand} {s t:TypeId} {size bytes:Nat}
variable {cs r:List AV} {sz n k b a tk off c z:Nat} {sv:AV} {G:Gb} {els:R}
theorem f4o {n k off a c:Nat} {x:AV} {new l:List AV} {own:Bool} {z:Nat} (hn:lenOf x=some (n+1)) (hs:0<size) (hf:Cx H size (n+1) x=some new) (hl:new.length=(n+1)*size)
  (hg:H.get a=some (.cells l own z)) (hle:off+k*size<=l.length) (hc:c<k+(n+1)) (h1:k+(n+1)<=1048576) (h3:c<=1048576) (h2:bytes<=1048576) :
  a2d H size bytes (.sl a off k c) x=some (.slq H.next 0 (k+(n+1)) 0,H.add (.cells ((l.drop off).take (k*size)++new) true size)):=by
 unfold a2d;rw[hn];show (match Nat.beq size 0,Cx H size (n+1) x with|false,some new=>a1c H size bytes (n+1) (.sl a off k c) new|_,_=>none)=_;have hb:Nat.beq size 0=false:=by
  grind[Nat.eq_of_beq_eq_true]
 rw[hb,hf];dsimp only;unfold a1c;rw[a0b,hl,Nat.beq_refl];dsimp only;unfold b5d;have hb2:Nat.ble (k+(n+1)) c=false:=by
  cases hb2:Nat.ble (k+(n+1)) c with
  | false=>rfl
  | true=>have:=Nat.le_of_ble_eq_true hb2;omega
 simp_all[b6h,b5r,a6p,b6i]
open Classical in
noncomputable def b6u (q:Option (Nat×Nat)) (sz k len a:Nat) (cs:List AV) (ga gb blk:Option Blk) (H:Mem) (els:R) : R:=match q,ga with
 | some (size,bytes),some (.cells r true z)=>if gb=blk/\size=sz/\z=sz/\0<size/\bytes<=1048576/\r.length=k*sz/\k<=40000/\allOne cs=true then .val (.slq H.next 0 (k+len) 0) ((H.rm a).add (.cells (r++cs) true sz)) else els
 | _,_=>els
theorem f4p (_h0:tick=tk) {q q' : Option (Nat×Nat)} {sz k len a:Nat} {cs:List AV} {ga ga' gb gb' blk:Option Blk} {H:Mem} {els:R} (h1:q=q') (h2:ga=ga') (h3:gb=gb') : b6u q sz k len a cs ga gb blk H els=b6u q' sz k len a cs ga' gb' blk H els:=by grind
attribute [congr] f4p
theorem f4q {len:Nat} {b:Option Blk} (h1:0<sz) (h2:bytes<=1048576) (h3:r.length=k*sz) (h4:k<=40000) (h5:allOne cs=true) : b6u (some (sz,bytes)) sz k len a cs (some (.cells r true sz)) b b ⟨.fn G,n⟩ els=.val (.slq n 0 (k+len) 0) ⟨.fn (Ap (Ap G a none) n (some (.cells (r++cs) true sz))),n+1⟩:=if_pos ⟨rfl,rfl,rfl,h1,h2,h3,h4,h5⟩
open Classical in
noncomputable def b6v (q:Option (Nat×Nat)) (sz k len c off a:Nat) (cs:List AV) (ga gb blk:Option Blk) (H:Mem) (els:R) : R:=match q,ga with
 | some (size,_),some (.cells r true z)=>if gb=blk/\size=sz/\0<size/\off+k*sz+cs.length<=r.length/\k+len<=c/\allOne cs=true then .val (.sl a off (k+len) c) (H.upd a (.cells (Br r (off+k*sz) cs) true z)) else els
 | _,_=>els
theorem f4r (_h0:tick=tk) {q q' : Option (Nat×Nat)} {sz k len c off a:Nat} {cs:List AV} {ga ga' gb gb' blk:Option Blk} {H:Mem} {els:R} (h1:q=q') (h2:ga=ga') (h3:gb=gb') : b6v q sz k len c off a cs ga gb blk H els=b6v q' sz k len c off a cs ga' gb' blk H els:=by grind
attribute [congr] f4r
theorem f4s {len:Nat} {b:Option Blk} (h1:0<sz) (h3:off+k*sz+cs.length<=r.length) (h4:k+len<=c) (h5:allOne cs=true) : b6v (some (sz,bytes)) sz k len c off a cs (some (.cells r true z)) b b ⟨.fn G,n⟩ els=.val (.sl a off (k+len) c) ⟨.fn (Ap G a (some (.cells (Br r (off+k*sz) cs) true z))),n⟩:=if_pos ⟨rfl,rfl,h1,h3,h4,h5⟩
open Classical in
noncomputable def b6w (q:Option (Nat×Nat)) (sz k len c off:Nat) (cs:List AV) (ga gb blk:Option Blk) (H:Mem) (els:R) : R:=match q,ga with
 | some (size,bytes),some (.cells r _ _)=>if gb=blk/\size=sz/\0<size/\bytes<=1048576/\off+k*sz<=r.length/\c<k+len/\k<=40000/\c<=1048576 then .val (.slq H.next 0 (k+len) 0) (H.add (.cells ((r.drop off).take (k*sz)++cs) true sz)) else els
 | _,_=>els
theorem f4t (_h0:tick=tk) {q q' : Option (Nat×Nat)} {sz k len c off:Nat} {cs:List AV} {ga ga' gb gb' blk:Option Blk} {H:Mem} {els:R} (h1:q=q') (h2:ga=ga') (h3:gb=gb') : b6w q sz k len c off cs ga gb blk H els=b6w q' sz k len c off cs ga' gb' blk H els:=by grind
attribute [congr] f4t
theorem f4u {own:Bool} {len:Nat} {b:Option Blk} (h1:0<sz) (h2:bytes<=1048576) (h3:off+k*sz<=r.length) (h4:c<k+len) (h5:k<=40000) (h6:c<=1048576) : b6w (some (sz,bytes)) sz k len c off cs (some (.cells r own z)) b b ⟨.fn G,n⟩ els=.val (.slq n 0 (k+len) 0) ⟨.fn (Ap G n (some (.cells ((r.drop off).take (k*sz)++cs) true sz))),n+1⟩:=if_pos ⟨rfl,rfl,h1,h2,h3,h4,h5,h6⟩
theorem f4v {n k a:Nat} {x:AV} {new l:List AV} (hn:lenOf x=some (n+1)) (hs:0<size) (hf:Cx H size (n+1) x=some new) (hl:new.length=(n+1)*size)
  (hg:H.get a=some (.cells l true size)) (hle:(k+(n+1))*size<=l.length) (h4:allOne new=true) :
  a2d H size bytes (.slq a 0 k 0) x=some (.slq a 0 (k+(n+1)) 0,H.upd a (.cells (Br l (k*size) new) true size)):=by
 unfold a2d;rw[hn];show (match Nat.beq size 0,Cx H size (n+1) x with|false,some new=>a1c H size bytes (n+1) (.slq a 0 k 0) new|_,_=>none)=_;have hb:Nat.beq size 0=false:=by
  grind[Nat.eq_of_beq_eq_true]
 rw[hb,hf];dsimp only;unfold a1c;rw[a0b,hl,Nat.beq_refl];dsimp only;unfold b8m;rw[hg];dsimp only;have e1:(Nat.beq size size && Nat.beq 0 (0*size))=true:=by simp
 have e2:Nat.ble (0+(k+(n+1))*size) (len l)=true:=by simp_all[a0b]
 rw[e1,e2];dsimp only;unfold a7m;rw[h4];dsimp only;have hle2:0+k*size+new.length<=l.length:=by grind
 rw[a9n,if_pos hle2,Mem.setK_eq,Nat.zero_add];rfl
open Classical in
noncomputable def b6x (q:Option (Nat×Nat)) (sz k len a:Nat) (cs:List AV) (ga gb blk:Option Blk) (H:Mem) (els:R) : R:=match q,ga with
 | some (size,_),some (.cells r true z)=>if gb=blk/\size=sz/\z=sz/\0<size/\(k+len)*sz<=r.length/\allOne cs=true then .val (.slq a 0 (k+len) 0) (H.upd a (.cells (Br r (k*sz) cs) true sz)) else els
 | _,_=>els
theorem f4w (_h0:tick=tk) {q q' : Option (Nat×Nat)} {sz k len a:Nat} {cs:List AV} {ga ga' gb gb' blk:Option Blk} {H:Mem} {els:R} (h1:q=q') (h2:ga=ga') (h3:gb=gb') : b6x q sz k len a cs ga gb blk H els=b6x q' sz k len a cs ga' gb' blk H els:=by grind
theorem f4x {len:Nat} {b:Option Blk} (h1:0<sz) (h3:(k+len)*sz<=r.length) (h5:allOne cs=true) : b6x (some (sz,bytes)) sz k len a cs (some (.cells r true sz)) b b ⟨.fn G,n⟩ els=.val (.slq a 0 (k+len) 0) ⟨.fn (Ap G a (some (.cells (Br r (k*sz) cs) true sz))),n⟩:=if_pos ⟨rfl,rfl,rfl,h1,h3,h5⟩
open Classical in
noncomputable def b6y (q:Option (Nat×Nat)) (sz len:Nat) (cs:List AV) (gb blk:Option Blk) (H:Mem) (els:R) : R:=match q with
 | some (size,bytes)=>if gb=blk/\size=sz/\0<size/\bytes<=1048576 then .val (.slq H.next 0 len 0) (H.add (.cells cs true sz)) else els
 | _=>els
theorem f4y (_h0:tick=tk) {q q' : Option (Nat×Nat)} {sz len:Nat} {cs:List AV} {gb gb' blk:Option Blk} {H:Mem} {els:R} (h1:q=q') (h3:gb=gb') : b6y q sz len cs gb blk H els=b6y q' sz len cs gb' blk H els:=by grind
theorem f4z {len:Nat} {b:Option Blk} (h1:0<sz) (h2:bytes<=1048576) : b6y (some (sz,bytes)) sz len cs b b ⟨.fn G,n⟩ els=.val (.slq n 0 len 0) ⟨.fn (Ap G n (some (.cells cs true sz))),n+1⟩:=if_pos ⟨rfl,rfl,h1,h2⟩
attribute [congr] f4y
attribute [simp] f4z
attribute [congr] f4w
attribute [simp] f4x
attribute [simp] f4q f4s f4u
end
theorem Af.lenOf' {g:Gb} {b len:Nat} {sv:AV} {cs:List AV} (h:Af g b sv len cs) (hl:0<len) : ∃ a2 o2 c l own z,a2<b/\(sv=.sl a2 o2 len c\/sv=.slq a2 o2 len c)/\g a2=some (.cells l own z)/\o2+cs.length<=l.length/\(l.drop o2).take cs.length=cs:=by
 rcases h with⟨h1,_⟩|⟨a2,o2,ha2,hsv,l,own,z,hg,hle,hcut⟩
 all_goals grind
theorem Af.apq {P:Program} {g:Nat->Option Blk} {b len sz:Nat} {sv:AV} {cs:List AV} (h:Af g b sv len cs) (hl:0<len) (hlm:len<=1000000) (hcs:cs.length=len*sz) :
  ∃ a2 blk,a2<b/\g a2=some blk/\∀ {H:Mem} {ev:Ev} {d:Option Tmp} {ty:TypeId} {p:String} {af:Array Edge} {gd:Option (Nat×Bool)} {x y:Operand} {s t:TypeId} {a k:Nat} {hx:ev x=some (.slq a 0 k 0)} {hy:ev y=some sv},
   ex2 P H ev ⟨d,.call ⟨.builtin .append,#[x,y],#[s,t]⟩,ty,p,af,gd⟩ x y (some (.slq a 0 k 0)) (some sv) hx hy=b6u (apI P s t) sz k len a cs (H.get a) (H.get a2) (some blk) H (opV P H ev ⟨d,.call ⟨.builtin .append,#[x,y],#[s,t]⟩,ty,p,af,gd⟩):=by
 obtain⟨a2,o2,c,l,own,z,ha2,hv,hg,hle,hcut⟩:=h.lenOf' hl;refine⟨a2,_,ha2,hg,?_⟩;intro H ev d ty p af gd x y s t a k hx hy;unfold b6u;split
 ·rename_i size bytes r zz h1 h2;split
  ·rename_i h;obtain⟨hH,rfl,rfl,h4,h5,h6,h7,h8⟩:=h;obtain⟨j,rfl⟩ : ∃ j,len=j+1:=⟨len-1,by omega⟩;show opV P H ev _=_;have hn:lenOf sv=some (j+1):=by rcases hv with rfl|rfl<;>rfl
   rw[a5c hx hy h1,d2n (n:=j) hn h4 (b4a hv hH hcut hle hcs) hcs h2 h6 (by omega) h5 h8];rfl
  ·rfl
 ·rfl
theorem Af.apr {P:Program} {g:Nat->Option Blk} {b len sz:Nat} {sv:AV} {cs:List AV} (h:Af g b sv len cs) (hl:0<len) (hcs:cs.length=len*sz) :
  ∃ a2 blk,a2<b/\g a2=some blk/\∀ {H:Mem} {ev:Ev} {d:Option Tmp} {ty:TypeId} {p:String} {af:Array Edge} {gd:Option (Nat×Bool)} {x y:Operand} {s t:TypeId} {a off k c:Nat} {hx:ev x=some (.sl a off k c)} {hy:ev y=some sv},k+len<=c ->
   ex2 P H ev ⟨d,.call ⟨.builtin .append,#[x,y],#[s,t]⟩,ty,p,af,gd⟩ x y (some (.sl a off k c)) (some sv) hx hy=b6v (apI P s t) sz k len c off a cs (H.get a) (H.get a2) (some blk) H (opV P H ev ⟨d,.call ⟨.builtin .append,#[x,y],#[s,t]⟩,ty,p,af,gd⟩):=by
 obtain⟨a2,o2,c2,l,own,z,ha2,hv,hg,hle,hcut⟩:=h.lenOf' hl;refine⟨a2,_,ha2,hg,?_⟩;intro H ev d ty p af gd x y s t a off k c hx hy hkc;unfold b6v;split
 ·rename_i size bytes r zz h1 h2;split
  ·rename_i h;obtain⟨hH,rfl,h4,h5,h6,h7⟩:=h;obtain⟨j,rfl⟩ : ∃ j,len=j+1:=⟨len-1,by omega⟩;show opV P H ev _=_;have hn:lenOf sv=some (j+1):=by rcases hv with rfl|rfl<;>rfl
   rw[a5c hx hy h1,d3l (n:=j) hn h4 (b4a hv hH hcut hle hcs) hcs h2 h6 h5 h7]
  ·rfl
 ·rfl
theorem Af.apo {P:Program} {g:Nat->Option Blk} {b len sz:Nat} {sv:AV} {cs:List AV} (h:Af g b sv len cs) (hl:0<len) (hlm:len<=1000000) (hcs:cs.length=len*sz) :
  ∃ a2 blk,a2<b/\g a2=some blk/\∀ {H:Mem} {ev:Ev} {d:Option Tmp} {ty:TypeId} {p:String} {af:Array Edge} {gd:Option (Nat×Bool)} {x y:Operand} {s t:TypeId} {a off k c:Nat} {hx:ev x=some (.sl a off k c)} {hy:ev y=some sv},c<k+len ->
   ex2 P H ev ⟨d,.call ⟨.builtin .append,#[x,y],#[s,t]⟩,ty,p,af,gd⟩ x y (some (.sl a off k c)) (some sv) hx hy=b6w (apI P s t) sz k len c off cs (H.get a) (H.get a2) (some blk) H (opV P H ev ⟨d,.call ⟨.builtin .append,#[x,y],#[s,t]⟩,ty,p,af,gd⟩):=by
 obtain⟨a2,o2,c2,l,own,z,ha2,hv,hg,hle,hcut⟩:=h.lenOf' hl;refine⟨a2,_,ha2,hg,?_⟩;intro H ev d ty p af gd x y s t a off k c hx hy hkc;unfold b6w;split
 ·rename_i size bytes r ow zz h1 h2;split
  ·rename_i h;obtain⟨hH,rfl,h4,h5,h6,h7,h8,h9⟩:=h;obtain⟨j,rfl⟩ : ∃ j,len=j+1:=⟨len-1,by omega⟩;show opV P H ev _=_;have hn:lenOf sv=some (j+1):=by rcases hv with rfl|rfl<;>rfl
   rw[a5c hx hy h1,f4o (n:=j) hn h4 (b4a hv hH hcut hle hcs) hcs h2 h6 hkc (by omega) h9 h5]
  ·rfl
 ·rfl
theorem Af.aps {P:Program} {g:Nat->Option Blk} {b len sz:Nat} {sv:AV} {cs:List AV} (h:Af g b sv len cs) (hl:0<len) (hcs:cs.length=len*sz) :
  ∃ a2 blk,a2<b/\g a2=some blk/\∀ {H:Mem} {ev:Ev} {d:Option Tmp} {ty:TypeId} {p:String} {af:Array Edge} {gd:Option (Nat×Bool)} {x y:Operand} {s t:TypeId} {a k:Nat} {hx:ev x=some (.slq a 0 k 0)} {hy:ev y=some sv},
   ex2 P H ev ⟨d,.call ⟨.builtin .append,#[x,y],#[s,t]⟩,ty,p,af,gd⟩ x y (some (.slq a 0 k 0)) (some sv) hx hy=b6x (apI P s t) sz k len a cs (H.get a) (H.get a2) (some blk) H (opV P H ev ⟨d,.call ⟨.builtin .append,#[x,y],#[s,t]⟩,ty,p,af,gd⟩):=by
 obtain⟨a2,o2,c,l,own,z,ha2,hv,hg,hle,hcut⟩:=h.lenOf' hl;refine⟨a2,_,ha2,hg,?_⟩;intro H ev d ty p af gd x y s t a k hx hy;unfold b6x;split
 ·rename_i size bytes r zz h1 h2;split
  ·rename_i h;obtain⟨hH,rfl,rfl,h4,h6,h8⟩:=h;obtain⟨j,rfl⟩ : ∃ j,len=j+1:=⟨len-1,by omega⟩;show opV P H ev _=_;have hn:lenOf sv=some (j+1):=by rcases hv with rfl|rfl<;>rfl
   rw[a5c hx hy h1,f4v (n:=j) hn h4 (b4a hv hH hcut hle hcs) hcs h2 h6 h8]
  ·rfl
 ·rfl
theorem Af.apn {P:Program} {g:Gb} {b len sz:Nat} {sv:AV} {cs:List AV} (h:Af g b sv len cs) (hl:0<len) (hlm:len<=1000000) (hcs:cs.length=len*sz) :
  ∃ a2 blk,a2<b/\g a2=some blk/\∀ {H:Mem} {ev:Ev} {d:Option Tmp} {ty:TypeId} {p:String} {af:Array Edge} {gd:Option (Nat×Bool)} {x y:Operand} {s t:TypeId} {hx:ev x=some (.nl)} {hy:ev y=some sv},
   ex2 P H ev ⟨d,.call ⟨.builtin .append,#[x,y],#[s,t]⟩,ty,p,af,gd⟩ x y (some (.nl)) (some sv) hx hy=b6y (apI P s t) sz len cs (H.get a2) (some blk) H (opV P H ev ⟨d,.call ⟨.builtin .append,#[x,y],#[s,t]⟩,ty,p,af,gd⟩):=by
 obtain⟨a2,o2,c,l,own,z,ha2,hv,hg,hle,hcut⟩:=h.lenOf' hl
 refine⟨a2,_,ha2,hg,?_⟩
 intro H ev d ty p af gd x y s t hx hy
 unfold b6y
 split
 ·rename_i size bytes h1
  split
  ·rename_i h
   obtain⟨hH,rfl,h4,h5⟩:=h
   obtain⟨j,rfl⟩ : ∃ j,len=j+1:=⟨len-1,by omega⟩
   show opV P H ev _=_
   have hn:lenOf sv=some (j+1):=by rcases hv with rfl|rfl<;>rfl
   rw[a5c hx hy h1,d2l (n:=j) hn h4 (b4a hv hH hcut hle hcs) hcs (by omega) h5]
  ·rfl
 ·rfl
end Go.Ai
end
section
namespace Go.Ai
def EdT (T:Tq) (p j t:Nat) : Prop:=∃ e,(T.getD p [])[j]?=some e/\e.1=(t:Int)
theorem g3n {T:Tq} {n i:Nat} (h:i<(T.getD n []).length) : n<T.length:=by
 grind
theorem EdT.lt {T:Tq} {p j t:Nat} (h:EdT T p j t) : p<T.length:=by
 obtain⟨e,h,-⟩:=h;grind
def Sn (st:WSt) (m:Nat) : Prop:=st.seen.getD m false=true
structure WInv (T:Tq) (st:WSt) : Prop where
 lo:st.out.length=T.length
 ls:st.seen.length=T.length
 s0:Sn st 0
 o0:st.out.getD 0 []=[]
 cnt:st.many=st.seen.count true
 src:∀ m,Sn st m->m≠0->∃ p j,EdT T p j m
def b6z (T:Tq) (st:WSt) (n i:Nat) : Prop :=
 ∀ j,j<i->∀ t,EdT T n j t->Sn st t/\st.out.getD t []=st.out.getD n []++[(j:Int)]
structure b2g (st st' : WSt) : Prop where
 keep:∀ m,Sn st m->Sn st' m/\st'.out.getD m []=st.out.getD m []
 le:st.many<=st'.many
 eq:st'.many=st.many->st'=st
theorem b2g.refl (st:WSt) : b2g st st:=⟨fun _ h=>⟨h,rfl⟩,Dm _,fun _=>rfl⟩
theorem b2g.trans {a b c:WSt} (h1:b2g a b) (h2:b2g b c) : b2g a c :=
 ⟨fun m h=>⟨(h2.keep m (h1.keep m h).1).1,((h2.keep m (h1.keep m h).1).2).trans (h1.keep m h).2⟩,Dw h1.le h2.le,fun e=>by
  have e1:=h1.le;have e2:=h2.le;rw[h2.eq (by omega),h1.eq (by omega)]⟩
theorem b6z.mono {T:Tq} {st st': WSt} {n i:Nat} (h:b6z T st n i) (hn:Sn st n) (hx:b2g st st') : b6z T st' n i:=fun j hj t ht=>by
 obtain⟨h1,h2⟩:=h j hj t ht;obtain⟨h3,h4⟩:=hx.keep t h1;exact⟨h3,by rw[h4,h2,(hx.keep n hn).2]⟩
structure WQ (T:Tq) (r:Nat) (st:WSt) (n:Nat) : Prop where
 le:∀ m,Sn st m->(st.out.getD m []).length<=r+1
 old:∀ m,Sn st m->(st.out.getD m []).length<r->b6z T st m (T.getD m []).length
 now:∀ m,Sn st m->(st.out.getD m []).length=r->m<n->b6z T st m (T.getD m []).length
end Go.Ai
end
section
namespace Go.Ai
structure BH (T:Tq) (next n i:Nat) : Prop where
 lo:1<=next
 hi:next<=T.length
 a:∀ t,1<=t->t<next->∃ p j,(p<n\/p=n/\j<i)/\EdT T p j t
 b:∀ p j t,(p<n\/p=n/\j<i)->EdT T p j t->t<next
end Go.Ai
end
section
namespace Go.Ai
theorem c0o {O:Int} : ∀ {es:List (Int×Int)} {next nx:Nat},goE O es next=some nx->next<=nx
 | [],_,_,h=>by simp_all[goE]
 | e :: es,next,nx,h=>by
  unfold goE at h
  cases he:a1w O next e with
  | none=>grind
  | some k =>
   rw[he] at h;have h1:=c0o (es:=es) h
   (simp_all[a1w];grind)
theorem d3n {I O:Int} : ∀ {rows:Tq} {n next k:Nat},goT I O rows n next=some k->next<=k
 | [],_,_,_,h=>by simp_all[goT]
 | r :: rows,n,next,k,h=>by
  unfold goT at h;split at h
  ·cases he:goE O r next with
   | none=>grind
   | some j =>
    rw[he] at h;have h1:=d3n (rows:=rows) h;have h2:=c0o he;omega
  grind
theorem c5o {O:Int} {len:Nat} : ∀ {es:List (Int×Int)} {next nx:Nat},goE O es next=some nx->1<=next->nx<=len->∀ e∈es,okE len O e=true
 | [],_,_,_,_,_=>fun e he=>by grind
 | e :: es,next,nx,h,h1,h2=>by
  unfold goE at h
  cases he:a1w O next e with
  | none=>grind
  | some k =>
   rw[he] at h;have h3:=c0o (es:=es) h;unfold a1w at he;intro f hf;split at he
   ·rename_i hc;cases he;rcases Dv.1 hf with rfl|hf
    ·simp_all[okE]
    ·exact c5o (es:=es) h h1 h2 f hf
   ·split at he
    ·rename_i hc;cases he;rcases Dv.1 hf with rfl|hf
     ·unfold okE;grind
     ·exact c5o (es:=es) h (by omega) h2 f hf
    grind
theorem c5p {I O:Int} {len:Nat} : ∀ {rows:Tq} {n next k:Nat},goT I O rows n next=some k->1<=next->k<=len->∀ r∈rows,(r.length:Int)=I/\∀ e∈r,okE len O e=true
 | [],_,_,_,_,_,_=>fun r hr=>by grind
 | row :: rows,n,next,k,h,h1,h2=>by
  unfold goT at h;split at h
  ·rename_i hc
   cases he:goE O row next with
   | none=>grind
   | some j =>
    rw[he] at h;have h3:=d3n (rows:=rows) h;have h4:=c0o he;intro r hr;rcases Dv.1 hr with rfl|hr
    ·exact⟨hc.1,c5o he h1 (by omega)⟩
    ·exact c5p (rows:=rows) h (by omega) h2 r hr
  grind
end Go.Ai
end
section
namespace Go.Ai
section
variable {P:Program} {H:Mem} {ev:Ev} {d:Option Tmp} {ty:TypeId} {p:String} {af:Array Edge} {g:Option (Nat×Bool)}
variable {i:Int} {n c sz:Nat} {k:IntKind} {t:TypeId}
theorem d3o (h0:0<=i) (h1:i.toNat<=n) (h2:n<=c) : a0t (some (.lit (.int k i))) none none n c=some (i.toNat,n,c):=by
 simp_all[a7j,a0t,a6x,g4h,b5c]
theorem d3p {t:TypeId} {x lo:Operand} {a off n c sz:Nat} {k:IntKind} {i:Int} {hx:ev x=some (.slq a off n c)} {hh:ev lo=some (.lit (.int k i))} (he:Cd P t=some (none,sz)) (h0:0<=i) (h1:i.toNat<n) :
  ex2 P H ev ⟨d,.slice t x (some lo) none none,ty,p,af,g⟩ x lo (some (.slq a off n c)) (some (.lit (.int k i))) hx hh=.val (.slq a (off+i.toNat*sz) (n-i.toNat) (c+i.toNat)) H:=by
 show opV P H ev _=_;rw[c0b hx rfl];obtain⟨e,i',h3,h4,h5⟩:=a8b he;unfold a4f a2s;dsimp only;rw[hh];dsimp only;rw[b1x h3 h4];unfold a7l;dsimp only;rw[d3o h0 (by omega) (Nat.le_refl n)];grind[b8i,Nat.ble_eq_true_of_le,Nat.blt,ofOpt,a1s]
theorem f5a {t:TypeId} {x lo:Operand} {a off n c sz:Nat} {k:IntKind} {i:Int} {hx:ev x=some (.sl a off n c)} {hh:ev lo=some (.lit (.int k i))} (he:Cd P t=some (none,sz)) (h0:0<=i) (h1:i.toNat<n) (h2:n<=c) :
  ex2 P H ev ⟨d,.slice t x (some lo) none none,ty,p,af,g⟩ x lo (some (.sl a off n c)) (some (.lit (.int k i))) hx hh=.val (.sl a (off+i.toNat*sz) (n-i.toNat) (c-i.toNat)) H:=by
 show opV P H ev _=_;rw[c0b hx rfl];obtain⟨e,i',h3,h4,h5⟩:=a8b he;unfold a4f a2s;dsimp only;rw[hh];dsimp only;rw[b1x h3 h4];grind[a7l,d3o,a7k,Nat.eq_of_beq_eq_true,ofOpt,a1s]
end
theorem Af.lo {P:Program} {g:Gb} {b len sz:Nat} {sv:AV} {cs:List AV} {t:TypeId} (he:Cd P t=some (none,sz)) (h:Af g b sv len cs) (hc:Bm sv) {k:Nat} (hk:k<len) (hcs:cs.length=len*sz) :
  ∃ sv',Af g b sv' (len-k) (cs.drop (k*sz))/\∀ {H:Mem} {ev:Ev} {d:Option Tmp} {ty:TypeId} {p:String} {af:Array Edge} {gd:Option (Nat×Bool)} {x lo:Operand} {hx:ev x=some sv} {hl:ev lo=some (.li (k:Int))},
   ex2 P H ev ⟨d,.slice t x (some lo) none none,ty,p,af,gd⟩ x lo (some sv) (some (.li (k:Int))) hx hl=.val sv' H:=by
 obtain⟨a2,o2,c,l,own,z,ha2,hv,hg,hle,hcut⟩:=h.lenOf' (by omega)
 have hkz:k*sz<=cs.length:=by rw[hcs];exact Nat.mul_le_mul_right _ (by omega)
 have hrow:Row g a2 (o2+k*sz) (cs.drop (k*sz)):=by
  refine⟨l,own,z,hg,by grind,?_⟩
  grind[List.drop_drop,List.drop_take]
 rcases hv with rfl|rfl
 ·have hnc:len<=c:=hc a2 o2 len c rfl
  refine⟨.sl a2 (o2+k*sz) (len-k) (c-k),.inr ⟨a2,o2+k*sz,ha2,.inl ⟨_,rfl⟩,hrow⟩,?_⟩
  simp_all[f5a]
 ·refine⟨.slq a2 (o2+k*sz) (len-k) (c+k),.inr ⟨a2,o2+k*sz,ha2,.inr ⟨_,rfl⟩,hrow⟩,?_⟩
  simp_all[d3p]
end Go.Ai
end
section
namespace Go.Ai
section
variable {P:Program} {H:Mem} {ev:Ev} {d:Option Tmp} {ty:TypeId} {p:String} {af:Array Edge} {g:Option (Nat×Bool)}
noncomputable def c0p (P:Program) (s t:TypeId) : Option (Nat×Nat×List AV):=match a3c P s,b8n P (some t),c2i P (some t) with
 | some (e,size,bytes),false,true=>(Cl P e).map fun z=>(size,bytes,z)
 | _,_,_=>none
theorem f5b {x y:Operand} {s t:TypeId} {n size bytes:Nat} {z:List AV} (hx:ev x=some (.nl)) (hy:ev y=some (.li (n:Int))) (h:c0p P s t=some (size,bytes,z)) (hn0:0<n) (hn:n<=1048576) (hs:0<size) (hb:bytes<=1048576) (hz:z.length=size) :
  opV P H ev ⟨d,.call ⟨.builtin .append,#[x,y],#[s,t]⟩,ty,p,af,g⟩=.val (.slq H.next 0 n 0) (H.add (.cells (rep z n) true size)):=by
 show Cb P H ev _ ⟨.builtin .append,#[x,y],#[s,t]⟩=_
 unfold Cb
 have e1:Bq ev (#[x,y] : Array Operand).toList=some [.nl,.li (n:Int)]:=by
  simp_all
 rw[e1]
 dsimp only
 unfold a3d
 dsimp only
 unfold b5f
 dsimp only
 have e2:(#[s,t] : Array TypeId)[0]?=some s:=rfl
 have e3:(#[s,t] : Array TypeId)[1]?=some t:=rfl
 rw[e2,e3]
 dsimp only
 unfold append
 unfold c0p at h
 split at h
 ·rename_i e sz by_ he hap hit
  obtain⟨z',hz',h'⟩:=Option.map_eq_some_iff.1 h
  cases h'
  rw[he,hap]
  dsimp only
  rw[hit]
  dsimp only
  unfold c2j
  rw[a6x (by omega)]
  obtain⟨j,rfl⟩ : ∃ j,n=j+1:=⟨n-1,by omega⟩
  rw[Int.toNat_natCast]
  have hb0:Nat.beq size 0=false:=by
   grind[Nat.eq_of_beq_eq_true]
  have hbb:(Nat.ble (j+1) 1048576 && Nat.ble bytes 1048576)=true:=by simp_all
  show (match (match Nat.beq size 0,Nat.ble (j+1) 1048576 && Nat.ble bytes 1048576,Cl P e with|false,true,some z=>a1c H size bytes (j+1) (.nl) (rep z (j+1))|_,_,_=>none) with|some (v,H)=>R.val v H|none=>.bad)=_
  rw[hb0,hbb,hz']
  dsimp only
  unfold a1c
  rw[a0b,a8l,hz,Nat.beq_refl]
  simp_all[b8l,b6h,b6i]
 grind
theorem f5c {x y:Operand} {s t:TypeId} {n:Nat} {z:List AV} {hx:ev x=some (.nl)} {hy:ev y=some (.li (n:Int))} (size bytes:Nat) (h:c0p P s t=some (size,bytes,z)) (hn0:0<n) (hn:n<=1048576) (hs:0<size) (hb:bytes<=1048576) (hz:z.length=size) :
  ex2 P H ev ⟨d,.call ⟨.builtin .append,#[x,y],#[s,t]⟩,ty,p,af,g⟩ x y (some (.nl)) (some (.li (n:Int))) hx hy=.val (.slq H.next 0 n 0) (H.add (.cells (rep z n) true size)) :=
 f5b hx hy h hn0 hn hs hb hz
theorem Af.apq0 {g:Gb} {b:Nat} {sv:AV} {cs:List AV} (h:Af g b sv 0 cs) :
  ∀ {H:Mem} {ev:Ev} {d:Option Tmp} {ty:TypeId} {p:String} {af:Array Edge} {gd:Option (Nat×Bool)} {x y:Operand} {s t:TypeId} {a off k c:Nat} {hx:ev x=some (.slq a off k c)} {hy:ev y=some sv},(apI P s t).isSome=true ->
   ex2 P H ev ⟨d,.call ⟨.builtin .append,#[x,y],#[s,t]⟩,ty,p,af,gd⟩ x y (some (.slq a off k c)) (some sv) hx hy=.val (.slq a off k c) H:=by
 intro H ev d ty p af gd x y s t a off k c hx hy hp;have hn:lenOf sv=some 0:=by
  rcases h with⟨_,_,rfl|rfl⟩|⟨a,off,_,⟨c,rfl⟩|⟨c,rfl⟩,_⟩<;>rfl
 cases hq:apI P s t with
 | none=>grind
 | some q =>
  obtain⟨q1,q2⟩:=q;show opV P H ev _=_;rw[a5c hx hy hq];unfold a2d;rw[hn];rfl
end
end Go.Ai
end
section
namespace Go.Ai
theorem LX.cut {G n:Nat} {P:Program} {b:Code} {fr:Fr} {H:Mem} {K Q:Out->Prop} (h:LX G P n b fr H K) (hk:∀ o,K o->Q o) : LX G P n b fr H Q:=by
 intro B n0 ρ0 w0 ρ a w s b' k cs;obtain⟨e,a',w',⟨out,h1,h2⟩,h3⟩:=h B n0 ρ0 w0 ρ a w s b' k cs;exact⟨e,a',w',⟨out,hk _ h1,h2⟩,h3⟩
def b2h (id:Nat) (K:(Nat->Option AV)->(Gb)->Nat->Prop) : Out->Prop:=fun o=>∃ gf g n,o=.exit id (.f gf []) ⟨.fn g,n⟩/\K gf g n
theorem f5d {id:Nat} {K:(Nat->Option AV)->(Gb)->Nat->Prop} {gf:Nat->Option AV} {g:Gb} {n:Nat} : b2h id K (.exit id (.f gf []) ⟨.fn g,n⟩)=K gf g n:=by
 apply propext;constructor
 ·rintro⟨gf',g',n',e,h⟩;grind
 ·exact fun h=>⟨_,_,_,rfl,h⟩
theorem f5e {tk:Nat} (_h0:tick=tk) {id:Nat} {K:(Nat->Option AV)->(Gb)->Nat->Prop} {o o' : Out} (h:o=o') : b2h id K o=b2h id K o':=by rw[h]
attribute [congr] f5e
attribute [simp] f5d
end Go.Ai
end

