/- A small verified interpreter over names, its proofs, and what was proved with it. No condition. -/
import Derived.Test.YtpimmmnkcgnjjaaGreatP06
set_option linter.all false
set_option linter.deprecated false
section
namespace Go.Ai
open Go.RowKit (Below)
variable {B G n n0 m l:Nat} {P:Program} {ρ0 ρ:Rn} {w0 w:World} {x r:Option Nat} {I:Inv} {fr:Fr} {ys:List Nat} {p:Option J} {H:Mem} {a:Act}
def LWR (r:Option Nat) (P:Program) (c:Code) (Q:Exit→Act→World→Prop) (a:Act) (w:World) : Prop :=
 ∀ (b:Frame) (k:List Item) (cs:List Frame),b.roundOf=r→∃ e a' w',Q e a' w'∧ArrivesIn (Machine.fenced P (FR r)) P (lone (b.atR a (.code c :: .inLoop c :: k)) cs w) b k cs e a' w'
theorem room_FR (n:Nat) : (FR r).room n:=fun _ h=>by cases h
theorem fencedFR {b:Frame} {k:List Item} {cs:List Frame} (hr:b.roundOf=r) (ha:(b.atR a k).about P w=none) : (lone (b.atR a k) cs w).fenced P (FR r):=fenced_calm (n:=0) (F:=FR r) trivial (room_FR _) ha
theorem LWR.wp {c:Code} {Q:Exit→Act→World→Prop} (h:LWR r P c Q a w) : (Code.loop c).wpIn (FR r) m P Q a w :=
 fun b k cs hro _ _=>let ⟨e,a',w',q,s⟩:=h b k cs hro; ⟨e,a',w',q,.of_steps (.one (fencedFR hro rfl) stepR_loop) s⟩
theorem LWR.unroll {c:Code} {Q:Exit→Act→World→Prop} (h:c.wpIn (FR r) m P (Exit.then (LWR r P c Q) Q) a w) : LWR r P c Q a w:=by
 intro b k cs hro
 obtain ⟨e,a₁,w₁,hq,harr⟩:=h b (.inLoop c :: k) cs hro trivial (room_FR _)
 cases e with
 | normal =>
  obtain ⟨e₂,a₂,w₂,hq₂,harr₂⟩:=hq b k cs hro
  exact ⟨e₂,a₂,w₂,hq₂,.of_steps (StepsIn.trans harr (.one (fencedFR hro rfl) stepR_inLoop)) harr₂⟩
 | exit id=>exact ⟨_,a₁,w₁,hq,.pass (x:=.inLoop c) rfl (fun _ _=>.inl (by simp)) harr⟩
 | goto l=>exact ⟨_,a₁,w₁,hq,.pass (x:=.inLoop c) rfl (fun _ _=>.inl (by simp)) harr⟩
 | ret=>exact ⟨_,a₁,w₁,hq,.pass (x:=.inLoop c) rfl (fun _ _=>.inl (by simp)) harr⟩
 | panic ch=>exact ⟨_,a₁,w₁,hq,.pass (x:=.inLoop c) rfl (fun _ _=>.inl (by simp)) harr⟩
 | outgrown=>exact ⟨_,a₁,w₁,hq,.pass (x:=.inLoop c) rfl (fun _ _=>.inl (by simp)) harr⟩
def GoodE (B G n n0:Nat) (P:Program) (r x:Option Nat) (l m:Nat) (I:Inv) (ex:KF) (c:Code) : Prop :=
 ∀ (ρ0:Rn) (w0:World) (ρ:Rn) (fr:Fr) (ys:List Nat) (p:Option J) (H:Mem) (a:Act) (w:World),dstsOk n c=true→StE B G n n0 ρ0 w0 x l I ρ fr ys p H a w→ex fr ys p H≠.bad →
  c.wpIn (FR r) m P (PostE B G n n0 ρ0 w0 x l I (ex fr ys p H)) a w
def LoopE (B G n n0:Nat) (P:Program) (r x:Option Nat) (l:Nat) (I:Inv) (loopf:LFE) : Prop :=
 ∀ (b:Code) (ρ0:Rn) (w0:World) (ρ:Rn) (fr:Fr) (ys:List Nat) (p:Option J) (H:Mem) (a:Act) (w:World),dstsOk n b=true→StE B G n n0 ρ0 w0 x l I ρ fr ys p H a w→loopf b fr ys p H≠.bad →
  LWR r P b (PostE B G n n0 ρ0 w0 x l I (loopf b fr ys p H)) a w
theorem thenE_post {o:OutE} {k:KF} {K:Act→World→Prop} (hne:thenE o k≠.bad)
  (hk:∀ fr' ys' p' H' ρ' a' w',o=.norm fr' ys' p' H'→StE B G n n0 ρ0 w0 x l I ρ' fr' ys' p' H' a' w'→k fr' ys' p' H'≠.bad→K a' w') :
  ∀ e a' w',PostE B G n n0 ρ0 w0 x l I o e a' w'→Exit.then K (PostE B G n n0 ρ0 w0 x l I (thenE o k)) e a' w':=by
 intro e a' w' h
 cases o with
 | norm fr' ys' p' H'=>obtain ⟨rfl,ρ',s'⟩:=h; exact hk _ _ _ _ ρ' a' w' rfl s' hne
 | jump j fr' ys' p' H' =>
  have h0:=h
  obtain ⟨rfl,ρ',s'⟩:=h0
  cases j <;> exact h
 | bad=>exact absurd rfl hne
theorem good_loopE {callf:CallF} {yf:YF} {rf:RF} {loopf:LFE} {b:Code} (hl:LoopE B G n n0 P r x l I loopf) (hb:GoodE B G n n0 P r x l m I (execE P callf yf rf loopf b) b) (ρ0:Rn) (w0:World) (ρ:Rn) (fr:Fr) (ys:List Nat) (p:Option J) (H:Mem) (a:Act) (w:World)
  (hd:dstsOk n b=true) (s:StE B G n n0 ρ0 w0 x l I ρ fr ys p H a w) (hne:thenE (execE P callf yf rf loopf b fr ys p H) (loopf b)≠.bad) :
  LWR r P b (PostE B G n n0 ρ0 w0 x l I (thenE (execE P callf yf rf loopf b fr ys p H) (loopf b))) a w:=by
 have hr:execE P callf yf rf loopf b fr ys p H≠.bad:=fun h=>hne (by rw [h]; rfl)
 refine LWR.unroll (m:=m) (Code.wpIn_mono (thenE_post hne fun fr' ys' p' H' ρ' a' w' hr' s' hk=>?_) (hb ρ0 w0 ρ fr ys p H a w hd s hr))
 rw [hr']
 exact hl b ρ0 w0 ρ' fr' ys' p' H' a' w' hd s' hk
theorem execE_sound {callf:CallF} {yf:YF} {rf:RF} {loopf:LFE} (hcs:∀ B,CallOK B G P callf) (hG:G=P.globals.size) (hy:∀ m,YOK B G P r x l m I yf) (hI:InvOK I)
  (hrf:ROK B G n n0 P r x l m I rf) (hl:LoopE B G n n0 P r x l I loopf) : ∀ c:Code,GoodE B G n n0 P r x l m I (execE P callf yf rf loopf c) c:=by
 intro c
 induction c with
 | skip=>intro ρ0 w0 ρ fr ys p H a w hd s hne; exact wpIn_skip ⟨rfl,ρ,s⟩
 | region id ops draw =>
  intro ρ0 w0 ρ fr ys p H a w hd s hne
  cases draw with
  | false =>
   refine wpIn_region_list (opsE_sound (hcs B) hG hy hI hne ops.toList fr ys p H ρ a w ?_ s rfl)
   exact fun o ho=>List.all_eq_true.1 hd o ho
  | true=>exact drawE_sound hcs hG hI hd s hne
 | seq c1 c2 ih1 ih2 =>
  intro ρ0 w0 ρ fr ys p H a w hd s hne
  have he:execE P callf yf rf loopf (.seq c1 c2) fr ys p H=thenE (execE P callf yf rf loopf c1 fr ys p H) (execE P callf yf rf loopf c2):=rfl
  rw [he] at hne ⊢
  simp only [dstsOk,Bool.and_eq_true] at hd
  have hr:execE P callf yf rf loopf c1 fr ys p H≠.bad:=fun h=>hne (by rw [h]; rfl)
  refine wpIn_seq (Code.wpIn_mono (thenE_post hne fun fr' ys' p' H' ρ' a' w' hr' s' hk=>?_) (ih1 ρ0 w0 ρ fr ys p H a w hd.1 s hr))
  rw [hr']
  exact ih2 ρ0 w0 ρ' fr' ys' p' H' a' w' hd.2 s' hk
 | cond cnd c1 c2 ih1 ih2 =>
  intro ρ0 w0 ρ fr ys p H a w hd s hne
  simp only [dstsOk,Bool.and_eq_true] at hd
  have he:execE P callf yf rf loopf (.cond cnd c1 c2) fr ys p H=(match fr.ev cnd with
   | some (.lit (.bool true))=>execE P callf yf rf loopf c1 fr ys p H
   | some (.lit (.bool false))=>execE P callf yf rf loopf c2 fr ys p H
   | _=>.bad):=rfl
  rw [he] at hne ⊢
  split at hne
  ·rename_i hev
   exact wpIn_cond_true (s.ev _ _ hev) (ih1 ρ0 w0 ρ fr ys p H a w hd.1 s hne)
  ·rename_i hev
   exact wpIn_cond_false (s.ev _ _ hev) (ih2 ρ0 w0 ρ fr ys p H a w hd.2 s hne)
  ·exact absurd rfl hne
 | block id b ih =>
  intro ρ0 w0 ρ fr ys p H a w hd s hne
  have he:execE P callf yf rf loopf (.block id b) fr ys p H=blockE id (execE P callf yf rf loopf b fr ys p H):=rfl
  rw [he] at hne ⊢
  have hr:execE P callf yf rf loopf b fr ys p H≠.bad:=fun h=>hne (by rw [h]; rfl)
  refine wpIn_block (Code.wpIn_mono ?_ (ih ρ0 w0 ρ fr ys p H a w hd s hr))
  intro e a' w' h
  generalize execE P callf yf rf loopf b fr ys p H=o at h hne ⊢
  cases o with
  | norm fr' ys' p' H'=>obtain ⟨rfl,h'⟩:=h; exact ⟨rfl,h'⟩
  | jump j fr' ys' p' H' =>
   obtain ⟨rfl,ρ',s'⟩:=h
   cases j with
   | none=>exact ⟨rfl,ρ',s'⟩
   | some id2 =>
    unfold blockE
    dsimp only [jexit]
    split
    ·rename_i hb
     have:=Nat.eq_of_beq_eq_true hb
     subst this
     simp only [Exit.inBlock,if_true]
     exact ⟨rfl,ρ',s'⟩
    ·rename_i hb
     have hne2:id2≠id:=by intro h0; subst h0; simp at hb
     simp only [Exit.inBlock,hne2,if_false]
     exact ⟨rfl,ρ',s'⟩
  | bad=>exact absurd rfl hne
 | loop b ih =>
  intro ρ0 w0 ρ fr ys p H a w hd s hne
  exact (good_loopE hl ih ρ0 w0 ρ fr ys p H a w hd s hne).wp
 | rangeFunc g ps c1 c2 ih1 ih2 =>
  intro ρ0 w0 ρ fr ys p H a w hd s hne
  cases ys with
  | cons y ys=>exact absurd rfl hne
  | nil =>
   have he:execE P callf yf rf loopf (.rangeFunc g ps c1 c2) fr [] p H=(match rf g ps c1 c2 fr H with
    | .ok none H'=>.norm fr [] p H'
    | .ok (some j) H'=>.jump j fr [] p H'
    | .bad=>.bad):=rfl
   rw [he] at hne ⊢
   split at hne
   ·rename_i H' hrr; exact hrf _ _ _ _ _ _ _ _ hrr ρ0 w0 ρ p a w s
   ·rename_i j H' hrr; exact hrf _ _ _ _ _ _ _ _ hrr ρ0 w0 ρ p a w s
   ·exact absurd rfl hne
 | exit id=>intro ρ0 w0 ρ fr ys p H a w hd s hne; exact wpIn_exit ⟨rfl,ρ,s⟩
 | scope b ih=>intro ρ0 w0 ρ fr ys p H a w hd s hne; exact absurd rfl hne
 | label l=>intro ρ0 w0 ρ fr ys p H a w hd s hne; exact wpIn_label ⟨rfl,ρ,s⟩
 | goto l=>intro ρ0 w0 ρ fr ys p H a w hd s hne; exact absurd rfl hne
 | ret=>intro ρ0 w0 ρ fr ys p H a w hd s hne; exact wpIn_ret ⟨rfl,ρ,s⟩
 | refuse why=>intro ρ0 w0 ρ fr ys p H a w hd s hne; exact absurd rfl hne
theorem loopE_sound {callf:CallF} {yf:YF} {rf:RF} (hcs:∀ B,CallOK B G P callf) (hG:G=P.globals.size) (hy:∀ m,YOK B G P r x l m I yf) (hI:InvOK I)
  (hrf:∀ m,ROK B G n n0 P r x l m I rf) : ∀ k,LoopE B G n n0 P r x l I (loopE P callf yf rf k)
 | 0=>fun b ρ0 w0 ρ fr ys p H a w hd s hne=>absurd rfl hne
 | k+1=>fun b ρ0 w0 ρ fr ys p H a w hd s hne=>good_loopE (m:=0) (loopE_sound hcs hG hy hI hrf k) (execE_sound hcs hG hy hI (hrf 0) (loopE_sound hcs hG hy hI hrf k) b) ρ0 w0 ρ fr ys p H a w hd s hne
end Go.Ai
end
section
namespace Go.Ai
open Go.RowKit (Below)
variable {B G n n0 m l:Nat} {P:Program} {ρ0 ρ:Rn} {w0 w:World} {x r:Option Nat} {I:Inv} {fr fr0:Fr} {ys:List Nat} {p:Option J} {H:Mem} {a:Act} {callf:CallF} {fid D:Nat} {tm:Array Value} {ps:Array Tmp} {asg body:Code} {fuel:Nat}
theorem below_putObj {o:Obj} (hB:B≤l) : Below B w (w.putObj l o):=⟨rfl,rfl,rfl,by simp,fun k hk=>World.putObj_heap_other (by omega)⟩
theorem kx_putObj {o:Obj} : KX (some l) w (w.putObj l o):=⟨fun k ob hk ho hx=>by
 rw [World.putObj_heap_other (fun e=>hx (by rw [e]))]; exact hk,Nat.le_refl _⟩
theorem sim_putObj {o ob:Obj} (s:Sim B G ρ H w) (hl:w.heap[l]?=some ob) (ho:isMk ob=true) : Sim B G ρ H (w.putObj l o) :=
 s.mark hl ho (fun k hk=>World.putObj_heap_other hk) (by simp)
noncomputable def yBad:YF:=fun _ _=>.bad
noncomputable def rBad:RF:=fun _ _ _ _ _ _=>.bad
theorem yBad_ok (m:Nat) : YOK B G P r x l m I yBad:=fun _ _ _ _ _ h=>by cases h
theorem rBad_ok (m:Nat) : ROK B G n n0 P r x l m I rBad:=fun _ _ _ _ _ _ _ _ h=>by cases h
noncomputable def putPs:List Tmp→List AV→Fr→Fr
 | t :: ts,v :: vs,fr=>putPs ts vs (fr.upd t v)
 | _,_,fr=>fr
theorem putPs_ok:∀ {ps:List Tmp} {vs:List AV} {us:List Value} {fr:Fr} {tm:Array Value},(∀ t∈ps,t < n)→VRs ρ vs us→FRel n ρ fr { tmps:=tm,defers:=[] } →
  FRel n ρ (putPs ps vs fr) { tmps:=(ps.zip us).foldl (fun tmps (t,a)=>tmps.setIfInBounds t a) tm,defers:=[] }
 | [],vs,us,fr,tm,_,_,h=>by simpa [putPs] using h
 | t :: ts,[],us,fr,tm,_,hv,h=>by cases hv; simpa [putPs] using h
 | t :: ts,v :: vs,us,fr,tm,ht,hv,h=>by
  obtain ⟨u,us',rfl,h1,h2⟩:=hv
  have:=FRel.put (d:=some t) h (fun j hj=>by cases hj; exact ht t (by simp)) h1
  exact putPs_ok (ps:=ts) (vs:=vs) (us:=us') (fr:=fr.upd t v) (tm:=tm.setIfInBounds t u) (fun j hj=>ht j (by simp [hj])) h2 this
def recL (fid:FuncId) (tm:Array Value) (ps:Array Tmp) (asg body:Code) (D:Nat) (st:LoopState) (pd:Option Code) : Loop:={ state:=st,pending:=pd,fn:=fid,tmps:=tm,params:=ps,assign:=asg,body:=body,defers:=D }
def IR (fid:FuncId) (tm:Array Value) (ps:Array Tmp) (asg body:Code) (D l:Nat) (st:LoopState) : Inv:=fun _ _ ds w=>ds=[]∧w.heap[l]?=some (.loop (recL fid tm ps asg body D st none))
def stOf (p:Option J) : LoopState:=match p with | none=>.ready | some _=>.done
def II (n:Nat) (fr0:Fr) (fid:FuncId) (tm:Array Value) (ps:Array Tmp) (asg body:Code) (D l:Nat) : Inv:=fun ρ p ds w=>ds=[]∧FRel n ρ fr0 { tmps:=tm,defers:=[] }∧w.heap[l]?=some (.loop (recL fid tm ps asg body D (stOf p) (p.map jcode)))
theorem IR_ok {st:LoopState} : InvOK (IR fid tm ps asg body D l st):=fun _ _ _ _ _ _ h hk _ _=>⟨h.1,hk.1 _ _ h.2 rfl⟩
theorem II_ok:InvOK (II n fr0 fid tm ps asg body D l):=fun _ _ _ _ _ _ h hk _ hs=>⟨h.1,h.2.1.mono hs,hk.1 _ _ h.2.2 rfl⟩
noncomputable def yfR (P:Program) (callf:CallF) (fuel:Nat) (ps:Array Tmp) (asg body:Code) (fr0:Fr) : YF:=fun vs H=>match Nat.beq vs.length ps.size with
 | true=>(match execE P callf yBad rBad (loopE P callf yBad rBad fuel) asg (putPs ps.toList vs fr0) [] none H with
  | .norm fr1 ys1 p1 H1=>(match execE P callf yBad rBad (loopE P callf yBad rBad fuel) body fr1 ys1 p1 H1 with
   | .norm _ _ _ H2=>.ok true none H2
   | .jump j _ _ _ H2=>.ok false (some j) H2
   | .bad=>.bad)
  | _=>.bad)
 | false=>.bad
theorem subOf {ρ' : Rn} (s:Sim B G ρ H w) (h:∀ a,a < H.next→ρ' a=ρ a) : Sub ρ ρ':=by
 intro a y hy
 rw [h a ?_]; · exact hy
 rcases Nat.lt_or_ge a H.next with k | k
 ·exact k
 ·rw [s.fresh a k] at hy; cases hy
theorem yfR_ok (hcs:∀ B,CallOK B G P callf) (hG:G=P.globals.size) (hB:B≤l) (hps:∀ t∈ps.toList,t < n) (hda:dstsOk n asg=true) (hdb:dstsOk n body=true) (m:Nat) :
  YOK B G P none (some l) l m (II n fr0 fid tm ps asg body D l) (yfR P callf fuel ps asg body fr0):=by
 intro vs H b p' H' hyf ρ us ds w hs hv hI
 obtain ⟨rfl,hfr,hl⟩:=hI
 unfold yfR at hyf
 split at hyf
 ·rename_i hlen
  have hlen':=Nat.eq_of_beq_eq_true hlen
  have hsz:us.size=ps.size:=by have:=hv.length; simp at this; omega
  refine ⟨fid,_,asg,body,run_yield hl hsz,roundIn_of_wpIn trivial ?_⟩
  generalize htm:((recL fid tm ps asg body D (stOf none) (Option.map jcode none)).params.zip us).foldl (fun tmps (t,a)=>tmps.setIfInBounds t a) (recL fid tm ps asg body D (stOf none) (Option.map jcode none)).tmps=tm1
  have hfr1:FRel n ρ (putPs ps.toList vs fr0) { tmps:=tm1,defers:=[] }:=by
   have:=putPs_ok hps hv hfr
   rw [← htm]
   show FRel n ρ (putPs ps.toList vs fr0) { tmps:=(ps.zip us).foldl (fun tmps (t,a)=>tmps.setIfInBounds t a) tm,defers:=[] }
   rw [← Array.foldl_toList,Array.toList_zip]
   exact this
  have s0:StE B G n H.next ρ w none 0 (IR fid tm ps asg body D l .ready) ρ (putPs ps.toList vs fr0) [] none H { tmps:=tm1,defers:=[] } w :=
   ⟨fun _ _=>rfl,KX.refl _ _,Below.refl _ _,hs,hfr1,Nat.le_refl _,⟨rfl,hl⟩,by simp⟩
  split at hyf
  ·rename_i fr1 ys1 p1 H1 he1
   have key:asg.wpIn (FR (some l)) m P _ _ _:=execE_sound (r:=some l) (m:=m) hcs hG yBad_ok IR_ok (rBad_ok m) (loopE_sound hcs hG yBad_ok IR_ok rBad_ok fuel) asg ρ w ρ _ [] none H _ w hda s0 (by rw [he1]; simp)
   rw [he1] at key
   refine Code.wpIn_mono ?_ key
   rintro e a1 w1 ⟨rfl,ρ1,s1⟩
   obtain ⟨hds1,hl1⟩:=s1.inv
   refine ⟨_,run_beginRound hl1 rfl,?_⟩
   have hl2:(w1.putObj l (.loop { recL fid tm ps asg body D .ready none with state:=.busy })).heap[l]?=some (.loop (recL fid tm ps asg body D .busy none)):=World.putObj_heap_same (Array.getElem?_eq_some_iff.1 hl1).1
   generalize hw2:w1.putObj l (.loop { recL fid tm ps asg body D .ready none with state:=.busy })=w2 at hl2 ⊢
   have s2:StE B G n H1.next ρ1 w2 none 0 (IR fid tm ps asg body D l .busy) ρ1 fr1 ys1 p1 H1 a1 w2 :=
    ⟨fun _ _=>rfl,KX.refl _ _,Below.refl _ _,by rw [← hw2]; exact sim_putObj s1.sim hl1 rfl,s1.frel,Nat.le_refl _,⟨hds1,hl2⟩,s1.ysl⟩
   have fin:∀ {H2:Mem} {ρ2:Rn} {fr2:Fr} {ys2:List Nat} {q:Option J} {a2:Act} {w3:World} (j:Option J),StE B G n H1.next ρ1 w2 none 0 (IR fid tm ps asg body D l .busy) ρ2 fr2 ys2 q H2 a2 w3 →
     ∃ v w4,(Instr.endRound l (j.map jcode)).run P w3=.ok v w4∧(Ending.returned v=.returned (.bool j.isNone)∧∃ ρ',(∀ a,a < H.next→ρ' a=ρ a)∧KX (some l) w w4∧Below B w w4∧Sim B G ρ' H2 w4∧H.next≤H2.next∧II n fr0 fid tm ps asg body D l ρ' j [] w4):=by
    intro H2 ρ2 fr2 ys2 q a2 w3 j s3
    obtain ⟨_,hl3⟩:=s3.inv
    have hne:((j.map jcode).isNone)=j.isNone:=by cases j <;> rfl
    refine ⟨_,_,run_endRound _ hl3,by rw [hne],ρ2,fun b hb=>?_,?_,?_,sim_putObj s3.sim hl3 rfl,Nat.le_trans s1.le s3.le,rfl,?_,?_⟩
    ·exact (s3.same b (Nat.lt_of_lt_of_le hb s1.le)).trans (s1.same b hb)
    ·have k1:KX (some l) w w1:=⟨fun k o hk ho hx=>s1.keeps.1 k o hk ho (by simp),s1.keeps.2⟩
     have k2:KX (some l) w1 w2:=by rw [← hw2]; exact kx_putObj
     have k3:KX (some l) w2 w3:=⟨fun k o hk ho hx=>s3.keeps.1 k o hk ho (by simp),s3.keeps.2⟩
     exact ((k1.trans k2).trans k3).trans kx_putObj
    ·have k2:Below B w1 w2:=by rw [← hw2]; exact below_putObj hB
     exact ((s1.below.trans k2).trans s3.below).trans (below_putObj hB)
    ·exact hfr.mono (subOf hs fun b hb=>(s3.same b (Nat.lt_of_lt_of_le hb s1.le)).trans (s1.same b hb))
    ·rw [World.putObj_heap_same (Array.getElem?_eq_some_iff.1 hl3).1]
     cases j <;> rfl
   split at hyf
   ·rename_i fr2 ys2 p2 H2 he2
    cases hyf
    have key2:body.wpIn (FR (some l)) m P _ _ _:=execE_sound (r:=some l) (m:=m) hcs hG yBad_ok IR_ok (rBad_ok m) (loopE_sound hcs hG yBad_ok IR_ok rBad_ok fuel) body ρ1 w2 ρ1 _ _ _ H1 _ w2 hdb s2 (by rw [he2]; simp)
    rw [he2] at key2
    refine Code.wpIn_mono ?_ key2
    rintro e a2 w3 ⟨rfl,ρ2,s3⟩
    exact fin none s3
   ·rename_i j fr2 ys2 p2 H2 he2
    cases hyf
    have key2:body.wpIn (FR (some l)) m P _ _ _:=execE_sound (r:=some l) (m:=m) hcs hG yBad_ok IR_ok (rBad_ok m) (loopE_sound hcs hG yBad_ok IR_ok rBad_ok fuel) body ρ1 w2 ρ1 _ _ _ H1 _ w2 hdb s2 (by rw [he2]; simp)
    rw [he2] at key2
    refine Code.wpIn_mono ?_ key2
    rintro e a2 w3 ⟨rfl,ρ2,s3⟩
    cases j with
    | none=>exact fin (some none) s3
    | some id=>exact fin (some (some id)) s3
   ·cases hyf
  ·cases hyf
 ·cases hyf
end Go.Ai
end
section
namespace Go.Ai
open Go.RowKit (Below)
variable {B G n n0 m l l1 lo:Nat} {P:Program} {ρ0 ρ:Rn} {w0 w:World} {x r:Option Nat} {I:Inv} {fr fr0:Fr} {ys:List Nat} {p:Option J} {H:Mem} {a:Act} {callf:CallF} {fid D:Nat} {tm:Array Value} {ps:Array Tmp} {asg body:Code} {fuel:Nat}
noncomputable def itEnd (P:Program) (it:Func) (r:OutE) : ROut:=match r with
 | .norm fr _ p H=>(match resultsA P it fr H with | some _=>.ok p H | none=>.bad)
 | .jump none fr _ p H=>(match resultsA P it fr H with | some _=>.ok p H | none=>.bad)
 | _=>.bad
noncomputable def itE (P:Program) (callf:CallF) (fuel:Nat) (yf:YF) (f:FuncId) (cap:List AV) (H:Mem) : ROut:=match P.funcs[f]? with
 | some it=>(match it.body,hasBody P f with
  | some c,true=>(match dstsOk it.ntmps c,Nat.ble (len cap+1) it.ntmps with
   | true,true=>itEnd P it (execE P callf yf rBad (loopE P callf yf rBad fuel) c (putArgs cap (frame0 it.ntmps) 1) [0] none H)
   | _,_=>.bad)
  | _,_=>.bad)
 | none=>.bad
noncomputable def rfR (P:Program) (callf:CallF) (fuel n:Nat) : RF:=fun g ps asg body fr H=>match ps.toList.all (fun t=>Nat.blt t n),dstsOk n asg && dstsOk n body,fr.ev g with
 | true,true,some (.func (.func f) [] cap)=>itE P callf fuel (yfR P callf fuel ps asg body fr) f cap H
 | _,_,_=>.bad
def MKs (lo:Nat) : List Deferred→World→Prop
 | [],_=>True
 | d :: ds,w=>∃ D,d.target=.collected D∧lo≤D∧w.heap[D]?=some (.deferred (some []))∧(∀ d'∈ds,d'.target≠.collected D)∧MKs lo ds w
theorem MKs.keep {w w' : World} (hk:∀ D:Nat,w.heap[D]?=some (Obj.deferred (some []))→w'.heap[D]?=some (Obj.deferred (some []))) : ∀ {ds:List Deferred},MKs lo ds w→MKs lo ds w'
 | [],_=>trivial
 | _ :: _,⟨D,h1,h2,h3,h4,h5⟩=>⟨D,h1,h2,hk D h3,h4,MKs.keep hk h5⟩
theorem MKs.keepBut {w w' : World} {E:Nat} (hk:∀ D,D≠E→w'.heap[D]?=w.heap[D]?) : ∀ {ds:List Deferred},(∀ d'∈ds,d'.target≠.collected E)→MKs lo ds w→MKs lo ds w'
 | [],_,_=>trivial
 | d :: _,hE,⟨D,h1,h2,h3,h4,h5⟩=>⟨D,h1,h2,by rw [hk D (fun e=>hE d (by simp) (by rw [h1,e]))]; exact h3,h4,MKs.keepBut hk (fun d' h=>hE d' (by simp [h])) h5⟩
theorem MKs.lt {w:World} : ∀ {ds:List Deferred},MKs lo ds w→∀ d'∈ds,d'.target≠.collected w.heap.size
 | d :: ds,⟨D,h1,h2,h3,h4,h5⟩,d',hd=>by
  rcases List.mem_cons.1 hd with rfl | hd
  ·rw [h1]
   intro e
   cases e
   have:=(Array.getElem?_eq_some_iff.1 h3).1
   omega
  ·exact MKs.lt h5 d' hd
def Iv0 (lo:Nat) : Inv:=fun _ p ds w=>p=none∧lo≤w.heap.size∧MKs lo ds w
theorem IO_ok:InvOK (Iv0 lo):=fun _ _ _ _ _ _ h hk hz _=>⟨h.1,Nat.le_trans h.2.1 hz,h.2.2.keep fun D hD=>hk.1 D _ hD rfl⟩
theorem frame_it {cap:List AV} {cs:Array Value} {yv:Value} (hv:VRs ρ cap cs.toList) (hle:cap.length+1≤n) :
  FRel n ρ (putArgs cap (frame0 n) 1) { tmps:=#[yv]++cs++Array.replicate (n - (#[yv]++cs).size) undef,defers:=[] } ∧
  (∀ t,t∈[0]→t < n∧(putArgs cap (frame0 n) 1).get t=none∧(#[yv]++cs++Array.replicate (n - (#[yv]++cs).size) undef).getD t undef=yv):=by
 have hsz:cs.size=cap.length:=by have:=hv.length; simpa using this
 have hget:∀ t v,(putArgs cap (frame0 n) 1).get t=some v→1≤t∧cap[t - 1]?=some v:=by
  intro t v h
  rcases putArgs_get _ _ _ _ _ h with h1 | h1
  ·exact h1
  ·rw [get_frame0] at h1; cases h1
 refine ⟨⟨?_,?_,by simp; omega,?_⟩,?_⟩
 ·intro t v h _
  obtain ⟨h1,h2⟩:=hget t v h
  obtain ⟨u,hu,hvu⟩:=hv.get (t - 1) h2
  have hlt:t - 1 < cs.size:=by have:=(List.getElem?_eq_some_iff.1 hu).1; simpa using this
  rw [Array.getD_eq_getD_getElem?,Array.getElem?_append_left (by simp; omega),Array.getElem?_append_right (by simp; omega)]
  have:cs[t - 1]?=some u:=by simpa using hu
  simp only [List.size_toArray,List.length_singleton]
  rw [this]; exact hvu
 ·rw [putArgs_defers,defers_frame0]; rfl
 ·intro t v h
  obtain ⟨h1,h2⟩:=hget t v h
  have:=(List.getElem?_eq_some_iff.1 h2).1
  omega
 ·intro t ht
  have:t=0:=by simpa using ht
  subst this
  refine ⟨by omega,?_,?_⟩
  ·cases hg:(putArgs cap (frame0 n) 1).get 0 with
   | none=>rfl
   | some v=>have:=(hget 0 v hg).1; omega
  ·rw [Array.getD_eq_getD_getElem?,Array.getElem?_append_left (by simp; omega),Array.getElem?_append_left (by simp)]
   rfl
theorem rfR_ok (hcs:∀ B,CallOK B G P callf) (hG:G=P.globals.size) (m:Nat) : ROK B G n n0 P none none l1 m (Iv0 lo) (rfR P callf fuel n):=by
 intro g ps asg body fr H j H' hrf ρ0 w0 ρ p a w s
 unfold rfR at hrf
 split at hrf
 ·rename_i f cap hps hds hev
  simp only [Bool.and_eq_true] at hds
  have hps' : ∀ t∈ps.toList,t < n:=fun t ht=>Nat.le_of_ble_eq_true (List.all_eq_true.1 hps t ht)
  obtain ⟨f',c',hu,h1,h2⟩:=s.ev _ _ hev
  have hf' : f'=#[]:=by cases f'; simp [VRs] at h1; simp [h1]
  subst hf'
  unfold itE at hrf
  split at hrf
  ·rename_i it hit
   split at hrf
   ·rename_i c hbd hbody
    split at hrf
    ·rename_i hdst hlen
     have hlen' : cap.length+1≤it.ntmps:=by rw [← len_eq]; exact Nat.le_of_ble_eq_true hlen
     refine wpIn_rangeFunc fun fn _=>?_
     have hen:=run_enterLoop_outer (P:=P) (w:=w) fn a.tmps ps asg body
     have hal:=World.alloc_heap_new (w.alloc (.deferred (some []))) (.loop { state:=.ready,pending:=none,fn:=fn,tmps:=a.tmps,params:=ps,assign:=asg,body:=body,defers:=w.heap.size })
     rw [World.size_alloc] at hal
     generalize hl0:w.heap.size+1=l at hen hal
     generalize hw1:(w.alloc (.deferred (some []))).alloc (.loop { state:=.ready,pending:=none,fn:=fn,tmps:=a.tmps,params:=ps,assign:=asg,body:=body,defers:=w.heap.size })=w1 at hen hal
     refine ⟨l,_,w1,{ target:=.fn (.func f) c',args:=#[.func (.yield l) #[] #[]] },w1,f,#[.func (.yield l) #[] #[]]++c',w1,hen,?_,fun _ _=>trivial,?_,fun h=>(by cases h),?_⟩
     ·have hcst:∀ v:Value,a.eval (.const v)=v:=fun _=>rfl
      simp [resolve,hu,Deferred.ofValue,hcst]
     ·exact hasBody_run hbody _ _
     ·
      have hsz1:w1.heap.size=w.heap.size+2:=by rw [← hw1]; simp
      have hdrw:w.drawn≤w1.drawn:=by rw [← hw1]; exact Nat.le_refl _
      have hold:∀ k,k < w.heap.size→w1.heap[k]?=w.heap[k]?:=by
       intro k hk
       rw [← hw1,Below.heap_alloc _ _ _ (by simp; omega),Below.heap_alloc _ _ _ hk]
      have hD:w1.heap[w.heap.size]?=some (.deferred (some [])):=by
       rw [← hw1,Below.heap_alloc _ _ _ (by simp),World.alloc_heap_new]
      have hl:w1.heap[l]?=some (.loop (recL fn a.tmps ps asg body w.heap.size .ready none)):=hal
      have hbw:Below B w w1:=by
       rw [← hw1]
       exact ((Below.refl B w).alloc s.sim.base _).alloc (by simp; have:=s.sim.base; omega) _
      have hsim1:Sim B G ρ H w1:=s.sim.other (by omega) fun a x b o k hx hr=>hold b (by
       rcases s.sim.blk a x hx with h | ⟨b',o',k',h,hb⟩
       ·rw [hr] at h; cases h
       ·rw [hr] at h; cases h; exact hb.lt)
      obtain ⟨hf1,hf2⟩:=frame_it (yv:=.func (.yield l) #[] #[]) h2 hlen'
      have hB:B≤l:=by have:=s.sim.base; omega
      have s1:StE B G it.ntmps H.next ρ w1 (some l) l (II n fr fn a.tmps ps asg body w.heap.size l) ρ (putArgs cap (frame0 it.ntmps) 1) [0] none H { tmps:=#[Value.func (.yield l) #[] #[]]++c'++Array.replicate (it.ntmps - (#[Value.func (.yield l) #[] #[]]++c').size) undef,defers:=[] } w1 :=
       ⟨fun _ _=>rfl,KX.refl _ _,Below.refl _ _,hsim1,hf1,Nat.le_refl _,⟨rfl,s.frel,hl⟩,hf2⟩
      have hne:execE P callf (yfR P callf fuel ps asg body fr) rBad (loopE P callf (yfR P callf fuel ps asg body fr) rBad fuel) c (putArgs cap (frame0 it.ntmps) 1) [0] none H≠.bad:=fun e=>by rw [e] at hrf; cases hrf
      have key:=execE_sound (r:=none) (x:=some l) (l:=l) (m:=m - 1) (I:=II n fr fn a.tmps ps asg body w.heap.size l) hcs hG (yfR_ok hcs hG hB hps' hds.1 hds.2) II_ok (rBad_ok _) (loopE_sound hcs hG (yfR_ok hcs hG hB hps' hds.1 hds.2) II_ok rBad_ok fuel) c ρ w1 ρ _ [0] none H _ w1 hdst s1 hne
      have fin:∀ {fr2:Fr} {ys2:List Nat} {p2:Option J} {H2:Mem} {ρ2:Rn} {a2:Act} {w3:World},StE B G it.ntmps H.next ρ w1 (some l) l (II n fr fn a.tmps ps asg body w.heap.size l) ρ2 fr2 ys2 p2 H2 a2 w3 →
        (match resultsA P it fr2 H2 with | some _=>ROut.ok p2 H2 | none=>.bad)=.ok j H'→a2.defers=[]∧∃ v,(results it a2.tmps).run P w3=.ok v w3 ∧
         rangePost (FR none) m P l (PostE B G n n0 ρ0 w0 none l1 (Iv0 lo) (rOut j fr p H')) { a with defers:=[{ target:=.collected w.heap.size,args:=#[] }]++a.defers } (.returned v) w3:=by
       intro fr2 ys2 p2 H2 ρ2 a2 w3 s3 hres
       split at hres
       ·rename_i v hv
        cases hres
        obtain ⟨hd3,hfr3,hl3⟩:=s3.inv
        obtain ⟨u,hu1,hu2⟩:=results_sound s3.st hG hv
        refine ⟨hd3,u,hu1,_,_,run_endLoop hl3 (by cases j <;> simp [recL,stOf]),?_⟩
        have hkd:KD w (w3.putObj l (.loop { recL fn a.tmps ps asg body w.heap.size (stOf j) (j.map jcode) with state:=.exhausted })):=by
         refine ⟨fun k o hk ho=>?_,Nat.le_trans hdrw s3.keeps.2⟩
         have hlt:=(Array.getElem?_eq_some_iff.1 hk).1
         rw [World.putObj_heap_other (by omega)]
         exact s3.keeps.1 k o (by rw [hold k hlt]; exact hk) ho (by intro e; cases e; omega)
        have hsame:∀ a,a < H.next→ρ2 a=ρ a:=s3.same
        have s4:StE B G n n0 ρ0 w0 none l1 (Iv0 lo) ρ2 fr [] p H' { a with defers:=[{ target:=.collected w.heap.size,args:=#[] }]++a.defers } (w3.putObj l (.loop { recL fn a.tmps ps asg body w.heap.size (stOf j) (j.map jcode) with state:=.exhausted })):=by
         refine ⟨fun b hb=>(hsame b (Nat.lt_of_lt_of_le hb s.le)).trans (s.same b hb),s.keeps.trans hkd.kx,((s.below.trans hbw).trans s3.below).trans (below_putObj hB),sim_putObj s3.sim hl3 rfl,s.frel.mono (subOf s.sim hsame),Nat.le_trans s.le s3.le,?_,by simp⟩
         obtain ⟨i1,i2,i3⟩:=s.inv
         have hz3:=s3.below.size
         refine ⟨i1,by simp; omega,w.heap.size,rfl,i2,?_,i3.lt,i3.keep fun D hD=>hkd.1 D _ hD rfl⟩
         rw [World.putObj_heap_other (by omega)]
         exact s3.keeps.1 _ _ hD rfl (by intro e; cases e; omega)
        cases j with
        | none=>exact ⟨rfl,ρ2,s4⟩
        | some j =>
         cases j with
         | none=>exact wpIn_ret ⟨rfl,ρ2,s4⟩
         | some id=>exact wpIn_exit ⟨rfl,ρ2,s4⟩
       ·cases hres
      refine callsIn_of_wp hit hbd trivial (Code.wpIn_mono ?_ key)
      intro e a2 w3 h
      generalize execE P callf (yfR P callf fuel ps asg body fr) rBad (loopE P callf (yfR P callf fuel ps asg body fr) rBad fuel) c (putArgs cap (frame0 it.ntmps) 1) [0] none H=o at h hrf
      cases o with
      | norm fr2 ys2 p2 H2=>obtain ⟨rfl,ρ2,s3⟩:=h; exact fin s3 hrf
      | jump jj fr2 ys2 p2 H2 =>
       cases jj with
       | none=>obtain ⟨rfl,ρ2,s3⟩:=h; exact fin s3 hrf
       | some id=>cases hrf
      | bad=>cases hrf
    ·cases hrf
   ·cases hrf
  ·cases hrf
 ·cases hrf
end Go.Ai
end
section
namespace Go.Ai
open Go.RowKit (Below)
variable {B G n n0 m l l1 lo:Nat} {P:Program} {ρ0 ρ:Rn} {w0 w wb:World} {x r:Option Nat} {I:Inv} {fr fr0:Fr} {ys:List Nat} {p:Option J} {H:Mem} {a:Act} {callf:CallF} {fuel:Nat}
theorem leaves_marks {fn:Func} {tmps:Array Value} {R:Ending→World→Prop} (hB:B≤lo) (hlo:wb.heap.size≤lo)
  (hR:∀ w',Sim B G ρ H w'→KD wb w'→Below B wb w'→∃ v,(results fn tmps).run P w'=.ok v w'∧R (.returned v) w') :
  ∀ (ds:List Deferred) (w:World),MKs lo ds w→Sim B G ρ H w→KD wb w→Below B wb w→LeavesInM (FR none) m P fn tmps R ds .returning w
 | [],w,_,h1,h2,h3=>hR w h1 h2 h3
 | d :: ds,w,⟨D,k1,k2,k3,k4,k5⟩,h1,h2,h3=>by
  refine ⟨by simp,.inl ⟨D,_,k1,run_takeDeferred k3,leaves_marks hB hlo hR ds _ (k5.keepBut (fun E hE=>World.putObj_heap_other hE) k4) (sim_putObj h1 k3 rfl) ?_ (h3.trans (below_putObj (Nat.le_trans hB k2)))⟩⟩
  refine ⟨fun k o hk ho=>?_,h2.2⟩
  have:=(Array.getElem?_eq_some_iff.1 hk).1
  rw [World.putObj_heap_other (by omega)]
  exact h2.1 k o hk ho
noncomputable def endE (P:Program) (fn:Func) (r:OutE) : COut:=match r with
 | .norm fr _ _ H=>(match resultsA P fn fr H with | some v=>.ret v H | none=>.bad)
 | .jump none fr _ _ H=>(match resultsA P fn fr H with | some v=>.ret v H | none=>.bad)
 | _=>.bad
noncomputable def enterEB (P:Program) (callf:CallF) (fuel:Nat) (fn:Func) (c:Code) (args:List AV) (H:Mem) : COut:=match dstsOk fn.ntmps c,Nat.ble (len args) fn.ntmps with
 | true,true=>endE P fn (putArgsK args (frame0 fn.ntmps) fun fr=>execE P callf yBad (rfR P callf fuel fn.ntmps) (loopE P callf yBad (rfR P callf fuel fn.ntmps) fuel) c fr [] none H)
 | _,_=>.bad
noncomputable def enterE (P:Program) (callf:CallF) (fuel:Nat) (f:FuncId) (args:List AV) (H:Mem) : COut:=match P.funcs[f]? with
 | some fn=>(match fn.body with
  | some c=>enterEB P callf fuel fn c args H
  | none=>.bad)
 | none=>.bad
theorem enterE_sound (hcs:∀ B,CallOK B G P callf) (hG:G=P.globals.size) : CallOK B G P (enterE P callf fuel):=by
 intro f args H hne ρ us w hs hv
 unfold enterE at hne ⊢
 split at hne
 ·rename_i fn hfn
  split at hne
  ·rename_i c hb
   unfold enterEB at hne ⊢
   split at hne
   ·rename_i hdst hlen
    rw [putArgsK_eq] at hne ⊢
    have hfe:=frame_entered (n:=fn.ntmps) hv (by rw [← len_eq]; exact Nat.le_of_ble_eq_true hlen)
    have s1:StE B G fn.ntmps H.next ρ w none 0 (Iv0 w.heap.size) ρ (putArgs args (frame0 fn.ntmps) 0) [] none H { tmps:=us++Array.replicate (fn.ntmps - us.size) undef,defers:=[] } w :=
     ⟨fun _ _=>rfl,KX.refl _ _,Below.refl _ _,hs,hfe,Nat.le_refl _,⟨rfl,Nat.le_refl _,trivial⟩,by simp⟩
    have hr:execE P callf yBad (rfR P callf fuel fn.ntmps) (loopE P callf yBad (rfR P callf fuel fn.ntmps) fuel) c (putArgs args (frame0 fn.ntmps) 0) [] none H≠.bad:=fun h0=>hne (by rw [h0]; rfl)
    have key:=execE_sound (r:=none) (x:=none) (l:=0) (m:=0) (I:=Iv0 w.heap.size) hcs hG yBad_ok IO_ok (rfR_ok hcs hG 0) (loopE_sound hcs hG yBad_ok IO_ok (rfR_ok hcs hG) fuel) c ρ w ρ _ [] none H _ w hdst s1 hr
    refine callsOfFR (r:=none) (m:=0) (callsIn_of_wp_marks hfn hb trivial (Code.wpIn_mono ?_ key))
    intro e a' w' h
    generalize execE P callf yBad (rfR P callf fuel fn.ntmps) (loopE P callf yBad (rfR P callf fuel fn.ntmps) fuel) c (putArgs args (frame0 fn.ntmps) 0) [] none H=o at h hne ⊢
    have fin:∀ {fr2:Fr} {ys2:List Nat} {p2:Option J} {H2:Mem} {ρ2:Rn},StE B G fn.ntmps H.next ρ w none 0 (Iv0 w.heap.size) ρ2 fr2 ys2 p2 H2 a' w' →
      (match resultsA P fn fr2 H2 with | some v=>COut.ret v H2 | none=>.bad)≠.bad→LeavesInM (FR none) 0 P fn a'.tmps (CPost B G H.next ρ w (match resultsA P fn fr2 H2 with | some v=>COut.ret v H2 | none=>.bad)) a'.defers .returning w':=by
     intro fr2 ys2 p2 H2 ρ2 s2 hn
     split at hn
     ·rename_i v hv2
      obtain ⟨_,_,i3⟩:=s2.inv
      refine leaves_marks (wb:=w) (lo:=w.heap.size) (ρ:=ρ2) (H:=H2) hs.base (Nat.le_refl _) (fun w4 g1 g2 g3=>?_) a'.defers w' i3 s2.sim s2.keeps.kd s2.below
      obtain ⟨u,hu1,hu2⟩:=results_sound (⟨Ext.refl _ _ _ _,g1,s2.frel,Nat.le_refl _⟩ : St B G fn.ntmps H2.next ρ2 w4 ρ2 fr2 H2 (Act.bare a') w4) hG hv2
      exact ⟨u,hu1,ρ2,⟨s2.same,g2,g3⟩,g1,hu2,s2.le⟩
     ·exact absurd rfl hn
    cases o with
    | norm fr2 ys2 p2 H2=>obtain ⟨rfl,ρ2,s2⟩:=h; exact fin s2 hne
    | jump jj fr2 ys2 p2 H2 =>
     cases jj with
     | none=>obtain ⟨rfl,ρ2,s2⟩:=h; exact fin s2 hne
     | some id=>exact absurd rfl hne
    | bad=>exact absurd rfl hne
   ·exact absurd rfl hne
  ·exact absurd rfl hne
 ·exact absurd rfl hne
def hasRange:Code→Bool
 | .seq a b=>hasRange a || hasRange b
 | .cond _ a b=>hasRange a || hasRange b
 | .block _ b=>hasRange b
 | .loop b=>hasRange b
 | .scope b=>hasRange b
 | .rangeFunc _ _ _ _=>true
 | _=>false
noncomputable def enterG (P:Program) (use:FuncId→Code→Bool) (callf:CallF) (loopf:LoopF) (fuel:Nat) (f:FuncId) (args:List AV) (H:Mem) : COut:=match P.funcs[f]? with
 | some fn=>(match fn.body with
  | some c=>(match use f c with
   | true=>enterE P callf fuel f args H
   | false=>enterQ P callf loopf f args H)
  | none=>.bad)
 | none=>.bad
theorem enterG_sound {use:FuncId→Code→Bool} {callf:CallF} {loopf:LoopF} (hcs:∀ B,CallOK B G P callf) (hl:LoopOK B G P loopf) (hG:G=P.globals.size) : CallOK B G P (enterG P use callf loopf fuel):=by
 intro f args H hne
 unfold enterG at hne ⊢
 split at hne
 ·split at hne
  ·split at hne
   ·exact enterE_sound hcs hG f args H hne
   ·exact enterQ_sound hcs hl hG f args H hne
  ·exact absurd rfl hne
 ·exact absurd rfl hne
noncomputable def bothG (P:Program) (use:FuncId→Code→Bool) (O:CallF) (n:Nat) : CallF×LoopF :=
 Nat.rec (motive:=fun _=>CallF×LoopF) (fun _ _ _=>.bad,fun _ _ _=>.bad) (fun k ih=>(orC O (enterG P use ih.1 ih.2 k),execF P ih.1 ih.2)) n
noncomputable def callG (P:Program) (O:CallF) (n:Nat) : CallF:=(bothG P (fun _ c=>hasRange c) O n).1
theorem bothG_sound {use:FuncId→Code→Bool} {O:CallF} (hO:∀ B,CallOK B G P O) (hG:G=P.globals.size) : ∀ n,(∀ B,CallOK B G P (bothG P use O n).1)∧∀ B,LoopOK B G P (bothG P use O n).2
 | 0=>⟨fun B f args H hne=>absurd rfl hne,fun B b n n0 ρ0 w0 ρ fr H a w hd s hne=>absurd rfl hne⟩
 | m+1=>by
  obtain ⟨hc,hl⟩:=bothG_sound hO hG m
  refine ⟨fun B=>orC_ok (hO B) (enterG_sound hc (hl B) hG),fun B b n n0 ρ0 w0 ρ fr H a w hd s hne=>?_⟩
  exact good_loopF (hl B) (execF_sound hc (hl B) hG b) n n0 ρ0 w0 ρ fr H a w hd s hne
theorem callG_ok {O:CallF} (hO:∀ B,CallOK B G P O) (hG:G=P.globals.size) (fuel:Nat) : ∀ B,CallOK B G P (callG P O fuel):=(bothG_sound hO hG fuel).1
end Go.Ai
end
