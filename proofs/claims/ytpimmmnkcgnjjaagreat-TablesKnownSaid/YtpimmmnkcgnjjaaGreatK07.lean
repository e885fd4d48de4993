/- Parts of an interpreter and of a proof. No condition. -/
import Derived.Shelf.SlSortCmp.WholeK
import Derived.Shelf.SlSortCmp.Whole1
import Derived.ProofKit
import Derived.Deep.DeepHandedRow
import Derived.Test.YtpimmmnkcgnjjaaGreatK06
import Derived.Test.YtpimmmnkcgnjjaaGreatK05
import Derived.Test.YtpimmmnkcgnjjaaGreatK03
set_option linter.all false
set_option maxRecDepth 10000
open Go.Proofs
open Go.RowKit (Below)
namespace Go.Ai
section
variable {B G n n0 m l l1 lo:Nat}{P:Program}{ρ0 ρ:Rn}{w0 w wb:World}{x r:Option Nat}{I:Inv}{fr fr0:Fr}{ys:List Nat}{p:Option J}{H:Mem}{a:Act}{callf:CallF}{fuel:Nat}
theorem a3z{fn:Func}{tmps:Array Value}{R:Ending->World->Prop}(Z:B<=lo)(a0:wb.heap.size<=lo)
  (hR:∀f,Sim B G ρ H f->KD wb f->Below B wb f->∃v,(results fn tmps).run P f=.ok v f/\R (.returned v) f) :
  ∀(ds:List Deferred)(w:World),MKs lo ds w->Sim B G ρ H w->KD wb w->Below B wb w->LeavesInM (FR none) m P fn tmps R ds .returning w
 | [],w,_,A,h,U=>hR w A h U
 | d::ds,w,⟨D,k1,k2,k3,k4,k5⟩,A,h,U=>by
  refine⟨by simp,.inl ⟨D,_,k1,run_takeDeferred k3,a3z Z a0 hR ds _ (k5.keepBut (λE hE=>World.putObj_heap_other hE) k4) (Ns A k3 rfl) ?_ (U.trans (Nr (W6 Z k2)))⟩⟩;refine⟨λk o hk ho=>?_,h.2⟩;have:=(e5y.1 hk).1;rw[World.putObj_heap_other (by omega)];exact h.1 k o hk ho
noncomputable def d6h(P:Program)(fn:Func)(r:Eh):Ay:=match r with
 | .norm fr _ _ H=>(match Fa P fn fr H with|some v=>.ret v H|none=>.bad)
 | .jump none fr _ _ H=>(match Fa P fn fr H with|some v=>.ret v H|none=>.bad)
 | _=>.bad
noncomputable def b2z(P:Program)(callf:CallF)(fuel:Nat)(fn:Func)(c:Code)(args:List AV)(H:Mem):Ay:=match Aw fn.ntmps c,Nat.ble (len args) fn.ntmps with
 | true,true=>d6h P fn (Qk args (Ck fn.ntmps) λfr=>Bz P callf yBad (rfR P callf fuel fn.ntmps) (Ip P callf yBad (rfR P callf fuel fn.ntmps) fuel) c fr [] none H)
 | _,_=>.bad
noncomputable def a4a(P:Program)(callf:CallF)(fuel:Nat)(f:FuncId)(args:List AV)(H:Mem):Ay:=match P.funcs[f]? with
 | some fn=>(match fn.body with
  | some c=>b2z P callf fuel fn c args H
  | none=>.bad)
 | none=>.bad
theorem d6i(a1:∀B,A4 B G P callf)(hG:G=P.globals.size):A4 B G P (a4a P callf fuel):=by
 intro f args H A ρ us w hs hv;unfold a4a at A |-;split at A
 .rename_i fn a3;split at A
  .rename_i c hb;unfold b2z at A |-;split at A
   .rename_i a4 a9;rw[a1d] at A |-;have a5:=a1e (n:=fn.ntmps) hv (by simp_all[C3]);have s1:StE B G fn.ntmps H.next ρ w none 0 (Iv0 w.heap.size) ρ (putArgs args (Ck fn.ntmps) 0) [] none H { tmps:=us++Array.replicate (fn.ntmps-us.size) undef,defers:=[] } w:=
     ⟨λ_ _=>rfl,Yc _ _,Below.refl _ _,hs,a5,Wy _,⟨rfl,Wy _,trivial⟩,by simp⟩
    have hr:Bz P callf yBad (rfR P callf fuel fn.ntmps) (Ip P callf yBad (rfR P callf fuel fn.ntmps) fuel) c (putArgs args (Ck fn.ntmps) 0) [] none H≠.bad:=λh0=>A (by rw[h0];rfl);have key:=Pe (r:=none) (x:=none) (l:=0) (m:=0) (I:=Iv0 w.heap.size) a1 hG L9 IO_ok (b2y a1 hG 0) (Nq a1 hG L9 IO_ok (b2y a1 hG) fuel) c ρ w ρ _ [] none H _ w a4 s1 hr;refine b2p (r:=none) (m:=0) (callsIn_of_wp_marks a3 hb trivial (Code.wpIn_mono ?_ key));intro e a' w' h;generalize Bz P callf yBad (rfR P callf fuel fn.ntmps) (Ip P callf yBad (rfR P callf fuel fn.ntmps) fuel) c (putArgs args (Ck fn.ntmps) 0) [] none H=o at h A |-;have fin:∀{a0:Fr}{a2:List Nat}{p2:Option J}{U:Mem}{Z:Rn},StE B G fn.ntmps H.next ρ w none 0 (Iv0 w.heap.size) Z a0 a2 p2 U a' w' ->
      (match Fa P fn a0 U with|some v=>Ay.ret v U|none=>.bad)≠.bad->LeavesInM (FR none) 0 P fn a'.tmps (Jd B G H.next ρ w (match Fa P fn a0 U with|some v=>Ay.ret v U|none=>.bad)) a'.defers .returning w':=by
     intro a0 a2 p2 U Z s2 hn;split at hn
     .rename_i v a6;obtain⟨_,_,i3⟩:=s2.inv;refine a3z (wb:=w) (lo:=w.heap.size) (ρ:=Z) (H:=U) hs.base (Wy _) (λw4 g1 g2 g3=>?_) a'.defers w' i3 s2.sim s2.keeps.kd s2.below;obtain⟨u,a7,a8⟩:=Lw (⟨X6 _ _ _ _,g1,s2.frel,Wy _⟩:St B G fn.ntmps U.next Z w4 Z a0 U (Act.bare a') w4) hG a6;exact⟨u,a7,Z,⟨s2.same,g2,g3⟩,g1,a8,s2.le⟩
     grind
    cases o with
    | norm a0 a2 p2 U=>obtain⟨rfl,Z,s2⟩:=h;exact fin s2 A
    | jump jj a0 a2 p2 U =>
     cases jj with
     | none=>obtain⟨rfl,Z,s2⟩:=h;exact fin s2 A
     | some id=>exact absurd rfl A
    | bad=>exact absurd rfl A
   grind
  grind
 grind
def hasRange:Code->Bool
 | .seq a b=>hasRange a||hasRange b
 | .cond _ a b=>hasRange a||hasRange b
 | .block _ b=>hasRange b
 | .loop b=>hasRange b
 | .scope b=>hasRange b
 | .rangeFunc _ _ _ _=>true
 | _=>false
noncomputable def a4b(P:Program)(use:FuncId->Code->Bool)(callf:CallF)(loopf:LoopF)(fuel:Nat)(f:FuncId)(args:List AV)(H:Mem):Ay:=match P.funcs[f]? with
 | some fn=>(match fn.body with
  | some c=>(match use f c with
   | true=>a4a P callf fuel f args H
   | false=>a3q P callf loopf f args H)
  | none=>.bad)
 | none=>.bad
theorem d6j{Z:FuncId->Code->Bool}{callf:CallF}{A:LoopF}(U:∀B,A4 B G P callf)(hl:Ij B G P A)(hG:G=P.globals.size):A4 B G P (a4b P Z callf A fuel):=by
 intro f args H h;unfold a4b at h |-;split at h
 .split at h
  .split at h
   .exact d6i U hG f args H h
   .exact d5v U hl hG f args H h
  grind
 grind
noncomputable def a4c(P:Program)(use:FuncId->Code->Bool)(O:CallF)(n:Nat):CallF×LoopF:=
 Nat.rec (motive:=λ_=>CallF×LoopF) (λ_ _ _=>.bad,λ_ _ _=>.bad) (λk ih=>(orC O (a4b P use ih.1 ih.2 k),Dd P ih.1 ih.2)) n
noncomputable def Jv(P:Program)(O:CallF)(n:Nat):CallF:=(a4c P (λ_ c=>hasRange c) O n).1
theorem b3a{U:FuncId->Code->Bool}{O:CallF}(Z:∀B,A4 B G P O)(hG:G=P.globals.size):∀n,(∀B,A4 B G P (a4c P U O n).1)/\∀B,Ij B G P (a4c P U O n).2
 | 0=>⟨λB f args H h=>absurd rfl h,λB b n n0 ρ0 w0 ρ fr H a w hd s h=>absurd rfl h⟩
 | m+1=>by
  obtain⟨hc,A⟩:=b3a Z hG m;refine⟨λB=>d2k (Z B) (d6j hc (A B) hG),λB b n n0 ρ0 w0 ρ fr H a w hd s h=>?_⟩;exact b2m (A B) (b2n hc (A B) hG b) n n0 ρ0 w0 ρ fr H a w hd s h
theorem Ku{O:CallF}(f:∀B,A4 B G P O)(hG:G=P.globals.size)(fuel:Nat):∀B,A4 B G P (Jv P O fuel):=(b3a f hG fuel).1
end
section
abbrev QR:=Option J->Out->Prop
abbrev YW:=List AV->Mem->(Bool->Option J->Mem->Prop)->Prop
abbrev RWF:=Operand->Array Tmp->Code->Code->Fr->Mem->QR->Prop
abbrev LFR:=Code->Option J->Fr->Mem->QR->Prop
def U4(v:Option AV):Option Nat:=match v with
 | some (.lit (.func (.yield l) a c))=>if a=#[]/\c=#[] then some l else none
 | _=>none
def U5(o:Oper):Option (Tmp×Array Operand):=match o.op with
 | .call c=>(match c.callee with|.value (.tmp t)=>some (t,c.args)|_=>none)
 | _=>none
def onL{α:Type}(x:Option α)(K:α->Prop):Prop:=match x with|some v=>K v|none=>False
noncomputable def Mc(W:WF)(o:Oper)(fr:Fr)(k:Fr->Mem->Prop):R->Prop
 | .val v H=>k (fr.put o.dst v) H
 | .skip H=>k (fr.put o.dst (.lit undef)) H
 | .enter f args H=>W f args H λr=>match r with
  | .ret v H=>k (fr.put o.dst v) H
  | _=>False
 | _=>False
noncomputable def Md(P:Program)(W:WF)(ops:Array Oper)(o:Oper)(fr:Fr)(H:Mem)(k:Fr->Mem->Prop):Prop:=match o.guard with
 | none=>Mc W o fr k (opV P H fr.ev o)
 | some g=>Fg (Dp ops fr g.1) g.2 (Mc W o fr k (opV P H fr.ev o)) (k (fr.put o.dst (.lit undef)) H)
noncomputable def Nt(P:Program)(W:WF)(Y:YW)(l:Nat)(ops:Array Oper)(o:Oper)(args:Array Operand)(p:Option J)(fr:Fr)(H:Mem)(k:Option J->Fr->Mem->Prop):Option Nat->Prop
 | none=>Md P W ops o fr H (k p)
 | some l'=>l'=l/\o.guard=none/\p=none/\onL (Be fr.ev args.toList) λvs=>Y vs H λb p' H'=>k p' (fr.put o.dst (.lit (.bool b))) H'
noncomputable def Nu(P:Program)(W:WF)(Y:YW)(l:Nat)(ops:Array Oper)(o:Oper)(p:Option J)(fr:Fr)(H:Mem)(k:Option J->Fr->Mem->Prop):Prop:=match U5 o with
 | some (t,args)=>Nt P W Y l ops o args p fr H k (U4 (fr.get t))
 | none=>Md P W ops o fr H (k p)
noncomputable def Hr(P:Program)(W:WF)(Y:YW)(l:Nat)(ops:Array Oper)(Q:QR):List Oper->Option J->Fr->Mem->Prop
 | [],p,fr,H=>Q p (.norm fr H)
 | o::li,p,fr,H=>Nu P W Y l ops o p fr H (Hr P W Y l ops Q li)
def Ht(Q:Out->Prop):Out->Prop
 | .norm fr H=>fr.defers=[]/\Q (.norm fr H)
 | _=>False
noncomputable def Bu(P:Program)(W:WF)(Y:YW)(R:RWF)(L:LFR)(l:Nat)(yr:List Nat)(plan:List (Nat×List It)):Code->Option J->Fr->Mem->QR->Prop
 | .skip,p,fr,H,Q=>Q p (.norm fr H)
 | .region id ops false,p,fr,H,Q=>(if id∈yr then Hr P W Y l ops Q ops.toList p fr H else Fw P W ops (Ht (Q p)) ops.toList fr H)
 | .region id ops true,p,fr,H,Q=>Kn P W ops (Ht (Q p)) (planAt plan id) fr H
 | .seq a b,p,fr,H,Q=>Bu P W Y R L l yr plan a p fr H λp=>Gl (λfr H=>Bu P W Y R L l yr plan b p fr H Q) (Q p)
 | .cond c a b,p,fr,H,Q=>Gm (fr.ev c) (Bu P W Y R L l yr plan a p fr H Q) (Bu P W Y R L l yr plan b p fr H Q)
 | .block id b,p,fr,H,Q=>Bu P W Y R L l yr plan b p fr H λp=>Jg id (Q p)
 | .loop b,p,fr,H,Q=>L b p fr H Q
 | .rangeFunc g ps a b,p,fr,H,Q=>p=none/\R g ps a b fr H Q
 | .exit id,p,fr,H,Q=>Q p (.exit id fr H)
 | .label _,p,fr,H,Q=>Q p (.norm fr H)
 | .ret,p,fr,H,Q=>Q p (.ret fr H)
 | _,_,_,_,_=>False
def De(P:Program)(plan:List (Nat×List It)):Code->Bool
 | .region id ops true=>ops.toList.all G5&&(Rb P ops.toList&&decide (Nk ops.toList=planAt plan id))
 | .region _ ops false=>ops.toList.all G5
 | .seq a b=>De P plan a&&De P plan b
 | .cond _ a b=>De P plan a&&De P plan b
 | .block _ b=>De P plan b
 | .loop b=>De P plan b
 | _=>true
variable {B G n n0 m l:Nat}{P:Program}{ρ0 ρ:Rn}{w0 w:World}{x r:Option Nat}{I:Inv}{fr:Fr}{p:Option J}{H:Mem}{a:Act}{W:WF}{Y:YW}{R:RWF}{plan:List (Nat×List It)}{yr:List Nat}
def d6k(B G n n0:Nat)(ρ0:Rn)(w0:World)(x:Option Nat)(l:Nat)(I:Inv)(p:Option J):Out->Exit->Act->World->Prop:=λout e a' w'=>match out with
 | .norm fr H=>e=.normal/\∃ρ',StE B G n n0 ρ0 w0 x l I ρ' fr [] p H a' w'
 | .exit id fr H=>e=.exit id/\∃ρ',StE B G n n0 ρ0 w0 x l I ρ' fr [] p H a' w'
 | .ret fr H=>e=.ret/\∃ρ',StE B G n n0 ρ0 w0 x l I ρ' fr [] p H a' w'
 | _=>False
def Kv(B G n n0:Nat)(ρ0:Rn)(w0:World)(x:Option Nat)(l:Nat)(I:Inv)(Q:QR):Exit->Act->World->Prop:=λe a' w'=>∃p out,Q p out/\d6k B G n n0 ρ0 w0 x l I p out e a' w'
def Pf(B G:Nat)(P:Program)(r x:Option Nat)(l:Nat)(I:Inv)(Y:YW):Prop:=∀vs H K,Y vs H K->∀(m:Nat)(ρ:Rn)(us:Array Value)(ds:List Deferred)(w:World),Sim B G ρ H w->VRs ρ vs us.toList->I ρ none ds w ->
 ∃f tm asg bd,(Instr.yield l us).run P w=.ok (.round l f tm asg bd) w /\
  RoundIn (FR r) m P l f tm asg bd w λe w'=>∃b p' H',K b p' H'/\e=.returned (.bool b)/\∃ρ',(∀a,a<H.next->ρ' a=ρ a)/\KX x w w'/\Below B w w'/\Sim B G ρ' H' w'/\H.next<=H'.next/\I ρ' p' ds w'
def U6(B G n n0:Nat)(P:Program)(r x:Option Nat)(l:Nat)(I:Inv)(R:RWF):Prop:=∀g ps asg body fr H Q,R g ps asg body fr H Q ->
 ∀(m:Nat)(ρ0:Rn)(w0:World)(ρ:Rn)(a:Act) (w:World),StE B G n n0 ρ0 w0 x l I ρ fr [] none H a w ->
  (Code.rangeFunc g ps asg body).wpIn (FR r) m P (Kv B G n n0 ρ0 w0 x l I Q) a w
def LXR(G:Nat)(P:Program)(n l:Nat)(Y:YW)(R:RWF):LFR:=λb p fr H Q =>
 ∀(B n0:Nat)(r x:Option Nat)(I:Inv),Gq I->Pf B G P r x l I Y->U6 B G n n0 P r x l I R ->
  ∀(ρ0:Rn)(w0:World)(ρ:Rn)(a:Act)(w:World),StE B G n n0 ρ0 w0 x l I ρ fr [] p H a w->LWR r P b (Kv B G n n0 ρ0 w0 x l I Q) a w
theorem StE.step0{f:Rn}{H': Mem}{h:World}{v:AV}{u:Value}{d:Option Tmp}{A:Option J}(s:StE B G n n0 ρ0 w0 x l I ρ fr [] p H a w)(U:∀a,a<H.next->f a=ρ a)(Z:KX x w h)(h3:Below B w h)(hs:Sim B G f H' h)
  (hv:VR f v u) (hn:H.next<=H'.next) (hd:∀t,d=some t->t<n) (hI:I f A a.defers h):StE B G n n0 ρ0 w0 x l I f (fr.put d v) [] A H' (a.put d u) h:=by
 have:=s.step U Z h3 hs hv hn hd hI;cases d<;>exact this
theorem b3b(hW:WOK G P W)(hI:Gq I){ops:Array Oper}{o:Oper}{a1:List Oper}{k:Fr->Mem->Prop}{Qx:Exit->Act->World->Prop}(hG:G=P.globals.size)(a3:B6 n o=true)(a6:G5 o=true)
  (s:StE B G n n0 ρ0 w0 x l I ρ fr [] p H a w)
  (hk:∀(a2:Fr)(H' : Mem)(a0:Rn)(a' : Act)(w' : World),StE B G n n0 ρ0 w0 x l I a0 a2 [] p H' a' w'->k a2 H'->wpListIn (FR r) m P ops Qx a1 a' w')
  (h:Mc W o fr k (opV P H fr.ev o)) :
  o.wpIn (FR r) m P a w (wpListIn (FR r) m P ops Qx a1) Qx:=by
 have Z:=Ig (o:=o) s.sim s.ev hG;have hd:=Fe a3;have a4:∀c,o.op≠.defer c:=by
  grind[G5]
 refine⟨λ_ _=>trivial,?_⟩;rw[Oper.semAt_eq _ _ _ a4]
 cases U:opV P H fr.ev o with
 | val v H' =>
  rw[U] at Z h;obtain⟨a0,u,w',h1,A,h3,h4,h5⟩:=Z;rw[h1];exact hk _ _ _ _ _ (s.step0 A.same A.keeps.kx A.below h3 h4 h5 hd (hI _ _ _ _ _ _ s.inv A.keeps A.below.size (A.sub s.sim))) h
 | skip H' =>
  rw[U] at Z h;obtain⟨a0,w',h1,A,h3,h5⟩:=Z;rw[h1];exact hk _ _ _ _ _ (s.step0 A.same A.keeps.kx A.below h3 (He _) h5 hd (hI _ _ _ _ _ _ s.inv A.keeps A.below.size (A.sub s.sim))) h
 | enter f args H' =>
  rw[U] at Z h;obtain⟨us,h1,A,rfl⟩:=Z;rw[h1,Oper.uponIn_enter];refine⟨λh=>(by cases h),(a3u (hW _ _ _ _ h B ρ us w s.sim A)).mono λe w' ⟨q,a5,hc⟩=>?_⟩
  cases q with
  | bad=>grind
  | ret v H2 =>
   cases e with
   | returned u =>
    obtain⟨a0,g1,g2,g3,g4⟩:=hc;exact hk _ _ _ _ _ (s.step0 g1.same g1.keeps.kx g1.below g2 g3 g4 hd (hI _ _ _ _ _ _ s.inv g1.keeps g1.below.size (g1.sub s.sim))) a5
   | panicked a7=>exact hc.elim
   | outgrown=>exact hc.elim
  | panic v H2=>grind
 | dfr fn a8 args H'=>rw[U] at h;exact h.elim
 | recover=>rw[U] at h;exact h.elim
 | panic v H'=>rw[U] at h;exact h.elim
 | bad=>rw[U] at h;exact h.elim
theorem b3c(hW:WOK G P W)(hI:Gq I){ops:Array Oper}{o:Oper}{U:List Oper}{k:Fr->Mem->Prop}{Z:Exit->Act->World->Prop}(hG:G=P.globals.size)(a1:B6 n o=true)(a3:G5 o=true)
  (s:StE B G n n0 ρ0 w0 x l I ρ fr [] p H a w)
  (hk:∀(a0:Fr)(H' : Mem)(a2:Rn)(a' : Act)(w' : World),StE B G n n0 ρ0 w0 x l I a2 a0 [] p H' a' w'->k a0 H'->wpListIn (FR r) m P ops Z U a' w')
  (h:Md P W ops o fr H k):wpListIn (FR r) m P ops Z (o::U) a w:=by
 unfold Md at h;unfold wpListIn
 cases f:o.guard with
 | none =>
  rw[f] at h;rw[if_pos (by grind[Region.wanted])];grind[b3b]
 | some g =>
  rw[f] at h;rcases a9u (a:=Act.bare a) s.st f h with⟨A,hy⟩|⟨A,hn⟩
  .rw[if_pos (show Region.wanted o (yielded ops a.tmps)=true from A)];grind[b3b]
  .rw[if_neg (show ¬Region.wanted o (yielded ops a.tmps)=true from by rw[show Region.wanted o (yielded ops a.tmps)=false from A];simp)];exact⟨λ_ _=>trivial,hk _ _ _ _ _ (s.step0 (λ_ _=>rfl) (Yc _ _) (Below.refl _ _) s.sim (He _) (Wy _) (Fe a1) s.inv) hn⟩
theorem b3d(hW:WOK G P W)(hI:Gq I)(hY:Pf B G P r x l I Y){ops:Array Oper}{Q:QR}(hG:G=P.globals.size):∀(A:List Oper)(p:Option J)(fr:Fr)(H:Mem)(ρ:Rn) (a:Act) (w:World),
  (∀o∈A,B6 n o=true)->(∀o∈A,G5 o=true)->StE B G n n0 ρ0 w0 x l I ρ fr [] p H a w->Hr P W Y l ops Q A p fr H->wpListIn (FR r) m P ops (Kv B G n n0 ρ0 w0 x l I Q) A a w
 | [],p,fr,H,ρ,a,w,_,_,s,h=>wpListIn_nil ⟨p,_,h,rfl,ρ,s⟩
 | o::A,p,fr,H,ρ,a,w,hd,a4,s,h=>by
  have a5:=hd o (by simp);have b1:=a4 o (by simp);have hk:∀(U:Option J)(a0:Fr)(H' : Mem)(a1:Rn)(a' : Act) (Z:World),StE B G n n0 ρ0 w0 x l I a1 a0 [] U H' a' Z->Hr P W Y l ops Q A U a0 H'->wpListIn (FR r) m P ops (Kv B G n n0 ρ0 w0 x l I Q) A a' Z:=
   λU a0 H' a1 a' Z s' hk=>b3d hW hI hY hG A U a0 H' a1 a' Z (λo ho=>hd o (by grind)) (λo ho=>a4 o (by grind)) s' hk
  have h' : Nu P W Y l ops o p fr H (Hr P W Y l ops Q A):=h;unfold Nu at h';split at h'
  .rename_i t args a2;unfold Nt at h';split at h'
   .grind[b3c]
   .rename_i l' a3;obtain⟨rfl,b2,rfl,h3⟩:=h';unfold onL at h3;split at h3
    .rename_i vs a6;unfold wpListIn;rw[if_pos (by grind[Region.wanted])];refine⟨λ_ _=>trivial,?_⟩;unfold U5 at a2;split at a2
     .rename_i c b3;split at a2
      .rename_i t' b4;cases a2;have a7:VRs ρ vs (c.args.map a.eval).toList:=by simpa using evals_VRs s.ev a6
       obtain⟨f,tm,asg,bd,b5,a8⟩:=hY vs H _ h3 (m-1) ρ (c.args.map a.eval) a.defers w s.sim a7 s.inv;have b6:a.eval (.tmp t)=.func (.yield l') #[] #[]:=by
        unfold U4 at a3;split at a3
        .rename_i l2 aa cc hg;split at a3
         .rename_i a9;obtain⟨rfl,rfl⟩:=a9;cases a3;have:=s.ev (.tmp t) _ (show fr.ev (.tmp t)=some _ from by assumption);exact this
         grind
        grind
       have b0:(o.semAt (FR r).round a.eval).run P w=.ok (.round l' f tm asg bd) w:=by
        grind[Oper.semAt_eq,invoke,Deferred.ofValue,resolve,execOp]
       rw[b0,Oper.uponIn_round];refine⟨λh=>(by cases h),a8.mono λe Z he=>?_⟩;obtain⟨b,U,H',hK,rfl,a1,g1,g2,g3,g4,g5,g6⟩:=he;exact hk _ _ _ _ _ _ (s.step0 (v:=.lit (.bool b)) (u:=.bool b) g1 g2 g3 g4 rfl g5 (Fe a5) g6) hK
      grind
     grind
    grind
  grind[b3c]
theorem b3e{ops:Array Oper}{Q:QR}(hI:Gq I)(a2:ops.toList.all G5=true)(s:StE B G n n0 ρ0 w0 x l I ρ fr [] p H a w){U:List Nat}{Z:World}
  (h:wpOps P ops (Eu B G n H.next ρ w (Ht (Q p))) U (Act.bare a) Z):wpOpsIn (FR r) m P ops (Kv B G n n0 ρ0 w0 x l I Q) U a Z:=by
 have hq:¬LetsOut (Eu B G n H.next ρ w (Ht (Q p))):=by
  rintro⟨a',w',a0,A,h2⟩;cases a0<;>first|exact A.elim|assumption
 have key:=Kt (r:=r) (m:=m) a2 hq a.defers U a [] Z rfl h;refine R4 ?_ _ _ _ key;rintro e a' w' ⟨y,hy,a0,A,h2⟩
 cases a0 with
 | norm a3 H' =>
  obtain⟨a4,hQ⟩:=A
  cases e with
  | normal =>
   obtain⟨a1,f⟩:=h2;have a5:y=[]:=by
    have A:DR a1 a3.defers y:=f.frel.dfr;rw[a4] at A;exact A
   subst a5;refine⟨p,_,hQ,rfl,a1,λb hb=>(f.ext.same b (Xg hb s.le)).trans (s.same b hb),s.keeps.trans f.ext.keeps.kx,s.below.trans f.ext.below,f.sim,f.frel,W6 s.le f.le,?_,by simp⟩;have a6:a'.defers=a.defers:=by grind
   rw[a6];exact hI _ _ _ _ _ _ s.inv f.ext.keeps f.ext.below.size (f.ext.sub s.sim)
  | _=>exact h2.elim
 | _=>exact A.elim
theorem b3f{Q:QR}{K:Act->World->Prop}{k:Fr->Mem->QR->Prop}{b:Option J->Fr->Mem->Prop}
  (hk:∀Z f H' h A U,StE B G n n0 ρ0 w0 x l I h f [] Z H' A U->b Z f H'->K A U) :
  ∀e A U,Kv B G n n0 ρ0 w0 x l I (λp=>Gl (b p) (Q p)) e A U->Exit.then K (Kv B G n n0 ρ0 w0 x l I Q) e A U:=by
 rintro e A U ⟨Z,a0,h1,h2⟩
 cases a0 with
 | norm f H'=>obtain⟨rfl,h,s'⟩:=h2;exact hk _ _ _ _ _ _ s' h1
 | exit id f H'=>obtain⟨rfl,h,s'⟩:=h2;exact⟨Z,_,h1,rfl,h,s'⟩
 | ret f H'=>obtain⟨rfl,h,s'⟩:=h2;exact⟨Z,_,h1,rfl,h,s'⟩
 | panic v f H'=>exact h2.elim
 | bad=>exact h1.elim
theorem R5(hW:WOK G P W)(hM:Io W)(hG:G=P.globals.size)(hI:Gq I)(hY:Pf B G P r x l I Y)(hR:U6 B G n n0 P r x l I R)(m:Nat):∀(c:Code)(p:Option J)(fr:Fr)(H:Mem)(Q:QR) (ρ0:Rn) (w0:World) (ρ:Rn) (a:Act) (w:World),
  Aw n c=true->De P plan c=true->Bu P W Y R (LXR G P n l Y R) l yr plan c p fr H Q->StE B G n n0 ρ0 w0 x l I ρ fr [] p H a w->c.wpIn (FR r) m P (Kv B G n n0 ρ0 w0 x l I Q) a w:=by
 intro c
 induction c with
 | skip=>intro p fr H Q ρ0 w0 ρ a w _ _ h s;exact wpIn_skip ⟨p,_,h,rfl,ρ,s⟩
 | region id ops a6 =>
  intro p fr H Q ρ0 w0 ρ a w A U h s
  cases a6 with
  | false =>
   have Z:if id∈yr then Hr P W Y l ops Q ops.toList p fr H else Fw P W ops (Ht (Q p)) ops.toList fr H:=h;have a1:ops.toList.all G5=true:=U;split at Z
   .exact wpIn_region_list (b3d hW hI hY hG ops.toList p fr H ρ a w (λo ho=>W7.1 A o ho) (λo ho=>W7.1 a1 o ho) s Z)
   .refine wpIn_region (b3e hI a1 s ?_);rw[List.range_eq_range',<- Array.length_toList,wpOps_eq_wpList ops.toList 0 (by simp)];exact T7 hW hG ops.toList fr H ρ (Act.bare a) w (λo ho=>W7.1 A o ho) s.st Z
  | true =>
   have Z:Kn P W ops (Ht (Q p)) (planAt plan id) fr H:=h;simp only[De,W0,decide_eq_true_eq] at U;obtain⟨a1,hf,a7⟩:=U;rw[<- a7] at Z
   cases fr with
   | f g ds=>exact wpIn_region_draw λt=>b3e hI a1 s (a1r (id:=id) hW hG s.st A (a2v hM hf Z) t)
   | _=>exact Z.elim
 | seq c1 c2 a2 a3 =>
  intro p fr H Q ρ0 w0 ρ a w A U h s;simp only[Aw,W0] at A;simp only[De,W0] at U;exact wpIn_seq (Code.wpIn_mono (b3f (k:=λ_ _ _=>True) λp' a0 H' a8 a' w' s' hb=>a3 p' a0 H' Q ρ0 w0 a8 a' w' A.2 U.2 hb s') (a2 p fr H _ ρ0 w0 ρ a w A.1 U.1 h s))
 | cond a9 c1 c2 a2 a3 =>
  intro p fr H Q ρ0 w0 ρ a w A U h s;simp only[Aw,W0] at A;simp only[De,W0] at U;have Z:Gm (fr.ev a9) (Bu P W Y R (LXR G P n l Y R) l yr plan c1 p fr H Q) (Bu P W Y R (LXR G P n l Y R) l yr plan c2 p fr H Q):=h;unfold Gm at Z;split at Z
  .rename_i b b0;have:=s.ev _ _ b0
   cases b with
   | true=>exact wpIn_cond_true this (a2 p fr H Q ρ0 w0 ρ a w A.1 U.1 (Z.1 rfl) s)
   | false=>exact wpIn_cond_false this (a3 p fr H Q ρ0 w0 ρ a w A.2 U.2 (Z.2 rfl) s)
  grind
 | block id b ih =>
  intro p fr H Q ρ0 w0 ρ a w A U h s;refine wpIn_block (Code.wpIn_mono ?_ (ih p fr H _ ρ0 w0 ρ a w A U h s));rintro e a' w' ⟨p',b1,hq,ho⟩
  cases b1 with
  | norm a0 H'=>obtain⟨rfl,Z⟩:=ho;exact⟨p',_,hq,rfl,Z⟩
  | ret a0 H'=>obtain⟨rfl,Z⟩:=ho;exact⟨p',_,hq,rfl,Z⟩
  | exit a5 a0 H' =>
   obtain⟨rfl,Z⟩:=ho;have a4:if a5=id then Q p' (.norm a0 H') else Q p' (.exit a5 a0 H'):=hq;by_cases e:a5=id
   .subst e;rw[if_pos rfl] at a4;simp only[Exit.inBlock,if_true];exact⟨p',_,a4,rfl,Z⟩
   .rw[if_neg e] at a4;simp only[Exit.inBlock,e,if_false];exact⟨p',_,a4,rfl,Z⟩
  | panic v a0 H'=>exact ho.elim
  | bad=>exact hq.elim
 | loop b ih =>
  intro p fr H Q ρ0 w0 ρ a w A U h s;exact(h B n0 r x I hI hY hR ρ0 w0 ρ a w s).wp
 | rangeFunc g ps c1 c2 a2 a3 =>
  intro p fr H Q ρ0 w0 ρ a w A U h s;obtain⟨rfl,h2⟩:p=none/\R g ps c1 c2 fr H Q:=h;exact hR _ _ _ _ _ _ _ h2 m ρ0 w0 ρ a w s
 | exit id=>intro p fr H Q ρ0 w0 ρ a w A U h s;exact wpIn_exit ⟨p,_,h,rfl,ρ,s⟩
 | scope b ih=>intro p fr H Q ρ0 w0 ρ a w A U h;exact h.elim
 | label lb=>intro p fr H Q ρ0 w0 ρ a w A U h s;exact wpIn_label ⟨p,_,h,rfl,ρ,s⟩
 | goto lb=>intro p fr H Q ρ0 w0 ρ a w A U h;exact h.elim
 | ret=>intro p fr H Q ρ0 w0 ρ a w A U h s;exact wpIn_ret ⟨p,_,h,rfl,ρ,s⟩
 | refuse b2=>intro p fr H Q ρ0 w0 ρ a w A U h;exact h.elim
theorem LXR.round{O:CallF}(hO:∀B,A4 B G P O)(hG:G=P.globals.size)(yr:List Nat)(plan:List (Nat×List It)){b:Code}{Q:QR}(f:(Aw n b&&De P plan b)=true)
  (h:Bu P (orW O (WC G P)) Y R (LXR G P n l Y R) l yr plan b p fr H λp=>Gl (λfr H=>LXR G P n l Y R b p fr H Q) (Q p)):LXR G P n l Y R b p fr H Q:=by
 rw[W0] at f;intro B n0 r x I A U Z ρ0 w0 ρ a w s;exact LWR.unroll (m:=0) (Code.wpIn_mono (b3f (k:=λ_ _ _=>True) λp' a1 H' a0 a' w' s' hb=>hb B n0 r x I A U Z ρ0 w0 a0 a' w' s') (R5 (T8 hO) (Ur (Uq G P)) hG A U Z 0 b p fr H _ ρ0 w0 ρ a w f.1 f.2 h s))
abbrev Y1:=@LXR.round
theorem LXR.ind{b:Code}{ds:List Dfr}{Q:QR}(J:Nat->(Nat->Option AV)->Mem->Prop){m0:Nat}{A:Nat->Option AV}{H0:Mem}(h0:J m0 A H0)
  (U:∀m g H,J m g H->Aa (∀h g' H',h < m->J h g' H'->LXR G P n l Y R b p (.f g' ds) H' Q)->LXR G P n l Y R b p (.f g ds) H Q):LXR G P n l Y R b p (.f A ds) H0 Q:=by
 have:∀m g H,J m g H->LXR G P n l Y R b p (.f g ds) H Q:=by
  intro m
  induction m using Nat.strongRecOn with
  | _ m Z=>exact λg H hi=>U m g H hi ⟨λh g' H' a0 hi'=>Z h a0 g' H' hi'⟩
 grind
abbrev Y2:=@LXR.ind
end
section
variable {B G n n0 m l l1 lo:Nat}{P:Program}{ρ0 ρ:Rn}{w0 w wb:World}{x r:Option Nat}{I:Inv}{fr fr0:Fr}{p:Option J}{H:Mem}{a:Act}{W:WF}{fid D:Nat}{tm:Array Value}{ps:Array Tmp}{asg body:Code}{plan:List (Nat×List It)}
def YN:YW:=λ_ _ _=>False
def RN:RWF:=λ_ _ _ _ _ _ _=>False
theorem YN_ok:Pf B G P r x l I YN:=λ_ _ _ h=>h.elim
theorem RN_ok:U6 B G n n0 P r x l I RN:=λ_ _ _ _ _ _ _ h=>h.elim
def rdW(K:Bool->Option J->Mem->Prop):QR:=λ_ out=>match out with
 | .norm _ H=>K true none H
 | .exit id _ H=>K false (some (some id)) H
 | .ret _ H=>K false (some none) H
 | _=>False
def rd0(k:Fr->Mem->Prop):QR:=λ_ out=>match out with
 | .norm fr H=>k fr H
 | _=>False
noncomputable def rdX(G:Nat)(P:Program)(W:WF)(n:Nat)(plan:List (Nat×List It))(c:Code)(fr:Fr)(H:Mem)(Q:QR):Prop:=Bu P W YN RN (LXR G P n 0 YN RN) 0 [] plan c none fr H Q
noncomputable def YB(G:Nat)(P:Program)(W:WF)(n:Nat)(plan:List (Nat×List It))(ps:Array Tmp)(asg body:Code)(fr0:Fr):YW:=λvs H K =>
 vs.length=ps.size/\rdX G P W n plan asg (putPs ps.toList vs fr0) H (rd0 λfr1 H1=>rdX G P W n plan body fr1 H1 (rdW K))
theorem d6l(hW:WOK G P W)(hM:Io W)(hG:G=P.globals.size)(hB:B<=l)(b3:∀t∈ps.toList,t<n)(b4:Aw n asg=true)(b5:Aw n body=true)(b6:De P plan asg=true)(b7:De P plan body=true):
  Pf B G P none (some l) l (II n fr0 fid tm ps asg body D l) (YB G P W n plan ps asg body fr0):=by
 intro vs H K b8 m ρ us ds w hs hv hI;obtain⟨rfl,b1,hl⟩:=hI;obtain⟨e1,hx⟩:=b8;have b9:us.size=ps.size:=by have:=hv.length;grind
 refine⟨fid,_,asg,body,run_yield hl b9,roundIn_of_wpIn trivial ?_⟩;generalize c0:((Ds fid tm ps asg body D (Iq none) (Option.map jcode none)).params.zip us).foldl (λtmps (t,a)=>tmps.setIfInBounds t a) (Ds fid tm ps asg body D (Iq none) (Option.map jcode none)).tmps=tm1;have c1:Dj n ρ (putPs ps.toList vs fr0) { tmps:=tm1,defers:=[] }:=by
  have:=putPs_ok b3 hv b1;rw[<- c0];show Dj n ρ (putPs ps.toList vs fr0) { tmps:=(ps.zip us).foldl (λtmps (t,a)=>tmps.setIfInBounds t a) tm,defers:=[] };grind[Array.toList_zip]
 have s0:StE B G n H.next ρ w none 0 (IR fid tm ps asg body D l .ready) ρ (putPs ps.toList vs fr0) [] none H { tmps:=tm1,defers:=[] } w:=
  ⟨λ_ _=>rfl,Yc _ _,Below.refl _ _,hs,c1,Wy _,⟨rfl,hl⟩,by simp⟩
 have key:=R5 (r:=some l) (yr:=[]) hW hM hG (Mb (st:=.ready)) (YN_ok (r:=some l)) (RN_ok (n:=n) (n0:=H.next)) m asg none _ H _ ρ w ρ _ w b4 b6 hx s0;refine Code.wpIn_mono ?_ key;rintro e a1 w1 ⟨q1,c2,a3,c6⟩
 cases c2 with
 | norm a4 h =>
  obtain⟨rfl,a5,s1⟩:=c6;obtain⟨c7,a7⟩:=s1.inv;refine⟨_,run_beginRound a7 rfl,?_⟩;have b2:(w1.putObj l (.loop { Ds fid tm ps asg body D .ready none with state:=.busy })).heap[l]?=some (.loop (Ds fid tm ps asg body D .busy none)):=World.putObj_heap_same (e5y.1 a7).1;generalize c8:w1.putObj l (.loop { Ds fid tm ps asg body D .ready none with state:=.busy })=A at b2 |-;have s2:StE B G n h.next a5 A none 0 (IR fid tm ps asg body D l .busy) a5 a4 [] none h a1 A:=
   ⟨λ_ _=>rfl,Yc _ _,Below.refl _ _,by rw[<- c8];exact Ns s1.sim a7 rfl,s1.frel,Wy _,⟨c7,b2⟩,by simp⟩
  have fin:∀{U:Mem}{Z:Rn}{a0:Fr}{q:Option J}{a2:Act} {w3:World} (j:Option J),StE B G n h.next a5 A none 0 (IR fid tm ps asg body D l .busy) Z a0 [] q U a2 w3->K j.isNone j U ->
    ∃v w4,(Instr.endRound l (j.map jcode)).run P w3=.ok v w4/\∃b p' H',K b p' H'/\Ending.returned v=.returned (.bool b)/\∃a8,(∀a,a<H.next->a8 a=ρ a)/\KX (some l) w w4/\Below B w w4/\Sim B G a8 H' w4/\H.next<=H'.next/\II n fr0 fid tm ps asg body D l a8 p' [] w4:=by
   intro U Z a0 q a2 w3 j f hk;obtain⟨_,a9⟩:=f.inv;have e5:((j.map jcode).isNone)=j.isNone:=by grind
   refine⟨_,_,run_endRound _ a9,_,_,_,hk,by grind,Z,λb hb=>?_,?_,?_,Ns f.sim a9 rfl,W6 s1.le f.le,rfl,?_,?_⟩
   .exact(f.same b (Xg hb s1.le)).trans (s1.same b hb)
   .have k1:KX (some l) w w1:=⟨λk o hk ho hx=>s1.keeps.1 k o hk ho (by simp),s1.keeps.2⟩;have k2:KX (some l) w1 A:=by grind[U2]
    have k3:KX (some l) A w3:=⟨λk o hk ho hx=>f.keeps.1 k o hk ho (by simp),f.keeps.2⟩;exact((k1.trans k2).trans k3).trans U2
   .have k2:Below B w1 A:=by grind[Nr]
    exact((s1.below.trans k2).trans f.below).trans (Nr hB)
   .exact b1.mono (U3 hs λb hb=>(f.same b (Xg hb s1.le)).trans (s1.same b hb))
   .rw[World.putObj_heap_same (e5y.1 a9).1];cases j<;>rfl
  have c9:=R5 (r:=some l) (yr:=[]) hW hM hG (Mb (st:=.busy)) (YN_ok (r:=some l)) (RN_ok (n:=n) (n0:=h.next)) m body none a4 h _ a5 A a5 a1 A b5 b7 a3 s2;refine Code.wpIn_mono ?_ c9;rintro e a2 w3 ⟨q2,e0,a6,b0⟩
  cases e0 with
  | norm a0 U=>obtain⟨rfl,Z,f⟩:=b0;exact fin none f a6
  | exit id a0 U=>obtain⟨rfl,Z,f⟩:=b0;exact fin (some (some id)) f a6
  | ret a0 U=>obtain⟨rfl,Z,f⟩:=b0;exact fin (some none) f a6
  | panic v a0 U=>exact a6.elim
  | bad=>exact a6.elim
 | exit id a4 h=>exact a3.elim
 | ret a4 h=>exact a3.elim
 | panic v a4 h=>exact a3.elim
 | bad=>exact a3.elim
def Kw(Q:QR)(fr:Fr)(H:Mem):Option J->Prop
 | none=>Q none (.norm fr H)
 | some none=>Q none (.ret fr H)
 | some (some id)=>Q none (.exit id fr H)
def Pg(k:Mem->Prop):Ay->Prop
 | .ret _ H=>k H
 | _=>False
noncomputable def itQ(P:Program)(it:Func)(K:Option J->Mem->Prop):QR:=λp out=>match out with
 | .norm fr2 H2=>G2 P noO it (Pg (K p)) (.norm fr2 H2)
 | .ret fr2 H2=>G2 P noO it (Pg (K p)) (.ret fr2 H2)
 | _=>False
noncomputable def itX(G:Nat)(P:Program)(W:WF)(Y:YW)(n l:Nat)(yr:List Nat)(plan:List (Nat×List It))(c:Code)(fr:Fr)(H:Mem)(Q:QR):Prop:=Bu P W Y RN (LXR G P n l Y RN) l yr plan c none fr H Q
noncomputable def RG(G:Nat)(P:Program)(W:WF)(n:Nat)(plan:List (Nat×List It)):RWF:=λg ps asg body fr H Q =>
 (ps.toList.all (λt=>Nat.blt t n)&&(Aw n asg&&Aw n body&&(De P plan asg&&De P plan body)))=true /\
 ∃(f:FuncId)(cap:List AV)(it:Func)(c:Code)(yr:List Nat) (planI:List (Nat×List It)),fr.ev g=some (.func (.func f) [] cap)/\P.funcs[f]?=some it/\it.body=some c/\Ao P f=true/\(Aw it.ntmps c&&De P planI c)=true/\cap.length+1<=it.ntmps /\
  ∀l,itX G P W (YB G P W n plan ps asg body fr) it.ntmps l yr planI c (Hf (.lit (.func (.yield l) #[] #[])::cap)) H (itQ P it (λp H'=>Kw Q fr H' p))
theorem b3g{fn:Func}{fr:Fr}{K:Ay->Prop}(f:fr.defers=[])(h:match Co P noO (λ_ _ _=>.bad) fn fr fr.defers .returning H with|.bad=>False|r=>K r):∃v,Fa P fn fr H=some v/\K (.ret v H):=by
 rw[f] at h;unfold Co at h;grind
theorem d6m(hW:WOK G P W)(hM:Io W)(hG:G=P.globals.size):U6 B G n n0 P none none l1 (Iv0 lo) (RG G P W n plan):=by
 intro g ps asg body fr H Q b2 m ρ0 w0 ρ a w s;obtain⟨a7,f,a8,it,c,yr,g1,b3,b4,b5,b6,a3,g2,hx⟩:=b2;simp only[W0] at a7 a3;obtain⟨b7,⟨b8,b9⟩,c0,c1⟩:=a7;have c2:∀t∈ps.toList,t<n:=λt ht=>Wz (W7.1 b7 t ht);obtain⟨f',c',hu,h1,h2⟩:=s.ev _ _ b3;have c6:f'=#[]:=by grind[VRs]
 subst c6;refine wpIn_rangeFunc λfn _=>?_;have a4:=run_enterLoop_outer (P:=P) (w:=w) fn a.tmps ps asg body;have a1:=World.alloc_heap_new (w.alloc (.deferred (some []))) (.loop { state:=.ready,pending:=none,fn:=fn,tmps:=a.tmps,params:=ps,assign:=asg,body:=body,defers:=w.heap.size });rw[World.size_alloc] at a1;generalize g3:w.heap.size+1=l at a4 a1;generalize a5:(w.alloc (.deferred (some []))).alloc (.loop { state:=.ready,pending:=none,fn:=fn,tmps:=a.tmps,params:=ps,assign:=asg,body:=body,defers:=w.heap.size })=A at a4 a1;refine⟨l,_,A,{ target:=.fn (.func f) c',args:=#[.func (.yield l) #[] #[]] },A,f,#[.func (.yield l) #[] #[]]++c',A,a4,?_,λ_ _=>trivial,?_,λh=>(by cases h),?_⟩
 .have g4:∀v:Value,a.eval (.const v)=v:=λ_=>rfl;simp_all[Deferred.ofValue,resolve]
 .exact Tm b6 _ _
 ·
  have g5:A.heap.size=w.heap.size+2:=by rw[<- a5];simp
  have c7:w.drawn<=A.drawn:=by rw[<- a5];simp
  have c8:∀k,k<w.heap.size->A.heap[k]?=w.heap[k]?:=by
   grind[Below.heap_alloc]
  have hD:A.heap[w.heap.size]?=some (.deferred (some [])):=by
   grind[World.alloc_heap_new,Below.heap_alloc]
  have hl:A.heap[l]?=some (.loop (Ds fn a.tmps ps asg body w.heap.size .ready none)):=a1;have c9:Below B w A:=by
   rw[<- a5];exact((Below.refl B w).alloc s.sim.base _).alloc (by simp;have:=s.sim.base;omega) _
  have e0:Sim B G ρ H A:=s.sim.other (by omega) λa x b o k hx hr=>c8 b (by
   rcases s.sim.blk a x hx with h|⟨b',o',k',h,hb⟩
   .grind
   .rw[hr] at h;cases h;exact hb.lt)
  have e1:VRs ρ (.lit (.func (.yield l) #[] #[])::a8) (#[Value.func (.yield l) #[] #[]]++c').toList:=by
   rw[Array.toList_append];exact⟨_,_,rfl,rfl,h2⟩
  have e5:=Ub (n:=it.ntmps) e1 (by grind);have hB:B<=l:=by have:=s.sim.base;omega
  have s1:StE B G it.ntmps H.next ρ A (some l) l (II n fr fn a.tmps ps asg body w.heap.size l) ρ (Hf (.lit (.func (.yield l) #[] #[])::a8)) [] none H { tmps:=#[Value.func (.yield l) #[] #[]]++c'++Array.replicate (it.ntmps-(#[Value.func (.yield l) #[] #[]]++c').size) undef,defers:=[] } A:=
   ⟨λ_ _=>rfl,Yc _ _,Below.refl _ _,e0,e5,Wy _,⟨rfl,s.frel,hl⟩,by simp⟩
  have hY:Pf B G P none (some l) l (II n fr fn a.tmps ps asg body w.heap.size l) (YB G P W n plan ps asg body fr):=d6l hW hM hG hB c2 b8 b9 c0 c1;have key:=R5 (r:=none) (x:=some l) (I:=II n fr fn a.tmps ps asg body w.heap.size l) hW hM hG II_ok hY (RN_ok (n:=it.ntmps) (n0:=H.next)) (m-1) c none _ H _ ρ A ρ _ A a3.1 a3.2 (hx l) s1;have fin:∀{Z:Fr}{p2:Option J}{H2:Mem}{a0:Rn}{a2:Act} {w3:World},StE B G it.ntmps H.next ρ A (some l) l (II n fr fn a.tmps ps asg body w.heap.size l) a0 Z [] p2 H2 a2 w3 ->
    (match Co P noO (λ_ _ _=>.bad) it Z Z.defers .returning H2 with|.bad=>False|r=>Pg (λH'=>Kw Q fr H' p2) r)->a2.defers=[]/\∃v,(results it a2.tmps).run P w3=.ok v w3 /\
     rangePost (FR none) m P l (Kv B G n n0 ρ0 w0 none l1 (Iv0 lo) Q) { a with defers:=[{ target:=.collected w.heap.size,args:=#[] }]++a.defers } (.returned v) w3:=by
   intro Z p2 H2 a0 a2 w3 U e6;have e7:Z.defers=[]:=by
    have:DR a0 Z.defers (Act.bare a2).defers:=U.frel.dfr
    cases hd:Z.defers with
    | nil=>rfl
    | cons d ds=>rw[hd] at this;obtain⟨fn,cp,ar⟩:=d;obtain⟨_,_,_,he,_⟩:=this;cases he
   obtain⟨v,hv,hj⟩:=b3g e7 e6;have a6:Kw Q fr H2 p2:=hj;obtain⟨e8,g6,a9⟩:=U.inv;obtain⟨u,e9,g7⟩:=Lw U.st hG hv;refine⟨e8,u,e9,_,_,run_endLoop a9 (by cases p2<;>simp[Ds,Iq]),?_⟩;have b0:KD w (w3.putObj l (.loop { Ds fn a.tmps ps asg body w.heap.size (Iq p2) (p2.map jcode) with state:=.exhausted })):=by
    refine⟨λk o hk ho=>?_,W6 c7 U.keeps.2⟩;have g8:=(e5y.1 hk).1;rw[World.putObj_heap_other (by omega)];exact U.keeps.1 k o (by grind) ho (by grind)
   have b1:∀a,a<H.next->a0 a=ρ a:=U.same;have s4:StE B G n n0 ρ0 w0 none l1 (Iv0 lo) a0 fr [] none H2 { a with defers:=[{ target:=.collected w.heap.size,args:=#[] }]++a.defers } (w3.putObj l (.loop { Ds fn a.tmps ps asg body w.heap.size (Iq p2) (p2.map jcode) with state:=.exhausted })):=by
    refine⟨λb hb=>(b1 b (Xg hb s.le)).trans (s.same b hb),s.keeps.trans b0.kx,((s.below.trans c9).trans U.below).trans (Nr hB),Ns U.sim a9 rfl,s.frel.mono (U3 s.sim b1),W6 s.le U.le,?_,by simp⟩;obtain⟨i1,i2,i3⟩:=s.inv;have g9:=U.below.size;refine⟨i1,by simp;omega,w.heap.size,rfl,i2,?_,i3.lt,i3.keep λD hD=>b0.1 D _ hD rfl⟩;rw[World.putObj_heap_other (by omega)];exact U.keeps.1 _ _ hD rfl (by grind)
   cases p2 with
   | none=>exact⟨none,_,a6,rfl,a0,s4⟩
   | some j =>
    cases j with
    | none=>exact wpIn_ret ⟨none,_,a6,rfl,a0,s4⟩
    | some id=>exact wpIn_exit ⟨none,_,a6,rfl,a0,s4⟩
  refine callsIn_of_wp b4 b5 trivial (Code.wpIn_mono ?_ key);rintro e a2 w3 ⟨p2,g0,hq,ho⟩
  cases g0 with
  | norm Z H2=>obtain⟨rfl,a0,U⟩:=ho;exact fin U hq
  | ret Z H2=>obtain⟨rfl,a0,U⟩:=ho;exact fin U hq
  | exit id Z H2=>exact hq.elim
  | panic v Z H2=>exact hq.elim
  | bad=>exact hq.elim
noncomputable def U7(P:Program)(fn:Func)(K:Ay->Prop):QR:=λ_ out=>match out with
 | .norm fr H=>G2 P noO fn K (.norm fr H)
 | .ret fr H=>G2 P noO fn K (.ret fr H)
 | _=>False
noncomputable def fnX(G:Nat)(P:Program)(W:WF)(n:Nat)(plan:List (Nat×List It))(c:Code)(fr:Fr)(H:Mem)(Q:QR):Prop:=Bu P W YN (RG G P W n plan) (LXR G P n 0 YN (RG G P W n plan)) 0 [] plan c none fr H Q
theorem WC.enterR{f:FuncId}{fn:Func}{c:Code}{args:List AV}{K:Ay->Prop}{O:CallF}(hO:∀B,A4 B G P O)(hG:G=P.globals.size)(plan:List (Nat×List It))(hf:P.funcs[f]?=some fn)(hb:fn.body=some c)
  (hd:(Aw fn.ntmps c&&De P plan c)=true) (hl:args.length<=fn.ntmps) (h:fnX G P (orW O (WC G P)) fn.ntmps plan c (Hf args) H (U7 P fn K)):WC G P f args H K:=by
 rw[W0] at hd;intro B ρ us w hs hv;have hW:=T8 (G:=G) (P:=P) hO;have hM:=Ur (O:=O) (Uq G P);have s1:StE B G fn.ntmps H.next ρ w none 0 (Iv0 w.heap.size) ρ (Hf args) [] none H { tmps:=us++Array.replicate (fn.ntmps-us.size) undef,defers:=[] } w:=
  ⟨λ_ _=>rfl,Yc _ _,Below.refl _ _,hs,Ub hv hl,Wy _,⟨rfl,Wy _,trivial⟩,by simp⟩
 have key:=R5 (r:=none) (x:=none) (I:=Iv0 w.heap.size) hW hM hG IO_ok (YN_ok (r:=none)) (d6m (plan:=plan) (n:=fn.ntmps) (n0:=H.next) hW hM hG) 0 c none _ H _ ρ w ρ _ w hd.1 hd.2 h s1;refine b2p (r:=none) (m:=0) (callsIn_of_wp_marks hf hb trivial (Code.wpIn_mono ?_ key));rintro e a' w' ⟨p2,a0,hq,ho⟩;have fin:∀{A:Fr}{p2:Option J}{U:Mem}{Z:Rn},StE B G fn.ntmps H.next ρ w none 0 (Iv0 w.heap.size) Z A [] p2 U a' w' ->
   (match Co P noO (λ_ _ _=>.bad) fn A A.defers .returning U with|.bad=>False|r=>K r)->LeavesInM (FR none) 0 P fn a'.tmps (λe w'=>∃r,K r/\Jd B G H.next ρ w r e w') a'.defers .returning w':=by
  intro A p2 U Z s2 hn;have a1:A.defers=[]:=by
   have:DR Z A.defers (Act.bare a').defers:=s2.frel.dfr
   cases hd:A.defers with
   | nil=>rfl
   | cons d ds=>rw[hd] at this;obtain⟨fn,cp,ar⟩:=d;obtain⟨_,_,_,he,_⟩:=this;cases he
  obtain⟨v,a2,hk⟩:=b3g a1 hn;obtain⟨_,_,i3⟩:=s2.inv;refine a3z (wb:=w) (lo:=w.heap.size) (ρ:=Z) (H:=U) hs.base (Wy _) (λw4 g1 g2 g3=>?_) a'.defers w' i3 s2.sim s2.keeps.kd s2.below;obtain⟨u,a3,a4⟩:=Lw (⟨X6 _ _ _ _,g1,s2.frel,Wy _⟩:St B G fn.ntmps U.next Z w4 Z A U (Act.bare a') w4) hG a2;exact⟨u,a3,_,hk,Z,⟨s2.same,g2,g3⟩,g1,a4,s2.le⟩
 cases a0 with
 | norm A U=>obtain⟨rfl,Z,s2⟩:=ho;exact fin s2 hq
 | ret A U=>obtain⟨rfl,Z,s2⟩:=ho;exact fin s2 hq
 | exit id A U=>exact hq.elim
 | panic v A U=>exact hq.elim
 | bad=>exact hq.elim
end
section
variable {P:Program}{W:WF}{Y:YW}{R:RWF}{L:LFR}{Q:QR}{fr:Fr}{p:Option J}{H:Mem}{plan:List (Nat×List It)}{yr:List Nat}{l G n:Nat}{ops:Array Oper}{g:Nat→Option AV}{ds:List Dfr}
variable {tk id:Nat}{b c a:Code}{ps:Array Tmp}{K:Bool→Option J→Mem→Prop}
theorem d6n(h:tick=tk){c:Code}{fr f:Fr}{H H' : Mem}(A:fr=f)(U:H=H'):Bu P W Y R L l yr plan c p fr H Q=Bu P W Y R L l yr plan c p f H' Q:=by grind
theorem d6o(A:tick=tk){f:List Oper}{fr h:Fr}{H H' : Mem}(U:fr=h)(Z:H=H'):Hr P W Y l ops Q f p fr H=Hr P W Y l ops Q f p h H':=by grind
theorem d6p(h:tick=tk){o:Oper}{k:Option J->Fr->Mem->Prop}{fr f:Fr}{H H' : Mem}(A:fr=f)(U:H=H'):Nu P W Y l ops o p fr H k=Nu P W Y l ops o p f H' k:=by grind
theorem d6q(U:tick=tk){o:Oper}{f:Array Operand}{k:Option J->Fr->Mem->Prop}{fr h:Fr}{H H' : Mem}{y A:Option Nat}(Z:fr=h)(h2:H=H')(h3:y=A):Nt P W Y l ops o f p fr H k y=Nt P W Y l ops o f p h H' k A:=by grind
theorem d6r(h:tick=tk){o:Oper}{k:Fr->Mem->Prop}{fr f:Fr}{H H' : Mem}(A:fr=f)(U:H=H'):Md P W ops o fr H k=Md P W ops o f H' k:=by grind
theorem d6s(A:tick=tk){o:Oper}{k:Fr->Mem->Prop}{fr f:Fr}{r h:Go.Ai.R}(U:fr=f)(Z:r=h):Mc W o fr k r=Mc W o f k h:=by grind
theorem d6t(U:tick=tk){f:Type}{x A:Option f}{K:f->Prop}(h:x=A):onL x K=onL A K:=by rw[h]
theorem d6u(A:tick=tk){Q:Out->Prop}{o f:Out}(h:o=f):Ht Q o=Ht Q f:=by rw[h]
theorem d6v(h:tick=tk){b:Code}{fr f:Fr}{H H' : Mem}(A:fr=f)(U:H=H'):LXR G P n l Y R b p fr H Q=LXR G P n l Y R b p f H' Q:=by grind
theorem d6w(h:tick=tk){o:Operand}{ps:Array Tmp}{a b:Code}{fr f:Fr}{H H' : Mem}(A:fr=f)(U:H=H'):RG G P W n plan o ps a b fr H Q=RG G P W n plan o ps a b f H' Q:=by grind
theorem d6x(A:tick=tk){fn:Func}{K:Ay->Prop}{o f:Out}(h:o=f):U7 P fn K p o=U7 P fn K p f:=by rw[h]
theorem d6y(A:tick=tk){fn:Func}{K:Option J->Mem->Prop}{o f:Out}(h:o=f):itQ P fn K p o=itQ P fn K p f:=by rw[h]
attribute [congr] d6n d6o d6p d6q d6r d6s d6t d6u d6v d6w d6x d6y
theorem execR_skip:Bu P W Y R L l yr plan .skip p fr H Q=Q p (.norm fr H):=(rfl)
theorem d6z{f:List Oper}:Bu P W Y R L l yr plan (.region id f.toArray false) p fr H Q=if id∈yr then Hr P W Y l f.toArray Q f p fr H else Fw P W f.toArray (Ht (Q p)) f fr H:=(rfl)
theorem d7a:Bu P W Y R L l yr plan (.region id ops true) p fr H Q=Kn P W ops (Ht (Q p)) (planAt plan id) fr H:=(rfl)
theorem d7b:Bu P W Y R L l yr plan (.seq a b) p fr H Q=Bu P W Y R L l yr plan a p fr H λp=>Gl (λfr H=>Bu P W Y R L l yr plan b p fr H Q) (Q p):=(rfl)
theorem d7c{x:Operand}:Bu P W Y R L l yr plan (.cond x a b) p fr H Q=Gm (fr.ev x) (Bu P W Y R L l yr plan a p fr H Q) (Bu P W Y R L l yr plan b p fr H Q):=(rfl)
theorem d7d:Bu P W Y R L l yr plan (.block id b) p fr H Q=Bu P W Y R L l yr plan b p fr H λp=>Jg id (Q p):=(rfl)
theorem d7e:Bu P W Y R L l yr plan (.loop b) p fr H Q=L b p fr H Q:=(rfl)
theorem d7f{o:Operand}:Bu P W Y R L l yr plan (.rangeFunc o ps a b) none fr H Q=R o ps a b fr H Q:=by simp[Bu]
theorem d7g:Bu P W Y R L l yr plan (.exit id) p fr H Q=Q p (.exit id fr H):=(rfl)
theorem execR_ret:Bu P W Y R L l yr plan .ret p fr H Q=Q p (.ret fr H):=(rfl)
attribute [simp] execR_skip d6z d7a d7b d7c d7d d7e d7f d7g execR_ret
theorem d7h{Q:Out->Prop}:Ht Q (.norm (.f g []) H)=Q (.norm (.f g []) H):=by simp[Ht,b0g]
theorem seqR_nil:Hr P W Y l ops Q [] p fr H=Q p (.norm fr H):=(rfl)
theorem d7i{d:Option Tmp}{op:Op}{t:TypeId}{s:String}{af:Array Edge}{gd:Option (Nat×Bool)}{f:List Oper}:
  Hr P W Y l ops Q (⟨d,op,t,s,af,gd⟩::f) p fr H=Nu P W Y l ops ⟨d,op,t,s,af,gd⟩ p fr H (Hr P W Y l ops Q f):=(rfl)
section
variable {d:Option Tmp}{op:Op}{t:TypeId}{s:String}{af:Array Edge}{gd:Option (Nat×Bool)}{k:Option J→Fr→Mem→Prop}{j:Fr→Mem→Prop}
def onT(x:Option (Tmp×Array Operand))(a:Tmp->Array Operand->Prop)(b:Prop):Prop:=match x with|some (t,asx)=>a t asx|none=>b
theorem d7j{t:Tmp}{f:Array Operand}{a:Tmp->Array Operand->Prop}{b:Prop}:onT (some (t,f)) a b=a t f:=(rfl)
theorem d7k{a:Tmp->Array Operand->Prop}{b:Prop}:onT none a b=b:=(rfl)
theorem d7l{o:Oper}:Nu P W Y l ops o p fr H k=onT (U5 o) (λx f=>Nt P W Y l ops o f p fr H k (U4 (fr.get x))) (Md P W ops o fr H (k p)):=by
 rfl
theorem d7m{f:Array Operand}:Nt P W Y l ops ⟨d,op,t,s,af,none⟩ f none fr H k (some l)=onL (Be fr.ev f.toList) λvs=>Y vs H λb h H'=>k h (fr.put d (.lit (.bool b))) H':=by simp[Nt]
theorem d7n{f:Type}{x:f}{K:f->Prop}:onL (some x) K=K x:=(rfl)
theorem d7o{l:Nat}:U4 (some (.lit (.func (.yield l) #[] #[])))=some l:=by rfl
theorem oneR_none:Md P W ops ⟨d,op,t,s,af,none⟩ fr H j=Mc W ⟨d,op,t,s,af,none⟩ fr j (opV P H fr.ev ⟨d,op,t,s,af,none⟩):=(rfl)
theorem d7p{o:Oper}{v:AV}:Mc W o fr j (.val v H)=Kj o.dst j fr v (Oy v) H:=(rfl)
theorem d7q{o:Oper}{f:FuncId}{args:List AV}:Mc W o fr j (.enter f args H)=W f args H (λr=>match r with
  | .ret v H=>Kj o.dst j fr v (Oy v) H
  | _=>False):=(rfl)
end
attribute [simp] d7h seqR_nil d7i d7l d7j d7k d7m d7n d7o oneR_none d7p d7q U5
theorem d7r:rdW K p (.norm fr H)=K true none H:=(rfl)
theorem d7s:rdW K p (.ret fr H)=K false (some none) H:=(rfl)
theorem d7t{k:Fr->Mem->Prop}:rd0 k p (.norm fr H)=k fr H:=(rfl)
theorem d7u{fn:Func}{K:Option J->Mem->Prop}:itQ P fn K p (.norm fr H)=G2 P noO fn (Pg (K p)) (.norm fr H):=(rfl)
theorem d7v{fn:Func}{K:Option J->Mem->Prop}:itQ P fn K p (.ret fr H)=G2 P noO fn (Pg (K p)) (.ret fr H):=(rfl)
theorem d7w{k:Mem->Prop}{v:AV}:Pg k (.ret v H)=k H:=(rfl)
theorem d7x{fn:Func}{K:Ay->Prop}:U7 P fn K p (.ret fr H)=G2 P noO fn K (.ret fr H):=(rfl)
theorem jumpW_none:Kw Q fr H none=Q none (.norm fr H):=(rfl)
theorem jumpW_ret:Kw Q fr H (some none)=Q none (.ret fr H):=(rfl)
theorem putPs_nil:putPs [] [] fr=fr:=by cases fr<;>rfl
theorem d7y{t:Tmp}{ts:List Tmp}{v:AV}{vs:List AV}:putPs (t::ts) (v::vs) fr=putPs ts vs (fr.upd t v):=(rfl)
theorem d7z{t:Tmp}{v:AV}:(Fr.f g ds).upd t v=.f (E9 g t v) ds:=(rfl)
theorem d8a:rdX G P W n plan c fr H Q=Bu P W YN RN (LXR G P n 0 YN RN) 0 [] plan c none fr H Q:=(rfl)
theorem d8b:itX G P W Y n l yr plan c fr H Q=Bu P W Y RN (LXR G P n l Y RN) l yr plan c none fr H Q:=(rfl)
theorem d8c:fnX G P W n plan c fr H Q=Bu P W YN (RG G P W n plan) (LXR G P n 0 YN (RG G P W n plan)) 0 [] plan c none fr H Q:=(rfl)
attribute [simp] d7r d7s d7t d7u d7v d7w d7x jumpW_none jumpW_ret putPs_nil d7y d7z d8a d8b d8c
theorem RG.enter{o:Operand}{asg body:Code}(f:FuncId)(U:List AV)(A:Func)(c:Code)(yr:List Nat)(Z:List (Nat×List It))
  (h0:(ps.toList.all (λt=>Nat.blt t n)&&(Aw n asg&&Aw n body&&(De P plan asg&&De P plan body)))=true) (a0:fr.ev o=some (.func (.func f) [] U)) (hf:P.funcs[f]?=some A) (hb:A.body=some c)
  (hh:Ao P f=true) (hd:(Aw A.ntmps c&&De P Z c)=true) (hl:U.length+1<=A.ntmps)
  (h:∀l,itX G P W (YB G P W n plan ps asg body fr) A.ntmps l yr Z c (Hf (.lit (.func (.yield l) #[] #[])::U)) H (itQ P A (λp H'=>Kw Q fr H' p))):RG G P W n plan o ps asg body fr H Q:=
 ⟨h0,f,U,A,c,yr,Z,a0,hf,hb,hh,hd,hl,h⟩
theorem YB.enter{asg body:Code}{vs:List AV}(f:vs.length=ps.size)
  (h:rdX G P W n plan asg (putPs ps.toList vs fr) H (rd0 λA U=>rdX G P W n plan body A U (rdW K))):YB G P W n plan ps asg body fr vs H K:=⟨f,h⟩
theorem LWR.mono{r:Option Nat}{Q f:Exit->Act->World->Prop}{a:Act}{w:World}(h:LWR r P c Q a w)(A:∀e a w,Q e a w->f e a w):LWR r P c f a w:=λb k cs U =>
 let ⟨e,Z,w',q,s⟩:=h b k cs U;⟨e,Z,w',A _ _ _ q,s⟩
theorem LXR.mono{f:QR}(h:LXR G P n l Y R b p fr H Q)(A:∀p o,Q p o->f p o):LXR G P n l Y R b p fr H f:=
 λB n0 r x I U Z hR ρ0 w0 ρ a w s=>(h B n0 r x I U Z hR ρ0 w0 ρ a w s).mono λ_ _ _ ⟨p,o,h1,h2⟩=>⟨p,o,A _ _ h1,h2⟩
end
section
open Go.Shelf Go.Sort
variable {α:Type}{g:Gb}{G:Nat}
def froz(R:Nat)(g:Gb):Gb:=λa=>if a=R then none else match g a with
 | some (.cells l _ z)=>some (.cells l false z)
 | _=>none
theorem a4d{R a:Nat}{x:Blk}(h:froz R g a=some x):a≠R/\∃l own z,g a=some (.cells l own z)/\x=.cells l false z:=by
 grind[froz]
theorem b3h{R a:Nat}{l:List AV}{own:Bool}{z:Nat}(f:a≠R)(h:g a=some (.cells l own z)):froz R g a=some (.cells l false z):=by
 simp_all[froz]
theorem b3i{W h:World}(hB:Below W.heap.size W h)(hd:W.drawn<=h.drawn):∃q Z,h=grow (W.drewN q) Z:=by
 refine⟨h.drawn-W.drawn,h.heap.extract W.heap.size h.heap.size,?_⟩;obtain⟨h1,h2,h3,h4,h5⟩:=hB
 cases h with
 | mk f a0 drawn os a1 =>
  cases W with
  | mk A a2 U Z a3 =>
   have e1:os=Z:=h1;have e2:a0=a2:=h2;have e3:a1=a3:=h3;have a4:A.size<=f.size:=h4;have a5:∀k,k<A.size->f[k]?=A[k]?:=h5;have e4:drawn=U+(drawn-U):=by grind
   have e5:f=A++f.extract A.size f.size:=by
    grind
   subst e1 e2 e3;show World.mk f a0 drawn os a1=World.mk (A++f.extract A.size f.size) a0 (U+(drawn-U)) os a1;grind
theorem U8{k:Nat}:∀(its:List (List AV)),(∀x∈its,x.length=k)->∀(i:Nat)(hi:i<its.length)(t:Nat),t<k->its.flatten[i*k+t]?=(its[i])[t]?
 | [],_,i,hi,_,_=>by grind
 | x::its,h,0,_,t,f=>by
  grind
 | x::its,h,i+1,hi,t,f=>by
  have hx:=h x (by simp);rw[e8k,Xm (by rw[hx,e6d];omega),hx,show (i+1)*k+t-k=i*k+t by rw[e6d];omega];simpa using U8 its (λy hy=>h y (by simp[hy])) i (by simpa using hi) t f
theorem U9{k:Nat}:∀(its:List (List AV)),(∀x∈its,x.length=k)->its.flatten.length=its.length*k
 | [],_=>by simp
 | x::its,h=>by
  rw[e8k,W1,h x (by simp),U9 its λy hy=>h y (by simp[hy]),Xi,e6d];omega
theorem Va[Inhabited α]{enc:α->List Value}{k:Nat}{w:World}{b off m j:Nat}{h:Array α}{f:Array Obj}(A:j<w.heap.size)(U:j≠b):(sortWorldK enc k w b off m h f).heap[j]?=w.heap[j]?:=by
 show ((w.heap.modify b _)++f)[j]?=_;grind
theorem d8d[Inhabited α]{enc:α->List Value}{k:Nat}{w:World}{b off m:Nat}{f:Array α}{h:Array Obj}{c:Array Value}{e:TypeId}{A:Nat×Nat}(U:w.heap[b]?=some (.cells c e A)):(sortWorldK enc k w b off m f h).heap[b]?=some (.cells (putCells id off (flatK enc k f) c) e A):=by
 have Z:=(e5y.1 U).1;show ((w.heap.modify b _)++h)[b]?=_;rw[Array.getElem?_append,if_pos (by grind),Array.getElem?_modify,if_pos rfl,U];rfl
theorem a4e[Inhabited α]{enc:α->List Value}{k:Nat}{w:World}{b off m:Nat}{h:Array α}{f:Array Obj}:(sortWorldK enc k w b off m h f).heap.size=w.heap.size+f.size:=by
 show ((w.heap.modify b _)++f).size=_;simp
theorem b3j{B:Nat}{ρ:Rn}{n:Nat}{w W:World}(s:Sim B G ρ ⟨.fn g,n⟩ w){R:Nat}{l:List AV}{z b o kk:Nat}(hg:g R=some (.cells l true z))(hr:ρ R=some (b,o,kk))(hW:∀j,j<w.heap.size->j≠b->W.heap[j]?=w.heap[j]?)(a3:w.heap.size<=W.heap.size):Sim W.heap.size G ρ ⟨.fn (froz R g),n⟩ W:=by
 refine⟨λa x hx=>?_,λa a' x x' A U Z o2 k2 f h2 a0 a1=>?_,λa ha=>s.fresh a ha,λa x ha hx=>?_,s.names,Wy _⟩
 .obtain⟨a0,l1,own,z1,f,rfl⟩:=a4d hx;rcases s.blk a _ f with h|⟨A,U,Z,h2,h3⟩
  .grind
  .refine .inr ⟨A,U,Z,h2,?_⟩;have hb:A≠b:=by
    rintro rfl;exact s.inj R a _ _ A o kk U Z hg f (Ne.symm a0) rfl hr h2
   have a2:=h3.lt;obtain⟨c,e,fz,e1,e2,_⟩:=h3;exact⟨c,e,fz,(hW _ a2 hb).trans e1,e2,λh=>by cases h⟩
 .obtain⟨_,l1,own,z1,_,rfl⟩:=a4d f;cases a1
 .obtain⟨_,l1,own,z1,f,_⟩:=a4d hx;exact s.glob a _ ha f
theorem allOne_mem:∀{l:List AV}{x:AV},allOne l=true->x∈l->oneC x=true
 | y::l,x,h,hx=>by
  have f:(match oneC y with|true=>allOne l|false=>false)=true:=h
  cases hy:oneC y with
  | false=>grind
  | true =>
   rw[hy] at f;rcases Xb.1 hx with rfl|hx
   .exact hy
   .exact allOne_mem f hx
theorem WC.sortK{P:Program}{R:Ren}(L:SlLaysF0.n6 P R)(k:Nat)(b0:0<k)(aE:∀w,(isAgg (R.t 24)).run P w=.ok true w)(zE:∀w,(Go.sizeOf (R.t 24)).run P w=.ok k w)(c:FuncId)(ec:∀args w,(callFunc c args).run P w=.ok (.enter c args) w)
  {its:List (List AV)} (h1:∀x∈its,x.length=k/\allOne x=true) (cf:Nat->Nat->Int) (hO:SWO (ltOf cf)) {g:Gb} {n Bn z:Nat} (hg:g Bn=some (.cells its.flatten true z)) {sv:AV} (c2:(∃cp,sv=.sl Bn 0 its.length cp)\/∃d,sv=.slq Bn 0 its.length d) (b1:0<its.length) (c6:its.length<1000000)
  (c7:∀(i j:Nat)(hi:i<its.length)(A:j<its.length),WC G P c [.agg its[i],.agg its[j]] ⟨.fn (froz Bn g),n⟩ λr=>∃g' n',r=.ret (.li (cf i j)) ⟨.fn g',n'⟩) :
  WC G P (R.f 6) [sv,.lit (.func (.func c) #[] #[])] ⟨.fn g,n⟩ λr=>∃is:List Nat,is.Perm (List.range its.length)/\(∀(i j:Nat)(_:i<j)(A:j<is.length),¬ cf is[j] (is[i]'(by omega))<0)/\r=.ret (.tup []) ⟨.fn (Ak g Bn (some (.cells (is.map λi=>its.getD i []).flatten true z))),n⟩:=by
 intro B ρ us w s v;obtain⟨u1,h6,e1,a4,u2,h7,e2,a5,e3⟩:=v;subst e3 e2;have c8:us=#[u1,u2]:=Array.toList_inj.1 (by simpa using e1);subst c8;have a5:u2=.func (.func c) #[] #[]:=a5;subst a5;obtain⟨b,o,kk,a6,hr,rfl⟩:∃b o kk a6,ρ Bn=some (b,o,kk)/\u1=.slice (some ⟨b,o,none⟩) its.length a6:=by
  rcases c2 with⟨cp,rfl⟩|⟨d,rfl⟩
  .obtain⟨b,o,kk,hr,_,e⟩:=a4;grind
  .obtain⟨b,o,kk,hr,_,e⟩:=a4;grind
 have c9:=s.at (H:=⟨.fn g,n⟩) hg hr;obtain⟨c0,e,fz,hb,hc,e0⟩:=c9;obtain⟨e5,e6,e7,h8⟩:=e0 rfl;have e8:=(e5y.1 hb).1;have e9:=U9 its λx hx=>(h1 x hx).1;have a2:∀(i:Nat)(hi:i<its.length)(t:Nat)(Z:t<k),∃u,c0[o+(i*k+t)]?=some u/\u.oneCell=true/\∀v,(its[i])[t]?=some v->VR ρ v u:=by
  intro i hi t Z;have h2:=h1 _ (W2 hi);have h3:=U8 its (λx hx=>(h1 x hx).1) i hi t Z;grind[a0k,allOne_mem]
 obtain⟨m,hm⟩:∃m,its.length=m:=⟨_,rfl⟩;rw[hm] at b1 c6 e9 |-;clear a4 e1
 haveI:Inhabited (Fin m):=⟨⟨0,b1⟩⟩
 let enc:Fin m->List Value:=λi=>(List.range k).map λt=>c0[o+(i.val*k+t)]!
 have g0:∀i:Fin m,(enc i).length=k:=λi=>by simp[enc]
 have b2:∀(i:Fin m)(t:Nat),t<k->((enc i)[t]!)=c0[o+(i.val*k+t)]!:=λi t Z=>by simp[enc,Z]
 have a7:∀{j:Nat}{u:Value},c0[j]?=some u->(c0[j]!)=u:=λ{j u} h=>by
  grind
 let d:Array (Fin m):=Array.ofFn λi=>i
 have a0:d.size=m:=by simp[d]
 have g1:∀i (hi:i<m),(d[i]!)=⟨i,hi⟩:=λi hi=>by simp[d,hi]
 have g2:∀x:Fin m,∀v∈enc x,v.oneCell'=true:=by
  intro x v hv;obtain⟨t,Z,rfl⟩:=Xc.1 hv;obtain⟨u,q1,q2,_⟩:=a2 x.val (by rw[hm];exact x.isLt) t (e6u.1 Z);rw[a7 q1,a0l];exact q2
 have hH:HoldsK enc k w b o d:=by
  intro j A;rw[size_flatK,a0] at A;have b3:j / k<m:=Nat.div_lt_of_lt_mul (by rw[e9f];exact A);have b4:j % k<k:=e6r _ b0;obtain⟨u,q1,_,_⟩:=a2 (j / k) (by rw[hm];exact b3) (j % k) b4;have a3:j / k*k+j % k=j:=by rw[e9f];exact Nat.div_add_mod j k
  rw[a3] at q1;rw[get_flatK _ _ _ _ (by rw[a0];exact A),g1 _ b3,b2 _ _ b4,a3,a7 q1];grind[a0m,Qn]
 let a8:Fin m->Fin m->Int:=λx y=>cf x.val y.val
 have g3:SWO (ltOf a8):=⟨λx=>hO.irrefl x.val,λx y z=>hO.trans x.val y.val z.val,λx y z=>hO.ntrans x.val y.val z.val⟩;have b5:∀x:Fin m,VRs ρ (its[x.val]'(by grind)) (enc x):=by
  intro x;refine Yn (by grind) λt v hv=>?_;grind
 have hC:CmpLays P c #[] enc k a8 b o d.size w:=by
  intro m2 os dk h9 x y;have g4:=b3j s hg hr (W:=sortWorldK enc k w b o m2 dk os) (λj A a9=>Va A a9) (by simp[a4e]);have i0:=c7 x.val y.val (by grind) (by grind) _ ρ #[.agg (enc x).toArray,.agg (enc y).toArray] _ g4 ⟨_,_,rfl,⟨_,rfl,by simpa using b5 x⟩,_,_,rfl,⟨_,rfl,by simpa using b5 y⟩,rfl⟩;refine Calls.mono (by assumption) ?_;rintro e w' ⟨r,⟨g',n',rfl⟩,b6⟩
  cases e with
  | returned u =>
   obtain⟨i1,q1,q2,q3,q4⟩:=b6;refine⟨?_,b3i q1.below q1.keeps.2⟩;have:u=_:=q3;rw[this]
  | _=>exact b6.elim
 have b7:=AnyQ.slices_SortFunc L k aE zE enc g0 g2 a8 g3 c #[] b o a6 d w ec hC hH e8 (by rw[a0];omega);rw[a0] at b7;refine b7.mono ?_;rintro e' w' ⟨rfl,U,n2,os,hp,g5,rfl⟩;have a1:U.size=m:=by rw[hp.1,a0]
 have g6:U.toList.Perm d.toList:=by
  have:=hp.2.2
  rwa [show U.extract 0 m=U from (congrArg (λz=>U.extract 0 z) a1.symm).trans e9d,show d.extract 0 m=d from (congrArg (λz=>d.extract 0 z) a0.symm).trans e9d] at this
 have g7:d.toList.map Fin.val=List.range m:=by
  apply e9b
  .simp[d]
  .intro i h2 h3;simp[d]
 have b8:(U.toList.map Fin.val).length=m:=by simp[a1]
 have b9:∀q (hq:q<m),(U.toList.map Fin.val)[q]'(by rw[b8];exact hq)=(U[q]!).val:=by
  intro q hq;simp[a1,hq]
 refine⟨_,⟨U.toList.map Fin.val,g7 ▸ g6.map _,λi j g8 A=>?_,rfl⟩,?_⟩
 .rw[b8] at A;rw[b9 j A,b9 i (by omega)];have:=g5 i j (W3 _) g8 A;grind[ltOf]
 .have i2:((U.toList.map Fin.val).map λi=>its.getD i []).flatten.length=m*k:=by
   rw[U9 (k:=k)]
   all_goals simp_all
  have g9:KD w (sortWorldK enc k w b o n2 U os):=⟨λj ob A ho=>by
   have h0:=(e5y.1 A).1;by_cases c1:j=b
   .subst c1;rw[hb] at A;cases A;cases ho
   .rw[Va h0 c1];exact A,e8s _ _⟩
  have h4:Below B w (sortWorldK enc k w b o n2 U os):=⟨rfl,rfl,rfl,by simp[a4e],λj A=>Va (Xg A s.base) (by omega)⟩;refine⟨ρ,⟨λ_ _=>rfl,g9,h4⟩,?_,⟨_,rfl,rfl⟩,Wy _⟩;refine Sim.set (H:=⟨.fn g,n⟩) s (x:=.cells its.flatten true z) (y:=.cells ((U.toList.map Fin.val).map λi=>its.getD i []).flatten true z) hg hr rfl rfl (by simp[a4e]) (λj a9 A=>Va A a9) ?_;refine⟨_,e,fz,d8d hb,λi v hv=>?_,λ_=>⟨e5,λj A=>e6 j (by grind[putCells]),by simpa[putCells] using e7,?_⟩⟩
  .have hi:i<m*k:=by
    grind
   have hq:i / k<m:=Nat.div_lt_of_lt_mul (by rw[e9f];exact hi);have Z:i % k<k:=e6r _ b0;have a3:i / k*k+i % k=i:=by rw[e9f];exact Nat.div_add_mod i k
   obtain⟨u0,p1,_,_⟩:=a2 (i / k) (by rw[hm];exact hq) (i % k) Z;rw[a3] at p1;obtain⟨u,q1,_,q3⟩:=a2 (U[i / k]!).val (by rw[hm];exact(U[i / k]!).isLt) (i % k) Z;refine⟨u,?_,q3 v ?_⟩
   .unfold putCells;rw[Array.getElem?_mapIdx,p1,e8l,if_pos ⟨by omega,by rw[size_flatK,a1];omega⟩,Nat.add_sub_cancel_left,get_flatK _ _ _ _ (by rw[a1];exact hi),b2 _ _ Z,a7 q1];rfl
   .have h5:=U8 (k:=k) ((U.toList.map Fin.val).map λi=>its.getD i []) (λx hx=>by
     obtain⟨i,hi,rfl⟩:=Xc.1 hx;obtain⟨q,_,rfl⟩:=Xc.1 hi;simp_all) (i / k) (by simp[a1];exact hq) (i % k) Z
    simp_all
  grind
theorem Vb[Inhabited α]{enc:α->Value}{w:World}{b off m j:Nat}{h:Array α}{f:Array Obj}(A:j<w.heap.size)(U:j≠b):(sortWorld enc w b off m h f).heap[j]?=w.heap[j]?:=by
 show ((w.heap.modify b _)++f)[j]?=_;grind
theorem d8e[Inhabited α]{enc:α->Value}{w:World}{b off m:Nat}{f:Array α}{h:Array Obj}{c:Array Value}{e:TypeId}{A:Nat×Nat}(U:w.heap[b]?=some (.cells c e A)):(sortWorld enc w b off m f h).heap[b]?=some (.cells (putCells enc off f c) e A):=by
 have Z:=(e5y.1 U).1;show ((w.heap.modify b _)++h)[b]?=_;rw[Array.getElem?_append,if_pos (by grind),Array.getElem?_modify,if_pos rfl,U];rfl
theorem a4f[Inhabited α]{enc:α->Value}{w:World}{b off m:Nat}{h:Array α}{f:Array Obj}:(sortWorld enc w b off m h f).heap.size=w.heap.size+f.size:=by
 show ((w.heap.modify b _)++f).size=_;simp
theorem WC.sort1{P:Program}{R:Ren}(L:SlLaysF.n6 P R)(c:FuncId)(ec:∀args w,(callFunc c args).run P w=.ok (.enter c args) w)
  {its:List AV} (h1:allOne its=true) (cf:Nat->Nat->Int) (hO:SWO (ltOf cf)) {g:Gb} {n Bn z:Nat} (hg:g Bn=some (.cells its true z)) {sv:AV} (b5:(∃cp,sv=.sl Bn 0 its.length cp)\/∃d,sv=.slq Bn 0 its.length d) (a7:0<its.length) (b6:its.length<1000000)
  (b7:∀(i j:Nat)(hi:i<its.length)(A:j<its.length),WC G P c [its[i],its[j]] ⟨.fn (froz Bn g),n⟩ λr=>∃g' n',r=.ret (.li (cf i j)) ⟨.fn g',n'⟩) :
  WC G P (R.f 6) [sv,.lit (.func (.func c) #[] #[])] ⟨.fn g,n⟩ λr=>∃is:List Nat,is.Perm (List.range its.length)/\(∀(i j:Nat)(_:i<j)(A:j<is.length),¬ cf is[j] (is[i]'(by omega))<0)/\r=.ret (.tup []) ⟨.fn (Ak g Bn (some (.cells (is.map λi=>its.getD i (.lit undef)) true z))),n⟩:=by
 intro B ρ us w s v;obtain⟨u1,g5,e1,a2,u2,g6,e2,a3,e3⟩:=v;subst e3 e2;have b8:us=#[u1,u2]:=Array.toList_inj.1 (by simpa using e1);subst b8;have a3:u2=.func (.func c) #[] #[]:=a3;subst a3;obtain⟨b,o,kk,a4,hr,rfl⟩:∃b o kk a4,ρ Bn=some (b,o,kk)/\u1=.slice (some ⟨b,o,none⟩) its.length a4:=by
  rcases b5 with⟨cp,rfl⟩|⟨d,rfl⟩
  .obtain⟨b,o,kk,hr,_,e⟩:=a2;grind
  .obtain⟨b,o,kk,hr,_,e⟩:=a2;grind
 have b9:=s.at (H:=⟨.fn g,n⟩) hg hr;obtain⟨c0,e,fz,hb,hc,c1⟩:=b9;obtain⟨c2,c6,c7,g7⟩:=c1 rfl;have c8:=(e5y.1 hb).1;have a8:∀(i:Nat)(hi:i<its.length),∃u,c0[o+i]?=some u/\u.oneCell=true/\VR ρ its[i] u:=by
  intro i hi;obtain⟨u,Z,q2⟩:=hc i _ (W5 hi);exact⟨u,Z,a0k q2 (allOne_mem h1 (W2 _)),q2⟩
 obtain⟨m,hm⟩:∃m,its.length=m:=⟨_,rfl⟩;rw[hm] at a7 b6 |-;clear a2 e1
 haveI:Inhabited (Fin m):=⟨⟨0,a7⟩⟩
 let enc:Fin m->Value:=λi=>c0[o+i.val]!
 have c9:∀{j:Nat}{u:Value},c0[j]?=some u->(c0[j]!)=u:=λ{j u} h=>by
  grind
 let d:Array (Fin m):=Array.ofFn λi=>i
 have a0:d.size=m:=by simp[d]
 have g8:∀i (hi:i<m),(d[i]!)=⟨i,hi⟩:=λi hi=>by simp[d,hi]
 have e0:OneCell enc:=by
  intro x;grind[a0l]
 have hH:Holds enc w b o d:=by
  intro j A;grind[a0m,Qn]
 let a1:Fin m->Fin m->Int:=λx y=>cf x.val y.val
 have e5:SWO (ltOf a1):=⟨λx=>hO.irrefl x.val,λx y z=>hO.trans x.val y.val z.val,λx y z=>hO.ntrans x.val y.val z.val⟩;have a9:∀x:Fin m,VR ρ (its[x.val]'(by grind)) (enc x):=by
  grind
 have hC:CmpLays1 P c #[] enc a1 b o d.size w:=by
  intro m2 os dk g9 x y;have e6:=b3j s hg hr (W:=sortWorld enc w b o m2 dk os) (λj A a5=>Vb A a5) (by simp[a4f]);have e7:=b7 x.val y.val (by rw[hm];exact x.isLt) (by rw[hm];exact y.isLt) _ ρ #[enc x,enc y] _ e6 ⟨_,_,rfl,a9 x,_,_,rfl,a9 y,rfl⟩;refine Calls.mono (by simpa using e7) ?_;rintro e w' ⟨r,⟨g',n',rfl⟩,b0⟩
  cases e with
  | returned u =>
   obtain⟨h0,Z,q2,q3,q4⟩:=b0;refine⟨?_,b3i Z.below Z.keeps.2⟩;have:u=_:=q3;rw[this]
  | _=>exact b0.elim
 have b1:=Any.slices_SortFunc L enc e0 a1 e5 c #[] b o a4 d w ec hC hH c8 (by rw[a0];omega);rw[a0] at b1;refine b1.mono ?_;rintro e' w' ⟨rfl,U,n2,os,hp,e8,rfl⟩;have a6:U.size=m:=by rw[hp.1,a0]
 have e9:U.toList.Perm d.toList:=by
  have:=hp.2.2
  rwa [show U.extract 0 m=U from (congrArg (λz=>U.extract 0 z) a6.symm).trans e9d,show d.extract 0 m=d from (congrArg (λz=>d.extract 0 z) a0.symm).trans e9d] at this
 have g0:d.toList.map Fin.val=List.range m:=by
  apply e9b
  .simp[d]
  .intro i h2 h3;simp[d]
 have b2:(U.toList.map Fin.val).length=m:=by simp[a6]
 have b3:∀q (hq:q<m),(U.toList.map Fin.val)[q]'(by rw[b2];exact hq)=(U[q]!).val:=by
  grind
 refine⟨_,⟨U.toList.map Fin.val,g0 ▸ e9.map _,λi j g1 A=>?_,rfl⟩,?_⟩
 .rw[b2] at A;rw[b3 j A,b3 i (by omega)];have:=e8 i j (W3 _) g1 A;unfold ltOf at this;simpa[a1] using this
 .have g2:KD w (sortWorld enc w b o n2 U os):=⟨λj ob A ho=>by
   have g3:=(e5y.1 A).1;by_cases b4:j=b
   .subst b4;rw[hb] at A;cases A;cases ho
   .rw[Vb g3 b4];exact A,e8s _ _⟩
  have g4:Below B w (sortWorld enc w b o n2 U os):=⟨rfl,rfl,rfl,by simp[a4f],λj A=>Vb (Xg A s.base) (by omega)⟩;refine⟨ρ,⟨λ_ _=>rfl,g2,g4⟩,?_,⟨_,rfl,rfl⟩,Wy _⟩;refine Sim.set (H:=⟨.fn g,n⟩) s (x:=.cells its true z) (y:=.cells ((U.toList.map Fin.val).map λi=>its.getD i (.lit undef)) true z) hg hr rfl rfl (by simp[a4f]) (λj a5 A=>Vb A a5) ?_;refine⟨_,e,fz,d8e hb,λi v hv=>?_,λ_=>⟨c2,λj A=>c6 j (by simpa[putCells] using A),by simpa[putCells] using c7,?_⟩⟩
  .have hi:i<m:=by
    grind
   obtain⟨u0,p1,_,_⟩:=a8 i (by rw[hm];exact hi);obtain⟨u,Z,_,q3⟩:=a8 (U[i]!).val (by rw[hm];exact(U[i]!).isLt);refine⟨u,?_,?_⟩
   .unfold putCells;rw[Array.getElem?_mapIdx,p1,e8l,if_pos ⟨by omega,by rw[a6];omega⟩,Nat.add_sub_cancel_left];exact congrArg some (c9 Z)
   simp_all
  grind
end
section
variable {B G:Nat}{P:Program}{ρ:Rn}{H:Mem}{w:World}
structure Cut where
 f:Nat
 n:Nat
 args:List AV
 base:List (Nat×List AV)
 v:AV
 news:List (Nat×Blk)
 n1:Nat
mutual
def inV(p:Nat->Bool):AV->Bool
 | .lit _=>true
 | .es=>true
 | .ptr a _=>p a
 | .sl a _ _ _=>p a
 | .slq a _ _ _=>p a
 | .map a=>p a
 | .func _ x y=>inL p x&&inL p y
 | .iface _ v=>inV p v
 | .agg l=>inL p l
 | .tup l=>inL p l
def inL (p:Nat->Bool):List AV->Bool
 | []=>true
 | v::l=>inV p v&&inL p l
end
def only(p:Nat->Bool)(ρ:Rn):Rn:=λa=>if p a=true then ρ a else none
theorem Me{p:Nat->Bool}{a:Nat}{ρ:Rn}(h:p a=true):only p ρ a=ρ a:=if_pos h
mutual
theorem R6{p:Nat->Bool}{ρ:Rn}:∀{v:AV}{u:Value},inV p v=true->VR ρ v u->VR (only p ρ) v u
 | .lit _,_,_,r=>r
 | .es,_,_,r=>r
 | .ptr a _,_,f,⟨b,o,k,e,r⟩=>⟨b,o,k,(Me (by simpa[inV] using f)).trans e,r⟩
 | .sl a _ _ _,_,f,⟨b,o,k,e,r⟩=>⟨b,o,k,(Me (by simpa[inV] using f)).trans e,r⟩
 | .slq a _ _ _,_,f,⟨b,o,k,e,r⟩=>⟨b,o,k,(Me (by simpa[inV] using f)).trans e,r⟩
 | .map a,_,f,⟨b,o,k,e,r⟩=>⟨b,o,k,(Me (by simpa[inV] using f)).trans e,r⟩
 | .func _ _ _,_,f,⟨h,A,e,r,q⟩=>by
  simp only[inV,W0] at f;exact⟨h,A,e,in_VRs f.1 r,in_VRs f.2 q⟩
 | .iface _ _,_,f,⟨u',e,r⟩=>⟨u',e,R6 (by simpa[inV] using f) r⟩
 | .agg _,_,f,⟨cs,e,r⟩=>⟨cs,e,in_VRs (by simpa[inV] using f) r⟩
 | .tup _,_,f,⟨cs,e,r⟩=>⟨cs,e,in_VRs (by simpa[inV] using f) r⟩
theorem in_VRs {p:Nat->Bool} {ρ:Rn}:∀{l:List AV}{us:List Value},inL p l=true->VRs ρ l us->VRs (only p ρ) l us
 | [],_,_,r=>r
 | _::_,_,f,⟨u,U,e,r,q⟩=>by
  simp only[inL,W0] at f;exact⟨u,U,e,R6 f.1 r,in_VRs f.2 q⟩
end
theorem a4g{p:Nat->Bool}:∀{l:List AV}{i:Nat}{v:AV},inL p l=true->l[i]?=some v->inV p v=true
 | [],i,v,_,h=>by grind
 | y::l,0,v,f,h=>by simp_all[inL]
 | y::l,i+1,v,f,h=>by simp only[inL,W0] at f;exact a4g f.2 (by simpa using h)
noncomputable def baseT:List (Nat×List AV)->T4 Blk->T4 Blk
 | [],t=>t
 | (a,l)::r,t=>P4 t a (.v a (.cells l false 0)) (baseT r)
noncomputable def Nv(c:Cut):Mem:=⟨.tr (baseT c.base e4),c.n⟩
noncomputable def R7(H:Mem):List (Nat×List AV)->Bool
 | []=>true
 | (a,l)::r=>match H.get a with
  | some (.cells l' _ _)=>match eqAVs l' l with|true=>R7 H r|false=>false
  | _=>false
noncomputable def Pj(n1:Nat):List (Nat×Blk)->Mem->Mem
 | [],H=>⟨H.t,n1⟩
 | (a,b)::r,H=>H.setK a b (Pj n1 r)
noncomputable def Mf(H:Mem)(n:Nat)(p:Nat->Bool):List (Nat×Blk)->Bool
 | []=>true
 | (a,.cells l true z)::r=>match H.get a with
  | some b=>eqBlk b (.cells l true z)&&(Nat.ble n a&&(inL p l&&Mf H n p r))
  | none=>false
 | _=>false
def Ei(n:Nat)(l:List (Nat×Blk))(a:Nat):Bool:=match Nat.blt a n with|true=>true|false=>Gp a (l.map (·.1))
noncomputable def Vc(c:Cut)(r:Ay):Bool:=match r with
 | .ret v H=>eqAV v c.v&&(Nat.beq H.next c.n1&&(inV (Ei c.n c.news) c.v&&Mf H c.n (Ei c.n c.news) c.news))
 | _=>false
noncomputable def Kx(c:Cut)(args:List AV)(H:Mem):Ay:=match eqAVs args c.args,R7 H c.base with
 | true,true=>.ret c.v (Pj c.n1 c.news H)
 | _,_=>.bad
noncomputable def R8(O:CallF)(l:List Cut):CallF:=
 List.rec (motive:=λ_=>CallF) O (λc _ ih f a H=>match Nat.beq f c.f with
  | true=>match Nat.beq H.next c.n with
   | true=>Kx c a H
   | false=>ih f a H
  | false=>ih f a H) l
theorem baseT_get:∀{l:List (Nat×List AV)} {t:T4 Blk} {a:Nat} {x:Blk},Ep (baseT l t) a=some x->(∃cs,(a,cs)∈l/\x=.cells cs false 0)\/Ep t a=some x
 | [],t,a,x,h=>.inr h
 | (b,cs)::r,t,a,x,h=>by
  unfold baseT at h;rw[Td] at h;rcases baseT_get h with⟨f,A,hx⟩|h
  .grind
  .rcases a0j _ _ _ _ _ h with⟨rfl,rfl⟩|⟨_,h⟩
   all_goals grind
theorem covers_spec:∀{l:List (Nat×List AV)},R7 H l=true->∀a cs,(a,cs)∈l->∃own z,H.get a=some (.cells cs own z)
 | (b,a0)::r,h,a,cs,f=>by
  unfold R7 at h;split at h
  .rename_i l' own z A;split at h
   .rename_i U;have Z:=eqAVs_sound _ _ U;subst Z;rcases Xb.1 f with e|f
    .cases e;exact⟨own,z,A⟩
    .exact covers_spec h a cs f
   .cases h
  .cases h
theorem Pk{f:Nat}:∀{l:List (Nat×Blk)} {H:Mem} {a:Nat} {x:Blk},(Pj f l H).get a=some x->(a,x)∈l\/(H.get a=some x/\∀y,(a,y) ∉ l)
 | [],H,a,x,h=>.inr ⟨h,λy hy=>by grind⟩
 | (b,y)::r,H,a,x,h=>by
  unfold Pj at h;rw[X8] at h;rcases Pk h with h|⟨h,A⟩
  .grind
  .rcases Yb h with⟨rfl,rfl⟩|⟨U,h⟩
   all_goals grind
theorem Vd{f:Nat}:∀{l:List (Nat×Blk)} {H:Mem},(Pj f l H).next=f
 | [],H=>rfl
 | (b,y)::r,H=>by unfold Pj;rw[X8];exact Vd
theorem R9{n:Nat}{p:Nat->Bool}:∀{l:List (Nat×Blk)},Mf H n p l=true->∀a x,(a,x)∈l->H.get a=some x/\n<=a/\∃cs z,x=.cells cs true z/\inL p cs=true
 | (b,y)::r,h,a,x,f=>by
  cases y with
  | cells cs own z =>
   cases own with
   | false=>grind[Mf]
   | true =>
    unfold Mf at h;split at h
    .rename_i b' A;simp only[W0] at h;obtain⟨U,Z,h3,h4⟩:=h;rcases Xb.1 f with e|f
     .cases e;exact⟨A.trans (congrArg some (a1a U)),Wz Z,cs,z,rfl,h3⟩
     .exact R9 h4 a x f
    grind
  | map _ _=>grind[Mf]
  | siter _ _=>grind[Mf]
  | typ _ _ _=>grind[Mf]
theorem BR.only{p:Nat->Bool}{cs:List AV}{own:Bool}{z b o k B': Nat}(h:BR B' ρ (.cells cs own z) b o k w)(hp:inL p cs=true)(U:B<=B'):BR B (only p ρ) (.cells cs own z) b o k w:=by
 obtain⟨c,e,Z,h1,h2,f⟩:=h;refine⟨c,e,Z,h1,λi v hi=>?_,λA=>⟨W6 U (f A).1,(f A).2⟩⟩;grind[a4g,R6]
theorem d8f{O:CallF}{c:Cut}(hO:∀B,A4 B G P O)(a0:Vc c (O c.f c.args (Nv c))=true)(args:List AV)(H:Mem)(a7:H.next=c.n)(h:Kx c args H≠.bad):WC G P c.f args H λr=>r=Kx c args H:=by
 unfold Kx at h |-;split at h
 .rename_i ha b6;have b7:=eqAVs_sound _ _ ha;subst b7
  cases hr:O c.f c.args (Nv c) with
  | ret v H1 =>
   rw[hr] at a0;simp only[Vc,W0] at a0;obtain⟨b1,a8,b8,a4⟩:=a0;have b1:=eqAV_sound _ _ b1;have a8:=Xd a8;intro B ρ us w s hv;have s2:Sim w.heap.size G ρ (Nv c) w:=by
    have U:∀a x,(Nv c).get a=some x->∃cs own z,x=.cells cs false 0/\H.get a=some (.cells cs own z):=by
     intro a x hx;rcases baseT_get (show Ep (baseT c.base e4) a=some x from hx) with⟨cs,U,rfl⟩|hx
     .obtain⟨own,z,hg⟩:=covers_spec b6 a cs U;grind
     grind[Te]
    refine⟨λa x hx=>?_,λa a' x x' b o k o' k' hx _ _ a5=>?_,λa ha=>s.fresh a (by rw[a7];exact ha),λa x a1 hx=>?_,by show G<=c.n;rw[<- a7];exact s.names,Wy _⟩
    .obtain⟨cs,own,z,rfl,hg⟩:=U a x hx;rcases s.blk a _ hg with hn|⟨b,o,k,h1,c',e,fz,Z,h3,_⟩
     .grind
     .exact .inr ⟨b,o,k,h1,c',e,fz,Z,h3,λh=>by cases h⟩
    .obtain⟨cs,own,z,rfl,hg⟩:=U a x hx;cases a5
    .obtain⟨cs,own,z,rfl,hg⟩:=U a x hx;exact s.glob a _ a1 hg
   refine(hO w.heap.size c.f c.args (Nv c) (by grind) ρ us w s2 hv).mono ?_;intro e w' hc;rw[hr] at hc;refine⟨_,rfl,?_⟩
   cases e with
   | returned u =>
    obtain⟨A,a3,a9,c2,b9⟩:=hc;have c6:c.n<=H1.next:=b9;have a6:∀a,a<c.n->only (Ei c.n c.news) A a=ρ a:=by
     intro a ha;rw[Me (by grind[Ei,Nat.ble_eq_true_of_le,Nat.blt])];exact a3.same a ha
    have c0:∀a x,(a,x)∈c.news->only (Ei c.n c.news) A a=A a:=by
     intro a x U;refine Me ?_;unfold Ei;split
     .rfl
     .exact Uy (Xc.2 ⟨_,U,rfl⟩)
    have c7:∀a y,only (Ei c.n c.news) A a=some y->a<c.n\/∃x,(a,x)∈c.news:=by
     intro a y hy;unfold only at hy;split at hy
     .rename_i hk;unfold Ei at hk;split at hk
      .simp_all
      .refine .inr ?_;have key:∀(l:List (Nat×Blk)),Gp a (l.map (·.1))=true->∃x,(a,x)∈l:=by
        intro l
        induction l with
        | nil=>intro h;cases h
        | cons q l ih =>
         grind[Gp,Nat.eq_of_beq_eq_true]
       grind
     grind
    have c1:VR A c.v u:=by grind
    refine⟨only (Ei c.n c.news) A,⟨λa ha=>a6 a (by grind),a3.keeps,a3.below.mono s.base⟩,?_,R6 b8 c1,by grind[Vd]⟩;have c8:∀a x,H.get a=some x->a<c.n->only (Ei c.n c.news) A a=none\/∃b o k,ρ a=some (b,o,k)/\only (Ei c.n c.news) A a=some (b,o,k)/\b<w.heap.size/\BR B (only (Ei c.n c.news) A) x b o k w':=by
     intro a x hx a1;rcases s.blk a x hx with hn|⟨b,o,k,h1,Z⟩
     .grind
     .refine .inr ⟨b,o,k,h1,(a6 a a1).trans h1,Z.lt,Z.mono (λa' y hy=>?_) (a3.below.block b Z.lt)⟩;rw[a6 a' (by rw[<- a7];exact s.lt_next hy)];grind
    have c9:∀a x,(a,x)∈c.news->only (Ei c.n c.news) A a=none\/∃b o k,A a=some (b,o,k)/\only (Ei c.n c.news) A a=some (b,o,k)/\w.heap.size<=b/\BR B (only (Ei c.n c.news) A) x b o k w':=by
     intro a x U;obtain⟨h1,Z,cs,z,rfl,h3⟩:=R9 a4 a x U;rcases a9.blk a _ h1 with hn|⟨b,o,k,h4,h5⟩
     .grind
     .exact .inr ⟨b,o,k,h4,(c0 a _ U).trans h4,h5.above rfl,h5.only h3 s.base⟩
    refine⟨λa x hx=>?_,λa a' x x' b o k o' k' hx a2 b2 a5 b3 b4=>?_,λa ha=>?_,λa x a1 hx=>?_,by rw[Vd,<- a8];exact W6 s.names (by grind),W6 s.base a3.below.size⟩
    .rcases Pk hx with U|⟨hx,e0⟩
     .grind
     .rcases e6y a c.n with a1|e1
      .grind
      .cases hy:only (Ei c.n c.news) A a with
       | none=>grind
       | some y =>
        grind
    .have old:∀a x y,H.get a=some x->(∀y,(a,y) ∉ c.news)->only (Ei c.n c.news) A a=some y->ρ a=some y/\y.1<w.heap.size:=by
      grind
     have new:∀a x y,(a,x)∈c.news->only (Ei c.n c.news) A a=some y->A a=some y/\w.heap.size<=y.1:=by
      grind
     rcases Pk hx with U|⟨hx,hn⟩
     .have h1:=new a x _ U b3;rcases Pk a2 with b0|⟨a2,b5⟩
      .have Z:=new a' x' _ b0 b4;exact a9.inj a a' x x' b o k o' k' (R9 a4 a x U).1 (R9 a4 a' x' b0).1 b2 a5 h1.1 Z.1
      grind
     .have h1:=old a x _ hx hn b3;rcases Pk a2 with b0|⟨a2,b5⟩
      .grind
      .have Z:=old a' x' _ a2 b5 b4;exact s.inj a a' x x' b o k o' k' hx a2 b2 a5 h1.1 Z.1
    .rw[Vd] at ha;unfold only;split
     .exact a9.fresh a (by grind)
     .rfl
    .rcases Pk hx with U|⟨hx,hn⟩
     .have h1:=(R9 a4 a x U).2.1;have Z:=s.names;omega
     .rw[a6 a (by have Z:=s.names;omega)];exact s.glob a x a1 hx
   | _=>assumption
  | panic v H1=>rw[hr] at a0;cases a0
  | bad=>rw[hr] at a0;cases a0
 grind
theorem b3k{O:CallF}(Z:∀B,A4 B G P O):∀{l:List Cut},(∀c∈l,∀args H,H.next=c.n->Kx c args H≠.bad->WC G P c.f args H λr=>r=Kx c args H)->∀B,A4 B G P (R8 O l)
 | [],_,B=>Z B
 | c::l,h,B=>by
  have ih:=b3k Z (l:=l) (λc' a0=>h c' (e6h _ a0));intro f args H A ρ us w s U
  have he:R8 O (c::l) f args H=match Nat.beq f c.f with
   | true=>match Nat.beq H.next c.n with
    | true=>Kx c args H
    | false=>R8 O l f args H
   | false=>R8 O l f args H:=rfl
  rw[he] at A |-;split at A
  .rename_i hf;split at A
   .rename_i hn;have a1:=Xd hf;subst a1;refine(h c (e8y ..) args H (Xd hn) A B ρ us w s U).mono ?_;grind
   .exact ih B f args H A ρ us w s U
  .exact ih B f args H A ρ us w s U
structure Gt where
 f:Nat
 args:List AV
 base:List (Nat×List AV)
 v:AV
noncomputable def Nw(G n:Nat)(c:Gt):Mem:=⟨.tr (baseT c.base e4),n⟩
def named(c:Gt)(a:Nat):Bool:=Gp a (c.base.map (·.1))
def Ve(n:Nat)(p:Nat->Bool):List (Nat×List AV)->Bool
 | []=>true
 | (a,l)::r=>Nat.blt a n&&(inL p l&&Ve n p r)
noncomputable def Vf(G n:Nat)(c:Gt)(r:Ay):Bool:=match r with
 | .ret v _=>eqAV v c.v&&(plainV c.v&&(inL (named c) c.args&&(Ve n (named c) c.base&&Nat.ble G n)))
 | _=>false
noncomputable def Mg(c:Gt)(args:List AV)(H:Mem):Ay:=match eqAVs args c.args with
 | true=>match R7 H c.base with
  | true=>.ret c.v H
  | false=>.bad
 | false=>.bad
noncomputable def Sa(O:CallF)(l:List Gt):CallF:=
 List.rec (motive:=λ_=>CallF) O (λc _ ih f a H=>match Nat.beq f c.f with
  | true=>orR (Mg c a H) (ih f a H)
  | false=>ih f a H) l
theorem a4h{n:Nat}{p:Nat->Bool}:∀{l:List (Nat×List AV)},Ve n p l=true->∀a cs,(a,cs)∈l->a<n/\inL p cs=true
 | (b,m)::r,h,a,cs,f=>by
  simp only[Ve,W0] at h;rcases Xb.1 f with e|f
  .simp_all
  .exact a4h h.2.2 a cs f
theorem b3l{a:Nat}:∀{l:List Nat},Gp a l=true->a∈l
 | b::l,h=>by
  unfold Gp at h;split at h
  .rename_i f;rw[Xd f];exact e8y ..
  .exact e6h _ (b3l h)
theorem d8g{O:CallF}{c:Gt}{n:Nat}(hO:∀B,A4 B G P O)(A:Vf G n c (O c.f c.args (Nw G n c))=true)(args:List AV)(H:Mem)(h:Mg c args H≠.bad):WC G P c.f args H λr=>r=Mg c args H:=by
 unfold Mg at h |-;split at h
 .rename_i ha;split at h
  .rename_i a3;have a1:=eqAVs_sound _ _ ha;subst a1
   cases hr:O c.f c.args (Nw G n c) with
   | ret v H1 =>
    rw[hr] at A;simp only[Vf,W0] at A;obtain⟨a0,a4,a5,a2,hG⟩:=A;have a0:=eqAV_sound _ _ a0;intro B ρ us w s hv;have U:∀a x,(Nw G n c).get a=some x->∃cs own z,x=.cells cs false 0/\H.get a=some (.cells cs own z)/\a<n/\inL (named c) cs=true/\named c a=true:=by
     intro a x hx;rcases baseT_get (show Ep (baseT c.base e4) a=some x from hx) with⟨cs,U,rfl⟩|hx
     .obtain⟨own,z,Z⟩:=covers_spec a3 a cs U;obtain⟨h1,h2⟩:=a4h a2 a cs U;exact⟨cs,own,z,rfl,Z,h1,h2,Uy (Xc.2 ⟨_,U,rfl⟩)⟩
     grind[Te]
    have s2:Sim w.heap.size G (only (named c) ρ) (Nw G n c) w:=by
     refine⟨λa x hx=>?_,λa a' x x' b o k o' k' hx _ _ a6=>?_,λa ha=>?_,λa x a7 hx=>?_,Wz hG,Wy _⟩
     .obtain⟨cs,own,z,rfl,Z,h1,h2,h3⟩:=U a x hx;rw[Me h3];rcases s.blk a _ Z with hn|⟨b,o,k,h4,c',e,fz,h5,h6,_⟩
      .grind
      .refine .inr ⟨b,o,k,h4,c',e,fz,h5,λi v hi=>?_,λh=>by cases h⟩;grind[a4g,R6]
     .obtain⟨cs,own,z,rfl,Z,_⟩:=U a x hx;cases a6
     .unfold only;split
      .rename_i hk;obtain⟨q,hq,e⟩:=Xc.1 (b3l hk);have:=(a4h a2 q.1 q.2 hq).1;have a1:n<=a:=ha;omega
      .rfl
     .obtain⟨cs,own,z,rfl,Z,h1,h2,h3⟩:=U a x hx;rw[Me h3];exact s.glob a _ a7 Z
    refine(hO w.heap.size c.f c.args (Nw G n c) (by grind) _ us w s2 (in_VRs a5 hv)).mono ?_;intro e w' hc;rw[hr] at hc;refine⟨_,rfl,?_⟩
    cases e with
    | returned x =>
     obtain⟨a9,h1,h2,h3,h4⟩:=hc;have hb:=h1.below;rw[a0] at h3;refine⟨ρ,⟨λ_ _=>rfl,h1.keeps,hb.mono s.base⟩,?_,Jo a4 h3,Wy _⟩;refine s.other hb.size λa x b o k ha a8=>?_;exact hb.block b (s.at ha a8).lt
    | panicked b0=>assumption
    | outgrown=>assumption
   | panic v H1=>rw[hr] at A;cases A
   | bad=>rw[hr] at A;cases A
  grind
 grind
/- Groups. -/
def D6(G:Nat)(P:Program)(l:List Cut):Prop:=∀c∈l,∀args H,H.next=c.n->Kx c args H≠.bad->WC G P c.f args H λr=>r=Kx c args H
def Gu(G:Nat)(P:Program)(l:List Gt):Prop:=∀c∈l,∀args H,Mg c args H≠.bad->WC G P c.f args H λr=>r=Mg c args H
theorem D6.nil:D6 G P []:=λc f=>by cases f
theorem Gu.nil:Gu G P []:=λc f=>by cases f
theorem D6.append{l m:List Cut}(h:D6 G P l)(k:D6 G P m):D6 G P (l++m):=λc f=>(W9.1 f).elim (h c) (k c)
theorem Gu.append{l m:List Gt}(h:Gu G P l)(k:Gu G P m):Gu G P (l++m):=λc f=>(W9.1 f).elim (h c) (k c)
noncomputable def Nx(O:CallF)(l:List Cut):Bool:=List.rec (motive:=λ_=>Bool) true (λc _ ih=>Vc c (O c.f c.args (Nv c))&&ih) l
noncomputable def a4i(G n:Nat)(O:CallF)(l:List Gt):Bool:=List.rec (motive:=λ_=>Bool) true (λc _ ih=>Vf G n c (O c.f c.args (Nw G n c))&&ih) l
theorem D6.run{O:CallF}(Z:∀B,A4 B G P O):∀{l:List Cut},Nx O l=true->D6 G P l
 | [],_=>.nil
 | c::l,h=>by
  have A:(Vc c (O c.f c.args (Nv c))&&Nx O l)=true:=h;rw[W0] at A;intro c' U;rcases Xb.1 U with rfl|U
  .exact d8f Z A.1
  .exact D6.run Z A.2 c' U
theorem Gu.run{n:Nat}{O:CallF}(Z:∀B,A4 B G P O):∀{l:List Gt},a4i G n O l=true->Gu G P l
 | [],_=>.nil
 | c::l,h=>by
  have A:(Vf G n c (O c.f c.args (Nw G n c))&&a4i G n O l)=true:=h;rw[W0] at A;intro c' U;rcases Xb.1 U with rfl|U
  .exact d8g Z A.1
  .exact Gu.run Z A.2 c' U
theorem b3m{O:CallF}(hO:∀B,A4 B G P O):∀{l:List Gt},Gu G P l->∀B,A4 B G P (Sa O l)
 | [],_,B=>hO B
 | c::l,h,B=>by
  have ih:=b3m hO (l:=l) (λc' a0=>h c' (e6h _ a0));intro f args H A ρ us w s Z
  have he:Sa O (c::l) f args H=match Nat.beq f c.f with
   | true=>orR (Mg c args H) (Sa O l f args H)
   | false=>Sa O l f args H:=rfl
  rw[he] at A |-;split at A
  .rename_i hf;have a1:=Xd hf;subst a1
   cases hs:Mg c args H with
   | bad=>rw[hs] at A;exact ih B c.f args H A ρ us w s Z
   | ret v H1 =>
    refine(h c (e8y ..) args H (by grind) B ρ us w s Z).mono ?_;rintro e w' ⟨r,rfl,U⟩;rw[hs] at U;exact U
   | panic v H1 =>
    refine(h c (e8y ..) args H (by grind) B ρ us w s Z).mono ?_;rintro e w' ⟨r,rfl,U⟩;rw[hs] at U;exact U
  .exact ih B f args H A ρ us w s Z
noncomputable def Mh(fs:List Gt)(cs:List Cut):CallF:=Sa (R8 (λ_ _ _=>.bad) cs) fs
theorem Ny{h:List Gt}{cs:List Cut}(A:Gu G P h)(U:D6 G P cs):∀B,A4 B G P (Mh h cs):=
 b3m (b3k (λB f args H Z=>absurd rfl Z) U) A
end
section
open Go.ChangeShapes Go.WideShapes Go.ChangeAt Go.RowKit
variable {H:Type}{enc:TypeId×Value→H}{P:Program}
theorem d8h{f:Func}{s:ChangeSpec}{a0 fresh a6 a7:Bool}{W U:World}{args:Array Value}{v:Value}{ds Z:List (DataW H)}{h pa pv:List MemPlace}
  (hW:DataW.Whole enc P f.params.toList s.vars a0 W args.toList ds Z h)
  (a1:∀(b:Nat)(A:Nat->Bool)(hd:Bool),DataW.TrodAll enc P U b A hd f.resultTypes.toList (v.resultList f.resultTypes.size) (s.fn H (ds++Z)).results [])
  (a2:∀A:Nat->Bool,(∀p∈h,A p.block=true)->DataW.TrodAll enc P U 0 A true f.params.toList args.toList (s.fn H (ds++Z)).args pa)
  (a3:∀A:Nat->Bool,(∀p∈h,A p.block=true)->DataW.TrodVars enc P U A s.vars (s.fn H (ds++Z)).vars pv)
  (b0:h=pa++pv) (hB:Below W.heap.size W U)
  (a8:∀(j:Nat)(t:TypeId)(r:Value),f.resultTypes[j]?=some t->(v.resultList f.resultTypes.size)[j]?=some r->Value.okWide P U .any 0 t r) :
  s.post enc P f a0 fresh a6 a7 W args v U:=by
 have a9:∀p∈h,p.block<W.heap.size:=λp hp=>hW.lt p hp;have a4:∀p∈h,(λb=>decide (b<W.heap.size)) p.block=true:=λp hp=>by grind
 refine⟨ds,Z,h,[],pa,pv,hW,a1 _ _ _,a2 _ a4,a3 _ a4,World.keptBut_mono (λp hp=>⟨hp,?_⟩) (hB.frame (·∈h)),λ_=>?_⟩
 .grind
 .obtain⟨_,_,_,_,_,hz,hn⟩:=hW;refine⟨a8,_,_,([]++pa)++pv,⟨[]++pa,pv,trodAll_append (a2 _ (λ_ _=>rfl)) (a1 _ _ _),a3 _ (λ_ _=>rfl),rfl,?_,?_⟩,?_⟩
  .intro b off hp;have a5:MemPlace.cell b off∈h:=by grind
   rw[hB.frozen (p:=⟨b,off,none⟩) (a9 _ a5)];exact hz b off a5
  all_goals grind
end
section
variable {P:Program}{H:Mem}{ev:Ev}{d:Option Tmp}{ty:TypeId}{p:String}{af:Array Edge}{g:Option (Nat×Bool)}
theorem b3n{x:AV×AV}:∀{es:List (AV×AV×Nat)} {i b:Nat},es[i]?=some (x.1,x.2,b)->Of x es i=es
 | [],i,b,h=>by rfl
 | (k,v,c)::r,0,b,h=>by
  have h:some (k,v,c)=some (x.1,x.2,b):=h;cases h;rfl
 | e::r,i+1,b,h=>by
  show e::Of x r i=e::r;rw[b3n (b:=b) (by simpa using h)]
theorem d8i{t A et:TypeId}{a:Nat}{s:ByteArray}{l:List (ByteArray×Nat)}{c:Nat}(ht:P.underlying t=some (.map A et))(Z:P.underlying A=some .string)(hg:H.get a=some (.map (B2 l) c))(U:Ey s l=true):
  mapUpdate P H t (.map a) (.lit (.string s)) (.lit (.bool true))=some (H.upd a (.map (B2 l) c)):=by
 unfold mapUpdate;rw[ht];dsimp only[toLit];rw[hg];dsimp only;rw[Q7 (n:=9999) Z];have e:K7 P A (.string s) (B2 l)=some (Ex s (l.map λx=>(x.1,AV.lit (.bool true),x.2)) 0):=Q6 Z s _;rw[e];have f:=Uk s (l.map λx=>(x.1,AV.lit (.bool true),x.2)) 0
 cases a0:Ex s (l.map λx=>(x.1,AV.lit (.bool true),x.2)) 0 with
 | none =>
  exfalso;rw[a0] at f;unfold Ey at U;rw[e9i] at U;obtain⟨x,hx,h⟩:=U;exact f (x.1,.lit (.bool true),x.2) (Xc.2 ⟨x,hx,rfl⟩) (by grind)
 | some j =>
  rw[a0] at f;obtain⟨_,x,hx,a1⟩:=f;rw[Nat.sub_zero,e6j] at hx;obtain⟨y,hy,rfl⟩:=Xq.1 hx;have a1:y.1=s:=a1;have a2:(B2 l)[j]?=some (.lit (.string s),.lit (.bool true),y.2):=by
   grind[Hl,B2]
  unfold P7;dsimp only;rw[Le,a2];dsimp only;have hb:Instr.sameBits 10000 (.string s) (.string s)=true:=by
   simp[ba_lawful,Instr.sameBits]
  simp_all[b3n,X8]
theorem d8j{t:TypeId}{m k x:Operand}{a:Nat}{s:ByteArray}{l:List (ByteArray×Nat)}{c:Nat}{f:ev m=some (.map a)}{A:ev k=some (.lit (.string s))}{hx:ev x=some (.lit (.bool true))}
  {U:H.get a=some (.map (B2 l) c)} (h:O0 P t=true) (Z:Ey s l=true) :
  O3 P H ev ⟨d,.mapUpdate t m k x,ty,p,af,g⟩ m k x a (.lit (.string s)) (.lit (.bool true)) (some (.map (B2 l) c)) f A hx U=.skip (H.upd a (.map (B2 l) c)):=by
 show Ft P H t (ev m) (ev k) (ev x)=_;grind[a2j,Ft,d8i]
attribute [simp] d8j
end
section
variable {P:Program}{H:Mem}{ev:Ev}{d:Option Tmp}{ty:TypeId}{p:String}{af:Array Edge}{g:Option (Nat×Bool)}
noncomputable def clI(P:Program)(t:TypeId):Option AV:=match Fp P t with
 | some (e,_,_)=>(match Br P e with|some [v]=>some v|_=>none)
 | none=>none
noncomputable def clR(q:Option AV)(n off a:Nat)(ga:Option Blk)(H:Mem)(els:R):R:=match q,ga with
 | some v,some (.cells r true z)=>if 0<n/\off+n<=r.length/\allOne [v]=true then .val (.lit (.tuple #[])) (H.upd a (.cells (Am r off (rep [v] n)) true z)) else els
 | _,_=>els
theorem d8k{x:Operand}{t:TypeId}:opV P H ev ⟨d,.call ⟨.builtin .clear,#[x],#[t]⟩,ty,p,af,g⟩=ex1 P H ev ⟨d,.call ⟨.builtin .clear,#[x],#[t]⟩,ty,p,af,g⟩ x (ev x) rfl:=(rfl)
theorem d8l{v:AV}(h:allOne [v]=true)(n:Nat):allOne (rep [v] n)=true:=by
 induction n with
 | zero=>rfl
 | succ n f=>simp_all
theorem d8m{x:Operand}{t:TypeId}{a off n c:Nat}{hx:ev x=some (.slq a off n c)}:
  ex1 P H ev ⟨d,.call ⟨.builtin .clear,#[x],#[t]⟩,ty,p,af,g⟩ x (some (.slq a off n c)) hx=clR (clI P t) n off a (H.get a) H (opV P H ev ⟨d,.call ⟨.builtin .clear,#[x],#[t]⟩,ty,p,af,g⟩):=by
 unfold clR;split
 .rename_i v r z f A;split
  .rename_i h;obtain⟨h4,h5,U⟩:=h;show Bj P H ev _ ⟨.builtin .clear,#[x],#[t]⟩=_;unfold Bj;have Z:Be ev (#[x]:Array Operand).toList=some [.slq a off n c]:=by
    simp_all
   rw[Z];dsimp only;unfold E7;dsimp only;unfold Ta;have e2:(#[t]:Array TypeId)[0]?=some t:=rfl;rw[e2];dsimp only;unfold clI at f;split at f
   .rename_i e sz a0 he;rw[he];dsimp only;split at f
    .rename_i v' hz;cases f;unfold S9;rw[hz];obtain⟨m,rfl⟩:∃m,n=m+1:=⟨n-1,by omega⟩;dsimp only;rw[A];dsimp only;unfold J7;rw[d8l U];dsimp only;rw[Lh,if_pos (by grind[Fj]),X8];rfl
    grind
   grind
  .rfl
 .rfl
theorem d8n{Z:Nat}(a0:tick=Z){q f:Option AV}{n off a:Nat}{h A:Option Blk}{H:Mem}{U:R}(h1:q=f)(h2:h=A):clR q n off a h H U=clR f n off a A H U:=by grind
attribute [congr] d8n
theorem d8o{v:AV}{r:List AV}{z n off a m:Nat}{G:Gb}{f:R}(h:0<n)(A:off+n<=r.length)(U:allOne [v]=true):
  clR (some v) n off a (some (.cells r true z)) ⟨.fn G,m⟩ f=.val (.lit (.tuple #[])) ⟨.fn (Ak G a (some (.cells (Am r off (rep [v] n)) true z))),m⟩:=if_pos ⟨h,A,U⟩
attribute [simp] d8k d8m d8o
end
section
variable {P:Program}{H:Mem}{ev:Ev}{d:Option Tmp}{ty:TypeId}{p:String}{af:Array Edge}{g:Option (Nat×Bool)}
def D7(l:List (ByteArray×Int×Nat)):List (AV×AV×Nat):=Hl (l.map λx=>(x.1,.li x.2.1,x.2.2))
def Dt(s:ByteArray):List (ByteArray×Int×Nat)->Option Int
 | []=>none
 | x::l=>if s=x.1 then some x.2.1 else Dt s l
theorem b3o {s t:ByteArray} {v:Int} {c:Nat} : ∀ {l:List (ByteArray×Int×Nat)},Dt s (l++[(t,v,c)])=(Dt s l).or (if s=t then some v else none)
 | []=>by rfl
 | x :: l=>by
  (simp_all [b3o,Dt]; grind)
theorem a4j(s:ByteArray):∀(l:List (ByteArray×Int×Nat)) (i:Nat),match Ex s (l.map λx=>(x.1,(AV.li x.2.1),x.2.2)) i with|none=>Dt s l=none|some j=>i<=j/\∃x,l[j-i]?=some x/\x.1=s/\Dt s l=some x.2.1
 | [],i=>rfl
 | x::l,i=>by
  rw[e6o];unfold Ex Dt;dsimp only;by_cases h:s=x.1
  .grind
  .rw[if_neg h,if_neg h];have f:=a4j s l (i+1)
   cases hk:Ex s (l.map λx=>(x.1,(AV.li x.2.1),x.2.2)) (i+1) with
   | none=>rw[hk] at f;exact f
   | some j =>
    rw[hk] at f;obtain⟨Z,y,A,U⟩:=f;refine⟨by omega,y,?_,U⟩;rw[show j-i=(j-(i+1))+1 by omega];simpa using A
def Pl(P:Program)(t:TypeId):Bool:=match P.underlying t with
 | some (.map kt et)=>(match P.underlying kt with|some .string=>true|_=>false)&&(match P.info? et with|some i=>(match i.zero with|some (.int .i64 0)=>true|_=>false)|none=>false)
 | _=>false
theorem a4k {t:TypeId} (h:Pl P t=true) : ∃ kt et,P.underlying t=some (.map kt et)∧P.underlying kt=some .string∧K8 P et=some (.int .i64 0):=by
 grind [K8,Pl]
theorem b3p {t kt et:TypeId} {a:Nat} {s:ByteArray} {l:List (ByteArray×Int×Nat)} {c:Nat} {ok:Bool} (ht:P.underlying t=some (.map kt et)) (hk:P.underlying kt=some .string) (hz:K8 P et=some (.int .i64 0)) (hg:H.get a=some (.map (D7 l) c)) :
  lookup P H t (.map a) (.lit (.string s)) ok=some (Ww ok (.li ((Dt s l).getD 0)) (Dt s l).isSome):=by
 unfold lookup;rw [ht];dsimp only [toLit];rw [hg];dsimp only;rw [Q7 (n:=9999) hk];unfold D7;rw [Q6 hk];dsimp only;have hs:=a4j s l 0
 (simp_all [Hl,P6]; grind)
theorem d8p {t kt et:TypeId} {a:Nat} {s:ByteArray} {v:Int} {l:List (ByteArray×Int×Nat)} {c:Nat} (ht:P.underlying t=some (.map kt et)) (hk:P.underlying kt=some .string) (hg:H.get a=some (.map (D7 l) c)) (hn:Dt s l=none) :
  mapUpdate P H t (.map a) (.lit (.string s)) (.li v)=some (H.upd a (.map (D7 (l++[(s,v,c)])) (c+1))):=by
 unfold mapUpdate;rw [ht];dsimp only [toLit];rw [hg];dsimp only;rw [Q7 (n:=9999) hk];grind [Q6,D7,a4j,Hl,Mem.setK_eq,P7]
theorem d8q {t:TypeId} {m k:Operand} {a:Nat} {s:ByteArray} {l:List (ByteArray×Int×Nat)} {c:Nat} {hm:ev m=some (.map a)} {hk:ev k=some (.lit (.string s))} {hg:H.get a=some (.map (D7 l) c)} (h:Pl P t=true) :
  O1 P H ev ⟨d,.lookup t m k true,ty,p,af,g⟩ m k a (.lit (.string s)) (some (.map (D7 l) c)) hm hk hg=.val (.tup [.li ((Dt s l).getD 0),.lit (.bool (Dt s l).isSome)]) H:=by
 show E8 P H ev _ t (ev m) (ev k) true=_;obtain ⟨kt,et,h1,h2,h3⟩:=a4k h;unfold E8 Qa;rw [Jm (x:=m) (by simp [Op.operands]) (fun v' h=>by rw [hm] at h; cases h; rfl),hm,hk];dsimp only;rw [b3p h1 h2 h3 hg]; rfl
theorem d8r {t:TypeId} {m k:Operand} {a:Nat} {s:ByteArray} {l:List (ByteArray×Int×Nat)} {c:Nat} {hm:ev m=some (.map a)} {hk:ev k=some (.lit (.string s))} {hg:H.get a=some (.map (D7 l) c)} (h:Pl P t=true) :
  O1 P H ev ⟨d,.lookup t m k false,ty,p,af,g⟩ m k a (.lit (.string s)) (some (.map (D7 l) c)) hm hk hg=.val (.li ((Dt s l).getD 0)) H:=by
 show E8 P H ev _ t (ev m) (ev k) false=_;obtain ⟨kt,et,h1,h2,h3⟩:=a4k h;unfold E8 Qa;rw [Jm (x:=m) (by simp [Op.operands]) (fun v' h=>by rw [hm] at h; cases h; rfl),hm,hk];dsimp only;rw [b3p h1 h2 h3 hg]; rfl
theorem d8s {t:TypeId} {m k x:Operand} {a:Nat} {s:ByteArray} {v:Int} {l:List (ByteArray×Int×Nat)} {c:Nat} {hm:ev m=some (.map a)} {hk:ev k=some (.lit (.string s))} {hx:ev x=some (.li v)}
  {hg:H.get a=some (.map (D7 l) c)} (h:Pl P t=true) (hn:Dt s l=none) :
  O3 P H ev ⟨d,.mapUpdate t m k x,ty,p,af,g⟩ m k x a (.lit (.string s)) (.li v) (some (.map (D7 l) c)) hm hk hx hg=.skip (H.upd a (.map (D7 (l++[(s,v,c)])) (c+1))):=by
 show Ft P H t (ev m) (ev k) (ev x)=_;grind [a4k,Ft,d8p]
noncomputable def Sb(t:Option TypeDesc)(H:Mem)(v:Option AV):R:=match t,v with
 | some (.map _ _),some (.lit (.int _ _))=>.val (.map H.next) (H.add (.map (D7 []) 0))
 | _,_=>.bad
theorem d8t {t:TypeId} {x:Operand} : opV P H ev ⟨d,.makeMap t (some x),ty,p,af,g⟩=Sb (P.underlying t) H (ev x):=by
 show Gf P H ev t (some x)=_;unfold Gf Sb;dsimp only;split
 ·rename_i h1 h2;rw [h1,h2,Mem.newK_eq]; rfl
 grind
theorem d8u{A:Nat}(U:tick=A){t f:Option TypeDesc}{H:Mem}{v h:Option AV}(Z:t=f)(h2:v=h):Sb t H v=Sb f H h:=by grind
attribute [congr] d8u
theorem d8v {kt et:TypeId} {k:IntKind} {i:Int} : Sb (some (.map kt et)) H (some (.lit (.int k i)))=.val (.map H.next) (H.add (.map (D7 []) 0)):=(rfl)
noncomputable def Sc(t:Option TypeDesc)(ga:Option Blk)(H:Mem)(els:R):R:=match t,ga with
 | some (.map _ _),some (.map es _)=>.val (.li es.length) H
 | _,_=>els
theorem d8w {o:Oper} {x:Operand} {t kt et:TypeId} {a:Nat} : Jk P H ev o ⟨.builtin .len,#[x],#[t]⟩ (some (.map kt et)) (some [.map a])=Sc (P.underlying t) (H.get a) H (Jk P H ev o ⟨.builtin .len,#[x],#[t]⟩ (some (.map kt et)) (some [.map a])):=by
 unfold Sc;split
 ·rename_i h1 h2;show H9 P H ev o _ [.map a]=_;unfold H9 G9;have e:((⟨.builtin .len,#[x],#[t]⟩ : Call).argTypes[0]?).bind P.underlying=P.underlying t:=(rfl);rw [e,h1];dsimp only;rw [h2];rfl
 ·rfl
theorem d8x{Z:Nat}(a0:tick=Z){t f:Option TypeDesc}{h A:Option Blk}{H:Mem}{U:R}(h1:t=f)(h2:h=A):Sc t h H U=Sc f A H U:=by grind
attribute [congr] d8x
theorem d8y {kt et:TypeId} {es:List (AV×AV×Nat)} {c:Nat} {els:R} : Sc (some (.map kt et)) (some (.map es c)) H els=.val (.li es.length) H:=(rfl)
theorem d8z {l:List (ByteArray×Int×Nat)} : (D7 l).length=l.length:=by grind [Hl,D7]
attribute [simp] d8q d8r d8s d8t d8v d8w d8y d8z
end
end Go.Ai
